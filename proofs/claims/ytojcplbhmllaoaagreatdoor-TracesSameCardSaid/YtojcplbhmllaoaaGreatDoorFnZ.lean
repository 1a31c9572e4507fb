/-
  definitions.
-/
import Derived.Test.YtojcplbhmllaoaaGreatDoorIsoP7
set_option linter.defProp false
set_option linter.unusedSimpArgs false
set_option linter.unusedVariables false
namespace Go.Iso.Gen
open Go.Iso
structure Id where
 y:Int
 n:Int
 deriving DecidableEq,Inhabited
instance:Cell Id where
 z:=2
 cs a:=[.int .u8 a.y,.int .i64 a.n]
 len _:=rfl
 one _:=rfl
 pos:=by omega
def cK(a:Id):Cell.cs a=[.int .u8 a.y,.int .i64 a.n]:=rfl
def fB:Cell.z Id=2:=rfl
def aq(bed at_:Int):Int:=if (bed=0\/bed=1)/\1<=at_/\at_<=40 then 0 else 1
def oN(fs bs:List (List Id))(bed at_:Int):List Id:=if aq bed at_=0 then((if bed=1 then bs else fs)[(at_ - 1).toNat]?).getD [] else[]
def bv(f b:SV):IV:=.agg [f.iv,b.iv]
structure Hd where
 id:Id
 bed:Int
 at_:Int
 spot:Int
 k:Nat
 deriving Inhabited
instance:Cell Hd where
 z:=5
 cs h:=[.int .u8 h.id.y,.int .i64 h.id.n,.int .u8 h.bed,.int .i64 h.at_,.int .i64 h.spot]
 len _:=rfl
 one _:=rfl
 pos:=by omega
def E3(h:Hd):Cell.cs h=[.int .u8 h.id.y,.int .i64 h.id.n,.int .u8 h.bed,.int .i64 h.at_,.int .i64 h.spot]:=rfl
def lR:Cell.z Hd=5:=rfl
def dv(a b:Int):Int:=if a<b then -1 else if a>b then 1 else 0
def cF(r:Int):Bool:=decide (r>= -4)&&decide (r<=4)
def aw(bed at_ r:Int):Int:=if aq bed at_=0/\cF r=true then(if bed=0 then 4*at_+2 else 4*(at_+r)) else 0
def bA(bed at_ spot:Int)(k0:Nat)(st:List Id):List Hd:=st.mapIdx λj a=>⟨a,bed,at_,spot,k0+j⟩
def nB(i:Nat):Int:=((i%80 / 40:Nat):Int)
def nA(i:Nat):Int:=((1+i%40:Nat):Int)
def KK(fs bs:List (List Id))(r spot:Int)(i:Nat):List Hd:=if aw (nB i) (nA i) r=spot then bA (nB i) (nA i) spot (8*i) (oN fs bs (nB i) (nA i)) else[]
def Wo(fs bs:List (List Id))(r spot:Int):List Hd:=(List.range 80).flatMap (KK fs bs r spot)
def aZ(fs bs:List (List Id))(r:Int):List Hd:=(List.range 95).flatMap λ(s:Nat)=>Wo fs bs r (-12+2*(s:Int))
def pZ(a b:Id):Int:=if dv a.y b.y≠0 then dv a.y b.y else dv a.n b.n
structure Crs where
 a:Id
 b:Id
 n:Int
 deriving Inhabited,DecidableEq
instance:Cell Crs where
 z:=5
 cs c:=[.int .u8 c.a.y,.int .i64 c.a.n,.int .u8 c.b.y,.int .i64 c.b.n,.int .i64 c.n]
 len _:=rfl
 one _:=rfl
 pos:=by omega
def xV(c:Crs):Cell.cs c=[.int .u8 c.a.y,.int .i64 c.a.n,.int .u8 c.b.y,.int .i64 c.b.n,.int .i64 c.n]:=rfl
def uJ:Cell.z Crs=5:=rfl
def C1(x y:Crs):Int:=if pZ x.a y.a≠0 then pZ x.a y.a else pZ x.b y.b
def ids:List IV->List Id|.int _ y::.int _ n::r=>⟨y,n⟩::ids r|_=>[]
def Eb(H:Heap):IV->List Id|.slice b o n _ _=>ids ((H.read b o (n*2)).getD [])|_=>[]
def Bq(H:Heap):IV->List (List Id)|.slice b o n _ _=>((H.read b o (n*1)).getD []).map (Eb H)|_=>[]
def Jc:List (IV×IV×Nat)->List Crs|(.agg [.int _ a,.int _ b,.int _ c,.int _ d],.int _ n,_)::r=>⟨⟨a,b⟩,⟨c,d⟩,n⟩::Jc r|_=>[]
def SD(H:Heap):IV->Nat×List IV|.slice b _ n _ _=>(n,match H.get b with|some (.cells _ _ _ cs)=>cs|_=>[])|_=>(0,[])
def fe(x y:Crs):Bool:=decide (C1 x y<=0)
def ip(x y:Id):Bool:=decide (pZ x y<=0)
def P2:List IObj->Heap->Heap|[],H=>H|o::l,H=>P2 l (H.new o)
def Ta:∀(l:List IObj)(H:Heap),(P2 l H).n=H.n+l.length|[],H=>rfl|o::l,H=>by rw[P2,Ta l,ac,bR];omega
def qH:∀(l:List IObj)(H:Heap)(b:Nat),(P2 l H).get b=if H.n<=b/\b<H.n+l.length then l[b - H.n]? else H.get b|[],H,b=>by rw[if_neg (by simp only[cT];omega)];rfl|o::l,H,b=>by rw[P2,qH l,ac,aj,bR];by_cases h:H.n=b;{subst h;rw[iN,if_pos rfl,iP,pc];rfl};{rw[if_neg h];by_cases E:H.n+1<=b/\b<H.n+1+l.length;{rw[if_pos E,iP,show b - H.n=(b - (H.n+1))+1 by omega];rfl};{rw[if_neg E,iN]}}
def ZN(H:Heap)(tb I F:Nat)(E:List (Nat×List IV))(cr:List Crs)(J fa:List Id):Heap:=P2 (E.map (λp=>.cells false 98 4 p.2)++[.cells false 112 5 (aB cr),.cells false 101 2 (aB J),.cells false 101 2 (aB fa)]) ((H.put tb (.cells false F 1 (E.mapIdx λi p=>.slice (H.n+i) 0 p.1 p.1 true))).put I .dead)
def ZP(args:List IV)(H:Heap):Option (IV×Heap):=match args with|[.ptr mb 0]=>(match H.get mb with|some (.cells _ _ _ [.int .i64 r,f,b,y,.slice tb 0 6 6 true,.map cb,.slice E o J I O])=>(match H.get tb,H.get cb with|some (.cells _ Q _ rows),some (.map F _)=>some (.agg [.int .i64 r,f,b,y,.slice tb 0 6 6 true,.slice (H.n+6) 0 (Jc F).length (Jc F).length true,.slice (H.n+7) 0 (aZ (Bq H f) (Bq H b) r).length (aZ (Bq H f) (Bq H b) r).length true,.slice (H.n+8) 0 (Eb H (.slice E o J I O)).length (Eb H (.slice E o J I O)).length true],ZN H tb E Q (rows.map (SD H)) ((Jc F).mergeSort fe) ((aZ (Bq H f) (Bq H b) r).map (·.id)) ((Eb H (.slice E o J I O)).mergeSort ip))|_,_=>none)|_=>none)|_=>none
end Go.Iso.Gen
