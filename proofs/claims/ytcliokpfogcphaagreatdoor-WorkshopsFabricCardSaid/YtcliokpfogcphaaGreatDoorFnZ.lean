/-
  definitions.
-/
import Derived.Test.YtcliokpfogcphaaGreatDoorIsoP7
set_option linter.defProp false
set_option linter.unusedSimpArgs false
set_option linter.unusedVariables false
namespace Go.Iso.Gen
open Go.Iso
structure Id where
 y:Int
 n:Int
 deriving DecidableEq,Inhabited
instance:Cell Id where
 z:=2
 cs a:=[.int .u8 a.y,.int .i64 a.n]
 len _:=rfl
 one _:=rfl
 pos:=by omega
def dN(a:Id):Cell.cs a=[.int .u8 a.y,.int .i64 a.n]:=rfl
def iA:Cell.z Id=2:=rfl
def au(bed at_:Int):Int:=if (bed=0\/bed=1)/\1<=at_/\at_<=40 then 0 else 1
def sp(fs bs:List (List Id))(bed at_:Int):List Id:=if au bed at_=0 then((if bed=1 then bs else fs)[(at_ - 1).toNat]?).getD [] else[]
def bv(f b:SV):IV:=.agg [f.iv,b.iv]
structure Hd where
 id:Id
 bed:Int
 at_:Int
 spot:Int
 k:Nat
 deriving Inhabited
instance:Cell Hd where
 z:=5
 cs h:=[.int .u8 h.id.y,.int .i64 h.id.n,.int .u8 h.bed,.int .i64 h.at_,.int .i64 h.spot]
 len _:=rfl
 one _:=rfl
 pos:=by omega
def Jo(h:Hd):Cell.cs h=[.int .u8 h.id.y,.int .i64 h.id.n,.int .u8 h.bed,.int .i64 h.at_,.int .i64 h.spot]:=rfl
def oX:Cell.z Hd=5:=rfl
def nZ(a b:Int):Int:=if a<b then -1 else if a>b then 1 else 0
def dZ(r:Int):Bool:=decide (r>= -4)&&decide (r<=4)
def aF(bed at_ r:Int):Int:=if au bed at_=0/\dZ r=true then(if bed=0 then 4*at_+2 else 4*(at_+r)) else 0
def bI(bed at_ spot:Int)(k0:Nat)(st:List Id):List Hd:=st.mapIdx λj a=>⟨a,bed,at_,spot,k0+j⟩
def nB(i:Nat):Int:=((i%80 / 40:Nat):Int)
def nA(i:Nat):Int:=((1+i%40:Nat):Int)
def SE(fs bs:List (List Id))(r spot:Int)(i:Nat):List Hd:=if aF (nB i) (nA i) r=spot then bI (nB i) (nA i) spot (8*i) (sp fs bs (nB i) (nA i)) else[]
def ade(fs bs:List (List Id))(r spot:Int):List Hd:=(List.range 80).flatMap (SE fs bs r spot)
def bm(fs bs:List (List Id))(r:Int):List Hd:=(List.range 95).flatMap λ(s:Nat)=>ade fs bs r (-12+2*(s:Int))
def tZ(a b:Id):Int:=if nZ a.y b.y≠0 then nZ a.y b.y else nZ a.n b.n
structure Crs where
 a:Id
 b:Id
 n:Int
 deriving Inhabited,DecidableEq
instance:Cell Crs where
 z:=5
 cs c:=[.int .u8 c.a.y,.int .i64 c.a.n,.int .u8 c.b.y,.int .i64 c.b.n,.int .i64 c.n]
 len _:=rfl
 one _:=rfl
 pos:=by omega
def yh(c:Crs):Cell.cs c=[.int .u8 c.a.y,.int .i64 c.a.n,.int .u8 c.b.y,.int .i64 c.b.n,.int .i64 c.n]:=rfl
def uc:Cell.z Crs=5:=rfl
def Hi(x y:Crs):Int:=if tZ x.a y.a≠0 then tZ x.a y.a else tZ x.b y.b
def ids:List IV->List Id|.int _ y::.int _ n::r=>⟨y,n⟩::ids r|_=>[]
def IG(H:Heap):IV->List Id|.slice b o n _ _=>ids ((H.read b o (n*2)).getD [])|_=>[]
def Fg(H:Heap):IV->List (List Id)|.slice b o n _ _=>((H.read b o (n*1)).getD []).map (IG H)|_=>[]
def M7:List (IV×IV×Nat)->List Crs|(.agg [.int _ a,.int _ b,.int _ c,.int _ d],.int _ n,_)::r=>⟨⟨a,b⟩,⟨c,d⟩,n⟩::M7 r|_=>[]
def WQ(H:Heap):IV->Nat×List IV|.slice b _ n _ _=>(n,match H.get b with|some (.cells _ _ _ cs)=>cs|_=>[])|_=>(0,[])
def gQ(x y:Crs):Bool:=decide (Hi x y<=0)
def jU(x y:Id):Bool:=decide (tZ x y<=0)
def Uc:List IObj->Heap->Heap|[],H=>H|o::l,H=>Uc l (H.new o)
def Xe:∀(l:List IObj)(H:Heap),(Uc l H).n=H.n+l.length|[],H=>rfl|o::l,H=>by rw[Uc,Xe l,ac,cV];omega
def vd:∀(l:List IObj)(H:Heap)(b:Nat),(Uc l H).get b=if H.n<=b/\b<H.n+l.length then l[b - H.n]? else H.get b|[],H,b=>by rw[if_neg (by simp only[dA];omega)];rfl|o::l,H,b=>by rw[Uc,vd l,ac,ak,cV];by_cases h:H.n=b;{subst h;rw[iN,if_pos rfl,iP,uT];rfl};{rw[if_neg h];by_cases q:H.n+1<=b/\b<H.n+1+l.length;{rw[if_pos q,iP,show b - H.n=(b - (H.n+1))+1 by omega];rfl};{rw[if_neg q,iN]}}
def stH(H:Heap)(tb q et:Nat)(rw:List (Nat×List IV))(cr:List Crs)(hd fa:List Id):Heap:=Uc (rw.map (λp=>.cells false 102 4 p.2)++[.cells false 116 5 (aw cr),.cells false 105 2 (aw hd),.cells false 105 2 (aw fa)]) ((H.put tb (.cells false et 1 (rw.mapIdx λi p=>.slice (H.n+i) 0 p.1 p.1 true))).put q .dead)
def stC(args:List IV)(H:Heap):Option (IV×Heap):=match args with|[.ptr mb 0]=>(match H.get mb with|some (.cells _ _ _ [.int .i64 r,f,b,y,.slice tb 0 6 6 true,.map cb,.slice q o I F J])=>(match H.get tb,H.get cb with|some (.cells _ et _ rows),some (.map E _)=>some (.agg [.int .i64 r,f,b,y,.slice tb 0 6 6 true,.slice (H.n+6) 0 (M7 E).length (M7 E).length true,.slice (H.n+7) 0 (bm (Fg H f) (Fg H b) r).length (bm (Fg H f) (Fg H b) r).length true,.slice (H.n+8) 0 (IG H (.slice q o I F J)).length (IG H (.slice q o I F J)).length true],stH H tb q et (rows.map (WQ H)) ((M7 E).mergeSort gQ) ((bm (Fg H f) (Fg H b) r).map (·.id)) ((IG H (.slice q o I F J)).mergeSort jU))|_,_=>none)|_=>none)|_=>none
end Go.Iso.Gen
