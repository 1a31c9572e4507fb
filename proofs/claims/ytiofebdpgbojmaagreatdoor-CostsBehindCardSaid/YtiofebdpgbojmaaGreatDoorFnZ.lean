/-
  definitions.
-/
import Derived.Test.YtiofebdpgbojmaaGreatDoorIsoP7
set_option linter.defProp false
set_option linter.unusedSimpArgs false
set_option linter.unusedVariables false
namespace Go.Iso.Gen
open Go.Iso
structure Id where
 y:Int
 n:Int
 deriving DecidableEq,Inhabited
instance:Cell Id where
 z:=2
 cs a:=[.int .u8 a.y,.int .i64 a.n]
 len _:=rfl
 one _:=rfl
 pos:=by omega
def cG(a:Id):Cell.cs a=[.int .u8 a.y,.int .i64 a.n]:=rfl
def eJ:Cell.z Id=2:=rfl
def au(bed at_:Int):Int:=if (bed=0\/bed=1)/\1<=at_/\at_<=40 then 0 else 1
def kT(fs bs:List (List Id))(bed at_:Int):List Id:=if au bed at_=0 then((if bed=1 then bs else fs)[(at_ - 1).toNat]?).getD [] else[]
def bv(f b:SV):IV:=.agg [f.iv,b.iv]
structure Hd where
 id:Id
 bed:Int
 at_:Int
 spot:Int
 k:Nat
 deriving Inhabited
instance:Cell Hd where
 z:=5
 cs h:=[.int .u8 h.id.y,.int .i64 h.id.n,.int .u8 h.bed,.int .i64 h.at_,.int .i64 h.spot]
 len _:=rfl
 one _:=rfl
 pos:=by omega
def B0(h:Hd):Cell.cs h=[.int .u8 h.id.y,.int .i64 h.id.n,.int .u8 h.bed,.int .i64 h.at_,.int .i64 h.spot]:=rfl
def jp:Cell.z Hd=5:=rfl
def fH(a b:Int):Int:=if a<b then -1 else if a>b then 1 else 0
def cD(r:Int):Bool:=decide (r>= -4)&&decide (r<=4)
def av(bed at_ r:Int):Int:=if au bed at_=0/\cD r=true then(if bed=0 then 4*at_+2 else 4*(at_+r)) else 0
def br(bed at_ spot:Int)(k0:Nat)(st:List Id):List Hd:=st.mapIdx λj a=>⟨a,bed,at_,spot,k0+j⟩
def nB(i:Nat):Int:=((i%80 / 40:Nat):Int)
def nA(i:Nat):Int:=((1+i%40:Nat):Int)
def Hu(fs bs:List (List Id))(r spot:Int)(i:Nat):List Hd:=if av (nB i) (nA i) r=spot then br (nB i) (nA i) spot (8*i) (kT fs bs (nB i) (nA i)) else[]
def Tx(fs bs:List (List Id))(r spot:Int):List Hd:=(List.range 80).flatMap (Hu fs bs r spot)
def aR(fs bs:List (List Id))(r:Int):List Hd:=(List.range 95).flatMap λ(s:Nat)=>Tx fs bs r (-12+2*(s:Int))
def lR(a b:Id):Int:=if fH a.y b.y≠0 then fH a.y b.y else fH a.n b.n
structure Crs where
 a:Id
 b:Id
 n:Int
 deriving Inhabited,DecidableEq
instance:Cell Crs where
 z:=5
 cs c:=[.int .u8 c.a.y,.int .i64 c.a.n,.int .u8 c.b.y,.int .i64 c.b.n,.int .i64 c.n]
 len _:=rfl
 one _:=rfl
 pos:=by omega
def vh(c:Crs):Cell.cs c=[.int .u8 c.a.y,.int .i64 c.a.n,.int .u8 c.b.y,.int .i64 c.b.n,.int .i64 c.n]:=rfl
def rR:Cell.z Crs=5:=rfl
def zX(x y:Crs):Int:=if lR x.a y.a≠0 then lR x.a y.a else lR x.b y.b
def ids:List IV->List Id|.int _ y::.int _ n::r=>⟨y,n⟩::ids r|_=>[]
def Bd(H:Heap):IV->List Id|.slice b o n _ _=>ids ((H.read b o (n*2)).getD [])|_=>[]
def xV(H:Heap):IV->List (List Id)|.slice b o n _ _=>((H.read b o (n*1)).getD []).map (Bd H)|_=>[]
def FO:List (IV×IV×Nat)->List Crs|(.agg [.int _ a,.int _ b,.int _ c,.int _ d],.int _ n,_)::r=>⟨⟨a,b⟩,⟨c,d⟩,n⟩::FO r|_=>[]
def Ve(H:Heap):IV->Nat×List IV|.slice b _ n _ _=>(n,match H.get b with|some (.cells _ _ _ cs)=>cs|_=>[])|_=>(0,[])
def dZ(x y:Crs):Bool:=decide (zX x y<=0)
def fq(x y:Id):Bool:=decide (lR x y<=0)
def MY:List IObj->Heap->Heap|[],H=>H|o::l,H=>MY l (H.new o)
def Qg:∀(l:List IObj)(H:Heap),(MY l H).n=H.n+l.length|[],H=>rfl|o::l,H=>by rw[MY,Qg l,ac,cv];omega
def oR:∀(l:List IObj)(H:Heap)(b:Nat),(MY l H).get b=if H.n<=b/\b<H.n+l.length then l[b - H.n]? else H.get b|[],H,b=>by rw[if_neg (by simp only[cE];omega)];rfl|o::l,H,b=>by rw[MY,oR l,ac,aj,cv];by_cases h:H.n=b;{subst h;rw[iN,if_pos rfl,iP,yj];rfl};{rw[if_neg h];by_cases q:H.n+1<=b/\b<H.n+1+l.length;{rw[if_pos q,iP,show b - H.n=(b - (H.n+1))+1 by omega];rfl};{rw[if_neg q,iN]}}
def Wh(H:Heap)(tb u q:Nat)(rw:List (Nat×List IV))(cr:List Crs)(hd fa:List Id):Heap:=MY (rw.map (λp=>.cells false 168 4 p.2)++[.cells false 159 5 (aA cr),.cells false 149 2 (aA hd),.cells false 149 2 (aA fa)]) ((H.put tb (.cells false q 1 (rw.mapIdx λi p=>.slice (H.n+i) 0 p.1 p.1 true))).put u .dead)
def Wj(args:List IV)(H:Heap):Option (IV×Heap):=match args with|[.ptr mb 0]=>(match H.get mb with|some (.cells _ _ _ [.int .i64 r,f,b,y,.slice tb 0 6 6 true,.map cb,.slice q o E A F])=>(match H.get tb,H.get cb with|some (.cells _ I _ rows),some (.map u _)=>some (.agg [.int .i64 r,f,b,y,.slice tb 0 6 6 true,.slice (H.n+6) 0 (FO u).length (FO u).length true,.slice (H.n+7) 0 (aR (xV H f) (xV H b) r).length (aR (xV H f) (xV H b) r).length true,.slice (H.n+8) 0 (Bd H (.slice q o E A F)).length (Bd H (.slice q o E A F)).length true],Wh H tb q I (rows.map (Ve H)) ((FO u).mergeSort dZ) ((aR (xV H f) (xV H b) r).map (·.id)) ((Bd H (.slice q o E A F)).mergeSort fq))|_,_=>none)|_=>none)|_=>none
end Go.Iso.Gen
