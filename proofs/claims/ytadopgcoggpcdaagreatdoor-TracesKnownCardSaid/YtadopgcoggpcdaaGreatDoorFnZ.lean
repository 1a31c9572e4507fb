/-
  definitions.
-/
import Derived.Test.YtadopgcoggpcdaaGreatDoorIsoP7
set_option linter.defProp false
set_option linter.unusedSimpArgs false
set_option linter.unusedVariables false
namespace Go.Iso.Gen
open Go.Iso
structure Id where
 y:Int
 n:Int
 deriving DecidableEq,Inhabited
instance:Cell Id where
 z:=2
 cs a:=[.int .u8 a.y,.int .i64 a.n]
 len _:=rfl
 one _:=rfl
 pos:=by omega
def cS(a:Id):Cell.cs a=[.int .u8 a.y,.int .i64 a.n]:=rfl
def fG:Cell.z Id=2:=rfl
def ao(bed at_:Int):Int:=if (bed=0\/bed=1)/\1<=at_/\at_<=40 then 0 else 1
def pu(fs bs:List (List Id))(bed at_:Int):List Id:=if ao bed at_=0 then((if bed=1 then bs else fs)[(at_ - 1).toNat]?).getD [] else[]
def bv(f b:SV):IV:=.agg [f.iv,b.iv]
structure Hd where
 id:Id
 bed:Int
 at_:Int
 spot:Int
 k:Nat
 deriving Inhabited
instance:Cell Hd where
 z:=5
 cs h:=[.int .u8 h.id.y,.int .i64 h.id.n,.int .u8 h.bed,.int .i64 h.at_,.int .i64 h.spot]
 len _:=rfl
 one _:=rfl
 pos:=by omega
def Gd(h:Hd):Cell.cs h=[.int .u8 h.id.y,.int .i64 h.id.n,.int .u8 h.bed,.int .i64 h.at_,.int .i64 h.spot]:=rfl
def mp:Cell.z Hd=5:=rfl
def dA(a b:Int):Int:=if a<b then -1 else if a>b then 1 else 0
def cN(r:Int):Bool:=decide (r>= -4)&&decide (r<=4)
def au(bed at_ r:Int):Int:=if ao bed at_=0/\cN r=true then(if bed=0 then 4*at_+2 else 4*(at_+r)) else 0
def bu(bed at_ spot:Int)(k0:Nat)(st:List Id):List Hd:=st.mapIdx λj a=>⟨a,bed,at_,spot,k0+j⟩
def nB(i:Nat):Int:=((i%80 / 40:Nat):Int)
def nA(i:Nat):Int:=((1+i%40:Nat):Int)
def LY(fs bs:List (List Id))(r spot:Int)(i:Nat):List Hd:=if au (nB i) (nA i) r=spot then bu (nB i) (nA i) spot (8*i) (pu fs bs (nB i) (nA i)) else[]
def Zg(fs bs:List (List Id))(r spot:Int):List Hd:=(List.range 80).flatMap (LY fs bs r spot)
def a7(fs bs:List (List Id))(r:Int):List Hd:=(List.range 95).flatMap λ(s:Nat)=>Zg fs bs r (-12+2*(s:Int))
def qZ(a b:Id):Int:=if dA a.y b.y≠0 then dA a.y b.y else dA a.n b.n
structure Crs where
 a:Id
 b:Id
 n:Int
 deriving Inhabited,DecidableEq
instance:Cell Crs where
 z:=5
 cs c:=[.int .u8 c.a.y,.int .i64 c.a.n,.int .u8 c.b.y,.int .i64 c.b.n,.int .i64 c.n]
 len _:=rfl
 one _:=rfl
 pos:=by omega
def vS(c:Crs):Cell.cs c=[.int .u8 c.a.y,.int .i64 c.a.n,.int .u8 c.b.y,.int .i64 c.b.n,.int .i64 c.n]:=rfl
def rh:Cell.z Crs=5:=rfl
def DV(x y:Crs):Int:=if qZ x.a y.a≠0 then qZ x.a y.a else qZ x.b y.b
def ids:List IV->List Id|.int _ y::.int _ n::r=>⟨y,n⟩::ids r|_=>[]
def Fc(H:Heap):IV->List Id|.slice b o n _ _=>ids ((H.read b o (n*2)).getD [])|_=>[]
def Cj(H:Heap):IV->List (List Id)|.slice b o n _ _=>((H.read b o (n*1)).getD []).map (Fc H)|_=>[]
def Kn:List (IV×IV×Nat)->List Crs|(.agg [.int _ a,.int _ b,.int _ c,.int _ d],.int _ n,_)::r=>⟨⟨a,b⟩,⟨c,d⟩,n⟩::Kn r|_=>[]
def VY(H:Heap):IV->Nat×List IV|.slice b _ n _ _=>(n,match H.get b with|some (.cells _ _ _ cs)=>cs|_=>[])|_=>(0,[])
def fu(x y:Crs):Bool:=decide (DV x y<=0)
def iD(x y:Id):Bool:=decide (qZ x y<=0)
def Sn:List IObj->Heap->Heap|[],H=>H|o::l,H=>Sn l (H.new o)
def Wp:∀(l:List IObj)(H:Heap),(Sn l H).n=H.n+l.length|[],H=>rfl|o::l,H=>by rw[Sn,Wp l,ac,bQ];omega
def sj:∀(l:List IObj)(H:Heap)(b:Nat),(Sn l H).get b=if H.n<=b/\b<H.n+l.length then l[b - H.n]? else H.get b|[],H,b=>by rw[if_neg (by simp only[cQ];omega)];rfl|o::l,H,b=>by rw[Sn,sj l,ac,ak,bQ];by_cases h:H.n=b;{subst h;rw[iN,if_pos rfl,iP,qj];rfl};{rw[if_neg h];by_cases E:H.n+1<=b/\b<H.n+1+l.length;{rw[if_pos E,iP,show b - H.n=(b - (H.n+1))+1 by omega];rfl};{rw[if_neg E,iN]}}
def stH(H:Heap)(tb I F:Nat)(E:List (Nat×List IV))(cr:List Crs)(J fa:List Id):Heap:=Sn (E.map (λp=>.cells false 130 4 p.2)++[.cells false 121 5 (az cr),.cells false 110 2 (az J),.cells false 110 2 (az fa)]) ((H.put tb (.cells false F 1 (E.mapIdx λi p=>.slice (H.n+i) 0 p.1 p.1 true))).put I .dead)
def stC(args:List IV)(H:Heap):Option (IV×Heap):=match args with|[.ptr mb 0]=>(match H.get mb with|some (.cells _ _ _ [.int .i64 r,f,b,y,.slice tb 0 6 6 true,.map cb,.slice E o J I O])=>(match H.get tb,H.get cb with|some (.cells _ Q _ rows),some (.map F _)=>some (.agg [.int .i64 r,f,b,y,.slice tb 0 6 6 true,.slice (H.n+6) 0 (Kn F).length (Kn F).length true,.slice (H.n+7) 0 (a7 (Cj H f) (Cj H b) r).length (a7 (Cj H f) (Cj H b) r).length true,.slice (H.n+8) 0 (Fc H (.slice E o J I O)).length (Fc H (.slice E o J I O)).length true],stH H tb E Q (rows.map (VY H)) ((Kn F).mergeSort fu) ((a7 (Cj H f) (Cj H b) r).map (·.id)) ((Fc H (.slice E o J I O)).mergeSort iD))|_,_=>none)|_=>none)|_=>none
end Go.Iso.Gen
