/-
  definitions.
-/
import Derived.Test.YtagpgnldjjmhkabGreatDoorIsoP7
set_option linter.defProp false
set_option linter.unusedSimpArgs false
set_option linter.unusedVariables false
namespace Go.Iso.Gen
open Go.Iso
structure Id where
 y:Int
 n:Int
 deriving DecidableEq,Inhabited
instance:Cell Id where
 z:=2
 cs a:=[.int .u8 a.y,.int .i64 a.n]
 len _:=rfl
 one _:=rfl
 pos:=by omega
def cW(a:Id):Cell.cs a=[.int .u8 a.y,.int .i64 a.n]:=rfl
def fu:Cell.z Id=2:=rfl
def ar(bed at_:Int):Int:=if (bed=0\/bed=1)/\1<=at_/\at_<=40 then 0 else 1
def nC(fs bs:List (List Id))(bed at_:Int):List Id:=if ar bed at_=0 then((if bed=1 then bs else fs)[(at_ - 1).toNat]?).getD [] else[]
def bv(f b:SV):IV:=.agg [f.iv,b.iv]
structure Hd where
 id:Id
 bed:Int
 at_:Int
 spot:Int
 k:Nat
 deriving Inhabited
instance:Cell Hd where
 z:=5
 cs h:=[.int .u8 h.id.y,.int .i64 h.id.n,.int .u8 h.bed,.int .i64 h.at_,.int .i64 h.spot]
 len _:=rfl
 one _:=rfl
 pos:=by omega
def Dw(h:Hd):Cell.cs h=[.int .u8 h.id.y,.int .i64 h.id.n,.int .u8 h.bed,.int .i64 h.at_,.int .i64 h.spot]:=rfl
def kq:Cell.z Hd=5:=rfl
def ik(a b:Int):Int:=if a<b then -1 else if a>b then 1 else 0
def bF(r:Int):Bool:=decide (r>= -4)&&decide (r<=4)
def aw(bed at_ r:Int):Int:=if ar bed at_=0/\bF r=true then(if bed=0 then 4*at_+2 else 4*(at_+r)) else 0
def bK(bed at_ spot:Int)(k0:Nat)(st:List Id):List Hd:=st.mapIdx λj a=>⟨a,bed,at_,spot,k0+j⟩
def nB(i:Nat):Int:=((i%80 / 40:Nat):Int)
def nA(i:Nat):Int:=((1+i%40:Nat):Int)
def Nu(fs bs:List (List Id))(r spot:Int)(i:Nat):List Hd:=if aw (nB i) (nA i) r=spot then bK (nB i) (nA i) spot (8*i) (nC fs bs (nB i) (nA i)) else[]
def YQ(fs bs:List (List Id))(r spot:Int):List Hd:=(List.range 80).flatMap (Nu fs bs r spot)
def bg(fs bs:List (List Id))(r:Int):List Hd:=(List.range 95).flatMap λ(s:Nat)=>YQ fs bs r (-12+2*(s:Int))
def mN(a b:Id):Int:=if ik a.y b.y≠0 then ik a.y b.y else ik a.n b.n
structure Crs where
 a:Id
 b:Id
 n:Int
 deriving Inhabited,DecidableEq
instance:Cell Crs where
 z:=5
 cs c:=[.int .u8 c.a.y,.int .i64 c.a.n,.int .u8 c.b.y,.int .i64 c.b.n,.int .i64 c.n]
 len _:=rfl
 one _:=rfl
 pos:=by omega
def sQ(c:Crs):Cell.cs c=[.int .u8 c.a.y,.int .i64 c.a.n,.int .u8 c.b.y,.int .i64 c.b.n,.int .i64 c.n]:=rfl
def pz:Cell.z Crs=5:=rfl
def Bm(x y:Crs):Int:=if mN x.a y.a≠0 then mN x.a y.a else mN x.b y.b
def ids:List IV->List Id|.int _ y::.int _ n::r=>⟨y,n⟩::ids r|_=>[]
def CK(H:Heap):IV->List Id|.slice b o n _ _=>ids ((H.read b o (n*2)).getD [])|_=>[]
def zC(H:Heap):IV->List (List Id)|.slice b o n _ _=>((H.read b o (n*1)).getD []).map (CK H)|_=>[]
def Hh:List (IV×IV×Nat)->List Crs|(.agg [.int _ a,.int _ b,.int _ c,.int _ d],.int _ n,_)::r=>⟨⟨a,b⟩,⟨c,d⟩,n⟩::Hh r|_=>[]
def RZ(H:Heap):IV->Nat×List IV|.slice b _ n _ _=>(n,match H.get b with|some (.cells _ _ _ cs)=>cs|_=>[])|_=>(0,[])
def eW(x y:Crs):Bool:=decide (Bm x y<=0)
def gg(x y:Id):Bool:=decide (mN x y<=0)
def OX:List IObj->Heap->Heap|[],H=>H|o::l,H=>OX l (H.new o)
def Sr:∀(l:List IObj)(H:Heap),(OX l H).n=H.n+l.length|[],H=>rfl|o::l,H=>by rw[OX,Sr l,ac,bX];omega
def pX:∀(l:List IObj)(H:Heap)(b:Nat),(OX l H).get b=if H.n<=b/\b<H.n+l.length then l[b - H.n]? else H.get b|[],H,b=>by rw[if_neg (by simp only[cS];omega)];rfl|o::l,H,b=>by rw[OX,pX l,ac,ak,bX];by_cases h:H.n=b;{subst h;rw[iN,if_pos rfl,iP,mG];rfl};{rw[if_neg h];by_cases q:H.n+1<=b/\b<H.n+1+l.length;{rw[if_pos q,iP,show b - H.n=(b - (H.n+1))+1 by omega];rfl};{rw[if_neg q,iN]}}
def YA(H:Heap)(tb F E:Nat)(q:List (Nat×List IV))(cr:List Crs)(hd fa:List Id):Heap:=OX (q.map (λp=>.cells false 95 4 p.2)++[.cells false 109 5 (aA cr),.cells false 98 2 (aA hd),.cells false 98 2 (aA fa)]) ((H.put tb (.cells false E 1 (q.mapIdx λi p=>.slice (H.n+i) 0 p.1 p.1 true))).put F .dead)
def YC(args:List IV)(H:Heap):Option (IV×Heap):=match args with|[.ptr mb 0]=>(match H.get mb with|some (.cells _ _ _ [.int .i64 r,f,b,y,.slice tb 0 6 6 true,.map cb,.slice q o I F O])=>(match H.get tb,H.get cb with|some (.cells _ Q _ rows),some (.map E _)=>some (.agg [.int .i64 r,f,b,y,.slice tb 0 6 6 true,.slice (H.n+6) 0 (Hh E).length (Hh E).length true,.slice (H.n+7) 0 (bg (zC H f) (zC H b) r).length (bg (zC H f) (zC H b) r).length true,.slice (H.n+8) 0 (CK H (.slice q o I F O)).length (CK H (.slice q o I F O)).length true],YA H tb q Q (rows.map (RZ H)) ((Hh E).mergeSort eW) ((bg (zC H f) (zC H b) r).map (·.id)) ((CK H (.slice q o I F O)).mergeSort gg))|_,_=>none)|_=>none)|_=>none
end Go.Iso.Gen
