/-
  definitions.
-/
import Derived.Test.YtkhgaoeaednggaaGreatDoorIsoP7
set_option linter.unusedSimpArgs false
set_option linter.unusedVariables false
namespace Go.Iso.Gen
open Go.Iso
structure Id where
 y:Int
 n:Int
 deriving DecidableEq,Inhabited
instance:Cell Id where
 z:=2
 cs a:=[.int .u8 a.y,.int .i64 a.n]
 len _:=rfl
 one _:=rfl
 pos:=by omega
theorem cg(a:Id):Cell.cs a=[.int .u8 a.y,.int .i64 a.n]:=rfl
theorem eE:Cell.z Id=2:=rfl
def ar(bed at_:Int):Int:=if (bed=0\/bed=1)/\1<=at_/\at_<=40 then 0 else 1
def mJ(fs bs:List (List Id))(bed at_:Int):List Id:=if ar bed at_=0 then((if bed=1 then bs else fs)[(at_ - 1).toNat]?).getD [] else[]
def bv(f b:SV):IV:=.agg [f.iv,b.iv]
structure Hd where
 id:Id
 bed:Int
 at_:Int
 spot:Int
 k:Nat
 deriving Inhabited
instance:Cell Hd where
 z:=5
 cs h:=[.int .u8 h.id.y,.int .i64 h.id.n,.int .u8 h.bed,.int .i64 h.at_,.int .i64 h.spot]
 len _:=rfl
 one _:=rfl
 pos:=by omega
theorem Ce(h:Hd):Cell.cs h=[.int .u8 h.id.y,.int .i64 h.id.n,.int .u8 h.bed,.int .i64 h.at_,.int .i64 h.spot]:=rfl
theorem j2:Cell.z Hd=5:=rfl
def jH(a b:Int):Int:=if a<b then -1 else if a>b then 1 else 0
def cp(r:Int):Bool:=decide (r>= -4)&&decide (r<=4)
def aw(bed at_ r:Int):Int:=if ar bed at_=0/\cp r=true then(if bed=0 then 4*at_+2 else 4*(at_+r)) else 0
def be(bed at_ spot:Int)(k0:Nat)(st:List Id):List Hd:=st.mapIdx λj a=>⟨a,bed,at_,spot,k0+j⟩
def nB(i:Nat):Int:=((i%80 / 40:Nat):Int)
def nA(i:Nat):Int:=((1+i%40:Nat):Int)
def K8(fs bs:List (List Id))(r spot:Int)(i:Nat):List Hd:=if aw (nB i) (nA i) r=spot then be (nB i) (nA i) spot (8*i) (mJ fs bs (nB i) (nA i)) else[]
def Wd(fs bs:List (List Id))(r spot:Int):List Hd:=(List.range 80).flatMap (K8 fs bs r spot)
def aV(fs bs:List (List Id))(r:Int):List Hd:=(List.range 95).flatMap λ(s:Nat)=>Wd fs bs r (-12+2*(s:Int))
def nJ(a b:Id):Int:=if jH a.y b.y≠0 then jH a.y b.y else jH a.n b.n
structure Crs where
 a:Id
 b:Id
 n:Int
 deriving Inhabited,DecidableEq
instance:Cell Crs where
 z:=5
 cs c:=[.int .u8 c.a.y,.int .i64 c.a.n,.int .u8 c.b.y,.int .i64 c.b.n,.int .i64 c.n]
 len _:=rfl
 one _:=rfl
 pos:=by omega
theorem uI(c:Crs):Cell.cs c=[.int .u8 c.a.y,.int .i64 c.a.n,.int .u8 c.b.y,.int .i64 c.b.n,.int .i64 c.n]:=rfl
theorem rF:Cell.z Crs=5:=rfl
def Ak(x y:Crs):Int:=if nJ x.a y.a≠0 then nJ x.a y.a else nJ x.b y.b
def ids:List IV->List Id|.int _ y::.int _ n::r=>⟨y,n⟩::ids r|_=>[]
def Bp(H:Heap):IV->List Id|.slice b o n _ _=>ids ((H.read b o (n*2)).getD [])|_=>[]
def yw(H:Heap):IV->List (List Id)|.slice b o n _ _=>((H.read b o (n*1)).getD []).map (Bp H)|_=>[]
def FI:List (IV×IV×Nat)->List Crs|(.agg [.int _ a,.int _ b,.int _ c,.int _ d],.int _ n,_)::r=>⟨⟨a,b⟩,⟨c,d⟩,n⟩::FI r|_=>[]
def Pf(H:Heap):IV->Nat×List IV|.slice b _ n _ _=>(n,match H.get b with|some (.cells _ _ _ cs)=>cs|_=>[])|_=>(0,[])
def dX(x y:Crs):Bool:=decide (Ak x y<=0)
def fW(x y:Id):Bool:=decide (nJ x y<=0)
def MC:List IObj->Heap->Heap|[],H=>H|o::l,H=>MC l (H.new o)
theorem PH:∀(l:List IObj)(H:Heap),(MC l H).n=H.n+l.length|[],H=>rfl|o::l,H=>by rw[MC,PH l,ac,cM];omega
theorem oz:∀(l:List IObj)(H:Heap)(b:Nat),(MC l H).get b=if H.n<=b/\b<H.n+l.length then l[b - H.n]? else H.get b|[],H,b=>by rw[if_neg (by simp only[eu];omega)];rfl|o::l,H,b=>by rw[MC,oz l,ac,aj,cM];by_cases h:H.n=b;{subst h;rw[if_neg (by omega),if_pos rfl,if_pos (by omega),yG];rfl};{rw[if_neg h];by_cases q:H.n+1<=b/\b<H.n+1+l.length;{rw[if_pos q,if_pos (by omega),show b - H.n=(b - (H.n+1))+1 by omega];rfl};{rw[if_neg q,if_neg (by omega)]}}
def VW(H:Heap)(tb E u:Nat)(q:List (Nat×List IV))(cr:List Crs)(F fa:List Id):Heap:=MC (q.map (λp=>.cells false 116 4 p.2)++[.cells false 107 5 (av cr),.cells false 96 2 (av F),.cells false 96 2 (av fa)]) ((H.put tb (.cells false u 1 (q.mapIdx λi p=>.slice (H.n+i) 0 p.1 p.1 true))).put E .dead)
def VY(args:List IV)(H:Heap):Option (IV×Heap):=match args with|[.ptr mb 0]=>(match H.get mb with|some (.cells _ _ _ [.int .i64 r,f,b,y,.slice tb 0 6 6 true,.map cb,.slice q o F E I])=>(match H.get tb,H.get cb with|some (.cells _ J _ rows),some (.map u _)=>some (.agg [.int .i64 r,f,b,y,.slice tb 0 6 6 true,.slice (H.n+6) 0 (FI u).length (FI u).length true,.slice (H.n+7) 0 (aV (yw H f) (yw H b) r).length (aV (yw H f) (yw H b) r).length true,.slice (H.n+8) 0 (Bp H (.slice q o F E I)).length (Bp H (.slice q o F E I)).length true],VW H tb q J (rows.map (Pf H)) ((FI u).mergeSort dX) ((aV (yw H f) (yw H b) r).map (·.id)) ((Bp H (.slice q o F E I)).mergeSort fW))|_,_=>none)|_=>none)|_=>none
end Go.Iso.Gen
