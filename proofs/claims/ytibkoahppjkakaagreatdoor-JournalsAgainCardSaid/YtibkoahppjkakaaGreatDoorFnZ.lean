/-
  definitions.
-/
import Derived.Test.YtibkoahppjkakaaGreatDoorIsoP7
set_option linter.defProp false
set_option linter.unusedSimpArgs false
set_option linter.unusedVariables false
namespace Go.Iso.Gen
open Go.Iso
structure Id where
 y:Int
 n:Int
 deriving DecidableEq,Inhabited
instance:Cell Id where
 z:=2
 cs a:=[.int .u8 a.y,.int .i64 a.n]
 len _:=rfl
 one _:=rfl
 pos:=by omega
def cF(a:Id):Cell.cs a=[.int .u8 a.y,.int .i64 a.n]:=rfl
def fu:Cell.z Id=2:=rfl
def au(bed at_:Int):Int:=if (bed=0\/bed=1)/\1<=at_/\at_<=40 then 0 else 1
def oi(fs bs:List (List Id))(bed at_:Int):List Id:=if au bed at_=0 then((if bed=1 then bs else fs)[(at_ - 1).toNat]?).getD [] else[]
def bv(f b:SV):IV:=.agg [f.iv,b.iv]
structure Hd where
 id:Id
 bed:Int
 at_:Int
 spot:Int
 k:Nat
 deriving Inhabited
instance:Cell Hd where
 z:=5
 cs h:=[.int .u8 h.id.y,.int .i64 h.id.n,.int .u8 h.bed,.int .i64 h.at_,.int .i64 h.spot]
 len _:=rfl
 one _:=rfl
 pos:=by omega
def EZ(h:Hd):Cell.cs h=[.int .u8 h.id.y,.int .i64 h.id.n,.int .u8 h.bed,.int .i64 h.at_,.int .i64 h.spot]:=rfl
def lD:Cell.z Hd=5:=rfl
def kT(a b:Int):Int:=if a<b then -1 else if a>b then 1 else 0
def cV(r:Int):Bool:=decide (r>= -4)&&decide (r<=4)
def aR(bed at_ r:Int):Int:=if au bed at_=0/\cV r=true then(if bed=0 then 4*at_+2 else 4*(at_+r)) else 0
def bA(bed at_ spot:Int)(k0:Nat)(st:List Id):List Hd:=st.mapIdx λj a=>⟨a,bed,at_,spot,k0+j⟩
def nB(i:Nat):Int:=((i%80 / 40:Nat):Int)
def nA(i:Nat):Int:=((1+i%40:Nat):Int)
def Nu(fs bs:List (List Id))(r spot:Int)(i:Nat):List Hd:=if aR (nB i) (nA i) r=spot then bA (nB i) (nA i) spot (8*i) (oi fs bs (nB i) (nA i)) else[]
def Y3(fs bs:List (List Id))(r spot:Int):List Hd:=(List.range 80).flatMap (Nu fs bs r spot)
def bg(fs bs:List (List Id))(r:Int):List Hd:=(List.range 95).flatMap λ(s:Nat)=>Y3 fs bs r (-12+2*(s:Int))
def pH(a b:Id):Int:=if kT a.y b.y≠0 then kT a.y b.y else kT a.n b.n
structure Crs where
 a:Id
 b:Id
 n:Int
 deriving Inhabited,DecidableEq
instance:Cell Crs where
 z:=5
 cs c:=[.int .u8 c.a.y,.int .i64 c.a.n,.int .u8 c.b.y,.int .i64 c.b.n,.int .i64 c.n]
 len _:=rfl
 one _:=rfl
 pos:=by omega
def tI(c:Crs):Cell.cs c=[.int .u8 c.a.y,.int .i64 c.a.n,.int .u8 c.b.y,.int .i64 c.b.n,.int .i64 c.n]:=rfl
def pK:Cell.z Crs=5:=rfl
def CX(x y:Crs):Int:=if pH x.a y.a≠0 then pH x.a y.a else pH x.b y.b
def ids:List IV->List Id|.int _ y::.int _ n::r=>⟨y,n⟩::ids r|_=>[]
def Eb(H:Heap):IV->List Id|.slice b o n _ _=>ids ((H.read b o (n*2)).getD [])|_=>[]
def Bm(H:Heap):IV->List (List Id)|.slice b o n _ _=>((H.read b o (n*1)).getD []).map (Eb H)|_=>[]
def ID:List (IV×IV×Nat)->List Crs|(.agg [.int _ a,.int _ b,.int _ c,.int _ d],.int _ n,_)::r=>⟨⟨a,b⟩,⟨c,d⟩,n⟩::ID r|_=>[]
def Ru(H:Heap):IV->Nat×List IV|.slice b _ n _ _=>(n,match H.get b with|some (.cells _ _ _ cs)=>cs|_=>[])|_=>(0,[])
def eP(x y:Crs):Bool:=decide (CX x y<=0)
def ip(x y:Id):Bool:=decide (pH x y<=0)
def OS:List IObj->Heap->Heap|[],H=>H|o::l,H=>OS l (H.new o)
def RV:∀(l:List IObj)(H:Heap),(OS l H).n=H.n+l.length|[],H=>rfl|o::l,H=>by rw[OS,RV l,ac,bW];omega
def qt:∀(l:List IObj)(H:Heap)(b:Nat),(OS l H).get b=if H.n<=b/\b<H.n+l.length then l[b - H.n]? else H.get b|[],H,b=>by rw[if_neg (by simp only[cz];omega)];rfl|o::l,H,b=>by rw[OS,qt l,ac,ah,bW];by_cases h:H.n=b;{subst h;rw[iN,if_pos rfl,iP,Bv];rfl};{rw[if_neg h];by_cases q:H.n+1<=b/\b<H.n+1+l.length;{rw[if_pos q,iP,show b - H.n=(b - (H.n+1))+1 by omega];rfl};{rw[if_neg q,iN]}}
def YM(H:Heap)(tb A u:Nat)(q:List (Nat×List IV))(cr:List Crs)(E fa:List Id):Heap:=OS (q.map (λp=>.cells false 106 4 p.2)++[.cells false 120 5 (aw cr),.cells false 109 2 (aw E),.cells false 109 2 (aw fa)]) ((H.put tb (.cells false u 1 (q.mapIdx λi p=>.slice (H.n+i) 0 p.1 p.1 true))).put A .dead)
def YO(args:List IV)(H:Heap):Option (IV×Heap):=match args with|[.ptr mb 0]=>(match H.get mb with|some (.cells _ _ _ [.int .i64 r,f,b,y,.slice tb 0 6 6 true,.map cb,.slice q o E A F])=>(match H.get tb,H.get cb with|some (.cells _ I _ rows),some (.map u _)=>some (.agg [.int .i64 r,f,b,y,.slice tb 0 6 6 true,.slice (H.n+6) 0 (ID u).length (ID u).length true,.slice (H.n+7) 0 (bg (Bm H f) (Bm H b) r).length (bg (Bm H f) (Bm H b) r).length true,.slice (H.n+8) 0 (Eb H (.slice q o E A F)).length (Eb H (.slice q o E A F)).length true],YM H tb q I (rows.map (Ru H)) ((ID u).mergeSort eP) ((bg (Bm H f) (Bm H b) r).map (·.id)) ((Eb H (.slice q o E A F)).mergeSort ip))|_,_=>none)|_=>none)|_=>none
end Go.Iso.Gen
