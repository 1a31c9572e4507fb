/-
  definitions.
-/
import Derived.Test.YtbgdblhggjonaaaGreatDoorIsoP7
set_option linter.defProp false
set_option linter.unusedSimpArgs false
set_option linter.unusedVariables false
namespace Go.Iso.Gen
open Go.Iso
structure Id where
 y:Int
 n:Int
 deriving DecidableEq,Inhabited
instance:Cell Id where
 z:=2
 cs a:=[.int .u8 a.y,.int .i64 a.n]
 len _:=rfl
 one _:=rfl
 pos:=by omega
def cy(a:Id):Cell.cs a=[.int .u8 a.y,.int .i64 a.n]:=rfl
def eG:Cell.z Id=2:=rfl
def ar(bed at_:Int):Int:=if (bed=0\/bed=1)/\1<=at_/\at_<=40 then 0 else 1
def lY(fs bs:List (List Id))(bed at_:Int):List Id:=if ar bed at_=0 then((if bed=1 then bs else fs)[(at_ - 1).toNat]?).getD [] else[]
def bv(f b:SV):IV:=.agg [f.iv,b.iv]
structure Hd where
 id:Id
 bed:Int
 at_:Int
 spot:Int
 k:Nat
 deriving Inhabited
instance:Cell Hd where
 z:=5
 cs h:=[.int .u8 h.id.y,.int .i64 h.id.n,.int .u8 h.bed,.int .i64 h.at_,.int .i64 h.spot]
 len _:=rfl
 one _:=rfl
 pos:=by omega
def Cd(h:Hd):Cell.cs h=[.int .u8 h.id.y,.int .i64 h.id.n,.int .u8 h.bed,.int .i64 h.at_,.int .i64 h.spot]:=rfl
def jz:Cell.z Hd=5:=rfl
def jb(a b:Int):Int:=if a<b then -1 else if a>b then 1 else 0
def cF(r:Int):Bool:=decide (r>= -4)&&decide (r<=4)
def au(bed at_ r:Int):Int:=if ar bed at_=0/\cF r=true then(if bed=0 then 4*at_+2 else 4*(at_+r)) else 0
def bC(bed at_ spot:Int)(k0:Nat)(st:List Id):List Hd:=st.mapIdx λj a=>⟨a,bed,at_,spot,k0+j⟩
def nB(i:Nat):Int:=((i%80 / 40:Nat):Int)
def nA(i:Nat):Int:=((1+i%40:Nat):Int)
def Mn(fs bs:List (List Id))(r spot:Int)(i:Nat):List Hd:=if au (nB i) (nA i) r=spot then bC (nB i) (nA i) spot (8*i) (lY fs bs (nB i) (nA i)) else[]
def Yf(fs bs:List (List Id))(r spot:Int):List Hd:=(List.range 80).flatMap (Mn fs bs r spot)
def ba(fs bs:List (List Id))(r:Int):List Hd:=(List.range 95).flatMap λ(s:Nat)=>Yf fs bs r (-12+2*(s:Int))
def nh(a b:Id):Int:=if jb a.y b.y≠0 then jb a.y b.y else jb a.n b.n
structure Crs where
 a:Id
 b:Id
 n:Int
 deriving Inhabited,DecidableEq
instance:Cell Crs where
 z:=5
 cs c:=[.int .u8 c.a.y,.int .i64 c.a.n,.int .u8 c.b.y,.int .i64 c.b.n,.int .i64 c.n]
 len _:=rfl
 one _:=rfl
 pos:=by omega
def vj(c:Crs):Cell.cs c=[.int .u8 c.a.y,.int .i64 c.a.n,.int .u8 c.b.y,.int .i64 c.b.n,.int .i64 c.n]:=rfl
def rI:Cell.z Crs=5:=rfl
def Ah(x y:Crs):Int:=if nh x.a y.a≠0 then nh x.a y.a else nh x.b y.b
def ids:List IV->List Id|.int _ y::.int _ n::r=>⟨y,n⟩::ids r|_=>[]
def Bu(H:Heap):IV->List Id|.slice b o n _ _=>ids ((H.read b o (n*2)).getD [])|_=>[]
def yk(H:Heap):IV->List (List Id)|.slice b o n _ _=>((H.read b o (n*1)).getD []).map (Bu H)|_=>[]
def FO:List (IV×IV×Nat)->List Crs|(.agg [.int _ a,.int _ b,.int _ c,.int _ d],.int _ n,_)::r=>⟨⟨a,b⟩,⟨c,d⟩,n⟩::FO r|_=>[]
def W4(H:Heap):IV->Nat×List IV|.slice b _ n _ _=>(n,match H.get b with|some (.cells _ _ _ cs)=>cs|_=>[])|_=>(0,[])
def dZ(x y:Crs):Bool:=decide (Ah x y<=0)
def fg(x y:Id):Bool:=decide (nh x y<=0)
def Oa:List IObj->Heap->Heap|[],H=>H|o::l,H=>Oa l (H.new o)
def RW:∀(l:List IObj)(H:Heap),(Oa l H).n=H.n+l.length|[],H=>rfl|o::l,H=>by rw[Oa,RW l,ac,bI];omega
def oz:∀(l:List IObj)(H:Heap)(b:Nat),(Oa l H).get b=if H.n<=b/\b<H.n+l.length then l[b - H.n]? else H.get b|[],H,b=>by rw[if_neg (by simp only[cV];omega)];rfl|o::l,H,b=>by rw[Oa,oz l,ac,ak,bI];by_cases h:H.n=b;{subst h;rw[iN,if_pos rfl,iP,qx];rfl};{rw[if_neg h];by_cases q:H.n+1<=b/\b<H.n+1+l.length;{rw[if_pos q,iP,show b - H.n=(b - (H.n+1))+1 by omega];rfl};{rw[if_neg q,iN]}}
def XY(H:Heap)(tb E A:Nat)(q:List (Nat×List IV))(cr:List Crs)(hd fa:List Id):Heap:=Oa (q.map (λp=>.cells false 109 4 p.2)++[.cells false 100 5 (ax cr),.cells false 89 2 (ax hd),.cells false 89 2 (ax fa)]) ((H.put tb (.cells false A 1 (q.mapIdx λi p=>.slice (H.n+i) 0 p.1 p.1 true))).put E .dead)
def X0(args:List IV)(H:Heap):Option (IV×Heap):=match args with|[.ptr mb 0]=>(match H.get mb with|some (.cells _ _ _ [.int .i64 r,f,b,y,.slice tb 0 6 6 true,.map cb,.slice q o F E I])=>(match H.get tb,H.get cb with|some (.cells _ O _ rows),some (.map A _)=>some (.agg [.int .i64 r,f,b,y,.slice tb 0 6 6 true,.slice (H.n+6) 0 (FO A).length (FO A).length true,.slice (H.n+7) 0 (ba (yk H f) (yk H b) r).length (ba (yk H f) (yk H b) r).length true,.slice (H.n+8) 0 (Bu H (.slice q o F E I)).length (Bu H (.slice q o F E I)).length true],XY H tb q O (rows.map (W4 H)) ((FO A).mergeSort dZ) ((ba (yk H f) (yk H b) r).map (·.id)) ((Bu H (.slice q o F E I)).mergeSort fg))|_,_=>none)|_=>none)|_=>none
def JV(args:List IV)(H:Heap):Option (IV×Heap):=match args with|[.slice b 0 n _ false,.int .i64 i,.slice q 0 1 1 true]=>(match H.get b,H.get q with|some (.cells _ e _ cs),some (.cells _ _ _ [x])=>some (.slice H.n 0 (n+1) (n+1) false,(H.put b .dead).new (.cells false e 1 (cs.take i.toNat++x::(cs.take n).drop i.toNat)))|_,_=>none)|_=>none
end Go.Iso.Gen
