/-
  definitions.
-/
import Derived.Test.YtdfnadcnipppkaaGreatDoorIsoP7
set_option linter.defProp false
set_option linter.unusedSimpArgs false
set_option linter.unusedVariables false
namespace Go.Iso.Gen
open Go.Iso
def Qw{p:Prop}(h:p:=by simp only[List.range,List.range.loop,aH,aK];exact rfl):p:=h
def nM{p:Prop}(h:p:=by rw[af];omega):p:=h
def oX{p:Prop}(h:p:=by rw[ae,af];omega):p:=h
def Zt{p:Prop}(h:p:=by rw[ae];omega):p:=h
def KQ{p:Prop}(h:p:=by simp;omega):p:=h
def j4{p:Prop}(h:p:=by simp):p:=h
def Zs{p:Prop}(h:p:=by decide):p:=h
def Aue{p:Prop}(h:p:=by grind):p:=h
def Ho{p:Prop}(h:p:=by grind[ae,af]):p:=h
def Aui{p:Prop}(h:p:=by simp only;split<;>omega):p:=h
def PP{p:Prop}(h:p:=by rw[aa,iN]):p:=h
def Auk{p:Prop}(h:p:=by rw[aa,if_pos rfl]):p:=h
def Aul{p:Prop}(h:p:=by rw[aW];omega):p:=h
structure Id where
 y:Int
 n:Int
 deriving DecidableEq,Inhabited
instance:Cell Id where
 z:=2
 cs a:=[.int .u8 a.y,.int .i64 a.n]
 len _:=rfl
 one _:=rfl
 pos:=by omega
def cR(a:Id):Cell.cs a=[.int .u8 a.y,.int .i64 a.n]:=rfl
def eW:Cell.z Id=2:=rfl
def ar(bed at_:Int):Int:=if (bed=0\/bed=1)/\1<=at_/\at_<=40 then 0 else 1
def nK(fs bs:List (List Id))(bed at_:Int):List Id:=if ar bed at_=0 then((if bed=1 then bs else fs)[(at_ - 1).toNat]?).getD [] else[]
def bv(f b:SV):IV:=.agg [f.iv,b.iv]
structure Hd where
 id:Id
 bed:Int
 at_:Int
 spot:Int
 k:Nat
 deriving Inhabited
instance:Cell Hd where
 z:=5
 cs h:=[.int .u8 h.id.y,.int .i64 h.id.n,.int .u8 h.bed,.int .i64 h.at_,.int .i64 h.spot]
 len _:=rfl
 one _:=rfl
 pos:=by omega
def D6(h:Hd):Cell.cs h=[.int .u8 h.id.y,.int .i64 h.id.n,.int .u8 h.bed,.int .i64 h.at_,.int .i64 h.spot]:=rfl
def kE:Cell.z Hd=5:=rfl
def jX(a b:Int):Int:=if a<b then -1 else if a>b then 1 else 0
def cz(r:Int):Bool:=decide (r>= -4)&&decide (r<=4)
def au(bed at_ r:Int):Int:=if ar bed at_=0/\cz r=true then(if bed=0 then 4*at_+2 else 4*(at_+r)) else 0
def bD(bed at_ spot:Int)(k0:Nat)(st:List Id):List Hd:=st.mapIdx λj a=>⟨a,bed,at_,spot,k0+j⟩
def nB(i:Nat):Int:=((i%80 / 40:Nat):Int)
def nA(i:Nat):Int:=((1+i%40:Nat):Int)
def Pl(fs bs:List (List Id))(r spot:Int)(i:Nat):List Hd:=if au (nB i) (nA i) r=spot then bD (nB i) (nA i) spot (8*i) (nK fs bs (nB i) (nA i)) else[]
def aa3(fs bs:List (List Id))(r spot:Int):List Hd:=(List.range 80).flatMap (Pl fs bs r spot)
def ba(fs bs:List (List Id))(r:Int):List Hd:=(List.range 95).flatMap λ(s:Nat)=>aa3 fs bs r (-12+2*(s:Int))
def po(a b:Id):Int:=if jX a.y b.y≠0 then jX a.y b.y else jX a.n b.n
structure Crs where
 a:Id
 b:Id
 n:Int
 deriving Inhabited,DecidableEq
instance:Cell Crs where
 z:=5
 cs c:=[.int .u8 c.a.y,.int .i64 c.a.n,.int .u8 c.b.y,.int .i64 c.b.n,.int .i64 c.n]
 len _:=rfl
 one _:=rfl
 pos:=by omega
def tJ(c:Crs):Cell.cs c=[.int .u8 c.a.y,.int .i64 c.a.n,.int .u8 c.b.y,.int .i64 c.b.n,.int .i64 c.n]:=rfl
def pC:Cell.z Crs=5:=rfl
def Ce(x y:Crs):Int:=if po x.a y.a≠0 then po x.a y.a else po x.b y.b
def ids:List IV->List Id|.int _ y::.int _ n::r=>⟨y,n⟩::ids r|_=>[]
def Dt(H:Heap):IV->List Id|.slice b o n _ _=>ids ((H.read b o (n*2)).getD [])|_=>[]
def AG(H:Heap):IV->List (List Id)|.slice b o n _ _=>((H.read b o (n*1)).getD []).map (Dt H)|_=>[]
def IK:List (IV×IV×Nat)->List Crs|(.agg [.int _ a,.int _ b,.int _ c,.int _ d],.int _ n,_)::r=>⟨⟨a,b⟩,⟨c,d⟩,n⟩::IK r|_=>[]
def ZM(H:Heap):IV->Nat×List IV|.slice b _ n _ _=>(n,match H.get b with|some (.cells _ _ _ cs)=>cs|_=>[])|_=>(0,[])
def eK(x y:Crs):Bool:=decide (Ce x y<=0)
def fJ(x y:Id):Bool:=decide (po x y<=0)
def Q2:List IObj->Heap->Heap|[],H=>H|o::l,H=>Q2 l (H.new o)
def UK:∀(l:List IObj)(H:Heap),(Q2 l H).n=H.n+l.length|[],H=>rfl|o::l,H=>by rw[Q2,UK l,af,bG];omega
def qe:∀(l:List IObj)(H:Heap)(b:Nat),(Q2 l H).get b=if H.n<=b/\b<H.n+l.length then l[b - H.n]? else H.get b|[],H,b=>by rw[if_neg (by simp only[dq];omega)];rfl|o::l,H,b=>by rw[Q2,qe l,af,ak,bG];by_cases h:H.n=b;{subst h;rw[iN,if_pos rfl,iP,mT];rfl};{rw[if_neg h];by_cases E:H.n+1<=b/\b<H.n+1+l.length;{rw[if_pos E,iP,show b - H.n=(b - (H.n+1))+1 by omega];rfl};{rw[if_neg E,iN]}}
def stH(H:Heap)(tb I F:Nat)(E:List (Nat×List IV))(cr:List Crs)(hd fa:List Id):Heap:=Q2 (E.map (λp=>.cells false 101 4 p.2)++[.cells false 115 5 (ax cr),.cells false 104 2 (ax hd),.cells false 104 2 (ax fa)]) ((H.put tb (.cells false F 1 (E.mapIdx λi p=>.slice (H.n+i) 0 p.1 p.1 true))).put I .dead)
def stC(args:List IV)(H:Heap):Option (IV×Heap):=match args with|[.ptr mb 0]=>(match H.get mb with|some (.cells _ _ _ [.int .i64 r,f,b,y,.slice tb 0 6 6 true,.map cb,.slice E o O I T])=>(match H.get tb,H.get cb with|some (.cells _ U _ rows),some (.map F _)=>some (.agg [.int .i64 r,f,b,y,.slice tb 0 6 6 true,.slice (H.n+6) 0 (IK F).length (IK F).length true,.slice (H.n+7) 0 (ba (AG H f) (AG H b) r).length (ba (AG H f) (AG H b) r).length true,.slice (H.n+8) 0 (Dt H (.slice E o O I T)).length (Dt H (.slice E o O I T)).length true],stH H tb E U (rows.map (ZM H)) ((IK F).mergeSort eK) ((ba (AG H f) (AG H b) r).map (·.id)) ((Dt H (.slice E o O I T)).mergeSort fJ))|_,_=>none)|_=>none)|_=>none
def ML(args:List IV)(H:Heap):Option (IV×Heap):=match args with|[.slice b 0 n _ false,.int .i64 i,.slice E 0 1 1 true]=>(match H.get b,H.get E with|some (.cells _ e _ cs),some (.cells _ _ _ [x])=>some (.slice H.n 0 (n+1) (n+1) false,(H.put b .dead).new (.cells false e 1 (cs.take i.toNat++x::(cs.take n).drop i.toNat)))|_,_=>none)|_=>none
end Go.Iso.Gen
