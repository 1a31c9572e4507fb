/-
  definitions.
-/
import Derived.Test.YtkeadbgfiiphlaaGreatDoorIsoP7
set_option linter.defProp false
set_option linter.unusedSimpArgs false
set_option linter.unusedVariables false
namespace Go.Iso.Gen
open Go.Iso
def QX{p:Prop}(h:p:=by simp only[List.range,List.range.loop,aO,aL];exact rfl):p:=h
def mr{p:Prop}(h:p:=by rw[af];omega):p:=h
def pr{p:Prop}(h:p:=by rw[ai,af];omega):p:=h
def Y0{p:Prop}(h:p:=by rw[ai];omega):p:=h
def BO{p:Prop}(h:p:=by simp;omega):p:=h
def fR{p:Prop}(h:p:=by simp):p:=h
def ye{p:Prop}(h:p:=by decide):p:=h
def Aue{p:Prop}(h:p:=by grind):p:=h
def GD{p:Prop}(h:p:=by grind[ai,af]):p:=h
def Aui{p:Prop}(h:p:=by simp only;split<;>omega):p:=h
def OE{p:Prop}(h:p:=by rw[aa,iN]):p:=h
def Auk{p:Prop}(h:p:=by rw[aa,if_pos rfl]):p:=h
def Aul{p:Prop}(h:p:=by rw[bp];omega):p:=h
structure Id where
 y:Int
 n:Int
 deriving DecidableEq,Inhabited
instance:Cell Id where
 z:=2
 cs a:=[.int .u8 a.y,.int .i64 a.n]
 len _:=rfl
 one _:=rfl
 pos:=by omega
def dc(a:Id):Cell.cs a=[.int .u8 a.y,.int .i64 a.n]:=rfl
def fl:Cell.z Id=2:=rfl
def ar(bed at_:Int):Int:=if (bed=0\/bed=1)/\1<=at_/\at_<=40 then 0 else 1
def nj(fs bs:List (List Id))(bed at_:Int):List Id:=if ar bed at_=0 then((if bed=1 then bs else fs)[(at_ - 1).toNat]?).getD [] else[]
def bv(f b:SV):IV:=.agg [f.iv,b.iv]
structure Hd where
 id:Id
 bed:Int
 at_:Int
 spot:Int
 k:Nat
 deriving Inhabited
instance:Cell Hd where
 z:=5
 cs h:=[.int .u8 h.id.y,.int .i64 h.id.n,.int .u8 h.bed,.int .i64 h.at_,.int .i64 h.spot]
 len _:=rfl
 one _:=rfl
 pos:=by omega
def DE(h:Hd):Cell.cs h=[.int .u8 h.id.y,.int .i64 h.id.n,.int .u8 h.bed,.int .i64 h.at_,.int .i64 h.spot]:=rfl
def kl:Cell.z Hd=5:=rfl
def iF(a b:Int):Int:=if a<b then -1 else if a>b then 1 else 0
def bR(r:Int):Bool:=decide (r>= -4)&&decide (r<=4)
def aw(bed at_ r:Int):Int:=if ar bed at_=0/\bR r=true then(if bed=0 then 4*at_+2 else 4*(at_+r)) else 0
def bK(bed at_ spot:Int)(k0:Nat)(st:List Id):List Hd:=st.mapIdx λj a=>⟨a,bed,at_,spot,k0+j⟩
def nB(i:Nat):Int:=((i%80 / 40:Nat):Int)
def nA(i:Nat):Int:=((1+i%40:Nat):Int)
def Of(fs bs:List (List Id))(r spot:Int)(i:Nat):List Hd:=if aw (nB i) (nA i) r=spot then bK (nB i) (nA i) spot (8*i) (nj fs bs (nB i) (nA i)) else[]
def abc(fs bs:List (List Id))(r spot:Int):List Hd:=(List.range 80).flatMap (Of fs bs r spot)
def aZ(fs bs:List (List Id))(r:Int):List Hd:=(List.range 95).flatMap λ(s:Nat)=>abc fs bs r (-12+2*(s:Int))
def mX(a b:Id):Int:=if iF a.y b.y≠0 then iF a.y b.y else iF a.n b.n
structure Crs where
 a:Id
 b:Id
 n:Int
 deriving Inhabited,DecidableEq
instance:Cell Crs where
 z:=5
 cs c:=[.int .u8 c.a.y,.int .i64 c.a.n,.int .u8 c.b.y,.int .i64 c.b.n,.int .i64 c.n]
 len _:=rfl
 one _:=rfl
 pos:=by omega
def tp(c:Crs):Cell.cs c=[.int .u8 c.a.y,.int .i64 c.a.n,.int .u8 c.b.y,.int .i64 c.b.n,.int .i64 c.n]:=rfl
def pK:Cell.z Crs=5:=rfl
def Bq(x y:Crs):Int:=if mX x.a y.a≠0 then mX x.a y.a else mX x.b y.b
def ids:List IV->List Id|.int _ y::.int _ n::r=>⟨y,n⟩::ids r|_=>[]
def CL(H:Heap):IV->List Id|.slice b o n _ _=>ids ((H.read b o (n*2)).getD [])|_=>[]
def zJ(H:Heap):IV->List (List Id)|.slice b o n _ _=>((H.read b o (n*1)).getD []).map (CL H)|_=>[]
def Hw:List (IV×IV×Nat)->List Crs|(.agg [.int _ a,.int _ b,.int _ c,.int _ d],.int _ n,_)::r=>⟨⟨a,b⟩,⟨c,d⟩,n⟩::Hw r|_=>[]
def ZZ(H:Heap):IV->Nat×List IV|.slice b _ n _ _=>(n,match H.get b with|some (.cells _ _ _ cs)=>cs|_=>[])|_=>(0,[])
def eU(x y:Crs):Bool:=decide (Bq x y<=0)
def gg(x y:Id):Bool:=decide (mX x y<=0)
def PQ:List IObj->Heap->Heap|[],H=>H|o::l,H=>PQ l (H.new o)
def Ue:∀(l:List IObj)(H:Heap),(PQ l H).n=H.n+l.length|[],H=>rfl|o::l,H=>by rw[PQ,Ue l,af,cQ];omega
def qh:∀(l:List IObj)(H:Heap)(b:Nat),(PQ l H).get b=if H.n<=b/\b<H.n+l.length then l[b - H.n]? else H.get b|[],H,b=>by rw[if_neg (by simp only[cZ];omega)];rfl|o::l,H,b=>by rw[PQ,qh l,af,ak,cQ];by_cases h:H.n=b;{subst h;rw[iN,if_pos rfl,iP,vP];rfl};{rw[if_neg h];by_cases q:H.n+1<=b/\b<H.n+1+l.length;{rw[if_pos q,iP,show b - H.n=(b - (H.n+1))+1 by omega];rfl};{rw[if_neg q,iN]}}
def stH(H:Heap)(tb F E:Nat)(q:List (Nat×List IV))(cr:List Crs)(hd fa:List Id):Heap:=PQ (q.map (λp=>.cells false 135 4 p.2)++[.cells false 126 5 (aB cr),.cells false 115 2 (aB hd),.cells false 115 2 (aB fa)]) ((H.put tb (.cells false E 1 (q.mapIdx λi p=>.slice (H.n+i) 0 p.1 p.1 true))).put F .dead)
def stC(args:List IV)(H:Heap):Option (IV×Heap):=match args with|[.ptr mb 0]=>(match H.get mb with|some (.cells _ _ _ [.int .i64 r,f,b,y,.slice tb 0 6 6 true,.map cb,.slice q o I F O])=>(match H.get tb,H.get cb with|some (.cells _ Q _ rows),some (.map E _)=>some (.agg [.int .i64 r,f,b,y,.slice tb 0 6 6 true,.slice (H.n+6) 0 (Hw E).length (Hw E).length true,.slice (H.n+7) 0 (aZ (zJ H f) (zJ H b) r).length (aZ (zJ H f) (zJ H b) r).length true,.slice (H.n+8) 0 (CL H (.slice q o I F O)).length (CL H (.slice q o I F O)).length true],stH H tb q Q (rows.map (ZZ H)) ((Hw E).mergeSort eU) ((aZ (zJ H f) (zJ H b) r).map (·.id)) ((CL H (.slice q o I F O)).mergeSort gg))|_,_=>none)|_=>none)|_=>none
end Go.Iso.Gen
