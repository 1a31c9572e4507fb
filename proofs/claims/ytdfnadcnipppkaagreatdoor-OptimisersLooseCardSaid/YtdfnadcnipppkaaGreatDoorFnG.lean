/-
  what the functions compute, part 7.
-/
import Derived.Test.YtdfnadcnipppkaaGreatDoorFnF
import Derived.Test.YtdfnadcnipppkaaGreatDoorFnE
import Derived.Test.YtdfnadcnipppkaaGreatDoorFnD
import Derived.Test.YtdfnadcnipppkaaGreatDoorFnC
import Derived.Test.YtdfnadcnipppkaaGreatDoorFnB
import Derived.Test.YtdfnadcnipppkaaGreatDoorIsoP7
import Derived.Test.YtdfnadcnipppkaaGreatDoorFnA
import Derived.Shelf.Spec.SlicesInsertGrow
import Derived.Test.YtdfnadcnipppkaaGreatDoorProg
import Derived.KernelRfl
set_option linter.unusedSimpArgs false
set_option linter.unusedVariables false
set_option maxHeartbeats 8000000
set_option maxRecDepth 100000
set_option linter.defProp false
open Go.Iso.IV renaming int→qq0,bool→qq7,slice→qq4,tuple→qq5,agg→qq6
open Go.IntKind renaming i64→qq1,u8→qq2
section
namespace Go.Iso.Gen
open Go.Iso Go.Proofs Go.Proofs.Tryz
variable {H:Heap}{v:SV}{lo:Nat}{Q:A1}{l:List Opn}
structure TB(B:Int)(s:TS):Prop where
 s0:0≤s.sum
 s1:s.sum≤B
 rk: -4≤s.rk∧s.rk≤4
 lh: -20≤s.lo∧s.lo≤s.hi∧s.hi≤80
def abg{o:Opn}(h:fW o=0)(I:dg o.k≠0){r:Int}(hr: -4<=r/\r<=4): -20<=wX o r/\wX o r<=80:=by have hn:ar o.b o.a=0:=by{obtain⟨_,_,U,V,Y,Z,p4,O⟩:=j7 h;have T:¬(o.k=1\/o.k=2\/o.k=3):=λq=>I ((Kh h).2 q);have:=OM h;by_cases c:o.k=4\/o.k=5\/o.k=6;{exact(p4 c).2.1};{exact O (by omega)}};have hs: -20<=au o.b o.a r/\au o.b o.a r<=200:=by{have F:=eN hn;rcases F.1 with E|E;{rw[E] at hn⊢;rw[LK hn hr];have:=F.2;omega};{rw[E] at hn⊢;rw[Qc hn hr];have:=F.2;omega}};unfold wX;have e:(2:Int)^(Min.min (2:Int).toNat IntKind.i64.bits)=4:=rfl;rw[e,Int.fdiv_eq_ediv_of_nonneg _ (by omega)];omega
def S8{B:Int}{s:TS}(h:TB B s)(Y:B<=100000000){o:Opn}(ho:fW o=0):TB (B+16) (mB s o):=by obtain⟨h0,V,F,O⟩:=h;unfold mB;by_cases I:dg o.k=0;{rw[if_pos I];unfold trk;by_cases E:o.k=3;{rw[if_pos E];have hr:=OL ho E;have T:IntKind.i64.wrap (o.r - s.rk)=o.r - s.rk:=eH (by omega) (by omega);have U:IntKind.i64.wrap (s.rk - o.r)=s.rk - o.r:=eH (by omega) (by omega);have hm:0<=Bp (o.r - s.rk) (s.rk - o.r)/\Bp (o.r - s.rk) (s.rk - o.r)<=8:=by{unfold Bp;split<;>omega};rw[T,U,eH (x:=2*Bp (o.r - s.rk) (s.rk - o.r)) (by omega) (by omega),eH (by omega) (by omega)];exact⟨by simp only;omega,by simp only;omega,hr,O⟩};{rw[if_neg E];exact⟨h0,by omega,F,O⟩}};{rw[if_neg I];have Z:=abg ho I F;split;{refine⟨h0,by simp only;omega,F,?_⟩;simp only;unfold X9 Bp;split<;>split<;>omega};{exact⟨h0,by simp only;omega,F,by simp only;omega⟩}}
def Ih:∀(l:List Opn){B:Int}{s:TS},TB B s->B+16*l.length<=100000000->(∀o∈l,fW o=0)->TB (B+16*l.length) (l.foldl mB s)|[],B,s,h,_,_=>by simpa using h|o::l,B,s,h,E,ho=>by rw[bG] at E⊢;have:=Ih l (S8 h (by omega) (ho o (by simp))) (by omega) λx hx=>ho x (by simp[hx]);rw[nm];have e:B+16*((l.length+1:Nat):Int)=B+16+16*l.length:=by{omega};rw[e];exact this
def S9(hl:l.length<=200)(ho:∀o∈l,fW o=0){B:Int}(hB:B<=10000000){s:Int×Int}(h:0<=s.1/\s.1<=B/\ -4<=s.2/\s.2<=4)(p:Nat×Nat):0<=(sx l s p).1/\(sx l s p).1<=B+4000/\ -4<=(sx l s p).2/\(sx l s p).2<=4:=by have E:((l.drop p.1).take p.2).length<=200:=by{rw[bF,cG];omega};have F:=Ih ((l.drop p.1).take p.2) (B:=B) (s:=⟨s.1,s.2,false,0,0⟩) ⟨h.1,h.2.1,h.2.2,by simp only;omega⟩ (by omega) λo q=>ho o (L6 (uL q));unfold sx;simp only;generalize ((l.drop p.1).take p.2).foldl mB ⟨s.1,s.2,false,0,0⟩=t at F;obtain⟨h0,Y,V,Z⟩:=F;have I:IntKind.i64.wrap (1+t.hi)=1+t.hi:=eH (by omega) (by omega);have O:IntKind.i64.wrap (1+t.hi - t.lo)=1+t.hi - t.lo:=eH (by omega) (by omega);have T:IntKind.i64.wrap (1+t.hi - t.lo+1)=1+t.hi - t.lo+1:=eH (by omega) (by omega);have U:IntKind.i64.wrap (t.sum+(1+t.hi - t.lo+1))=t.sum+(1+t.hi - t.lo+1):=eH (by omega) (by omega);rw[I,O,T,U];refine⟨?_,?_,V⟩;{split<;>omega};{split<;>omega}
def Td(hl:l.length<=200)(ho:∀o∈l,fW o=0):0<=Af l/\Af l<=1000000:=by have key:∀(vs:List (Nat×Nat))(B:Int)(s:Int×Int),B+4000*vs.length<=10000000->(0<=s.1/\s.1<=B/\ -4<=s.2/\s.2<=4)->0<=(vs.foldl (sx l) s).1/\(vs.foldl (sx l) s).1<=B+4000*vs.length:=by{intro vs;induction vs with|nil=>intro B s E F;simp only[List.foldl_nil,dq];omega|cons p vs I=>intro B s E F;rw[bG] at E⊢;rw[nm];have:=I (B+4000) _ (by omega) (S9 hl ho (by omega) F p);omega};have hn:=UL l;rw[<-qN] at hn;have:=key (vF l) 0 (0,0) (by omega) (by simp);unfold Af CM;omega
def imM(l:List Opn):Nat:=(iB l).toNat*300000000+(Af l).toNat*250+l.length
def Wt{a b:List Opn}(I:a.length<=200)(O:b.length<=200)(E:∀o∈a,fW o=0)(F:∀o∈b,fW o=0)(h:xF a b=true):imM a<imM b:=by obtain⟨c1,c2⟩:=G0 I;obtain⟨c3,c4⟩:=G0 O;obtain⟨Y,Z⟩:=Td I E;obtain⟨t3,t4⟩:=Td O F;have T:Yu a b=iB a - iB b:=eH (by omega) (by omega);have U:ZY a b=Af a - Af b:=eH (by omega) (by omega);have V:gnN a b=(a.length:Int) - b.length:=rfl;unfold xF at h;rw[T,U,V] at h;unfold imM;generalize iB a=p at *;generalize iB b=q at *;generalize Af a=s at *;generalize Af b=t at *;split at h;{split at h;{have:=of_decide_eq_true h;omega};{have:=of_decide_eq_true h;omega}};{have:=of_decide_eq_true h;omega}
def cM(m:List Bool):List Opn:=jw aO bO 0 0 m
def nu(m:List Bool):(cM m).length=cT m+cF m:=by unfold cM;rw[uy,cTF]
def uZ{m:List Bool}(E:cT m<=13)(F:cF m<=13):cy 0 M0 (cM m)=.ok (KS (cT m) (cF m)):=by have:=Aq m 0 0 0 (by omega) (by omega);rw[ag9,bu,bu] at this;exact this
def Ar{α:Type}{f g:Nat->α}{x:α}:∀{m:List Bool}{i j:Nat},x∈jw f g i j m->(∃k,x=f k)\/∃k,x=g k|[],_,_,h=>by cases h|true::m,i,j,h=>by rcases List.mem_cons.1 h with h|h;{exact .inl ⟨_,h⟩};{exact Ar h}|false::m,i,j,h=>by rcases List.mem_cons.1 h with h|h;{exact .inr ⟨_,h⟩};{exact Ar h}
def Vv{l:List Opn}(h:∀o∈l,o.k=1\/o.k=4)(bs:List Bf){i:Nat}(hi:i<l.length):∀w,fk l bs i w=0|0=>rfl|w+1=>by show(if fk l bs i w=0 then _ else _)=0;have I:=h _ (aN hi);have e:=eC hi;rw[if_pos (Vv h bs hi w)];unfold tG;split;{unfold Il;rw[if_neg (by rw[e];omega)]};split;{unfold AI;rw[if_neg (by rw[e];omega)]};split;{unfold Ku;rw[if_neg (by rw[e];omega)]};split;{unfold Ja;rw[if_neg (by rw[e];omega)]};{unfold BP;rw[if_neg];rintro⟨-,q1,F,-⟩;have E:i+1<l.length:=by{omega};rw[eC E] at F;have:=h _ (aN E);omega}
def Ub{l:List Opn}(h:∀o∈l,o.k=1\/o.k=4)(bs:List Bf)(c:Nat):∀n i,yH n l bs i c=(l,c)|0,_=>rfl|n+1,i=>by unfold yH;split;{rename_i hi;rw[if_pos (Vv h bs hi 5)];exact Ub h bs c n (i+1)};{rfl}
def IG(m:List Bool):nj (cM m)=(cM m,0):=Ub (λo ho=>by rcases Ar ho with⟨k,rfl⟩|⟨k,rfl⟩;{rw[aja];split<;>simp};{rw[ai8];split<;>simp}) _ _ _ _
def bdM(m:List Bool):Nat:=(if cT m<=1 then 0 else 1)+(if cF m<=1 then 0 else 1)
def Y5{m:List Bool}(V:cT m<=13)(O:cF m<=13):∃E,cT E=cT m/\cF E=cF m/\Kv (cM m)=cM E/\iB (cM E)<=(bdM m:Int):=by have hw:ng w0 (cM m)=jw fA fB 0 0 m:=wq m 0 0 (by omega) (by omega);have I:cM m=(sE 0 0 m).map (·.1):=(pK (λx:Ev=>x.1) MX MW m 0 0).symm;have U:ng w0 (cM m)=(sE 0 0 m).map (·.2):=hw.trans (pK (λx:Ev=>x.2) MX MW m 0 0).symm;have Z:∀k (F:k<(sE 0 0 m).length),gW (cM m) k=(sE 0 0 m)[k]:=λk F=>by{unfold gW;rw[U,I,cq (by simpa using F),cq (by simpa using F),cj,cj]};have Y:(List.range (cM m).length).map (gW (cM m))=sE 0 0 m:=by{have hl:(cM m).length=(sE 0 0 m).length:=by{rw[I,aQ]};refine iF (by simp[hl]) λk V O=>?_;rw[cj,List.getElem_range,Z k O]};obtain⟨E,q1,q2,q3,q4⟩:=qS (gW (cM m)) (cM m).length W6 cp0 (List.range (cM m).length) m 0 0 none (by simp) Y (by omega) (by omega) ⟨⟨rfl,rfl⟩,⟨rfl,rfl⟩,⟨λq=>(by cases q),λq=>(by cases q)⟩,λq=>absurd rfl q⟩;refine⟨E,q1,q2,?_,?_⟩;{have:Kv (cM m)=((Kw (gW (cM m)) (cM m).length W6 (List.range (cM m).length)).map (gW (cM m))).map (·.1):=by{unfold Kv;rw[sV];rfl};rw[this,q3];exact pK (λx:Ev=>x.1) MX MW E 0 0};{have hl:=nu E;rw[ab2 (by omega)];have:(cN (cM E):Int)<=((cp0.n+bdC 0 0 m none:Nat):Int):=Int.ofNat_le.2 q4;refine Int.le_trans this ?_;have T:cp0.n=0:=rfl;unfold bdC bdM;simp only[reduceCtorEq,false_or,T];split<;>split<;>split<;>split<;>omega}
def Yr:∀(K:Nat)(m:List Bool),imM (cM m)=K->cT m<=13->cF m<=13->∃k E,ImC k (cM m) (cM E)/\cT E=cT m/\cF E=cF m/\iB (cM E)<=(bdM m:Int):=by intro K;induction K using Nat.strongRecOn with|ind K ih=>intro m hK Y Z;obtain⟨E,q1,q2,T,q4⟩:=Y5 Y Z;have U:=uZ Y Z;have V:=uZ (m:=E) (by omega) (by omega);have l1:=nu m;have l2:=nu E;have o1:=cZ U;have o2:=cZ V;have I:(nj (Kv (cM m))).1=cM E:=by{rw[T,IG]};cases F:xF (cM E) (cM m) with|false=>refine⟨0,m,.stop U (by rw[T];exact V) (by omega) (by rw[I];exact F),rfl,rfl,?_⟩;obtain⟨c1,c2⟩:=G0 (l:=cM m) (by omega);obtain⟨c3,c4⟩:=G0 (l:=cM E) (by omega);have e1:Yu (cM E) (cM m)=iB (cM E) - iB (cM m):=eH (by omega) (by omega);unfold xF at F;rw[e1] at F;split at F;{omega};{have:=of_decide_eq_false F;omega}|true=>have O:=Wt (by omega) (by omega) o2 o1 F;obtain⟨k,m2,w1,w2,w3,w4⟩:=ih _ (hK▸O) E rfl (by omega) (by omega);refine⟨k+1,m2,.step U (by rw[T];exact V) (by omega) (by rw[I];exact F) (by rw[I];exact w1),by omega,by omega,?_⟩;have:bdM E=bdM m:=by{unfold bdM;rw[q1,q2]};rw[<-this];exact w4
def aL(n:Nat):List Opn:=(List.range (n+1)).map aO
def bL(n:Nat):List Opn:=(List.range (n+1)).map bO
def okN:Bool:=(List.range 13).all λn=>decide (iB (aL n)=if n=0 then 0 else 1)&&decide (iB (bL n)=if n=0 then 0 else 1)
def abn:okN=true:=by kernel_rfl
def G1{n:Nat}(h:n<=12):iB (aL n)=(if n=0 then 0 else 1)/\iB (bL n)=if n=0 then 0 else 1:=by have:=jk abn (i:=n) (by omega);rw[bp,decide_eq_true_eq,decide_eq_true_eq] at this;exact this
def Uy{n:Nat}(h:n<=12):(∀o∈aL n,fW o=0)/\∀o∈bL n,fW o=0:=by constructor;{intro o ho;obtain⟨i,hi,rfl⟩:=List.mem_map.1 ho;exact(ON (i:=i) (j:=0) (by have:=List.mem_range.1 hi;omega) (by omega)).2.2.1.1};{intro o ho;obtain⟨i,hi,rfl⟩:=List.mem_map.1 ho;exact(ON (i:=i) (j:=0) (by have:=List.mem_range.1 hi;omega) (by omega)).2.2.1.2}
def okX:Except (Nat×Int) Mc->Bool|.ok _=>true|.error _=>false
def Gj{x:Except (Nat×Int) Mc}(h:okX x=true):∃M,x=.ok M:=by cases x with|ok M=>exact⟨M,rfl⟩|error e=>cases h
def l36a:List Opn:=[⟨1,0,0,0,1,0⟩,⟨1,1,0,0,2,0⟩,⟨4,1,0,1,1,0⟩,⟨4,0,0,9,2,0⟩,⟨4,1,0,2,1,0⟩,⟨4,0,0,8,2,0⟩]
def nv:List Opn:=[⟨1,0,0,0,1,0⟩,⟨1,1,0,0,2,0⟩,⟨4,1,0,1,1,0⟩,⟨4,1,0,2,1,0⟩,⟨4,0,0,9,2,0⟩,⟨4,0,0,8,2,0⟩]
def Yf:List Opn:=[⟨1,0,0,0,1,0⟩,⟨6,1,0,2,1,0⟩,⟨3,0,0,0,0,1⟩,⟨3,0,0,0,0,0⟩,⟨4,1,0,4,1,0⟩]
def vh:List Opn:=[⟨1,0,0,0,1,0⟩,⟨4,1,0,4,1,0⟩]
def U1:(∃M,cy 0 M0 l36a=.ok M)/\(∃M,cy 0 M0 nv=.ok M)/\(∃M,cy 0 M0 Yf=.ok M)/\∃M,cy 0 M0 vh=.ok M:=⟨Gj (by kernel_rfl),Gj (by kernel_rfl),Gj (by kernel_rfl),Gj (by kernel_rfl)⟩
def U2:Kv l36a=nv/\Kv nv=nv/\Kv vh=vh:=⟨by kernel_rfl,by kernel_rfl,by kernel_rfl⟩
def OX:(nj l36a).1=l36a/\(nj nv).1=nv/\(nj Yf).1=vh/\(nj vh).1=vh:=⟨by kernel_rfl,by kernel_rfl,by kernel_rfl,by kernel_rfl⟩
def OY:xF nv l36a=true/\xF l36a nv=false/\xF nv nv=false/\xF vh vh=false/\Yu l36a nv=2/\ZY l36a nv=2/\gnN l36a nv=0:=⟨by kernel_rfl,by kernel_rfl,by kernel_rfl,by kernel_rfl,by kernel_rfl,by kernel_rfl,by kernel_rfl⟩
end Go.Iso.Gen
end
