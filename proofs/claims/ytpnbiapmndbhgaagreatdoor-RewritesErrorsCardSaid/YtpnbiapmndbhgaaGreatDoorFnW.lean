/-
  what is told of programs.
-/
import Derived.Test.YtpnbiapmndbhgaaGreatDoorIsoP7
import Derived.Test.YtpnbiapmndbhgaaGreatDoorFnUb
set_option linter.unusedSimpArgs false
set_option linter.unusedVariables false
set_option maxHeartbeats 4000000
set_option maxRecDepth 10000
set_option linter.defProp false
namespace Go.Iso
theorem rW{α:Type}[Cell α]{H:Heap}{b e cap:Nat}{l:List α}(h:Own H b e cap l){z:Nat}(hz:Cell.z α=z):rX H b z=true:=by
 subst hz;obtain⟨h1,h2,r,h3,h4⟩:=h;unfold rX;rw[h3];simp
theorem PA{k n:Nat}(h:k≤n):bk n (.int .i64 (k:Int))=some k:=by
 show(if 0≤(k:Int)∧(k:Int)≤(n:Int) then some (k:Int).toNat else none)=_
 rw[if_pos (by omega)];simp
theorem K2{len top a:Nat}(h:a≤top):aI len top false true false [.int .i64 (a:Int)]=some (0,a,none):=by
 simp only[aI,PA h,Option.map_some]
theorem K1{len top a:Nat}(h:a≤len):aI len top true false false [.int .i64 (a:Int)]=some (a,len,none):=by
 simp only[aI,PA h,Option.map_some]
theorem IR{α:Type}[Cell α]{H:Heap}{b e cap:Nat}{l:List α}(ho:Own H b e cap l){z:Nat}(hz:Cell.z α=z)(n a:Nat)(ex:Bool)(ha:a≤n)(hn:n≤cap)(lo:Nat):
  ev1 (.slc z false true false) [.slice b 0 n cap ex,.int .i64 (a:Int)] lo H=some (.slice b 0 a cap ex,H):=by
 have e1:=rW ho hz;simp only[ev1,e1,Bool.or_true,if_true,aI,bk];rw[if_pos (by omega)];simp
theorem IP{α:Type}[Cell α]{H:Heap}{b e cap:Nat}{l:List α}(ho:Own H b e cap l){z:Nat}(hz:Cell.z α=z)(n a:Nat)(ex:Bool)(ha:a≤n)(hn:n≤cap)(lo:Nat):
  ev1 (.slc z true false false) [.slice b 0 n cap ex,.int .i64 (a:Int)] lo H=some (.slice b (a*z) (n - a) (cap - a) ex,H):=by
 have e1:=rW ho hz;simp only[ev1,e1,Bool.or_true,if_true,aI,bk];rw[if_pos (by omega)];simp
theorem IQ{α:Type}[Cell α]{H:Heap}{b e cap:Nat}{l:List α}(ho:Own H b e cap l){z:Nat}(hz:Cell.z α=z)(n a c:Nat)(ex:Bool)(ha:a≤c)(hc:c≤cap)(hn:n≤cap)(lo:Nat):
  ev1 (.slc z true true false) [.slice b 0 n cap ex,.int .i64 (a:Int),.int .i64 (c:Int)] lo H=some (.slice b (a*z) (c - a) (cap - a) ex,H):=by
 have e1:=rW ho hz;simp only[ev1,e1,Bool.or_true,if_true,aI,bk];rw[if_pos (by omega)];simp;omega
theorem E2{α:Type}[Cell α]{H:Heap}{b e cap:Nat}{l:List α}(ho:Own H b e cap l){z:Nat}(hz:Cell.z α=z)(n a c m:Nat)(ex:Bool)(ha:a≤c)(hc:c≤m)(hm:m≤cap)(hn:n≤cap)(lo:Nat):
  ev1 (.slc z true true true) [.slice b 0 n cap ex,.int .i64 (a:Int),.int .i64 (c:Int),.int .i64 (m:Int)] lo H=some (.slice b (a*z) (c - a) (m - a) true,H):=by
 have e1:=rW ho hz
 have b1:∀{k n:Nat},k≤n→bk n (.int .i64 (k:Int))=some k:=fun{k n} h=>by
  show(if 0≤(k:Int)∧(k:Int)≤(n:Int) then some (k:Int).toNat else none)=_
  rw[if_pos (by omega)];simp
 simp only[ev1,e1,Bool.or_true,if_true,aI,b1 hm,b1 hc,b1 ha,Option.bind_some,Option.map_some,Nat.zero_add]
theorem xF{α:Type}[Cell α]{H:Heap}{b e cap:Nat}{l:List α}(ho:Own H b e cap l){z:Nat}(hz:Cell.z α=z){zs:List IV}(hzs:zs.length=z)(hone:zs.all IV.one=true)(n c:Nat)(ex:Bool)(hn:l.length+n≤cap)(lo:Nat)(hlo:lo≤b):
  ∃H2,ev1 (.clear zs) [.slice b (l.length*z) n c ex] lo H=some (.tuple [],H2)∧H2.n=H.n∧(∀b',b'≠b→H2.get b'=H.get b')∧Own H2 b e cap l:=by
 subst hz;obtain⟨h1,h2,r,h3,h4⟩:=ho;have hfl:=ao l;by_cases h0:n=0
 ·subst h0;exact⟨H,rfl,rfl,fun _ _=>rfl,h1,h2,r,h3,h4⟩
 have hrl:(iU n zs).length=n*Cell.z α:=by
  have:∀k,(iU k zs).length=k*Cell.z α:=by
   intro k
   induction k with
   | zero=>simp[iU]
   | succ k ih=>rw[iU,List.length_append,ih,hzs,Nat.succ_mul,Nat.add_comm]
  exact this n
 have hro:(iU n zs).all IV.one=true:=by
  have:∀k,(iU k zs).all IV.one=true:=by
   intro k
   induction k with
   | zero=>rfl
   | succ k ih=>rw[iU,List.all_append,hone,ih];rfl
  exact this n
 have hle:n*Cell.z α≤r.length:=by rw[h4];exact Nat.mul_le_mul_right _ (by omega)
 simp only[ev1];rw[if_neg h0];unfold Heap.write;rw[h3];simp only;rw[if_pos ⟨hlo,by rw[List.length_append];omega,hro⟩];refine⟨_,rfl,rfl,fun b' hb=>by rw[aa,if_neg (Ne.symm hb)],h1,h2,iU n zs++r.drop (n*Cell.z α),?_,by rw[List.length_append,List.length_drop,hrl,h4];omega⟩;rw[aa,if_pos rfl,bM _ _ _ (by rw[List.length_append];omega),hrl];rw[List.take_append_of_le_length (by omega),List.take_of_length_le (by omega),List.drop_append,List.drop_of_length_le (by omega)];simp only[List.nil_append,List.append_assoc,hfl];rw[Nat.add_sub_cancel_left]
theorem Bp{α:Type}[Cell α]{H:Heap}{b e cap:Nat}{l:List α}(ho:Own H b e cap l)(i:Nat):Own H b e cap (l.take i):=by
 obtain⟨h1,h2,r,h3,h4⟩:=ho;refine⟨by rw[List.length_take];omega,h2,aB (l.drop i)++r,?_,?_⟩
 ·rw[←List.append_assoc,←bY,List.take_append_drop];exact h3
 ·rw[List.length_append,ao,List.length_drop,List.length_take,h4,←Nat.add_mul];congr 1;omega
end Go.Iso
section
namespace Go.Iso.Gen
open Go.Iso
def opA(w y n r:Nat)(d:Int):Opn:=
 if w%16=0 then⟨1,d,0,0,(1+y%3:Nat),0⟩
 else if w%16=1 then⟨2,0,0,0,(1+y%3:Nat),0⟩
 else if w%16=2 then⟨3,0,0,0,0,((r%5:Nat):Int) - 2⟩
 else if w%16 < 10 then⟨4,d,(n%2:Nat),(1+n / 2%6:Nat),(1+y%3:Nat),0⟩
 else if w%16 < 12 then⟨5,d,(n%2:Nat),(1+n / 2%6:Nat),(1+y%3:Nat),0⟩
 else if w%16=12 then⟨6,d,(n%2:Nat),(1+n / 2%6:Nat),(1+y%3:Nat),0⟩
 else if w%16 < 15 then⟨7,0,(n%2:Nat),(1+n / 2%6:Nat),0,0⟩
 else⟨8,0,(n%2:Nat),(1+n / 2%6:Nat),0,0⟩
theorem EW(a b:Nat):(a:Int).tmod (b:Int)=((a%b:Nat):Int):=by
 rw[Int.tmod_eq_emod_of_nonneg (by omega)];rfl
theorem RZ(a b:Nat):(a:Int).tdiv (b:Int)=((a / b:Nat):Int):=by
 rw[Int.tdiv_eq_ediv_of_nonneg (by omega)];rfl
theorem m2(a:Nat):(a:Int).tmod 2=((a%2:Nat):Int):=EW a 2
theorem m3(a:Nat):(a:Int).tmod 3=((a%3:Nat):Int):=EW a 3
theorem m5(a:Nat):(a:Int).tmod 5=((a%5:Nat):Int):=EW a 5
theorem m6(a:Nat):(a:Int).tmod 6=((a%6:Nat):Int):=EW a 6
theorem d2(a:Nat):(a:Int).tdiv 2=((a / 2:Nat):Int):=RZ a 2
def aam(a b:Opn):Int:=if a.k≠b.k then iL a.k b.k else if a.y≠b.y then iL a.y b.y else if a.b≠b.b then iL a.b b.b else if a.a≠b.a then iL a.a b.a else if a.d≠b.d then iL a.d b.d else iL a.r b.r
structure Nw where
 v:Int
 deriving Inhabited
instance:Cell Nw where
 z:=1
 cs n:=[.int .i64 n.v]
 len _:=rfl
 one _:=rfl
 pos:=by omega
theorem ya(n:Nw):Cell.cs n=[.int .i64 n.v]:=rfl
theorem AN:Cell.z Nw=1:=rfl
structure Ft where
 y:Int
 rk:Bool
 st:Bool
 fr:Int
 to:Int
 w:List Nw
 deriving Inhabited
def ftL(f:Ft)(v:SV):List IV:=[.int .u8 f.y,.bool f.rk,.bool f.st,.int .i64 f.fr,.int .i64 f.to,v.iv]
def WR(b:Ft)(p:Nw):Bool:=decide (b.fr≤p.v)&&decide (p.v≤b.to)
def RY(a b:Ft):Bool:=a.w.any (WR b)
def W3(tm:List IV)(h:tm.length=25):=(bL tm 25 h).trans (by simp only[List.range,List.range.loop,List.map_cons,List.map_nil];exact rfl)
def R0(a b:Ft):Bool:=(a.rk&&!b.st)||(b.rk&&!a.st)
def R5(a b:Ft):Bool:=decide (a.y=b.y∧a.y≠0)||(a.rk&&b.rk)
def Za(a b:Ft):Bool:=!R5 a b&&!R0 a b&&!RY a b&&!RY b a
theorem A3:∀(cs:List IV),ar cs 0 []=cs
 | []=>rfl
 | _::_=>rfl
theorem ss:∀(cs:List IV) (i:Nat) (v:IV),ar cs i [v]=cs.set i v
 | [],_,_=>rfl
 | c::cs,0,v=>by show v::ar cs 0 []=_;rw[A3];rfl
 | c::cs,i+1,v=>by show c::ar cs i [v]=_;rw[ss cs i v];rfl
def NZ(z:Nat)(H:Heap)(b e:Nat):Prop:=∃cs,H.get b=some (.cells false e z cs)∧cs.length=z∧∀i,i < z→∃n:Int,cs[i]? =some (.int .i64 n)
theorem NZ.read{z:Nat}{H:Heap}{b e:Nat}(h:NZ z H b e)(i:Nat)(hi:i < z):∃n:Int,H.read b i 1=some [.int .i64 n]:=by
 obtain⟨cs,hg,hl,hc⟩:=h;obtain⟨n,hn⟩:=hc i hi;refine⟨n,?_⟩;rw[ae hg,if_pos (by omega)];obtain⟨h1,h2⟩:=List.getElem?_eq_some_iff.1 hn;rw[List.drop_eq_getElem_cons h1,h2];rfl
theorem NZ.write{z:Nat}{H:Heap}{b e:Nat}(h:NZ z H b e)(i:Nat)(hi:i < z)(n:Int){lo:Nat}(hlo:lo≤b):∃o,H.write lo b i [.int .i64 n]=some (H.put b o)∧NZ z (H.put b o) b e:=by
 obtain⟨cs,hg,hl,hc⟩:=h
 have hw:H.write lo b i [.int .i64 n]=some (H.put b (.cells false e z (ar cs i [.int .i64 n]))):=by
  unfold Heap.write;rw[hg]
  show(if lo≤b∧i+1≤cs.length∧_ then _ else _)=_
  rw[if_pos ⟨hlo,by omega,rfl⟩]
 have hs:ar cs i [.int .i64 n]=cs.set i (.int .i64 n):=ss cs i _;refine⟨_,hw,_,by rw[aa,if_pos rfl],by rw[hs,List.length_set];exact hl,fun j hj=>?_⟩;rw[hs,List.getElem?_set];by_cases hij:i=j
 ·subst hij;rw[if_pos rfl,if_pos (by omega)];exact⟨n,rfl⟩
 ·rw[if_neg hij];exact hc j hj
theorem NZ.same{z:Nat}{H H':Heap}{b e:Nat}(h:NZ z H b e)(hg:H'.get b=H.get b):NZ z H' b e:=by
 obtain⟨cs,h1,h2⟩:=h;exact⟨cs,hg.trans h1,h2⟩
def aa9(n0:Nat)(H:Heap)(f:Ft)(v:SV):Prop:=Sl H v f.w∧f.w.length≤3∧(f.w≠[]→n0≤v.blk)
end Go.Iso.Gen
end
