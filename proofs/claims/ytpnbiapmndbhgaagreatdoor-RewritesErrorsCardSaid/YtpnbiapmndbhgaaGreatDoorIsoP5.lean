/-
  arguments as data; from a run to a row; a strict form of the evaluator.
-/
import Derived.Test.YtpnbiapmndbhgaaGreatDoorIsoP4
import Derived.ChangeStays
import Derived.OpenShut
import Derived.ChangeOld
import Derived.Handed
import Derived.JoinedOf
import Derived.ChangeShapes
import Derived.SizedLaws
import Derived.ChangeCalls
import Derived.ChangeArms
import Derived.IntWalk
set_option linter.unusedSimpArgs false
set_option linter.unusedVariables false
namespace Go.Iso
open Classical
inductive Ty where
 | bool
 | int (k:IntKind)
 | str
 | slice (e:Ty)
 | struct (fs:List Ty)
 | arr (n:Nat) (e:Ty)
 deriving Inhabited
inductive PD where
 | bool (b:Bool)
 | int (n:Int)
 | str (s:List UInt8)
 | nil
 | slice (l:List PD)
 | agg (l:List PD)
 deriving Inhabited
mutual
def iO{T:Type}:DataW T→PD
 | .lit (.bool b)=>.bool b
 | .lit (.int _ n)=>.int n
 | .lit (.string s)=>.str s
 | .lit _=>.nil
 | .nil=>.nil
 | .ptr _=>.nil
 | .slice elems _=>.slice (xC elems)
 | .agg parts=>.agg (xC parts)
 | .iface _ _=>.nil
 | .map _=>.nil
 | .held _=>.nil
def xC{T:Type}:List (DataW T)→List PD
 | []=>[]
 | d::r=>iO d::xC r
end
theorem oM{T:Type}:∀(l:List (DataW T)),xC l=l.map iO
 | []=>by simp[xC]
 | d::r=>by simp[xC,oM r]
mutual
inductive Rd(H:Heap):Ty→List IV→PD→Prop
 | bool (b:Bool):Rd H .bool [.bool b] (.bool b)
 | int (k:IntKind) (n:Int) (h:k.min≤n∧n≤k.max):Rd H (.int k) [.int k n] (.int n)
 | str (s:List UInt8) (h:s.length≤maxLen):Rd H .str [.str s] (.str s)
 | nil (e:Ty):Rd H (.slice e) [.nilSlice] .nil
 | slice (e:Ty) (b cap:Nat) (l:List PD) (css:List (List IV)) (h1:l.length≤cap) (h2:cap≤maxLen) (hb:0 < l.length→H.get b=some (.cells true 0 0 css.flatten)) (he:Rds H (List.replicate l.length e) css l):
   Rd H (.slice e) [.slice b 0 l.length cap true] (.slice l)
 | struct (ts:List Ty) (css:List (List IV)) (l:List PD) (he:Rds H ts css l):Rd H (.struct ts) css.flatten (.agg l)
 | arr (n:Nat) (e:Ty) (css:List (List IV)) (l:List PD) (he:Rds H (List.replicate n e) css l):Rd H (.arr n e) css.flatten (.agg l)
inductive Rds(H:Heap):List Ty→List (List IV)→List PD→Prop
 | nil:Rds H [] [] []
 | cons {t:Ty} {c:List IV} {d:PD} {ts:List Ty} {cs:List (List IV)} {ds:List PD} (h:Rd H t c d) (hs:Rds H ts cs ds):Rds H (t::ts) (c::cs) (d::ds)
end
def Grow(H H':Heap):Prop:=H.n≤H'.n∧∀b o,b < H.n→H.get b=some o→H'.get b=some o
theorem Grow.refl(H:Heap):Grow H H:=⟨Nat.le_refl _,fun _ _ _ h=>h⟩
theorem Grow.trans{a b c:Heap}(h:Grow a b)(k:Grow b c):Grow a c:=⟨Nat.le_trans h.1 k.1,fun x o hx e=>k.2 x o (Nat.lt_of_lt_of_le hx h.1) (h.2 x o hx e)⟩
def Ro(H:Heap):Prop:=∀b o,H.get b=some o→b < H.n∧o.owned=false
mutual
theorem Rd.mono{H H':Heap}(hr:Ro H)(hg:Grow H H'):∀{t:Ty} {c:List IV} {d:PD},Rd H t c d→Rd H' t c d
 | _,_,_,.bool b=>.bool b
 | _,_,_,.int k n h=>.int k n h
 | _,_,_,.str s h=>.str s h
 | _,_,_,.nil e=>.nil e
 | _,_,_,.slice e b cap l css h1 h2 hb he=>.slice e b cap l css h1 h2 (fun h=>hg.2 b _ (hr b _ (hb h)).1 (hb h)) (he.mono hr hg)
 | _,_,_,.struct ts css l he=>.struct ts css l (he.mono hr hg)
 | _,_,_,.arr n e css l he=>.arr n e css l (he.mono hr hg)
theorem Rds.mono{H H':Heap}(hr:Ro H)(hg:Grow H H'):∀{t:List Ty} {c:List (List IV)} {d:List PD},Rds H t c d→Rds H' t c d
 | _,_,_,.nil=>.nil
 | _,_,_,.cons h hs=>.cons (h.mono hr hg) (hs.mono hr hg)
end
section
variable {P:Program}{g0:Nat}{μ:Mu}{w:World}{H:Heap}
def Lk(P:Program)(g0:Nat)(w:World)(τ:Ty)(cs:List Value)(pd:PD):Prop:=
 ∀(μ:Mu) (H:Heap),Rel P g0 μ H.get H.n w→Ro H→∃(μ':Mu) (H':Heap) (ivs:List IV),Rel P g0 μ' H'.get H'.n w∧Ro H'∧μ.le μ'∧Grow H H'∧VRs μ' ivs cs∧Rd H' τ ivs pd
theorem vP:∀(ps:List (Ty×List Value×PD)),(∀p,p∈ps→Lk P g0 w p.1 p.2.1 p.2.2)→∀(μ:Mu) (H:Heap),Rel P g0 μ H.get H.n w→Ro H→
  ∃(μ':Mu) (H':Heap) (css:List (List IV)),Rel P g0 μ' H'.get H'.n w∧Ro H'∧μ.le μ'∧Grow H H'∧VRs μ' css.flatten (ps.map (·.2.1)).flatten∧Rds H' (ps.map (·.1)) css (ps.map (·.2.2))
 | [],_,μ,H,hr,ho=>⟨μ,H,[],hr,ho,μ.le_refl,.refl H,rfl,.nil⟩
 | p::ps,h,μ,H,hr,ho=>by
   obtain⟨μ1,H1,c,a1,a2,a3,a4,a5,a6⟩:=h p (by simp) μ H hr ho;obtain⟨μ2,H2,css,b1,b2,b3,b4,b5,b6⟩:=vP ps (fun q hq=>h q (by simp[hq])) μ1 H1 a1 a2;exact⟨μ2,H2,c::css,b1,b2,Mu.le_trans a3 b3,a4.trans b4,by simp only[List.flatten_cons,List.map_cons];exact(VRs.mono b3 _ _ a5).append b5,.cons (a6.mono a2 b4) b6⟩
theorem Rel.allocRo(h:Rel P g0 μ H.get H.n w)(ho:Ro H){c p:Nat}{cs':Array Value}{e:TypeId}{fz:Nat×Nat}{cs:List IV}(hw:w.heap[c]? =some (.cells cs' e fz))(hl:p+cs.length≤cs'.size)(hv:VRs μ cs ((cs'.toList.drop p).take cs.length)):
  Rel P g0 (μ.upd H.n (.at c p 0 0)) (H.new (.cells true 0 0 cs)).get (H.new (.cells true 0 0 cs)).n w∧Ro (H.new (.cells true 0 0 cs)):=by
 have hle:=μ.le_upd (.at c p 0 0) h.fresh
 have hro:Ro (H.new (.cells true 0 0 cs)):=by
  intro b o hb;rw[aj] at hb;rw[ac];split at hb
  ·injection hb with hb;subst hb;exact⟨by omega,rfl⟩
  ·have:=ho b o hb;exact⟨by omega,this.2⟩
 refine⟨⟨fun b hb=>?_,fun b b' c p ez z p' ez' z' hb hb' hob=>?_,fun b c' p' ez z hb=>?_,fun i hi=>?_,fun b hb=>?_⟩,hro⟩
 ·rw[ac];by_cases e:b=H.n
  ·omega
  ·rw[aw _ _ e] at hb;have:=h.lt b hb;omega
 ·obtain⟨o,h1,h2⟩:=hob;rw[(hro b o h1).2] at h2;cases h2
 ·by_cases e:b=H.n
  ·subst e;rw[av] at hb;injection hb with q1 q2 q3 q4;subst q1 q2 q3 q4;exact⟨.cells true 0 0 cs,by rw[aj,if_pos rfl],rfl,cs',_,fz,hw,hl,VRs.mono hle _ _ hv⟩
  ·rw[aw _ _ e] at hb;obtain⟨o,k1,k2⟩:=h.obj b c' p' ez z hb;exact⟨o,by rw[aj,if_neg (Ne.symm e)];exact k1,k2.mono hle⟩
 ·have hn:=h.glob i hi
  have:i < H.n:=h.lt i (by rw[hn];exact fun x=>by cases x)
  rw[aw _ _ (by omega)];exact hn
 ·by_cases e:b=H.n
  ·subst e;rw[av] at hb;cases hb
  ·rw[aw _ _ e] at hb;rw[aj,if_neg (Ne.symm e)];exact h.ded b hb
theorem Rel.allocDead(h:Rel P g0 μ H.get H.n w)(ho:Ro H):Rel P g0 (μ.upd H.n .dead) (H.new .dead).get (H.new .dead).n w∧Ro (H.new .dead):=by
 have hle:=μ.le_upd .dead h.fresh
 have hro:Ro (H.new .dead):=by
  intro b o hb;rw[aj] at hb;rw[ac];split at hb
  ·injection hb with hb;subst hb;exact⟨by omega,rfl⟩
  ·have:=ho b o hb;exact⟨by omega,this.2⟩
 refine⟨⟨fun b hb=>?_,fun b b' c p ez z p' ez' z' hb hb' hob=>?_,fun b c' p' ez z hb=>?_,fun i hi=>?_,fun b hb=>?_⟩,hro⟩
 ·rw[ac];by_cases e:b=H.n
  ·omega
  ·rw[aw _ _ e] at hb;have:=h.lt b hb;omega
 ·obtain⟨o,h1,h2⟩:=hob;rw[(hro b o h1).2] at h2;cases h2
 ·by_cases e:b=H.n
  ·subst e;rw[av] at hb;cases hb
  ·rw[aw _ _ e] at hb;obtain⟨o,k1,k2⟩:=h.obj b c' p' ez z hb;exact⟨o,by rw[aj,if_neg (Ne.symm e)];exact k1,k2.mono hle⟩
 ·have hn:=h.glob i hi
  have:i < H.n:=h.lt i (by rw[hn];exact fun x=>by cases x)
  rw[aw _ _ (by omega)];exact hn
 ·by_cases e:b=H.n
  ·subst e;rw[aj,if_pos rfl]
  ·rw[aw _ _ e] at hb;rw[aj,if_neg (Ne.symm e)];exact h.ded b hb
theorem Grow.new(ho:Ro H)(o:IObj):Grow H (H.new o):=⟨by rw[ac];omega,fun b x hb e=>by rw[aj,if_neg (by omega)];exact e⟩
def wV(P:Program)(ty:TypeId→Option Ty):List Field→Nat→Option (List Ty)
 | [],_=>some []
 | f::fs,off=>
   match ty f.type with
   | some τ=>if f.offset=off then(wV P ty fs (off+P.cellsOf f.type)).map (τ::·) else none
   | none=>none
def mF(P:Program):Nat→TypeId→Option Ty
 | 0,_=>none
 | n+1,t=>
   match P.underlying t with
   | some .bool=>some .bool
   | some (.int k)=>some (.int k)
   | some .string=>some .str
   | some (.slice e)=>if 0 < P.cellsOf e then(mF P n e).map .slice else none
   | some (.struct fs)=>if P.cellsOf t=(fs.toList.map fun f=>P.cellsOf f.type).sum then(wV P (mF P n) fs.toList 0).map .struct else none
   | some (.array k e)=>if P.cellsOf t=k*P.cellsOf e then(mF P n e).map (.arr k) else none
   | _=>none
theorem s9{a:Addr}{n:Nat}{cs:List Value}(h:w.cells? 0 a n=some cs)(hn:0 < n):∃(cs':Array Value) (e:TypeId) (fz:Nat×Nat),w.heap[a.block]? =some (.cells cs' e fz)∧(a.spot=none)∧a.off+n≤cs'.size∧cs=(cs'.toList.drop a.off).take n:=by
 unfold World.cells? at h;simp only[Nat.zero_le,if_true] at h;have hl:=mapM_some_length h;simp only[List.length_range] at hl;have hg:∀i,i < n→w.cell? (a.add i)=cs[i]?:=fun i hi=>mapM_some_get h i i (by simp[hi]);have h0:=hg 0 hn;have ha:a.add 0=a:=by simp[Addr.add]
 rw[ha] at h0;have hc0:∃v,w.cell? a=some v:=⟨cs[0]'(by omega),by rw[h0];exact List.getElem?_eq_getElem (by omega)⟩;obtain⟨v0,hv0⟩:=hc0;unfold World.cell? at hv0;split at hv0
 ·rename_i cs' e fz hh;split at hv0
  ·cases hv0
  ·rename_i hsp;have hsp':a.spot=none:=by cases hs:a.spot with | none=>rfl | some x=>rw[hs] at hsp;simp at hsp
   have hall:∀i,i < n→cs'[a.off+i]? =cs[i]?:=by
    intro i hi;rw[←hg i hi];unfold World.cell? Addr.add;by_cases e0:i=0
    ·subst e0;simp[hh,hsp']
    ·simp[hh,e0]
   have hsz:a.off+n≤cs'.size:=by
    have:=hall (n - 1) (by omega)
    have hx:cs[n - 1]? =some (cs[n - 1]'(by omega)):=List.getElem?_eq_getElem (by omega);rw[hx] at this
    have:=(Array.getElem?_eq_some_iff.1 this).1
    omega
   refine⟨cs',e,fz,hh,hsp',hsz,?_⟩
   apply List.ext_getElem?;intro i;by_cases hi:i < n
   ·rw[List.getElem?_take_of_lt hi,List.getElem?_drop,←hall i hi,Array.getElem?_toList]
   ·rw[List.getElem?_eq_none (by omega),List.getElem?_eq_none (by simp;omega)]
 ·cases hv0
theorem jD{α:Type}(l:List α)(sz:Nat):∀(k:Nat),((List.range k).map fun i=>(l.drop (i*sz)).take sz).flatten=l.take (k*sz)
 | 0=>by simp
 | k+1=>by
   rw[List.range_succ,List.map_append,List.flatten_append,jD l sz k];simp only[List.map_cons,List.map_nil,List.flatten_cons,List.flatten_nil,List.append_nil];rw[Nat.succ_mul,List.take_add]
theorem nw{α:Type}(P:Program)(ty:TypeId→Option Ty)(l:List α):∀(fs:List Field) (off:Nat) (ts:List Ty),wV P ty fs off=some ts→
  (fs.map fun f=>(l.drop f.offset).take (P.cellsOf f.type)).flatten=(l.drop off).take (fs.map fun f=>P.cellsOf f.type).sum
 | [],off,ts,_=>by simp
 | f::fs,off,ts,h=>by
   unfold wV at h;split at h
   ·split at h
    ·rename_i hoff
     cases h2:wV P ty fs (off+P.cellsOf f.type) with
     | none=>rw[h2] at h;cases h
     | some ts'=>
       have:=nw P ty l fs _ _ h2
       simp only[List.map_cons,List.flatten_cons,List.sum_cons];rw[this,hoff,List.take_add,List.drop_drop]
    ·cases h
   ·cases h
theorem AV(P:Program)(ty:TypeId→Option Ty):∀(fs:List Field) (off:Nat) (ts:List Ty),wV P ty fs off=some ts→ts.length=fs.length∧∀(i:Nat) (f:Field),fs[i]? =some f→∃τ,ts[i]? =some τ∧ty f.type=some τ
 | [],off,ts,h=>by injection h with h;subst h;simp
 | f::fs,off,ts,h=>by
   unfold wV at h;split at h
   ·rename_i τ hτ;split at h
    ·cases h2:wV P ty fs (off+P.cellsOf f.type) with
     | none=>rw[h2] at h;cases h
     | some ts'=>
       rw[h2] at h;injection h with h;subst h;obtain⟨a,b⟩:=AV P ty fs _ _ h2;refine⟨by simp[a],fun i g hg=>?_⟩
       cases i with
       | zero=>simp at hg;subst hg;exact⟨τ,by simp,hτ⟩
       | succ i=>simpa using b i g (by simpa using hg)
    ·cases h
   ·cases h
theorem Uy{T:Type}:∀(ts:List Ty) (cvs:List (List Value)) (xs:List (DataW T)),ts.length=xs.length→cvs.length=xs.length→
  ((ts.zip (cvs.zip (xs.map iO))).map (·.1)=ts∧(ts.zip (cvs.zip (xs.map iO))).map (·.2.1)=cvs∧(ts.zip (cvs.zip (xs.map iO))).map (·.2.2)=xs.map iO):=by
 intro ts
 induction ts with
 | nil=>intro cvs xs h1 h2;cases xs<;>cases cvs<;>simp at h1 h2⊢
 | cons t ts ih=>
   intro cvs xs h1 h2
   cases xs with
   | nil=>simp at h1
   | cons x xs=>
     cases cvs with
     | nil=>simp at h2
     | cons c cvs=>
       obtain⟨a,b,c'⟩:=ih cvs xs (by simpa using h1) (by simpa using h2);simp[a,b,c']
theorem nl{T:Type}{ts:List Ty}{cvs:List (List Value)}{xs:List (DataW T)}(h1:ts.length=xs.length)(h2:cvs.length=xs.length)
  (h:∀(i:Nat) (τ:Ty) (c:List Value) (x:DataW T),ts[i]? =some τ→cvs[i]? =some c→xs[i]? =some x→Lk P g0 w τ c (iO x)) (hr:Rel P g0 μ H.get H.n w) (ho:Ro H):
  ∃(μ':Mu) (H':Heap) (css:List (List IV)),Rel P g0 μ' H'.get H'.n w∧Ro H'∧μ.le μ'∧Grow H H'∧VRs μ' css.flatten cvs.flatten∧Rds H' ts css (xs.map iO):=by
 obtain⟨e1,e2,e3⟩:=Uy ts cvs xs h1 h2
 have:=vP (P:=P) (g0:=g0) (w:=w) (ts.zip (cvs.zip (xs.map iO))) (fun p hp=>by
  obtain⟨i,hi,he⟩:=List.getElem_of_mem hp;have hx:(ts.zip (cvs.zip (xs.map iO)))[i]? =some p:=by rw[List.getElem?_eq_getElem hi,he]
  simp only[List.length_zip,List.length_map] at hi;have q1:ts[i]? =some p.1:=by rw[←e1,List.getElem?_map,hx];rfl
  have q2:cvs[i]? =some p.2.1:=by rw[←e2,List.getElem?_map,hx];rfl
  have q3:(xs.map iO)[i]? =some p.2.2:=by rw[←e3,List.getElem?_map,hx];rfl
  rw[List.getElem?_map] at q3
  cases hxi:xs[i]? with
  | none=>rw[hxi] at q3;cases q3
  | some x=>
    rw[hxi] at q3;injection q3 with q3;rw[←q3];exact h i _ _ x q1 q2 hxi) μ H hr ho
 rw[e1,e2,e3] at this;exact this
theorem xc{T:Type}{enc:TypeId×Value→T}:∀(n:Nat) (t:TypeId) (τ:Ty) (fuel:Nat) (cs:List Value) (x:DataW T×List MemPlace),mF P n t=some τ→
  DataW.trod enc P w 0 (fun _=>true) true fuel t cs=some x→Lk P g0 w τ cs (iO x.1):=by
 intro n
 induction n with
 | zero=>intro t τ fuel cs x h;cases h
 | succ n ih=>
   intro t τ fuel cs x hτ hx;unfold mF at hτ;split at hτ
   ·rename_i hu;injection hτ with hτ;subst hτ;obtain⟨b,rfl,rfl⟩:=DataW.trod_bool hu hx;intro μ H hr ho;exact⟨μ,H,[.bool b],hr,ho,μ.le_refl,.refl H,⟨_,_,rfl,rfl,rfl⟩,.bool b⟩
   ·rename_i k hu;injection hτ with hτ;subst hτ;obtain⟨m,rfl,rfl,hwf⟩:=DataW.trod_int hu hx;intro μ H hr ho;refine⟨μ,H,[.int k m],hr,ho,μ.le_refl,.refl H,⟨_,_,rfl,rfl,rfl⟩,.int k m ?_⟩;simpa [Lit.wf] using hwf
   ·rename_i hu;injection hτ with hτ;subst hτ;obtain⟨s,rfl,rfl,hs⟩:=DataW.trod_string hu hx;intro μ H hr ho;exact⟨μ,H,[.str s.data.toList],hr,ho,μ.le_refl,.refl H,⟨_,_,rfl,rfl,rfl⟩,.str _ hs⟩
   ·rename_i e hu;split at hτ
    ·rename_i hsz
     cases he:mF P n e with
     | none=>rw[he] at hτ;cases hτ
     | some τe=>
       rw[he] at hτ;injection hτ with hτ;subst hτ;rcases DataW.trod_slice hu hx with⟨rfl,rfl⟩ | ⟨a,len,cap,elems,rest,m,rfl,rfl,rfl,_,hlc,hcm,hel,hget,hrest,_⟩
       ·intro μ H hr ho;exact⟨μ,H,[.nilSlice],hr,ho,μ.le_refl,.refl H,⟨_,_,rfl,rfl,rfl⟩,.nil τe⟩
       ·intro μ H hr ho;subst hel;obtain⟨hrl,hrg⟩:=hrest rfl
        have hcap63:cap < 2^63:=by
                         have:maxLen < 2^63:=by decide
                         omega
        have hpd:iO (DataW.slice (elems.map (·.1)) (rest.map (·.1)))=.slice ((elems.map (·.1)).map iO):=by simp[iO,oM]
        have hlen:((elems.map (·.1)).map iO).length=elems.length:=by simp
        by_cases hc0:cap=0
        ·obtain⟨h1,h2⟩:=hr.allocDead ho;have hel0:elems=[]:=List.length_eq_zero_iff.1 (by omega);subst hel0;refine⟨_,_,[.slice H.n 0 0 cap true],h1,h2,Mu.le_upd μ _ hr.fresh,.new ho _,⟨_,_,rfl,⟨a,cap,rfl,⟨Nat.zero_le _,Nat.le_refl _,hcap63,fun _=>rfl⟩,?_⟩,rfl⟩,?_⟩
         ·unfold SlR;rw[av];trivial
         ·exact .slice τe H.n cap [] [] (Nat.zero_le _) hcm (fun h=>absurd h (by simp)) .nil
        ·
         have haddr:∃(cs':Array Value) (e':TypeId) (fz:Nat×Nat),w.heap[a.block]? =some (.cells cs' e' fz)∧a.spot=none∧a.off≤cs'.size∧
           ∀i (hi:i < elems.length),a.off+(i+1)*P.cellsOf e≤cs'.size∧DataW.trod enc P w 0 (fun _=>true) true m e (((cs'.toList.drop a.off).drop (i*P.cellsOf e)).take (P.cellsOf e))=some elems[i]:=by
          have base:∃c0,w.cells? 0 (a.add 0) (P.cellsOf e)=some c0:=by
           by_cases h0:0 < elems.length
           ·have:=hget 0 h0
            rw[List.getElem?_eq_getElem h0] at this;simp only[Nat.zero_mul] at this
            cases hq:w.cells? 0 (a.add 0) (P.cellsOf e) with
            | none=>rw[hq] at this;cases this
            | some c=>exact⟨c,rfl⟩
           ·have h00:elems.length=0:=by omega
            have:=hrg 0 (by omega)
            rw[List.getElem?_eq_getElem (by omega)] at this;rw[h00] at this;simp only[Nat.add_zero,Nat.zero_mul] at this
            cases hq:w.cells? 0 (a.add 0) (P.cellsOf e) with
            | none=>rw[hq] at this;cases this
            | some c=>exact⟨c,rfl⟩
          obtain⟨c0,hc⟩:=base;have ha:a.add 0=a:=by simp[Addr.add]
          rw[ha] at hc;obtain⟨cs',e',fz,g1,g2,g3,g4⟩:=s9 hc hsz;refine⟨cs',e',fz,g1,g2,by omega,fun i hi=>?_⟩
          have:=hget i hi
          rw[List.getElem?_eq_getElem hi] at this
          cases hq:w.cells? 0 (a.add (i*P.cellsOf e)) (P.cellsOf e) with
          | none=>rw[hq] at this;cases this
          | some c=>
            rw[hq] at this;simp only[Option.bind_some] at this;obtain⟨cs2,e2,fz2,k1,k2,k3,k4⟩:=s9 hq hsz;have hbk:(a.add (i*P.cellsOf e)).block=a.block:=by unfold Addr.add;split<;>rfl
            have hof:(a.add (i*P.cellsOf e)).off=a.off+i*P.cellsOf e:=by unfold Addr.add;split<;>simp_all
            rw[hbk,g1] at k1;injection k1 with k1;injection k1 with k1 _ _;subst k1;rw[hof] at k3 k4;rw[k4] at this;refine⟨by rw[Nat.succ_mul];omega,?_⟩;rw[List.drop_drop];exact this
         obtain⟨cs',e',fz,hheap,hspot,hoff,hels⟩:=haddr
         obtain⟨μ1,H1,css,b1,b2,b3,b4,b5,b6⟩:=nl (P:=P) (g0:=g0) (w:=w) (μ:=μ) (H:=H) (ts:=List.replicate elems.length τe)
          (cvs:=(List.range elems.length).map fun i=>((cs'.toList.drop a.off).drop (i*P.cellsOf e)).take (P.cellsOf e)) (xs:=elems.map (·.1)) (by simp) (by simp) (fun i τ c x h1 h2 h3=>by
           rw[List.getElem?_replicate] at h1;rw[List.getElem?_map] at h2 h3;split at h1
           ·rename_i hi;injection h1 with h1;subst h1;rw[List.getElem?_range hi] at h2;injection h2 with h2;rw[List.getElem?_eq_getElem hi] at h3;injection h3 with h3;subst h2 h3;exact ih e τe m _ elems[i] he (hels i hi).2
           ·cases h1) hr ho
         rw[jD] at b5
         have hflen:css.flatten.length=elems.length*P.cellsOf e:=by
          rw[b5.length,List.length_take,List.length_drop];have hq:cs'.toList.length=cs'.size:=Array.length_toList;by_cases h0:elems.length=0
          ·simp[h0]
          ·have:=(hels (elems.length - 1) (by omega)).1
           rw[show elems.length - 1+1=elems.length from by omega] at this;omega
         have hfit:a.off+css.flatten.length≤cs'.size:=by
          rw[hflen];by_cases h0:elems.length=0
          ·rw[h0];simpa using hoff
          ·have:=(hels (elems.length - 1) (by omega)).1
           rw[show elems.length - 1+1=elems.length from by omega] at this;omega
         obtain⟨c1,c2⟩:=b1.allocRo b2 (cs:=css.flatten) hheap hfit (by rw[hflen];exact b5);refine⟨_,_,[.slice H1.n 0 elems.length cap true],c1,c2,Mu.le_trans b3 (Mu.le_upd μ1 _ b1.fresh),b4.trans (.new b2 _),⟨_,_,rfl,⟨a,cap,rfl,⟨hlc,Nat.le_refl _,hcap63,fun _=>rfl⟩,?_⟩,rfl⟩,?_⟩
         ·unfold SlR;rw[av];refine⟨.inr ?_,fun h=>by cases h⟩
          cases a;simp at hspot;simp[hspot]
         ·rw[hpd]
          have:=Rd.slice (H:=H1.new (.cells true 0 0 css.flatten)) τe H1.n cap ((elems.map (·.1)).map iO) css (by rw[hlen];exact hlc) hcm (fun _=>by rw[aj,if_pos rfl]) (by rw[hlen];exact b6.mono b2 (.new b2 _))
          rw[hlen] at this;exact this
    ·cases hτ
   ·rename_i fs hu;split at hτ
    ·rename_i hsum
     cases hf:wV P (mF P n) fs.toList 0 with
     | none=>rw[hf] at hτ;cases hτ
     | some ts=>
       rw[hf] at hτ;injection hτ with hτ;subst hτ;obtain⟨xs,m,rfl,rfl,hcl,hxl,hget⟩:=DataW.trod_struct hu hx;obtain⟨tl,tget⟩:=AV P _ _ _ _ hf;intro μ H hr ho
       obtain⟨μ1,H1,css,b1,b2,b3,b4,b5,b6⟩:=nl (P:=P) (g0:=g0) (w:=w) (μ:=μ) (H:=H) (ts:=ts)
        (cvs:=fs.toList.map fun f=>(cs.drop f.offset).take (P.cellsOf f.type)) (xs:=xs.map (·.1)) (by simp[tl,hxl]) (by simp[hxl]) (fun i τ c x h1 h2 h3=>by
         rw[List.getElem?_map] at h2 h3
         cases hfi:fs.toList[i]? with
         | none=>rw[hfi] at h2;cases h2
         | some f=>
           rw[hfi] at h2;injection h2 with h2;obtain⟨τ',q1,q2⟩:=tget i f hfi;rw[h1] at q1;injection q1 with q1;subst q1
           cases hxi:xs[i]? with
           | none=>rw[hxi] at h3;cases h3
           | some y=>
             rw[hxi] at h3;injection h3 with h3;subst h2 h3;exact ih f.type τ m _ y q2 (by rw[hget i f (by rw[←Array.getElem?_toList];exact hfi)];exact hxi)) hr ho
       rw[nw P _ cs _ _ _ hf,List.drop_zero,←hsum,←hcl,List.take_length] at b5;refine⟨μ1,H1,css.flatten,b1,b2,b3,b4,b5,?_⟩
       have hpd:iO (DataW.agg (xs.map (·.1)))=.agg ((xs.map (·.1)).map iO):=by simp[iO,oM]
       rw[hpd];exact .struct ts css _ b6
    ·cases hτ
   ·rename_i k e hu;split at hτ
    ·rename_i hsum
     cases he:mF P n e with
     | none=>rw[he] at hτ;cases hτ
     | some τe=>
       rw[he] at hτ;injection hτ with hτ;subst hτ;obtain⟨xs,m,rfl,rfl,hcl,hxl,hget⟩:=DataW.trod_array hu hx;intro μ H hr ho
       obtain⟨μ1,H1,css,b1,b2,b3,b4,b5,b6⟩:=nl (P:=P) (g0:=g0) (w:=w) (μ:=μ) (H:=H) (ts:=List.replicate k τe)
        (cvs:=(List.range k).map fun i=>(cs.drop (i*P.cellsOf e)).take (P.cellsOf e)) (xs:=xs.map (·.1)) (by simp[hxl]) (by simp[hxl]) (fun i τ c x h1 h2 h3=>by
         rw[List.getElem?_replicate] at h1;rw[List.getElem?_map] at h2 h3;split at h1
         ·rename_i hi;injection h1 with h1;subst h1;rw[List.getElem?_range hi] at h2;injection h2 with h2
          cases hxi:xs[i]? with
          | none=>rw[hxi] at h3;cases h3
          | some y=>
            rw[hxi] at h3;injection h3 with h3;subst h2 h3;exact ih e τe m _ y he (by rw[hget i hi];exact hxi)
         ·cases h1) hr ho
       rw[jD,←hsum,←hcl,List.take_length] at b5;refine⟨μ1,H1,css.flatten,b1,b2,b3,b4,b5,?_⟩
       have hpd:iO (DataW.agg (xs.map (·.1)))=.agg ((xs.map (·.1)).map iO):=by simp[iO,oM]
       rw[hpd];exact .arr k τe css _ b6
    ·cases hτ
   ·cases hτ
end
open Classical
def Pp:Ty→List IV→IV
 | .struct _,l=>.agg l
 | .arr _ _,l=>.agg l
 | _,l=>l.headD IV.undef
def JC:List Ty→List (List IV)→List IV
 | τ::τs,c::cs=>Pp τ c::JC τs cs
 | _,_=>[]
section
variable {P:Program}{g0:Nat}{μ:Mu}{w:World}{H:Heap}{T:Type}{enc:TypeId×Value→T}
theorem iy{r:Reach}{base:Nat}{t:TypeId}{v:Value}(h:Value.okWide P w r base t v)(hs:∀fs,P.underlying t≠some (.struct fs))(ha:∀n e,P.underlying t≠some (.array n e)):∀cs,v≠.agg cs:=by
 intro cs e;subst e;unfold Value.okWide at h;split at h
 ·rename_i fs hu;exact hs _ hu
 ·rename_i n e hu;exact ha _ _ hu
 ·unfold Cell.okWide at h;split at h<;>first | (rename_i heq;cases heq;done) | skip
  all_goals (first | (rename_i heq _;cases heq;done) | (rename_i _ heq;cases heq;done) | skip)
  unfold Cell.ok at h;split at h<;>first | exact h | (rename_i heq;cases heq;done) | (rename_i heq _;cases heq;done) | (rename_i _ heq;cases heq;done)
theorem Dv{n:Nat}{t:TypeId}{τ:Ty}(hτ:mF P n t=some τ){r:Reach}{base:Nat}{v:Value}(hv:Value.okWide P w r base t v){c:List IV}(hc:VRs μ c v.cells.toList):VR μ (Pp τ c) v:=by
 cases n with
 | zero=>cases hτ
 | succ n=>
   unfold mF at hτ
   have scal:(∀cs,v≠.agg cs)→VR μ (c.headD IV.undef) v:=by
    intro hne
    have:v.cells=#[v]:=by cases v<;>first | rfl | exact absurd rfl (hne _)
    rw[this] at hc
    match c,hc with
    | x::xs,⟨y,ys,e,hy,hys⟩=>
      simp at e
      obtain⟨rfl,rfl⟩:=e;exact hy
   split at hτ
   ·rename_i hu;injection hτ with hτ;subst hτ;exact scal (iy hv (fun _ e=>by rw[hu] at e;cases e) (fun _ _ e=>by rw[hu] at e;cases e))
   ·rename_i hu;injection hτ with hτ;subst hτ;exact scal (iy hv (fun _ e=>by rw[hu] at e;cases e) (fun _ _ e=>by rw[hu] at e;cases e))
   ·rename_i hu;injection hτ with hτ;subst hτ;exact scal (iy hv (fun _ e=>by rw[hu] at e;cases e) (fun _ _ e=>by rw[hu] at e;cases e))
   ·rename_i e hu;split at hτ
    ·cases he:mF P n e with
     | none=>rw[he] at hτ;cases hτ
     | some τe=>
       rw[he] at hτ;injection hτ with hτ;subst hτ;exact scal (iy hv (fun _ e=>by rw[hu] at e;cases e) (fun _ _ e=>by rw[hu] at e;cases e))
    ·cases hτ
   ·rename_i fs hu;split at hτ
    ·cases he:wV P (mF P n) fs.toList 0 with
     | none=>rw[he] at hτ;cases hτ
     | some ts=>
       rw[he] at hτ;injection hτ with hτ;subst hτ;unfold Value.okWide at hv;rw[hu] at hv;obtain⟨cs,rfl,_⟩:=hv;exact⟨cs,rfl,hc⟩
    ·cases hτ
   ·rename_i k e hu;split at hτ
    ·cases he:mF P n e with
     | none=>rw[he] at hτ;cases hτ
     | some τe=>
       rw[he] at hτ;injection hτ with hτ;subst hτ;unfold Value.okWide at hv;rw[hu] at hv;obtain⟨cs,rfl,_⟩:=hv;exact⟨cs,rfl,hc⟩
    ·cases hτ
   ·cases hτ
theorem xN{n base:Nat}{r:Reach}:∀(ts:List TypeId) (vs:List Value) (ds:List (DataW T)) (ps:List MemPlace) (τs:List Ty),ts.mapM (mF P n)=some τs→
  DataW.TrodAll enc P w 0 (fun _=>true) true ts vs ds ps→(∀(j:Nat) t v,ts[j]? =some t→vs[j]? =some v→Value.okWide P w r base t v)→∀(μ:Mu) (H:Heap),Rel P g0 μ H.get H.n w→Ro H→
  ∃(μ':Mu) (H':Heap) (css:List (List IV)),Rel P g0 μ' H'.get H'.n w∧Ro H'∧μ.le μ'∧Grow H H'∧VRs μ' (JC τs css) vs∧Rds H' τs css (ds.map iO)
 | [],[],[],ps,τs,hτ,_,_,μ,H,hr,ho=>by
   simp at hτ
   subst hτ;exact⟨μ,H,[],hr,ho,μ.le_refl,.refl H,rfl,.nil⟩
 | t::ts,v::vs,d::ds,ps,τs,hτ,ht,hv,μ,H,hr,ho=>by
   obtain⟨p,q,⟨fuel,h1⟩,h2,_⟩:=ht;simp only[List.mapM_cons] at hτ
   cases hτ1:mF P n t with
   | none=>rw[hτ1] at hτ;cases hτ
   | some τ=>
     rw[hτ1] at hτ
     cases hτ2:ts.mapM (mF P n) with
     | none=>rw[hτ2] at hτ;cases hτ
     | some τs'=>
       rw[hτ2] at hτ;injection hτ with hτ;subst hτ;obtain⟨μ1,H1,c,a1,a2,a3,a4,a5,a6⟩:=xc n t τ fuel _ _ hτ1 h1 μ H hr ho;obtain⟨μ2,H2,css,b1,b2,b3,b4,b5,b6⟩:=xN ts vs ds q τs' hτ2 h2 (fun j t v h1 h2=>hv (j+1) t v (by simpa using h1) (by simpa using h2)) μ1 H1 a1 a2;have hp:=Dv hτ1 (hv 0 t v rfl rfl) a5;exact⟨μ2,H2,c::css,b1,b2,Mu.le_trans a3 b3,a4.trans b4,⟨v,vs,rfl,VR.mono b3 _ _ hp,b5⟩,.cons (a6.mono a2 b4) b6⟩
 | [],_::_,_,_,_,_,h,_,_,_,_,_=>h.elim
 | [],[],_::_,_,_,_,h,_,_,_,_,_=>h.elim
 | _::_,[],_,_,_,_,h,_,_,_,_,_=>h.elim
 | _::_,_::_,[],_,_,_,h,_,_,_,_,_=>h.elim
theorem pg{w':World}{Q:TypeId→Prop}{sp':Nat→Bool}(K:Kids P Q)(hsz:∀{t e:TypeId},Q t→P.underlying t=some (.slice e)→0 < P.cellsOf e):
  ∀(ts:List TypeId) (vs:List Value) (ds:List (DataW T)) (ps:List MemPlace),(∀t,t∈ts→Q t)→DataW.TrodAll enc P w 0 (fun _=>true) true ts vs ds ps→(∀p∈ps,w.sameAt w' p)→(∀p∈ps,sp' p.block=true)→DataW.TrodAll enc P w' 0 sp' true ts vs ds ps
 | [],[],[],ps,_,h,_,_=>h
 | t::ts,v::vs,d::ds,ps,hq,⟨p,q,⟨fuel,h1⟩,h2,e⟩,hs,hsp=>by
   refine⟨p,q,⟨fuel,?_⟩,pg K hsz ts vs ds q (fun t ht=>hq t (by simp[ht])) h2 (fun x hx=>hs x (by rw[e];simp[hx])) (fun x hx=>hsp x (by rw[e];simp[hx])),e⟩
   exact DataW.trod_stays K hsz (fun h=>by cases h) (hq t (by simp)) h1 (fun x hx=>hs x (by rw[e];simp[hx])) (fun x hx=>hsp x (by rw[e];simp[hx]))
 | [],_::_,_,_,_,h,_,_=>h.elim
 | [],[],_::_,_,_,h,_,_=>h.elim
 | _::_,[],_,_,_,h,_,_=>h.elim
 | _::_,_::_,[],_,_,h,_,_=>h.elim
def emptyHeap:Heap:=⟨0,.leaf⟩
theorem He(b:Nat):emptyHeap.get b=none:=oa b
theorem KF:Ro emptyHeap:=fun b o h=>by rw[He] at h;cases h
theorem Hb:Rel P 0 (fun _=>.no) emptyHeap.get emptyHeap.n w:=
 ⟨fun b h=>absurd rfl h,fun b b' c p ez z p' ez' z' h=>(by cases h),fun b c p ez z h=>(by cases h),fun i hi=>(by omega),fun b h=>(by cases h)⟩
def zk(P:Program)(fn:Func):Bool:=
 laidOutB P&&mapsRowed P&&((List.range P.types.size).all fun t=>match P.underlying t with | some (.slice e)=>decide (0 < P.cellsOf e) | _=>true)&&fn.params.toList.all fun t=>decide (t < P.types.size)
end
def Tr.All{α:Type}(p:Nat→α→Prop):Tr α→(Nat→Nat)→Prop
 | .leaf,_=>True
 | .node v l r,i=>(∀x,v=some x→p (i 0) x)∧l.All p (fun j=>i (2*j+1))∧r.All p (fun j=>i (2*j+2))
theorem mw{α:Type}{p:Nat→α→Prop}:∀(t:Tr α) (i:Nat→Nat) (k:Nat) (x:α),t.All p i→t.get k=some x→p (i k) x
 | .leaf,i,k,x,_,h=>by rw[oa] at h;cases h
 | .node v l r,i,k,x,⟨h1,h2,h3⟩,h=>by
   cases k with
   | zero=>exact h1 x h
   | succ j=>
     unfold Tr.get at h;simp only at h;split at h
     ·rename_i hj
      have:=mw l _ (j / 2) x h2 h
      rwa [show 2*(j / 2)+1=j+1 from by omega] at this
     ·rename_i hj
      have:=mw r _ (j / 2) x h3 h
      rwa [show 2*(j / 2)+2=j+1 from by omega] at this
def TC:List IV→Nat→Heap→Option (IV×Heap):=fun args _ H=>
 match args with
 | []=>some (.bool true,H)
 | _=>none
open Classical
def bV(zs:List Int):List IV:=zs.map fun z=>.int .i64 z
def bi:List IV→List Int→Bool
 | [],[]=>true
 | .int .i64 a::l,b::m=>a==b&&bi l m
 | _,_=>false
theorem xY:∀{l:List IV} {m:List Int},bi l m=true→l=bV m
 | [],[],_=>rfl
 | .int .i64 a::l,b::m,h=>by
   simp only[bi,Bool.and_eq_true,beq_iff_eq] at h;rw[h.1,xY h.2];rfl
 | [],_::_,h=>by simp[bi] at h
 | x::l,[],h=>by unfold bi at h;split at h<;>simp_all
 | .bool _::_,_::_,h=>by simp[bi] at h
 | .str _::_,_::_,h=>by simp[bi] at h
 | .ptr _ _::_,_::_,h=>by simp[bi] at h
 | .nilPtr::_,_::_,h=>by simp[bi] at h
 | .slice _ _ _ _ _::_,_::_,h=>by simp[bi] at h
 | .nilSlice::_,_::_,h=>by simp[bi] at h
 | .map _::_,_::_,h=>by simp[bi] at h
 | .nilMap::_,_::_,h=>by simp[bi] at h
 | .fn _ _ _::_,_::_,h=>by simp[bi] at h
 | .yield _::_,_::_,h=>by simp[bi] at h
 | .nilFunc::_,_::_,h=>by simp[bi] at h
 | .iface _ _::_,_::_,h=>by simp[bi] at h
 | .nilIface::_,_::_,h=>by simp[bi] at h
 | .agg _::_,_::_,h=>by simp[bi] at h
 | .tuple _::_,_::_,h=>by simp[bi] at h
 | .int .i8 _::_,_::_,h=>by simp[bi] at h
 | .int .i16 _::_,_::_,h=>by simp[bi] at h
 | .int .i32 _::_,_::_,h=>by simp[bi] at h
 | .int .u8 _::_,_::_,h=>by simp[bi] at h
 | .int .u16 _::_,_::_,h=>by simp[bi] at h
 | .int .u32 _::_,_::_,h=>by simp[bi] at h
 | .int .u64 _::_,_::_,h=>by simp[bi] at h
theorem sP:∀(m:List Int),bi (bV m) m=true
 | []=>rfl
 | a::m=>by
   show(a==a&&bi (bV m) m)=true
   rw[sP m];simp
theorem vZ{μ μ':Mu}:∀{zs:List Int} {vs:List Value},VRs μ (bV zs) vs→VRs μ' (bV zs) vs
 | [],_,h=>h
 | _::zs,_,⟨y,ys,e,h1,h2⟩=>⟨y,ys,e,h1,vZ h2⟩
def ph(zs:List Int):IObj:=.cells true 0 0 (bV zs)
def Tabs(ts:List (List Int))(H:Heap):Prop:=ts.length≤H.n∧∀(i:Nat) (h:i < ts.length),H.get i=some (ph ts[i])
theorem Tabs.keep{ts:List (List Int)}{H H':Heap}(h:Tabs ts H)(hn:H.n≤H'.n)(hg:∀i,i < ts.length→H'.get i=H.get i):Tabs ts H':=⟨Nat.le_trans h.1 hn,fun i hi=>by rw[hg i hi];exact h.2 i hi⟩
def Km:List Int→Option IObj→Bool
 | zs,some (.cells true 0 0 l)=>bi l zs
 | _,_=>false
theorem Kl{zs:List Int}{o:Option IObj}(h:Km zs o=true):o=some (ph zs):=by
 unfold Km at h;split at h
 ·rw[xY h];rfl
 ·cases h
def pw:List (List Int)→Nat→Heap→Bool
 | [],_,_=>true
 | t::ts,i,H=>Km t (H.get i)&&pw ts (i+1) H
theorem vg:∀{ts:List (List Int)} {i:Nat} {H:Heap},pw ts i H=true→∀(j:Nat) (h:j < ts.length),H.get (i+j)=some (ph ts[j])
 | [],_,_,_,j,h=>by simp at h
 | t::ts,i,H,h,j,hj=>by
   simp only[pw,Bool.and_eq_true] at h
   cases j with
   | zero=>exact Kl h.1
   | succ j=>
     have:=vg h.2 j (by simpa using hj)
     rw[show i+(j+1)=i+1+j from by omega];simpa using this
theorem xn:∀{ts:List (List Int)} {i:Nat} {H:Heap},(∀(j:Nat) (h:j < ts.length),H.get (i+j)=some (ph ts[j]))→pw ts i H=true
 | [],_,_,_=>rfl
 | t::ts,i,H,h=>by
   simp only[pw,Bool.and_eq_true];refine⟨?_,xn fun j hj=>?_⟩
   ·have:=h 0 (by simp)
    rw[Nat.add_zero] at this;rw[this];exact sP t
   ·have:=h (j+1) (by simpa using hj)
    rw[show i+1+j=i+(j+1) from by omega];simpa using this
theorem Tabs.ok{ts:List (List Int)}{H:Heap}(h:Tabs ts H):pw ts 0 H=true:=xn fun j hj=>by rw[Nat.zero_add];exact h.2 j hj
def lK(ts:List (List Int)):List IV→Nat→Heap→Option (IV×Heap):=fun args _ H=>
 match args with
 | []=>if pw ts 0 H then some (.bool true,H) else none
 | _=>none
def bI:List (List Int)→Heap→Heap
 | [],H=>H
 | t::ts,H=>bI ts (H.new (ph t))
section
variable {P:Program}{g0:Nat}{w:World}
def N0(ts:List (List Int))(w:World):Prop:=∀(i:Nat) (h:i < ts.length),∃(cs:Array Value) (e:TypeId) (fz:Nat×Nat),w.heap[i]? =some (.cells cs e fz)∧(bV ts[i]).length≤cs.size∧VRs (fun _=>.no) (bV ts[i]) (cs.toList.take (bV ts[i]).length)
theorem AZ:∀(ts:List (List Int)) (H:Heap) (μ:Mu),Rel P 0 μ H.get H.n w→Ro H→(∀b,b < H.n→μ b=.at b 0 0 0)→
  (∀(i:Nat) (h:i < ts.length),∃(cs:Array Value) (e:TypeId) (fz:Nat×Nat),w.heap[H.n+i]? =some (.cells cs e fz)∧(bV ts[i]).length≤cs.size∧VRs (fun _=>.no) (bV ts[i]) (cs.toList.take (bV ts[i]).length))→
  ∃μ',Rel P 0 μ' (bI ts H).get (bI ts H).n w∧Ro (bI ts H)∧Grow H (bI ts H)∧(∀b,b < (bI ts H).n→μ' b=.at b 0 0 0)∧(bI ts H).n=H.n+ts.length∧∀(i:Nat) (h:i < ts.length),(bI ts H).get (H.n+i)=some (ph ts[i])
 | [],H,μ,hr,ho,hm,_=>⟨μ,hr,ho,.refl H,hm,rfl,fun i h=>by simp at h⟩
 | t::ts,H,μ,hr,ho,hm,hw=>by
   obtain⟨cs,e,fz,h1,h2,h3⟩:=hw 0 (by simp);simp only[List.getElem_cons_zero,Nat.add_zero] at h1 h2 h3;have hle:∀(c:Nat),c=c:=fun _=>rfl;obtain⟨a1,a2⟩:=Rel.allocRo (c:=H.n) (p:=0) (cs:=bV t) hr ho h1 (by omega) (by rw[List.drop_zero];exact vZ h3);have hn:(H.new (ph t)).n=H.n+1:=ac _ _
   obtain⟨μ',b1,b2,b3,b4,b5,b6⟩:=AZ ts (H.new (ph t)) _ a1 a2 (fun b hb=>by
    rw[hn] at hb;by_cases hb':b=H.n
    ·subst hb';rw[av]
    ·rw[aw _ _ hb'];exact hm b (by omega)) (fun i hi=>by
    have:=hw (i+1) (by simpa using hi)
    rw[hn,show H.n+1+i=H.n+(i+1) from by omega];simpa using this)
   refine⟨μ',b1,b2,Grow.trans ⟨by rw[hn];omega,fun b o hb hg=>by rw[aj,if_neg (by omega)];exact hg⟩ b3,b4,by rw[show(bI (t::ts) H).n=(bI ts (H.new (ph t))).n from rfl,b5,hn];simp;omega,fun i hi=>?_⟩
   cases i with
   | zero=>exact b3.2 H.n _ (by rw[hn];omega) (by rw[aj,if_pos rfl];rfl)
   | succ i=>
     have:=b6 i (by simpa using hi)
     rw[hn,show H.n+1+i=H.n+(i+1) from by omega] at this;exact this
theorem xo{ts:List (List Int)}(h:N0 ts w):∃μ,Rel P ts.length μ (bI ts emptyHeap).get (bI ts emptyHeap).n w∧Ro (bI ts emptyHeap)∧Tabs ts (bI ts emptyHeap)∧(bI ts emptyHeap).n=ts.length:=by
 obtain⟨μ,a1,a2,a3,a4,a5,a6⟩:=AZ (P:=P) ts emptyHeap _ Hb KF (fun b hb=>by have:emptyHeap.n=0:=rfl;omega) (fun i hi=>by
  have:=h i hi
  rw[show emptyHeap.n=0 from rfl,Nat.zero_add];exact this)
 have e0:emptyHeap.n=0:=rfl;rw[e0,Nat.zero_add] at a5;refine⟨μ,⟨a1.lt,a1.inj,a1.obj,fun i hi=>a4 i (by omega),a1.ded⟩,a2,⟨by omega,fun i hi=>?_⟩,a5⟩
 have:=a6 i hi
 rwa [e0,Nat.zero_add] at this
theorem Rel.tabW{ts:List (List Int)}{μ:Mu}{H:Heap}(hr:Rel P ts.length μ H.get H.n w)(ht:∀(i:Nat) (h:i < ts.length),H.get i=some (ph ts[i])):N0 ts w:=by
 intro i hi;obtain⟨o,h1,h2⟩:=hr.obj i i 0 0 0 (hr.glob i hi);rw[ht i hi] at h1;injection h1 with h1;subst h1;obtain⟨_,cs,e,fz,h3,h4,h5⟩:=h2;refine⟨cs,e,fz,h3,by omega,?_⟩;rw[List.drop_zero] at h5;exact vZ h5
theorem D6{E:Env}{ts:List (List Int)}(hE:EnvOk P E)(hg:E.g0=ts.length){f:FuncId}{n:Nat}{H0:Heap}(h:run E n (.call f []) ts.length (bI ts emptyHeap)=some (.val (.bool true),H0)):
  ∀args lo H v H',lK ts args lo H=some (v,H')→CallSim P ts.length f args lo H v H':=by
 intro args lo H v H' hs
 cases args with
 | cons a l=>cases hs
 | nil=>
   simp only[lK] at hs;split at hs
   case isFalse=>cases hs
   rename_i hok;have hget:=vg hok;injection hs with hs;injection hs with h1 h2;subst h1 h2;have hsim:=oH hE h;rw[hg] at hsim;intro μ w args' hr ha;obtain⟨μ0,hrel0,hro0,_,hn0⟩:=xo (P:=P) (hr.tabW fun i hi=>by have:=hget i hi;rwa [Nat.zero_add] at this);refine(hsim μ0 w args' hrel0 ha).mono fun e w' ⟨v',μ',he,hrel,hpost,hv⟩=>⟨v',μ,he,?_,?_,hv⟩
   ·have hframe:∀c,c < w.heap.size→w'.heap[c]? =w.heap[c]?:=fun c hc=>hpost.frame c hc (fun b p ez z h1 h2 h3=>by omega);exact⟨hr.lt,hr.inj,fun b c p ez z hb=>by rw[hframe c (hr.clt hb)];exact hr.obj b c p ez z hb,hr.glob,hr.ded⟩
   ·have hframe:∀c,c < w.heap.size→w'.heap[c]? =w.heap[c]?:=fun c hc=>hpost.frame c hc (fun b p ez z h1 h2 h3=>by omega);exact⟨μ.le_refl,Nat.le_refl _,fun _ _ h=>h,fun _ _ _=>⟨rfl,rfl⟩,fun _ _ h=>h,fun b c p ez z hb e=>absurd (hr.lt b (by rw[e];exact fun x=>by cases x)) (by omega),fun b h1 h2=>by omega,hpost.size,fun c hc _=>hframe c hc,hpost.os,hpost.tape,hpost.output,hpost.drawn⟩
end
section
variable {P:Program}{T:Type}{enc:TypeId×Value→T}
theorem xd{E:Env}{ts:List (List Int)}(hE:EnvOk P E)(hg:E.g0=ts.length){f:FuncId}{fn:Func}{n:Nat}{τs:List Ty}(hτ:fn.params.toList.mapM (mF P n)=some τs){tb:TypeId}(hres:fn.resultTypes=#[tb])(hb:P.underlying tb=some .bool)
  (hty:zk P fn=true) {s:ChangeSpec} (hvs:s.vars=[]) (hfn:∀(T:Type) (ds:List (DataW T)),ds.length=τs.length→s.fn T ds={results:=[.lit (.bool true)],args:=ds})
  (C:List PD→Prop)
  (hrun:∀(H:Heap) (css:List (List IV)) (ds:List PD),Ro H→Tabs ts H→Rds H τs css ds→C ds→∃n H',run E n (.call f (JC τs css)) H.n H=some (.val (.bool true),H'))
  {apart fresh handsOn:Bool} (W:World) (base:Nat) (args:Array Value) (ds gs:List (DataW T)) (before:List MemPlace)
  (hval:∀(j:Nat) t v,fn.params[j]? =some t→args[j]? =some v→Value.okWide P W .any base t v)
  (hW:DataW.Whole enc P fn.params.toList s.vars apart W args.toList ds gs before) (hT:N0 ts W) (hC:C (ds.map iO)):
  Calls P f args W fun e W'=>∃v,e=.returned v∧s.post enc P fn apart fresh handsOn false W args v W':=by
 have hW0:=hW;obtain⟨p,q,hA,hV,hpq,hfz,hnd⟩:=hW;rw[hvs] at hV
 have hgs:gs=[]∧q=[]:=by
  cases gs with
  | nil=>exact⟨rfl,hV⟩
  | cons g gs=>exact hV.elim
 obtain⟨rfl,rfl⟩:=hgs;simp only[List.append_nil] at hpq;subst hpq;obtain⟨μ0,hrel0,hro0,htab0,hn0⟩:=xo (P:=P) hT;obtain⟨μ,H,css,a1,a2,_,hgrow,a5,a6⟩:=xN (g0:=ts.length) (n:=n) (base:=base) (r:=.any) _ _ _ _ _ hτ hA (fun j t v h1 h2=>hval j t v (by simpa using h1) (by simpa using h2)) μ0 (bI ts emptyHeap) hrel0 hro0;obtain⟨m,H',hr⟩:=hrun H css _ a2 ⟨by have:=hgrow.1;omega,fun i hi=>hgrow.2 i _ (by omega) (htab0.2 i hi)⟩ a6 hC;have hsim:=oH hE hr;rw[hg] at hsim;refine(hsim μ W args a1 (by simpa using a5)).mono fun e W' ⟨v',μ',he,hrel,hpost,hv⟩=>⟨v',he,?_⟩;have hv:v'=.bool true:=hv;subst hv;simp only[zk,Bool.and_eq_true,List.all_eq_true,decide_eq_true_eq] at hty;obtain⟨⟨⟨hl,hm⟩,hz⟩,hps⟩:=hty;have hframe:∀c,c < W.heap.size→W'.heap[c]? =W.heap[c]?:=fun c hc=>hpost.frame c hc (fun b p ez z h1 h2=>by omega);have hlen:=(trodAll_length hA).2;have hτl:τs.length=fn.params.toList.length:=(nj hτ).1;have hf0:s.fn T (ds++[])={results:=[.lit (.bool true)],args:=ds}:=by rw[List.append_nil];exact hfn T ds (by rw[hlen,hτl])
 have hlt:=DataW.TrodAll.lt hA
 have hz':∀{t e:TypeId},t < P.types.size→P.underlying t=some (.slice e)→0 < P.cellsOf e:=by
  intro t e ht hu
  have:=hz t (List.mem_range.2 ht)
  rw[hu] at this;simpa using this
 refine⟨ds,[],before,[],before,[],hW0,?_,?_,?_,?_,fun h=>by cases h⟩
 ·rw[hf0,hres];refine⟨[],[],⟨1,?_⟩,rfl,rfl⟩;simp[DataW.trod,Value.cells,hb]
 ·rw[hf0];refine pg (kids_rows hl hm) hz' _ _ _ _ hps hA (fun x hx=>?_) (fun x hx=>by simpa using hlt x hx)
  have:=hlt x hx
  cases x with
  | cell b off=>simp only[World.sameAt,World.cell?];rw[hframe b this]
  | map b=>exact hframe b this
 ·rw[hvs,hf0];rfl
 ·refine World.keptBut_mono (fun p hp=>hp.elim) (World.keptBut_none_iff.2 ⟨hpost.os,hpost.output,fun i hi=>hframe i hi⟩)
end
def Et(k:IntKind)(n:Int):Int:=
 match k with
 | .i64=>match n with
   | .ofNat m=>match Nat.blt m 9223372036854775808 with | true=>n | false=>IntKind.wrap k n
   | .negSucc m=>match Nat.blt m 9223372036854775808 with | true=>n | false=>IntKind.wrap k n
 | _=>IntKind.wrap k n
theorem HR(k:IntKind)(n:Int):Et k n=k.wrap n:=by
 cases k<;>try rfl
 unfold Et
 cases n with
 | ofNat m=>
   simp only
   split
   ·rename_i h
    have h:m < 9223372036854775808:=by
     have:=Nat.le_of_ble_eq_true h
     omega
    exact(IntWalk.i64_in (Int.ofNat m) (by simp only[Int.ofNat_eq_natCast];omega)).symm
   ·rfl
 | negSucc m=>
   simp only
   split
   ·rename_i h
    have h:m < 9223372036854775808:=by
     have:=Nat.le_of_ble_eq_true h
     omega
    exact(IntWalk.i64_in (Int.negSucc m) (by simp only[Int.negSucc_eq];omega)).symm
   ·rfl
theorem K3(m n:Nat):Nat.blt m n=decide (m < n):=by
 rw[Bool.eq_iff_iff,decide_eq_true_eq];exact⟨fun h=>Nat.le_of_ble_eq_true h,fun h=>Nat.ble_eq_true_of_le h⟩
def Sn(a b:Int):Bool:=
 match a with
 | .ofNat m=>match b with | .ofNat n=>Nat.blt m n | .negSucc _=>false
 | .negSucc m=>match b with | .ofNat _=>true | .negSucc n=>Nat.blt n m
theorem JW(a b:Int):Sn a b=decide (a < b):=by
 unfold Sn
 cases a<;>cases b<;>simp only[K3,Int.ofNat_eq_natCast,Int.negSucc_eq]<;>first | (rw[decide_eq_decide];omega) | (rw[eq_comm,decide_eq_true_eq];omega) | (rw[eq_comm,decide_eq_false_iff_not];omega)
def TG(a b:Int):Bool:=!(Sn b a)
theorem QH(a b:Int):TG a b=decide (a≤b):=by
 unfold TG;rw[JW];by_cases h:b < a
 ·have:¬a≤b:=by omega
  simp[h,this]
 ·have:a≤b:=by omega
  simp[h,this]
def NH(a b:Int):Bool:=
 match a with
 | .ofNat m=>match b with | .ofNat n=>Nat.beq m n | .negSucc _=>false
 | .negSucc m=>match b with | .ofNat _=>false | .negSucc n=>Nat.beq m n
theorem NG(a b:Int):NH a b=(a==b):=by
 rw[Bool.eq_iff_iff];unfold NH
 cases a<;>cases b<;>simp<;>omega
def Y8:IntKind→IntKind→Bool
 | .i64,.i64=>true
 | .u8,.u8=>true
 | a,b=>decide (a=b)
theorem QP(a b:IntKind):Y8 a b=decide (a=b):=by cases a<;>cases b<;>rfl
def SK(op:BinOp)(k:IntKind)(a:Int)(b:Int):Option IV:=
 match op with
 | .add=>some (.int k (Et k (a+b)))
 | .sub=>some (.int k (Et k (a - b)))
 | .eql=>some (.bool (NH a b))
 | .neq=>some (.bool !(NH a b))
 | .lss=>some (.bool (Sn a b))
 | .leq=>some (.bool (TG a b))
 | .gtr=>some (.bool (Sn b a))
 | .geq=>some (.bool (TG b a))
 | _=>nX op (.int k a) (.int k b)
def PB(op:BinOp)(k:IntKind)(a:Int)(k':IntKind)(b:Int):Option IV:=
 match Y8 k k' with
 | true=>SK op k a b
 | false=>nX op (.int k a) (.int k' b)
def Rn(op:BinOp)(x y:IV):Option IV:=
 match x with
 | .int k a=>match y with
   | .int k' b=>PB op k a k' b
   | _=>nX op x y
 | _=>nX op x y
theorem NU(op:BinOp)(x y:IV):Rn op x y=nX op x y:=by
 unfold Rn
 cases x<;>try rfl
 cases y<;>try rfl
 rename_i k a k' b;simp only[PB];split
 ·rename_i h;rw[QP] at h;have h:k=k':=by simpa using h
  subst h
  cases op<;>simp[SK,nX,HR,JW,QH,NG,bne]
 ·rfl
def wp(xs:List IV)(lo:Nat)(H:Heap):Option (IV×Heap):=
 match xs with
  | [x]=>some (x,H)
  | _=>none
def wo(xs:List IV)(lo:Nat)(H:Heap):Option (IV×Heap):=
 match xs with
  | [.bool c,a,b]=>some (if c then a else b,H)
  | _=>none
def Ai(e:Nat)(ez:Nat)(zs:List IV)(xs:List IV)(lo:Nat)(H:Heap):Option (IV×Heap):=
 match xs with
  | []=>some (.ptr H.n 0,H.new (.cells false e ez zs))
  | _=>none
def KJ(e:Nat)(ez:Nat)(xs:List IV)(lo:Nat)(H:Heap):Option (IV×Heap):=
 match xs with
  | [x]=>some (.ptr H.n 0,H.new (.cells false e ez x.cells))
  | _=>none
def qQ(zs:List IV)(offs:List (Nat×Nat))(xs:List IV)(lo:Nat)(H:Heap):Option (IV×Heap):=
 match xs with
  | xs=>(bD offs xs zs).map fun cs=>(.agg cs,H)
def se(e:Nat)(ez:Nat)(n:Nat)(zs:List IV)(offs:List (Nat×Nat))(xs:List IV)(lo:Nat)(H:Heap):Option (IV×Heap):=
 match xs with
  | xs=>(bD offs xs zs).map fun cs=>(.slice H.n 0 n n true,H.new (.cells false e ez cs))
def wu(n:Option Nat)(xs:List IV)(lo:Nat)(H:Heap):Option (IV×Heap):=
 match xs with
  | [.ptr b o]=>(H.read b o (n.getD 1)).bind fun cs=>(ak n cs).map fun v=>(v,H)
  | _=>none
def Ae(n:Nat)(xs:List IV)(lo:Nat)(H:Heap):Option (IV×Heap):=
 match xs with
  | [.ptr b o,x]=>if x.cells.length=n then(H.write lo b o x.cells).map fun H'=>(IV.undef,H') else none
  | _=>none
def jF(xs:List IV)(lo:Nat)(H:Heap):Option (IV×Heap):=
 match xs with
  | [x]=>match x with | .nilPtr | .nilIface | .nilFunc | .yield _=>none | x=>some (x,H)
  | _=>none
def xZ(op:BinOp)(xs:List IV)(lo:Nat)(H:Heap):Option (IV×Heap):=
 match xs with
  | [x,y]=>(Rn op x y).map (·,H)
  | _=>none
def nQ(neg:Bool)(xs:List IV)(lo:Nat)(H:Heap):Option (IV×Heap):=
 match xs with
  | [.bool a,.bool b]=>some (.bool (neg !=(a==b)),H)
  | _=>none
def nP(neg:Bool)(ds:List Pk)(xs:List IV)(lo:Nat)(H:Heap):Option (IV×Heap):=
 match xs with
  | [.agg x,.agg y]=>(hU ds x y).map fun r=>(.bool (neg !=r),H)
  | _=>none
def qP(neg:Bool)(nk:Nk)(xs:List IV)(lo:Nat)(H:Heap):Option (IV×Heap):=
 match xs with
  | [x,y]=>
    match iE nk x,iE nk y with
    | some true,some r=>some (.bool (neg !=r),H)
    | some r,some true=>some (.bool (neg !=r),H)
    | _,_=>none
  | _=>none
def KH(op:UnOp)(xs:List IV)(lo:Nat)(H:Heap):Option (IV×Heap):=
 match xs with
  | [x]=>(P4 op x).map (·,H)
  | _=>none
def ww(k:IntKind)(xs:List IV)(lo:Nat)(H:Heap):Option (IV×Heap):=
 match xs with
  | [.int _ n]=>some (.int k (k.wrap n),H)
  | _=>none
def qM(t:TypeId)(xs:List IV)(lo:Nat)(H:Heap):Option (IV×Heap):=
 match xs with
  | [x]=>some (.iface t x,H)
  | _=>none
def sd(f:FuncId)(k:Nat)(xs:List IV)(lo:Nat)(H:Heap):Option (IV×Heap):=
 match xs with
  | xs=>some (.fn f (xs.take k) (xs.drop k),H)
def wm(xs:List IV)(lo:Nat)(H:Heap):Option (IV×Heap):=
 match xs with
  | [.nilMap]=>some (.ptr H.n 0,H.new (.iter none 0 [] 0))
  | [.map b]=>(az H b).map fun p=>(.ptr H.n 0,H.new (.iter (some b) p.2 [] p.2))
  | _=>none
def nR(xs:List IV)(lo:Nat)(H:Heap):Option (IV×Heap):=
 match xs with
  | [.ptr r 0]=>(wk H r).map (·,H)
  | _=>none
def Af(xs:List IV)(lo:Nat)(H:Heap):Option (IV×Heap):=
 match xs with
  | [.ptr r 0]=>if lo≤r then(stepM H r).map fun p=>(p.1,match p.2 with | none=>H | some o=>H.put r o) else none
  | _=>none
def Ag(xs:List IV)(lo:Nat)(H:Heap):Option (IV×Heap):=
 match xs with
  | []=>some (.map H.n,H.new (.map [] 0))
  | [.int _ _]=>some (.map H.n,H.new (.map [] 0))
  | _=>none
def DV(e:Nat)(ez:Nat)(bytes:Nat)(zs:List IV)(xs:List IV)(lo:Nat)(H:Heap):Option (IV×Heap):=
 match xs with
  | [.int _ l,.int _ c]=>
    if 0≤l∧l≤c∧c*(bytes+1)≤2^40 then
     some (.slice H.n 0 l.toNat c.toNat true,H.new (.cells false e ez (iU c.toNat zs)))
    else none
  | _=>none
def B6(size:Nat)(lo:Bool)(hi:Bool)(mx:Bool)(xs:List IV)(lo0:Nat)(H:Heap):Option (IV×Heap):=
 match xs with
  | s::l=>
    match s with
    | .nilSlice=>(aI 0 0 lo hi mx l).bind fun(a,b,_)=>if a=0∧b=0 then some (.nilSlice,H) else none
    | .slice b o len lb ex=>
      if ex||rX H b size then
       (aI len lb lo hi mx l).map fun(a,h,m)=>
        match m with
        | some m=>(.slice b (o+a*size) (h - a) (m - a) true,H)
        | none=>(.slice b (o+a*size) (h - a) (lb - a) ex,H)
      else none
    | _=>none
  | _=>none
def nG(lo:Bool)(hi:Bool)(xs:List IV)(lo0:Nat)(H:Heap):Option (IV×Heap):=
 match xs with
  | .str s::l=>
    (aI s.length s.length lo hi false l).map fun(a,h,_)=>(.str ((s.drop a).take (h - a)),H)
  | _=>none
def nH(_:Nat)(n:Nat)(size:Nat)(lo:Bool)(hi:Bool)(mx:Bool)(xs:List IV)(lo0:Nat)(H:Heap):Option (IV×Heap):=
 match xs with
  | .ptr b o::l=>
    (aI n n lo hi mx l).bind fun(a,h,m)=>if 0 < n∧n≤2^40 then
     some (.slice b (o+a*size) (h - a) (m.getD n - a) true,H) else none
  | _=>none
def iJ(off:Nat)(xs:List IV)(lo:Nat)(H:Heap):Option (IV×Heap):=
 match xs with
  | [.ptr b o]=>some (.ptr b (o+off),H)
  | _=>none
def qO(off:Nat)(n:Option Nat)(xs:List IV)(lo:Nat)(H:Heap):Option (IV×Heap):=
 match xs with
  | [.agg cs]=>if off+n.getD 1≤cs.length then(ak n ((cs.drop off).take (n.getD 1))).map fun v=>(v,H) else none
  | _=>none
def qN(size:Nat)(xs:List IV)(lo:Nat)(H:Heap):Option (IV×Heap):=
 match xs with
  | [.slice b o len _ _,.int _ i]=>if 0≤i∧i < (len:Int) then some (.ptr b (o+i.toNat*size),H) else none
  | _=>none
def gH(len:Nat)(size:Nat)(xs:List IV)(lo:Nat)(H:Heap):Option (IV×Heap):=
 match xs with
  | [.ptr b o,.int _ i]=>if 0≤i∧i < (len:Int) then some (.ptr b (o+i.toNat*size),H) else none
  | _=>none
def nO(len:Nat)(size:Nat)(n:Option Nat)(xs:List IV)(lo:Nat)(H:Heap):Option (IV×Heap):=
 match xs with
  | [.agg cs,.int _ i]=>
    if 0≤i∧i < (len:Int)∧i.toNat*size+n.getD 1≤cs.length then(ak n ((cs.drop (i.toNat*size)).take (n.getD 1))).map fun v=>(v,H) else none
  | _=>none
def nN(xs:List IV)(lo:Nat)(H:Heap):Option (IV×Heap):=
 match xs with
  | [.str s,.int _ i]=>if 0≤i then(s[i.toNat]?).map fun c=>(.int .u8 c.toNat,H) else none
  | _=>none
def nI(_:TypeId)(ky:Bool×List Pk)(zero:IV)(ok:Bool)(xs:List IV)(lo:Nat)(H:Heap):Option (IV×Heap):=
 match xs with
  | [m,k]=>
    match (match m with | .nilMap=>some [] | .map b=>(az H b).map (·.1) | _=>none) with
    | none=>none
    | some es=>
      if bS ky k then
       match aF ky k es 0 with
       | none=>none
       | some r=>
         let (v,there):IV×Bool:=match r with | some (_,v)=>(v,true) | none=>(zero,false)
         some (if ok then .tuple [v,.bool there] else v,H)
      else none
  | _=>none
def wq(ky:Bool×List Pk)(xs:List IV)(lo:Nat)(H:Heap):Option (IV×Heap):=
 match xs with
  | [.map b,k,v]=>
    match az H b with
    | none=>none
    | some (es,clock)=>
      if lo≤b∧bS ky k then
       match aF ky k es 0 with
       | none=>none
       | some (some (i,_))=>some (IV.undef,H.put b (.map (bP k v es i) clock))
       | some none=>some (IV.undef,H.put b (.map (es++[(k,v,clock)]) (clock+1)))
      else none
  | _=>none
def pL(_:TypeId)(ky:Bool×List Pk)(zero:IV)(xs:List IV)(lo:Nat)(H:Heap):Option (IV×Heap):=
 match xs with
  | [.map b,k]=>
    match az H b with
    | none=>none
    | some (es,clock)=>
      if lo≤b∧bS ky k then
       match aF ky k es 0 with
       | none=>none
       | some (some (i,v))=>(es[i]?).map fun e=>(.tuple [v,.int .i64 e.2.2],H.put b (.map (bP k v es i) clock))
       | some none=>some (.tuple [zero,.int .i64 clock],H.put b (.map (es++[(k,zero,clock)]) (clock+1)))
      else none
  | _=>none
def mc(xs:List IV)(lo:Nat)(H:Heap):Option (IV×Heap):=
 match xs with
  | [.map b,.int _ s,v]=>
    match az H b with
    | none=>none
    | some (es,clock)=>if lo≤b then(gp v s es).map fun es'=>(IV.undef,H.put b (.map es' clock)) else none
  | _=>none
def wv(ky:Bool×List Pk)(xs:List IV)(lo:Nat)(H:Heap):Option (IV×Heap):=
 match xs with
  | [.map b,k]=>
    match az H b with
    | none=>none
    | some (es,clock)=>
      if lo≤b∧bS ky k then
       match aF ky k es 0 with
       | none=>none
       | some (some (i,_))=>some (IV.undef,H.put b (.map (dX es i) clock))
       | some none=>some (IV.undef,H)
      else none
  | _=>none
def qL(xs:List IV)(lo:Nat)(H:Heap):Option (IV×Heap):=
 match xs with
  | [x]=>match x with | .nilSlice=>some (.int .i64 0,H) | .slice _ _ n _ _=>some (.int .i64 n,H) | _=>none
  | _=>none
def nJ(xs:List IV)(lo:Nat)(H:Heap):Option (IV×Heap):=
 match xs with
  | [.str s]=>some (.int .i64 s.length,H)
  | _=>none
def nM(n:Nat)(xs:List IV)(lo:Nat)(H:Heap):Option (IV×Heap):=
 match xs with
  | [_]=>some (.int .i64 n,H)
  | _=>none
def nL(xs:List IV)(lo:Nat)(H:Heap):Option (IV×Heap):=
 match xs with
  | [m]=>match m with | .nilMap=>some (.int .i64 0,H) | .map b=>(az H b).map fun(es,_)=>(.int .i64 es.length,H) | _=>none
  | _=>none
def Cb(xs:List IV)(lo:Nat)(H:Heap):Option (IV×Heap):=
 match xs with
  | [x]=>match x with | .nilSlice=>some (.int .i64 0,H) | .slice _ _ _ c true=>some (.int .i64 c,H) | _=>none
  | _=>none
def wx(e:Nat)(size:Nat)(bytes:Nat)(xs:List IV)(lo:Nat)(H:Heap):Option (IV×Heap):=
 match xs with
  | [s,x]=>(i4 x).bind fun n=>(eq H size n x).bind fun xs=>bF e size bytes s xs n lo H
  | _=>none
def DW(size:Nat)(xs:List IV)(lo:Nat)(H:Heap):Option (IV×Heap):=
 match xs with
  | [d,s]=>
    match jG d,i4 s with
    | some n,some m=>
      let k:=Min.min m n
      if k=0 then some (.int .i64 0,H)
      else(eq H size k s).bind fun xs=>
       match d with
       | .slice b o _ _ _=>(H.write lo b o xs).map fun H'=>(.int .i64 k,H')
       | _=>none
    | _,_=>none
  | _=>none
def B7(xs:List IV)(lo:Nat)(H:Heap):Option (IV×Heap):=
 match xs with
  | [.int k a,.int k' b]=>if k=k' then some (.int k (if b < a then b else a),H) else none
  | _=>none
def Ca(xs:List IV)(lo:Nat)(H:Heap):Option (IV×Heap):=
 match xs with
  | [.int k a,.int k' b]=>if k=k' then some (.int k (if b>a then b else a),H) else none
  | _=>none
def Ah(zs:List IV)(xs:List IV)(lo:Nat)(H:Heap):Option (IV×Heap):=
 match xs with
  | [x]=>
    match x with
    | .nilSlice=>some (.tuple [],H)
    | .slice b o n _ _=>if n=0 then some (.tuple [],H) else(H.write lo b o (iU n zs)).map fun H'=>(.tuple [],H')
    | _=>none
  | _=>none
def sf(e:Nat)(size:Nat)(bytes:Nat)(zs:List IV)(xs:List IV)(lo:Nat)(H:Heap):Option (IV×Heap):=
 match xs with
  | [s,.int _ n]=>
    if 0≤n∧n*(bytes+1)≤2^40 then bF e size bytes s (iU n.toNat zs) n.toNat lo H else none
  | _=>none
def qK(xs:List IV)(lo:Nat)(H:Heap):Option (IV×Heap):=
 match xs with
  | [x]=>
    match x with
    | .nilSlice=>some (.str [],H)
    | .slice b o n _ _=>if n=0 then some (.str [],H) else(H.read b o n).bind fun cs=>(nV cs).map fun s=>(.str s,H)
    | _=>none
  | _=>none
def li(i:Nat)(xs:List IV)(lo:Nat)(H:Heap):Option (IV×Heap):=
 match xs with
  | [.tuple l]=>(l[i]?).map (·,H)
  | _=>none
def KI(xs:List IV)(lo:Nat)(H:Heap):Option (IV×Heap):=
 none
def Q9(kd:Kd)(xs:List IV)(lo:Nat)(H:Heap):Option (IV×Heap):=
 match kd with
 | .move=>wp xs lo H
 | .pick=>wo xs lo H
 | .alloc a0 a1 a2=>Ai a0 a1 a2 xs lo H
 | .box a0 a1=>KJ a0 a1 xs lo H
 | .build a0 a1=>qQ a0 a1 xs lo H
 | .buildSl a0 a1 a2 a3 a4=>se a0 a1 a2 a3 a4 xs lo H
 | .load a0=>wu a0 xs lo H
 | .store a0=>Ae a0 xs lo H
 | .nilCheck=>jF xs lo H
 | .bin a0=>xZ a0 xs lo H
 | .eqBool a0=>nQ a0 xs lo H
 | .eqFlat a0 a1=>nP a0 a1 xs lo H
 | .eqNil a0 a1=>qP a0 a1 xs lo H
 | .un a0=>KH a0 xs lo H
 | .conv a0=>ww a0 xs lo H
 | .iface a0=>qM a0 xs lo H
 | .mkfn a0 a1=>sd a0 a1 xs lo H
 | .mkmap=>Ag xs lo H
 | .mksl a0 a1 a2 a3=>DV a0 a1 a2 a3 xs lo H
 | .slc a0 a1 a2 a3=>B6 a0 a1 a2 a3 xs lo H
 | .slcStr a0 a1=>nG a0 a1 xs lo H
 | .slcArr a0 a1 a2 a3 a4 a5=>nH a0 a1 a2 a3 a4 a5 xs lo H
 | .fieldAddr a0=>iJ a0 xs lo H
 | .field a0 a1=>qO a0 a1 xs lo H
 | .idxSl a0=>qN a0 xs lo H
 | .idxArrAddr a0 a1=>gH a0 a1 xs lo H
 | .idxArr a0 a1 a2=>nO a0 a1 a2 xs lo H
 | .idxStr=>nN xs lo H
 | .lookup a0 a1 a2 a3=>nI a0 a1 a2 a3 xs lo H
 | .mapUpd a0=>wq a0 xs lo H
 | .mapEntry a0 a1 a2=>pL a0 a1 a2 xs lo H
 | .entryStore=>mc xs lo H
 | .delete a0=>wv a0 xs lo H
 | .lenSl=>qL xs lo H
 | .lenStr=>nJ xs lo H
 | .lenArr a0=>nM a0 xs lo H
 | .lenMap=>nL xs lo H
 | .cap=>Cb xs lo H
 | .append a0 a1 a2=>wx a0 a1 a2 xs lo H
 | .copy a0=>DW a0 xs lo H
 | .min=>B7 xs lo H
 | .max=>Ca xs lo H
 | .clear a0=>Ah a0 xs lo H
 | .appendZ a0 a1 a2 a3=>sf a0 a1 a2 a3 xs lo H
 | .strOf=>qK xs lo H
 | .rangeM=>wm xs lo H
 | .nextM=>Af xs lo H
 | .entryM=>nR xs lo H
 | .extract a0=>li a0 xs lo H
 | .call=>KI xs lo H
theorem qI(kd:Kd)(xs:List IV)(lo:Nat)(H:Heap):Q9 kd xs lo H=ev1 kd xs lo H:=by
 cases kd<;>first | rfl | (simp only[Q9,xZ,ev1,NU];rfl)
abbrev CH:=Task→Nat→Heap→Option (Out×Heap)
def Kd.isCall:Kd→Bool
 | .call=>true
 | _=>false
def nf(k:Fr→Heap→Option (Out×Heap))(r:Option (Out×Heap)):Option (Out×Heap):=
 match r with
 | none=>none
 | some p=>match p.1 with
   | .val _=>r
   | .ex e fr=>match e with
     | .normal=>k fr p.2
     | .jmp _=>r
def vF(k:IV→Heap→Option (Out×Heap))(r:Option (Out×Heap)):Option (Out×Heap):=
 match r with
 | none=>none
 | some p=>match p.1 with
   | .val v=>k v p.2
   | .ex _ _=>none
def Sj(k:IV→Heap→Option (Out×Heap))(r:Option (IV×Heap)):Option (Out×Heap):=
 match r with
 | none=>none
 | some p=>k p.1 p.2
def sh(id:Nat)(r:Option (Out×Heap)):Option (Out×Heap):=
 match r with
 | none=>none
 | some p=>match p.1 with
   | .val _=>r
   | .ex e fr=>match e with
     | .normal=>r
     | .jmp j=>match j with
       | .ret=>r
       | .exit id'=>some (.ex (if id'=id then .normal else .jmp (.exit id')) fr,p.2)
def KQ(rec:CH)(a b:IC)(rd:Option Nat)(fr:Fr)(lo:Nat)(H:Heap)(c:Option IV):Option (Out×Heap):=
 match c with
 | none=>none
 | some v=>match v with
   | .bool x=>match x with
     | true=>rec (.code a rd fr) lo H
     | false=>rec (.code b rd fr) lo H
   | _=>none
def zu(l:Nat)(lo:Nat)(marks:List Nat)(fr:Fr)(_:IV)(H2:Heap):Option (Out×Heap):=
 match H2.get l with
 | some (.loop st pend tm ps asg body df)=>
   if st=.busy∨l < lo then none
   else
    match pend with
    | none=>some (.ex .normal {fr with marks:=marks++fr.marks},H2.put l (.loop .exhausted pend tm ps asg body df))
    | some j=>some (.ex (.jmp j) {fr with marks:=marks++fr.marks},H2.put l (.loop .exhausted pend tm ps asg body df))
 | _=>none
def Ql(rec:CH)(ps:List Nat)(asg body:IC)(fr:Fr)(lo:Nat)(g:Option IV)(en:Option (Nat×List Nat×Heap)):Option (Out×Heap):=
 match g with
 | none=>none
 | some g=>match en with
   | none=>none
   | some e=>vF (zu e.2.2.n lo e.2.1 fr) (rec (.apply g [.yield e.2.2.n]) lo (e.2.2.new (.loop .ready none fr.tm ps asg body e.1)))
def iV(g0:Nat)(rec:CH)(c:IC)(rd:Option Nat)(fr:Fr)(lo:Nat)(H:Heap):Option (Out×Heap):=
 match c with
 | .skip=>some (.ex .normal fr,H)
 | .exit id=>some (.ex (.jmp (.exit id)) fr,H)
 | .ret=>some (.ex (.jmp .ret) fr,H)
 | .ops l=>rec (.segs l rd fr) lo H
 | .seq a b=>nf (fun fr' H'=>rec (.code b rd fr') lo H') (rec (.code a rd fr) lo H)
 | .cond c a b=>KQ rec a b rd fr lo H (c.eval g0 fr.tm)
 | .block id c=>sh id (rec (.code c rd fr) lo H)
 | .loop c=>nf (fun fr' H'=>rec (.code (.loop c) rd fr') lo H') (rec (.code c rd fr) lo H)
 | .scope c=>rec (.code c rd fr) lo H
 | .rfn f ps asg body=>Ql rec ps asg body fr lo (f.eval g0 fr.tm) (gE rd H)
def uc(rec:CH)(l:List (Sg×List IOp))(rd:Option Nat)(lo:Nat)(r:Option (Out×Heap)):Option (Out×Heap):=
 match r with
 | none=>none
 | some p=>match p.1 with
   | .val _=>none
   | .ex e fr=>match e with
     | .normal=>rec (.segs l rd fr) lo p.2
     | .jmp _=>none
def IX(rec:CH)(l:List (Sg×List IOp))(rd:Option Nat)(fr:Fr)(lo:Nat)(H:Heap):Option (Out×Heap):=
 match l with
 | []=>some (.ex .normal fr,H)
 | x::l=>uc rec l rd lo (rec (.ops (match x.1 with | .seq=>none | .free=>some []) x.2 rd fr) lo H)
def yi(rec:CH)(xs:List IV)(lw:Nat)(H:Heap):Option (Out×Heap):=
 match xs with
 | []=>none
 | f::xs=>rec (.apply f xs) lw H
def vC(rec:CH)(o:IOp)(l:List IOp)(rd:Option Nat)(fr:Fr)(lo:Nat)(H:Heap)(free':Option bR)(xs:List IV)(lw:Nat):Bool→Option (Out×Heap)
 | true=>vF (fun v H'=>rec (.ops free' l rd (fr.put o.dst v)) lo H') (yi rec xs lw H)
 | false=>Sj (fun v H'=>rec (.ops free' l rd (fr.put o.dst v)) lo H') (Q9 o.kd xs lw H)
def rO(rec:CH)(free:Option bR)(o:IOp)(l:List IOp)(rd:Option Nat)(fr:Fr)(lo:Nat)(H:Heap)(xs:Option (List IV)):Option (Out×Heap):=
 match xs with
 | none=>none
 | some xs=>match aR free o xs with
   | none=>none
   | some free'=>vC rec o l rd fr lo H free' xs (cU free o lo H) o.kd.isCall
def Br(g0:Nat)(rec:CH)(free:Option bR)(l:List IOp)(rd:Option Nat)(fr:Fr)(lo:Nat)(H:Heap):Option (Out×Heap):=
 match l with
 | []=>some (.ex .normal fr,H)
 | o::l=>match bA fr.tm o.guard with
   | true=>rO rec free o l rd fr lo H (be g0 fr.tm o.args)
   | false=>rec (.ops free l rd (fr.put o.dst IV.undef)) lo H
def uv(l:Nat)(r:Option (Out×Heap)):Option (Out×Heap):=
 match r with
 | none=>none
 | some p=>match p.1 with
   | .val _=>none
   | .ex e _=>xf l e p.2
def oi(rec:CH)(l:Nat)(body:IC)(lo:Nat)(r:Option (Out×Heap)):Option (Out×Heap):=
 match r with
 | none=>none
 | some p=>match p.1 with
   | .val _=>none
   | .ex e fr=>match e with
     | .jmp _=>none
     | .normal=>match ig l p.2 with
       | none=>none
       | some H2=>uv l (rec (.code body (some l) fr) lo H2)
def CY(rec:CH)(l:Nat)(args:List IV)(lo:Nat)(H:Heap):Option (Out×Heap):=
 match H.get l with
 | some (.loop _ _ tm ps asg body _)=>
   if args.length=ps.length∧lo≤l then oi rec l body lo (rec (.code asg (some l) ⟨dQ tm ps args,[]⟩) lo H) else none
 | _=>none
def Ef(rec:CH)(f:IV)(args:List IV)(lo:Nat)(H:Heap):Option (Out×Heap):=
 match f with
 | .fn f first cap=>rec (.call f (first++args++cap)) lo H
 | .yield l=>CY rec l args lo H
 | _=>none
def lV(fn:IFn)(lo:Nat)(fr:Fr)(H':Heap):Option (Out×Heap):=
 match bq lo fr.marks H' with
 | none=>none
 | some H''=>(au H'' fr.tm fn.results).map fun vs=>(.val (d8 vs),H'')
def Qp(fn:IFn)(lo:Nat)(r:Option (Out×Heap)):Option (Out×Heap):=
 match r with
 | none=>none
 | some p=>match p.1 with
   | .val _=>none
   | .ex e fr=>match e with
     | .normal=>lV fn lo fr p.2
     | .jmp j=>match j with
       | .ret=>lV fn lo fr p.2
       | .exit _=>none
def TK(rec:CH)(args:List IV)(lo:Nat)(H:Heap)(fn:Option IFn):Option (Out×Heap):=
 match fn with
 | none=>none
 | some fn=>Qp fn lo (rec (.code fn.body none ⟨args++bT (fn.ntmps - args.length),[]⟩) lo H)
def wF(E:Env)(rec:CH)(f:FuncId)(args:List IV)(lo:Nat)(H:Heap):Option (Out×Heap):=
 match E.sums f with
 | some s=>(s args lo H).map fun(v,H')=>(.val v,H')
 | none=>TK rec args lo H (E.fns f)
def cT(E:Env)(rec:CH):CH:=fun t lo H=>
 match t with
 | .code c rd fr=>iV E.g0 rec c rd fr lo H
 | .segs l rd fr=>IX rec l rd fr lo H
 | .ops free l rd fr=>Br E.g0 rec free l rd fr lo H
 | .apply f args=>Ef rec f args lo H
 | .call f args=>wF E rec f args lo H
def Gg(E:Env)(n:Nat):CH:=Nat.rec (fun _ _ _=>none) (fun _ ih=>cT E ih) n
theorem rI(E:Env)(n:Nat):Gg E (n+1)=cT E (Gg E n):=rfl
theorem ue(E:Env):∀(n:Nat) (t:Task) (lo:Nat) (H:Heap),Gg E n t lo H=run E n t lo H:=by
 intro n
 induction n with
 | zero=>intro t lo H;rfl
 | succ n ih=>
   intro t lo H;have e:Gg E n=run E n:=by funext t lo H;exact ih t lo H
   rw[rI,e]
   cases t with
   | code c rd fr=>
     cases c with
     | skip=>rfl
     | exit id=>rfl
     | ret=>rfl
     | ops l=>rfl
     | scope c=>rfl
     | seq a b=>
       simp only[cT,iV,run,nf]
       cases run E n (.code a rd fr) lo H with
       | none=>rfl
       | some p=>
         obtain⟨o,H1⟩:=p
         cases o with
         | val v=>rfl
         | ex e fr=>cases e<;>rfl
     | cond c a b=>
       simp only[cT,iV,run,KQ]
       cases c.eval E.g0 fr.tm with
       | none=>rfl
       | some v=>cases v<;>first | rfl | (rename_i b;cases b<;>rfl)
     | block id c=>
       simp only[cT,iV,run,sh]
       cases run E n (.code c rd fr) lo H with
       | none=>rfl
       | some p=>
         obtain⟨o,H1⟩:=p
         cases o with
         | val v=>rfl
         | ex e fr=>cases e with
           | normal=>rfl
           | jmp j=>cases j<;>rfl
     | loop c=>
       simp only[cT,iV,run,nf]
       cases run E n (.code c rd fr) lo H with
       | none=>rfl
       | some p=>
         obtain⟨o,H1⟩:=p
         cases o with
         | val v=>rfl
         | ex e fr=>cases e<;>rfl
     | rfn f ps asg body=>
       simp only[cT,iV,run,Ql]
       cases f.eval E.g0 fr.tm with
       | none=>rfl
       | some g=>
         cases gE rd H with
         | none=>rfl
         | some e=>
           obtain⟨df,marks,H1⟩:=e;simp only[vF]
           cases run E n (.apply g [.yield H1.n]) lo (H1.new (.loop .ready none fr.tm ps asg body df)) with
           | none=>rfl
           | some p=>
             obtain⟨o,H2⟩:=p
             cases o with
             | ex e fr=>rfl
             | val v=>
               simp only[zu]
               cases H2.get H1.n with
               | none=>rfl
               | some ob=>cases ob with
                 | loop st pend tm ps asg body df=>cases pend<;>rfl
                 | _=>rfl
   | segs l rd fr=>
     cases l with
     | nil=>rfl
     | cons x l=>
       obtain⟨k,os⟩:=x;simp only[cT,IX,run,uc]
       cases run E n (.ops (match k with | .seq=>none | .free=>some []) os rd fr) lo H with
       | none=>rfl
       | some p=>
         obtain⟨o,H1⟩:=p
         cases o with
         | val v=>rfl
         | ex e fr=>cases e<;>rfl
   | ops free l rd fr=>
     cases l with
     | nil=>rfl
     | cons o l=>
       simp only[cT,Br,run]
       cases bA fr.tm o.guard with
       | false=>rfl
       | true=>
         simp only[if_true,rO]
         cases be E.g0 fr.tm o.args with
         | none=>rfl
         | some xs=>
           simp only
           cases aR free o xs with
           | none=>rfl
           | some free'=>
             simp only
             obtain⟨dst,kd,args,guard,amb,idx,mask⟩:=o
             cases kd with
             | call=>
               simp only[Kd.isCall,vC,yi]
               cases xs with
               | nil=>rfl
               | cons f xs=>
                 simp only[vF]
                 cases run E n (.apply f xs) (cU free _ lo H) H with
                 | none=>rfl
                 | some p=>
                   obtain⟨o,H1⟩:=p
                   cases o<;>rfl
             | _=>
               simp only[Kd.isCall,vC,Sj,qI];split<;>simp_all
   | apply f args=>
     cases f with
     | fn f first cap=>rfl
     | yield l=>
       simp only[cT,Ef,run,CY]
       cases H.get l with
       | none=>rfl
       | some ob=>cases ob with
         | loop st pend tm ps asg body df=>
           simp only
           split
           ·simp only[oi]
            cases run E n (.code asg (some l) ⟨dQ tm ps args,[]⟩) lo H with
            | none=>rfl
            | some p=>
              obtain⟨o,H1⟩:=p
              cases o with
              | val v=>rfl
              | ex e fr=>cases e with
                | jmp j=>rfl
                | normal=>
                  simp only
                  cases ig l H1 with
                  | none=>rfl
                  | some H2=>
                    simp only[uv]
                    cases run E n (.code body (some l) fr) lo H2 with
                    | none=>rfl
                    | some p=>
                      obtain⟨o,H3⟩:=p
                      cases o<;>rfl
           ·rfl
         | _=>rfl
     | _=>rfl
   | call f args=>
     simp only[cT,wF,run]
     cases E.sums f with
     | some s=>rfl
     | none=>
       simp only[TK]
       cases E.fns f with
       | none=>rfl
       | some fn=>
         simp only[Qp]
         cases run E n (.code fn.body none ⟨args++bT (fn.ntmps - args.length),[]⟩) lo H with
         | none=>rfl
         | some p=>
           obtain⟨o,H1⟩:=p
           cases o with
           | val v=>rfl
           | ex e fr=>cases e with
             | normal=>rfl
             | jmp j=>cases j<;>rfl
inductive D where
 | same
 | put (b:Nat) (o:IObj)
 | new (o:IObj)
 | kill (b:Nat) (o:IObj)
def D.app(H:Heap):D→Heap
 | .same=>H
 | .put b o=>H.put b o
 | .new o=>H.new o
 | .kill b o=>(H.put b .dead).new o
def d6(H:Heap)(lo b o:Nat)(vs:List IV):Option D:=
 match H.get b with
 | some (.cells false e ez cs)=>if lo≤b∧o+vs.length≤cs.length∧vs.all IV.one then some (.put b (.cells false e ez (ar cs o vs))) else none
 | _=>none
theorem FN(H:Heap)(lo b o:Nat)(vs:List IV):(d6 H lo b o vs).map (D.app H)=H.write lo b o vs:=by
 unfold d6 Heap.write
 cases H.get b with
 | none=>rfl
 | some ob=>
   cases ob with
   | cells ro e ez cs=>
     cases ro with
     | true=>rfl
     | false=>
       simp only
       split<;>rfl
   | _=>rfl
def lj(H:Heap)(p:IV×D):IV×Heap:=(p.1,p.2.app H)
theorem lu(H:Heap)(lo b o:Nat)(vs:List IV)(v:IV):((d6 H lo b o vs).map fun d=>(v,d)).map (lj H)=(H.write lo b o vs).map fun H'=>(v,H'):=by
 rw[←FN]
 cases d6 H lo b o vs<;>rfl
def mu(e size bytes:Nat)(s:IV)(xs:List IV)(n lo:Nat)(H:Heap):Option (IV×D):=
 if xs.all IV.one=false then none else
  match s with
  | .nilSlice=>
    if n=0 then some (.nilSlice,.same)
    else if n*(bytes+1)≤2^40 then some (.slice H.n 0 n n false,.new (.cells false e size xs))
    else none
  | .slice b o len lb ex=>
    if n=0 then some (.slice b o len lb ex,.same)
    else if len+n≤lb then(d6 H lo b (o+len*size) xs).map fun H'=>(.slice b o (len+n) lb ex,H')
    else if (len+n)*(bytes+1)≤2^40 then
     if ex then(eq H size len s).map fun old=>(.slice H.n 0 (len+n) (len+n) false,.new (.cells false e size (old++xs)))
     else
      match H.get b with
      | some (.cells false e' ez cs)=>
        if e'=e∧ez=size∧0 < size∧o=0∧lo≤b∧len*size≤cs.length then
         some (.slice H.n 0 (len+n) (len+n) false,.kill b (.cells false e size (cs.take (len*size)++xs)))
        else none
      | _=>none
    else none
  | _=>none
theorem wJ(e size bytes:Nat)(s:IV)(xs:List IV)(n lo:Nat)(H:Heap):(mu e size bytes s xs n lo H).map (lj H)=bF e size bytes s xs n lo H:=by
 unfold mu bF;split
 ·rfl
 ·cases s with
  | nilSlice=>
         simp only;repeat' split
         all_goals rfl
  | slice b o len lb ex=>
    simp only
    split
    ·rfl
    ·split
     ·exact lu _ _ _ _ _ _
     ·split
      ·split
       ·cases eq H size len (.slice b o len lb ex)<;>rfl
       ·cases H.get b with
        | none=>rfl
        | some ob=>
          cases ob with
          | cells ro e' ez cs=>
            cases ro with
            | true=>rfl
            | false=>simp only;split<;>rfl
          | _=>rfl
      ·rfl
  | _=>rfl
def um(e:Nat)(ez:Nat)(zs:List IV)(xs:List IV)(lo:Nat)(H:Heap):Option (IV×D):=
 match xs with
  | []=>some (.ptr H.n 0,D.new (.cells false e ez zs))
  | _=>none
def Fq(e:Nat)(ez:Nat)(xs:List IV)(lo:Nat)(H:Heap):Option (IV×D):=
 match xs with
  | [x]=>some (.ptr H.n 0,D.new (.cells false e ez x.cells))
  | _=>none
def oV(e:Nat)(ez:Nat)(n:Nat)(zs:List IV)(offs:List (Nat×Nat))(xs:List IV)(lo:Nat)(H:Heap):Option (IV×D):=
 match xs with
  | xs=>(bD offs xs zs).map fun cs=>(.slice H.n 0 n n true,D.new (.cells false e ez cs))
def ui(n:Nat)(xs:List IV)(lo:Nat)(H:Heap):Option (IV×D):=
 match xs with
  | [.ptr b o,x]=>if x.cells.length=n then(d6 H lo b o x.cells).map fun H'=>(IV.undef,H') else none
  | _=>none
def qS(xs:List IV)(lo:Nat)(H:Heap):Option (IV×D):=
 match xs with
  | [.nilMap]=>some (.ptr H.n 0,D.new (.iter none 0 [] 0))
  | [.map b]=>(az H b).map fun p=>(.ptr H.n 0,D.new (.iter (some b) p.2 [] p.2))
  | _=>none
def uj(xs:List IV)(lo:Nat)(H:Heap):Option (IV×D):=
 match xs with
  | [.ptr r 0]=>if lo≤r then(stepM H r).map fun p=>(p.1,match p.2 with | none=>D.same | some o=>D.put r o) else none
  | _=>none
def uk(xs:List IV)(lo:Nat)(H:Heap):Option (IV×D):=
 match xs with
  | []=>some (.map H.n,D.new (.map [] 0))
  | [.int _ _]=>some (.map H.n,D.new (.map [] 0))
  | _=>none
def Aj(e:Nat)(ez:Nat)(bytes:Nat)(zs:List IV)(xs:List IV)(lo:Nat)(H:Heap):Option (IV×D):=
 match xs with
  | [.int _ l,.int _ c]=>
    if 0≤l∧l≤c∧c*(bytes+1)≤2^40 then
     some (.slice H.n 0 l.toNat c.toNat true,D.new (.cells false e ez (iU c.toNat zs)))
    else none
  | _=>none
def qT(ky:Bool×List Pk)(xs:List IV)(lo:Nat)(H:Heap):Option (IV×D):=
 match xs with
  | [.map b,k,v]=>
    match az H b with
    | none=>none
    | some (es,clock)=>
      if lo≤b∧bS ky k then
       match aF ky k es 0 with
       | none=>none
       | some (some (i,_))=>some (IV.undef,D.put b (.map (bP k v es i) clock))
       | some none=>some (IV.undef,D.put b (.map (es++[(k,v,clock)]) (clock+1)))
      else none
  | _=>none
def mh(_:TypeId)(ky:Bool×List Pk)(zero:IV)(xs:List IV)(lo:Nat)(H:Heap):Option (IV×D):=
 match xs with
  | [.map b,k]=>
    match az H b with
    | none=>none
    | some (es,clock)=>
      if lo≤b∧bS ky k then
       match aF ky k es 0 with
       | none=>none
       | some (some (i,v))=>(es[i]?).map fun e=>(.tuple [v,.int .i64 e.2.2],D.put b (.map (bP k v es i) clock))
       | some none=>some (.tuple [zero,.int .i64 clock],D.put b (.map (es++[(k,zero,clock)]) (clock+1)))
      else none
  | _=>none
def jb(xs:List IV)(lo:Nat)(H:Heap):Option (IV×D):=
 match xs with
  | [.map b,.int _ s,v]=>
    match az H b with
    | none=>none
    | some (es,clock)=>if lo≤b then(gp v s es).map fun es'=>(IV.undef,D.put b (.map es' clock)) else none
  | _=>none
def qU(ky:Bool×List Pk)(xs:List IV)(lo:Nat)(H:Heap):Option (IV×D):=
 match xs with
  | [.map b,k]=>
    match az H b with
    | none=>none
    | some (es,clock)=>
      if lo≤b∧bS ky k then
       match aF ky k es 0 with
       | none=>none
       | some (some (i,_))=>some (IV.undef,D.put b (.map (dX es i) clock))
       | some none=>some (IV.undef,D.same)
      else none
  | _=>none
def qV(e:Nat)(size:Nat)(bytes:Nat)(xs:List IV)(lo:Nat)(H:Heap):Option (IV×D):=
 match xs with
  | [s,x]=>(i4 x).bind fun n=>(eq H size n x).bind fun xs=>mu e size bytes s xs n lo H
  | _=>none
def Ak(size:Nat)(xs:List IV)(lo:Nat)(H:Heap):Option (IV×D):=
 match xs with
  | [d,s]=>
    match jG d,i4 s with
    | some n,some m=>
      let k:=Min.min m n
      if k=0 then some (.int .i64 0,D.same)
      else(eq H size k s).bind fun xs=>
       match d with
       | .slice b o _ _ _=>(d6 H lo b o xs).map fun H'=>(.int .i64 k,H')
       | _=>none
    | _,_=>none
  | _=>none
def ul(zs:List IV)(xs:List IV)(lo:Nat)(H:Heap):Option (IV×D):=
 match xs with
  | [x]=>
    match x with
    | .nilSlice=>some (.tuple [],D.same)
    | .slice b o n _ _=>if n=0 then some (.tuple [],D.same) else(d6 H lo b o (iU n zs)).map fun H'=>(.tuple [],H')
    | _=>none
  | _=>none
def oW(e:Nat)(size:Nat)(bytes:Nat)(zs:List IV)(xs:List IV)(lo:Nat)(H:Heap):Option (IV×D):=
 match xs with
  | [s,.int _ n]=>
    if 0≤n∧n*(bytes+1)≤2^40 then mu e size bytes s (iU n.toNat zs) n.toNat lo H else none
  | _=>none
def bp(r:Option (IV×Heap)):Option (IV×D):=
 match r with
 | none=>none
 | some p=>some (p.1,.same)
theorem aA{r:Option (IV×Heap)}{H:Heap}(h:∀v H',r=some (v,H')→H'=H):(bp r).map (lj H)=r:=by
 cases r with
 | none=>rfl
 | some p=>obtain⟨v,H'⟩:=p;have:=h v H' rfl;subst this;rfl
def jO(kd:Kd)(xs:List IV)(lo:Nat)(H:Heap):Option (IV×D):=
 match kd with
 | .move=>bp (wp xs lo H)
 | .pick=>bp (wo xs lo H)
 | .alloc a0 a1 a2=>um a0 a1 a2 xs lo H
 | .box a0 a1=>Fq a0 a1 xs lo H
 | .build a0 a1=>bp (qQ a0 a1 xs lo H)
 | .buildSl a0 a1 a2 a3 a4=>oV a0 a1 a2 a3 a4 xs lo H
 | .load a0=>bp (wu a0 xs lo H)
 | .store a0=>ui a0 xs lo H
 | .nilCheck=>bp (jF xs lo H)
 | .bin a0=>bp (xZ a0 xs lo H)
 | .eqBool a0=>bp (nQ a0 xs lo H)
 | .eqFlat a0 a1=>bp (nP a0 a1 xs lo H)
 | .eqNil a0 a1=>bp (qP a0 a1 xs lo H)
 | .un a0=>bp (KH a0 xs lo H)
 | .conv a0=>bp (ww a0 xs lo H)
 | .iface a0=>bp (qM a0 xs lo H)
 | .mkfn a0 a1=>bp (sd a0 a1 xs lo H)
 | .mkmap=>uk xs lo H
 | .mksl a0 a1 a2 a3=>Aj a0 a1 a2 a3 xs lo H
 | .slc a0 a1 a2 a3=>bp (B6 a0 a1 a2 a3 xs lo H)
 | .slcStr a0 a1=>bp (nG a0 a1 xs lo H)
 | .slcArr a0 a1 a2 a3 a4 a5=>bp (nH a0 a1 a2 a3 a4 a5 xs lo H)
 | .fieldAddr a0=>bp (iJ a0 xs lo H)
 | .field a0 a1=>bp (qO a0 a1 xs lo H)
 | .idxSl a0=>bp (qN a0 xs lo H)
 | .idxArrAddr a0 a1=>bp (gH a0 a1 xs lo H)
 | .idxArr a0 a1 a2=>bp (nO a0 a1 a2 xs lo H)
 | .idxStr=>bp (nN xs lo H)
 | .lookup a0 a1 a2 a3=>bp (nI a0 a1 a2 a3 xs lo H)
 | .mapUpd a0=>qT a0 xs lo H
 | .mapEntry a0 a1 a2=>mh a0 a1 a2 xs lo H
 | .entryStore=>jb xs lo H
 | .delete a0=>qU a0 xs lo H
 | .lenSl=>bp (qL xs lo H)
 | .lenStr=>bp (nJ xs lo H)
 | .lenArr a0=>bp (nM a0 xs lo H)
 | .lenMap=>bp (nL xs lo H)
 | .cap=>bp (Cb xs lo H)
 | .append a0 a1 a2=>qV a0 a1 a2 xs lo H
 | .copy a0=>Ak a0 xs lo H
 | .min=>bp (B7 xs lo H)
 | .max=>bp (Ca xs lo H)
 | .clear a0=>ul a0 xs lo H
 | .appendZ a0 a1 a2 a3=>oW a0 a1 a2 a3 xs lo H
 | .strOf=>bp (qK xs lo H)
 | .rangeM=>qS xs lo H
 | .nextM=>uj xs lo H
 | .entryM=>bp (nR xs lo H)
 | .extract a0=>bp (li a0 xs lo H)
 | .call=>bp (KI xs lo H)
theorem D2(a0:Nat)(a1:Nat)(a2:List IV)(xs:List IV)(lo:Nat)(H:Heap):(um a0 a1 a2 xs lo H).map (lj H)=Ai a0 a1 a2 xs lo H:=by
 unfold um Ai
 cases xs<;>rfl
theorem KL(a0:Nat)(a1:Nat)(xs:List IV)(lo:Nat)(H:Heap):(Fq a0 a1 xs lo H).map (lj H)=KJ a0 a1 xs lo H:=by
 unfold Fq KJ;rcases xs with _ | ⟨x,_ | ⟨q,r⟩⟩<;>rfl
theorem Al(a0:Nat)(a1:Nat)(a2:Nat)(a3:List IV)(a4:List (Nat×Nat))(xs:List IV)(lo:Nat)(H:Heap):(oV a0 a1 a2 a3 a4 xs lo H).map (lj H)=se a0 a1 a2 a3 a4 xs lo H:=by
 unfold oV se;simp only
 cases bD a4 xs a3<;>rfl
theorem DY(a0:Nat)(xs:List IV)(lo:Nat)(H:Heap):(ui a0 xs lo H).map (lj H)=Ae a0 xs lo H:=by
 unfold ui Ae;rcases xs with _ | ⟨p,_ | ⟨x,_ | ⟨q,r⟩⟩⟩
 ·rfl
 ·cases p<;>rfl
 ·cases p<;>first | rfl | skip
  simp only
  split
  ·exact lu _ _ _ _ _ _
  ·rfl
 ·cases p<;>rfl
theorem Ce(xs:List IV)(lo:Nat)(H:Heap):(qS xs lo H).map (lj H)=wm xs lo H:=by
 unfold qS wm;rcases xs with _ | ⟨x,_ | ⟨q,r⟩⟩
 ·rfl
 ·cases x<;>first | rfl | skip
  simp only
  cases az H _<;>rfl
 ·cases x<;>rfl
theorem DZ(xs:List IV)(lo:Nat)(H:Heap):(uj xs lo H).map (lj H)=Af xs lo H:=by
 unfold uj Af;rcases xs with _ | ⟨x,_ | ⟨q,r⟩⟩
 ·rfl
 ·cases x<;>first | rfl | skip
  rename_i b o
  cases o with
  | succ o=>rfl
  | zero=>
    simp only
    split
    ·cases stepM H _ with
     | none=>rfl
     | some p=>obtain⟨v,o⟩:=p;cases o<;>rfl
    ·rfl
 ·cases x<;>first | rfl | skip
  rename_i b o
  cases o<;>rfl
theorem D0(xs:List IV)(lo:Nat)(H:Heap):(uk xs lo H).map (lj H)=Ag xs lo H:=by
 unfold uk Ag;rcases xs with _ | ⟨x,_ | ⟨q,r⟩⟩
 ·rfl
 ·cases x<;>rfl
 ·cases x<;>rfl
theorem Hg(a0:Nat)(a1:Nat)(a2:Nat)(a3:List IV)(xs:List IV)(lo:Nat)(H:Heap):(Aj a0 a1 a2 a3 xs lo H).map (lj H)=DV a0 a1 a2 a3 xs lo H:=by
 unfold Aj DV;rcases xs with _ | ⟨x,_ | ⟨y,_ | ⟨q,r⟩⟩⟩
 ·rfl
 ·cases x<;>rfl
 ·cases x<;>first | rfl | skip
  cases y<;>first | rfl | skip
  simp only
  split<;>rfl
 ·cases x<;>first | rfl | (cases y<;>rfl)
theorem Cf(a0:Bool×List Pk)(xs:List IV)(lo:Nat)(H:Heap):(qT a0 xs lo H).map (lj H)=wq a0 xs lo H:=by
 unfold qT wq;rcases xs with _ | ⟨m,_ | ⟨k,_ | ⟨v,_ | ⟨q,r⟩⟩⟩⟩
 ·rfl
 ·cases m<;>rfl
 ·cases m<;>rfl
 ·cases m<;>first | rfl | skip
  simp only
  cases az H _ with
  | none=>rfl
  | some p=>
    obtain⟨es,clock⟩:=p;simp only;split
    ·cases aF a0 k es 0 with
     | none=>rfl
     | some r=>cases r with
       | none=>rfl
       | some x=>obtain⟨i,v⟩:=x;rfl
    ·rfl
 ·cases m<;>rfl
theorem xg(a0:TypeId)(a1:Bool×List Pk)(a2:IV)(xs:List IV)(lo:Nat)(H:Heap):(mh a0 a1 a2 xs lo H).map (lj H)=pL a0 a1 a2 xs lo H:=by
 unfold mh pL;rcases xs with _ | ⟨m,_ | ⟨k,_ | ⟨q,r⟩⟩⟩
 ·rfl
 ·cases m<;>rfl
 ·cases m<;>first | rfl | skip
  simp only
  cases az H _ with
  | none=>rfl
  | some p=>
    obtain⟨es,clock⟩:=p;simp only;split
    ·cases aF a1 k es 0 with
     | none=>rfl
     | some r=>cases r with
       | none=>rfl
       | some x=>obtain⟨i,v⟩:=x;simp only;cases es[i]?<;>rfl
    ·rfl
 ·cases m<;>rfl
theorem tq(xs:List IV)(lo:Nat)(H:Heap):(jb xs lo H).map (lj H)=mc xs lo H:=by
 unfold jb mc;rcases xs with _ | ⟨m,_ | ⟨k,_ | ⟨v,_ | ⟨q,r⟩⟩⟩⟩
 ·rfl
 ·cases m<;>rfl
 ·cases m<;>first | rfl | (cases k<;>rfl)
 ·cases m<;>first | rfl | skip
  cases k<;>first | rfl | skip
  simp only
  cases az H _ with
  | none=>rfl
  | some p=>
    obtain⟨es,clock⟩:=p;simp only;split
    ·cases gp v _ es<;>rfl
    ·rfl
 ·cases m<;>first | rfl | (cases k<;>rfl)
theorem Cg(a0:Bool×List Pk)(xs:List IV)(lo:Nat)(H:Heap):(qU a0 xs lo H).map (lj H)=wv a0 xs lo H:=by
 unfold qU wv;rcases xs with _ | ⟨m,_ | ⟨k,_ | ⟨q,r⟩⟩⟩
 ·rfl
 ·cases m<;>rfl
 ·cases m<;>first | rfl | skip
  simp only
  cases az H _ with
  | none=>rfl
  | some p=>
    obtain⟨es,clock⟩:=p;simp only;split
    ·cases aF a0 k es 0 with
     | none=>rfl
     | some r=>cases r with
       | none=>rfl
       | some x=>obtain⟨i,v⟩:=x;rfl
    ·rfl
 ·cases m<;>rfl
theorem Ch(a0:Nat)(a1:Nat)(a2:Nat)(xs:List IV)(lo:Nat)(H:Heap):(qV a0 a1 a2 xs lo H).map (lj H)=wx a0 a1 a2 xs lo H:=by
 unfold qV wx;rcases xs with _ | ⟨s,_ | ⟨x,_ | ⟨q,r⟩⟩⟩
 ·rfl
 ·rfl
 ·simp only
  cases i4 x with
  | none=>rfl
  | some n=>
    simp only[Option.bind_some]
    cases eq H a1 n x with
    | none=>rfl
    | some l=>exact wJ _ _ _ _ _ _ _ _
 ·rfl
theorem Hh(a0:Nat)(xs:List IV)(lo:Nat)(H:Heap):(Ak a0 xs lo H).map (lj H)=DW a0 xs lo H:=by
 unfold Ak DW;rcases xs with _ | ⟨d,_ | ⟨s,_ | ⟨q,r⟩⟩⟩
 ·rfl
 ·rfl
 ·simp only
  cases jG d with
  | none=>rfl
  | some n=>
    cases i4 s with
    | none=>rfl
    | some m=>
      simp only
      split
      ·rfl
      ·cases eq H a0 (Min.min m n) s with
       | none=>rfl
       | some l=>
         simp only[Option.bind_some]
         cases d<;>first | rfl | exact lu _ _ _ _ _ _
 ·rfl
theorem D1(a0:List IV)(xs:List IV)(lo:Nat)(H:Heap):(ul a0 xs lo H).map (lj H)=Ah a0 xs lo H:=by
 unfold ul Ah;rcases xs with _ | ⟨x,_ | ⟨q,r⟩⟩
 ·rfl
 ·simp only
  cases x<;>first | rfl | skip
  simp only
  split
  ·rfl
  ·exact lu _ _ _ _ _ _
 ·rfl
theorem Am(a0:Nat)(a1:Nat)(a2:Nat)(a3:List IV)(xs:List IV)(lo:Nat)(H:Heap):(oW a0 a1 a2 a3 xs lo H).map (lj H)=sf a0 a1 a2 a3 xs lo H:=by
 unfold oW sf;rcases xs with _ | ⟨x,_ | ⟨y,_ | ⟨q,r⟩⟩⟩
 ·rfl
 ·rfl
 ·cases y<;>first | rfl | skip
  simp only
  split
  ·exact wJ _ _ _ _ _ _ _ _
  ·rfl
 ·cases y<;>rfl
theorem QJ{xs:List IV}{lo:Nat}{H:Heap}{v:IV}{H':Heap}(h:wp xs lo H=some (v,H')):H'=H:=by
 unfold wp at h
 repeat' (first | rfl | (cases h;done) | (injection h with h;injection h with _ h;exact h.symm) | (simp only[Option.map_eq_some_iff,Option.bind_eq_some_iff] at h;obtain⟨_,_,h⟩:=h) | split at h | (obtain⟨_,h⟩:=h) | (simp only[Prod.mk.injEq] at h;exact h.2.symm))
theorem QI{xs:List IV}{lo:Nat}{H:Heap}{v:IV}{H':Heap}(h:wo xs lo H=some (v,H')):H'=H:=by
 unfold wo at h
 repeat' (first | rfl | (cases h;done) | (injection h with h;injection h with _ h;exact h.symm) | (simp only[Option.map_eq_some_iff,Option.bind_eq_some_iff] at h;obtain⟨_,_,h⟩:=h) | split at h | (obtain⟨_,h⟩:=h) | (simp only[Prod.mk.injEq] at h;exact h.2.symm))
theorem Nq{a0:List IV}{a1:List (Nat×Nat)}{xs:List IV}{lo:Nat}{H:Heap}{v:IV}{H':Heap}(h:qQ a0 a1 xs lo H=some (v,H')):H'=H:=by
 unfold qQ at h
 repeat' (first | rfl | (cases h;done) | (injection h with h;injection h with _ h;exact h.symm) | (simp only[Option.map_eq_some_iff,Option.bind_eq_some_iff] at h;obtain⟨_,_,h⟩:=h) | split at h | (obtain⟨_,h⟩:=h) | (simp only[Prod.mk.injEq] at h;exact h.2.symm))
theorem QL{a0:Option Nat}{xs:List IV}{lo:Nat}{H:Heap}{v:IV}{H':Heap}(h:wu a0 xs lo H=some (v,H')):H'=H:=by
 unfold wu at h
 repeat' (first | rfl | (cases h;done) | (injection h with h;injection h with _ h;exact h.symm) | (simp only[Option.map_eq_some_iff,Option.bind_eq_some_iff] at h;obtain⟨_,_,h⟩:=h) | split at h | (obtain⟨_,h⟩:=h) | (simp only[Prod.mk.injEq] at h;exact h.2.symm))
theorem DP{xs:List IV}{lo:Nat}{H:Heap}{v:IV}{H':Heap}(h:jF xs lo H=some (v,H')):H'=H:=by
 unfold jF at h
 repeat' (first | rfl | (cases h;done) | (injection h with h;injection h with _ h;exact h.symm) | (simp only[Option.map_eq_some_iff,Option.bind_eq_some_iff] at h;obtain⟨_,_,h⟩:=h) | split at h | (obtain⟨_,h⟩:=h) | (simp only[Prod.mk.injEq] at h;exact h.2.symm))
theorem St{a0:BinOp}{xs:List IV}{lo:Nat}{H:Heap}{v:IV}{H':Heap}(h:xZ a0 xs lo H=some (v,H')):H'=H:=by
 unfold xZ at h
 repeat' (first | rfl | (cases h;done) | (injection h with h;injection h with _ h;exact h.symm) | (simp only[Option.map_eq_some_iff,Option.bind_eq_some_iff] at h;obtain⟨_,_,h⟩:=h) | split at h | (obtain⟨_,h⟩:=h) | (simp only[Prod.mk.injEq] at h;exact h.2.symm))
theorem Kf{a0:Bool}{xs:List IV}{lo:Nat}{H:Heap}{v:IV}{H':Heap}(h:nQ a0 xs lo H=some (v,H')):H'=H:=by
 unfold nQ at h
 repeat' (first | rfl | (cases h;done) | (injection h with h;injection h with _ h;exact h.symm) | (simp only[Option.map_eq_some_iff,Option.bind_eq_some_iff] at h;obtain⟨_,_,h⟩:=h) | split at h | (obtain⟨_,h⟩:=h) | (simp only[Prod.mk.injEq] at h;exact h.2.symm))
theorem Ke{a0:Bool}{a1:List Pk}{xs:List IV}{lo:Nat}{H:Heap}{v:IV}{H':Heap}(h:nP a0 a1 xs lo H=some (v,H')):H'=H:=by
 unfold nP at h
 repeat' (first | rfl | (cases h;done) | (injection h with h;injection h with _ h;exact h.symm) | (simp only[Option.map_eq_some_iff,Option.bind_eq_some_iff] at h;obtain⟨_,_,h⟩:=h) | split at h | (obtain⟨_,h⟩:=h) | (simp only[Prod.mk.injEq] at h;exact h.2.symm))
theorem Np{a0:Bool}{a1:Nk}{xs:List IV}{lo:Nat}{H:Heap}{v:IV}{H':Heap}(h:qP a0 a1 xs lo H=some (v,H')):H'=H:=by
 unfold qP at h
 repeat' (first | rfl | (cases h;done) | (injection h with h;injection h with _ h;exact h.symm) | (simp only[Option.map_eq_some_iff,Option.bind_eq_some_iff] at h;obtain⟨_,_,h⟩:=h) | split at h | (obtain⟨_,h⟩:=h) | (simp only[Prod.mk.injEq] at h;exact h.2.symm))
theorem UR{a0:UnOp}{xs:List IV}{lo:Nat}{H:Heap}{v:IV}{H':Heap}(h:KH a0 xs lo H=some (v,H')):H'=H:=by
 unfold KH at h
 repeat' (first | rfl | (cases h;done) | (injection h with h;injection h with _ h;exact h.symm) | (simp only[Option.map_eq_some_iff,Option.bind_eq_some_iff] at h;obtain⟨_,_,h⟩:=h) | split at h | (obtain⟨_,h⟩:=h) | (simp only[Prod.mk.injEq] at h;exact h.2.symm))
theorem QM{a0:IntKind}{xs:List IV}{lo:Nat}{H:Heap}{v:IV}{H':Heap}(h:ww a0 xs lo H=some (v,H')):H'=H:=by
 unfold ww at h
 repeat' (first | rfl | (cases h;done) | (injection h with h;injection h with _ h;exact h.symm) | (simp only[Option.map_eq_some_iff,Option.bind_eq_some_iff] at h;obtain⟨_,_,h⟩:=h) | split at h | (obtain⟨_,h⟩:=h) | (simp only[Prod.mk.injEq] at h;exact h.2.symm))
theorem Nm{a0:TypeId}{xs:List IV}{lo:Nat}{H:Heap}{v:IV}{H':Heap}(h:qM a0 xs lo H=some (v,H')):H'=H:=by
 unfold qM at h
 repeat' (first | rfl | (cases h;done) | (injection h with h;injection h with _ h;exact h.symm) | (simp only[Option.map_eq_some_iff,Option.bind_eq_some_iff] at h;obtain⟨_,_,h⟩:=h) | split at h | (obtain⟨_,h⟩:=h) | (simp only[Prod.mk.injEq] at h;exact h.2.symm))
theorem QK{a0:FuncId}{a1:Nat}{xs:List IV}{lo:Nat}{H:Heap}{v:IV}{H':Heap}(h:sd a0 a1 xs lo H=some (v,H')):H'=H:=by
 unfold sd at h
 repeat' (first | rfl | (cases h;done) | (injection h with h;injection h with _ h;exact h.symm) | (simp only[Option.map_eq_some_iff,Option.bind_eq_some_iff] at h;obtain⟨_,_,h⟩:=h) | split at h | (obtain⟨_,h⟩:=h) | (simp only[Prod.mk.injEq] at h;exact h.2.symm))
theorem Sp{a0:Nat}{a1:Bool}{a2:Bool}{a3:Bool}{xs:List IV}{lo:Nat}{H:Heap}{v:IV}{H':Heap}(h:B6 a0 a1 a2 a3 xs lo H=some (v,H')):H'=H:=by
 unfold B6 at h
 repeat' (first | rfl | (cases h;done) | (injection h with h;injection h with _ h;exact h.symm) | (simp only[Option.map_eq_some_iff,Option.bind_eq_some_iff] at h;obtain⟨_,_,h⟩:=h) | split at h | (obtain⟨_,h⟩:=h) | (simp only[Prod.mk.injEq] at h;exact h.2.symm))
theorem J5{a0:Bool}{a1:Bool}{xs:List IV}{lo:Nat}{H:Heap}{v:IV}{H':Heap}(h:nG a0 a1 xs lo H=some (v,H')):H'=H:=by
 unfold nG at h
 repeat' (first | rfl | (cases h;done) | (injection h with h;injection h with _ h;exact h.symm) | (simp only[Option.map_eq_some_iff,Option.bind_eq_some_iff] at h;obtain⟨_,_,h⟩:=h) | split at h | (obtain⟨_,h⟩:=h) | (simp only[Prod.mk.injEq] at h;exact h.2.symm))
theorem J6{a0:Nat}{a1:Nat}{a2:Nat}{a3:Bool}{a4:Bool}{a5:Bool}{xs:List IV}{lo:Nat}{H:Heap}{v:IV}{H':Heap}(h:nH a0 a1 a2 a3 a4 a5 xs lo H=some (v,H')):H'=H:=by
 unfold nH at h
 repeat' (first | rfl | (cases h;done) | (injection h with h;injection h with _ h;exact h.symm) | (simp only[Option.map_eq_some_iff,Option.bind_eq_some_iff] at h;obtain⟨_,_,h⟩:=h) | split at h | (obtain⟨_,h⟩:=h) | (simp only[Prod.mk.injEq] at h;exact h.2.symm))
theorem BR{a0:Nat}{xs:List IV}{lo:Nat}{H:Heap}{v:IV}{H':Heap}(h:iJ a0 xs lo H=some (v,H')):H'=H:=by
 unfold iJ at h
 repeat' (first | rfl | (cases h;done) | (injection h with h;injection h with _ h;exact h.symm) | (simp only[Option.map_eq_some_iff,Option.bind_eq_some_iff] at h;obtain⟨_,_,h⟩:=h) | split at h | (obtain⟨_,h⟩:=h) | (simp only[Prod.mk.injEq] at h;exact h.2.symm))
theorem No{a0:Nat}{a1:Option Nat}{xs:List IV}{lo:Nat}{H:Heap}{v:IV}{H':Heap}(h:qO a0 a1 xs lo H=some (v,H')):H'=H:=by
 unfold qO at h
 repeat' (first | rfl | (cases h;done) | (injection h with h;injection h with _ h;exact h.symm) | (simp only[Option.map_eq_some_iff,Option.bind_eq_some_iff] at h;obtain⟨_,_,h⟩:=h) | split at h | (obtain⟨_,h⟩:=h) | (simp only[Prod.mk.injEq] at h;exact h.2.symm))
theorem Nn{a0:Nat}{xs:List IV}{lo:Nat}{H:Heap}{v:IV}{H':Heap}(h:qN a0 xs lo H=some (v,H')):H'=H:=by
 unfold qN at h
 repeat' (first | rfl | (cases h;done) | (injection h with h;injection h with _ h;exact h.symm) | (simp only[Option.map_eq_some_iff,Option.bind_eq_some_iff] at h;obtain⟨_,_,h⟩:=h) | split at h | (obtain⟨_,h⟩:=h) | (simp only[Prod.mk.injEq] at h;exact h.2.symm))
theorem zS{a0:Nat}{a1:Nat}{xs:List IV}{lo:Nat}{H:Heap}{v:IV}{H':Heap}(h:gH a0 a1 xs lo H=some (v,H')):H'=H:=by
 unfold gH at h
 repeat' (first | rfl | (cases h;done) | (injection h with h;injection h with _ h;exact h.symm) | (simp only[Option.map_eq_some_iff,Option.bind_eq_some_iff] at h;obtain⟨_,_,h⟩:=h) | split at h | (obtain⟨_,h⟩:=h) | (simp only[Prod.mk.injEq] at h;exact h.2.symm))
theorem Kc{a0:Nat}{a1:Nat}{a2:Option Nat}{xs:List IV}{lo:Nat}{H:Heap}{v:IV}{H':Heap}(h:nO a0 a1 a2 xs lo H=some (v,H')):H'=H:=by
 unfold nO at h
 repeat' (first | rfl | (cases h;done) | (injection h with h;injection h with _ h;exact h.symm) | (simp only[Option.map_eq_some_iff,Option.bind_eq_some_iff] at h;obtain⟨_,_,h⟩:=h) | split at h | (obtain⟨_,h⟩:=h) | (simp only[Prod.mk.injEq] at h;exact h.2.symm))
theorem Kb{xs:List IV}{lo:Nat}{H:Heap}{v:IV}{H':Heap}(h:nN xs lo H=some (v,H')):H'=H:=by
 unfold nN at h
 repeat' (first | rfl | (cases h;done) | (injection h with h;injection h with _ h;exact h.symm) | (simp only[Option.map_eq_some_iff,Option.bind_eq_some_iff] at h;obtain⟨_,_,h⟩:=h) | split at h | (obtain⟨_,h⟩:=h) | (simp only[Prod.mk.injEq] at h;exact h.2.symm))
theorem J7{a0:TypeId}{a1:Bool×List Pk}{a2:IV}{a3:Bool}{xs:List IV}{lo:Nat}{H:Heap}{v:IV}{H':Heap}(h:nI a0 a1 a2 a3 xs lo H=some (v,H')):H'=H:=by
 unfold nI at h
 repeat' (first | rfl | (cases h;done) | (injection h with h;injection h with _ h;exact h.symm) | (simp only[Option.map_eq_some_iff,Option.bind_eq_some_iff] at h;obtain⟨_,_,h⟩:=h) | split at h | (obtain⟨_,h⟩:=h) | (simp only[Prod.mk.injEq] at h;exact h.2.symm))
theorem Nl{xs:List IV}{lo:Nat}{H:Heap}{v:IV}{H':Heap}(h:qL xs lo H=some (v,H')):H'=H:=by
 unfold qL at h
 repeat' (first | rfl | (cases h;done) | (injection h with h;injection h with _ h;exact h.symm) | (simp only[Option.map_eq_some_iff,Option.bind_eq_some_iff] at h;obtain⟨_,_,h⟩:=h) | split at h | (obtain⟨_,h⟩:=h) | (simp only[Prod.mk.injEq] at h;exact h.2.symm))
theorem J8{xs:List IV}{lo:Nat}{H:Heap}{v:IV}{H':Heap}(h:nJ xs lo H=some (v,H')):H'=H:=by
 unfold nJ at h
 repeat' (first | rfl | (cases h;done) | (injection h with h;injection h with _ h;exact h.symm) | (simp only[Option.map_eq_some_iff,Option.bind_eq_some_iff] at h;obtain⟨_,_,h⟩:=h) | split at h | (obtain⟨_,h⟩:=h) | (simp only[Prod.mk.injEq] at h;exact h.2.symm))
theorem Ka{a0:Nat}{xs:List IV}{lo:Nat}{H:Heap}{v:IV}{H':Heap}(h:nM a0 xs lo H=some (v,H')):H'=H:=by
 unfold nM at h
 repeat' (first | rfl | (cases h;done) | (injection h with h;injection h with _ h;exact h.symm) | (simp only[Option.map_eq_some_iff,Option.bind_eq_some_iff] at h;obtain⟨_,_,h⟩:=h) | split at h | (obtain⟨_,h⟩:=h) | (simp only[Prod.mk.injEq] at h;exact h.2.symm))
theorem Kg{xs:List IV}{lo:Nat}{H:Heap}{v:IV}{H':Heap}(h:nR xs lo H=some (v,H')):H'=H:=by
 unfold nR at h;split at h
 ·cases he:wk H _ with
  | none=>rw[he] at h;cases h
  | some x=>rw[he] at h;injection h with h;injection h with h1 h2;exact h2.symm
 ·cases h
theorem J9{xs:List IV}{lo:Nat}{H:Heap}{v:IV}{H':Heap}(h:nL xs lo H=some (v,H')):H'=H:=by
 unfold nL at h
 repeat' (first | rfl | (cases h;done) | (injection h with h;injection h with _ h;exact h.symm) | (simp only[Option.map_eq_some_iff,Option.bind_eq_some_iff] at h;obtain⟨_,_,h⟩:=h) | split at h | (obtain⟨_,h⟩:=h) | (simp only[Prod.mk.injEq] at h;exact h.2.symm))
theorem Ss{xs:List IV}{lo:Nat}{H:Heap}{v:IV}{H':Heap}(h:Cb xs lo H=some (v,H')):H'=H:=by
 unfold Cb at h
 repeat' (first | rfl | (cases h;done) | (injection h with h;injection h with _ h;exact h.symm) | (simp only[Option.map_eq_some_iff,Option.bind_eq_some_iff] at h;obtain⟨_,_,h⟩:=h) | split at h | (obtain⟨_,h⟩:=h) | (simp only[Prod.mk.injEq] at h;exact h.2.symm))
theorem Sq{xs:List IV}{lo:Nat}{H:Heap}{v:IV}{H':Heap}(h:B7 xs lo H=some (v,H')):H'=H:=by
 unfold B7 at h
 repeat' (first | rfl | (cases h;done) | (injection h with h;injection h with _ h;exact h.symm) | (simp only[Option.map_eq_some_iff,Option.bind_eq_some_iff] at h;obtain⟨_,_,h⟩:=h) | split at h | (obtain⟨_,h⟩:=h) | (simp only[Prod.mk.injEq] at h;exact h.2.symm))
theorem Sr{xs:List IV}{lo:Nat}{H:Heap}{v:IV}{H':Heap}(h:Ca xs lo H=some (v,H')):H'=H:=by
 unfold Ca at h
 repeat' (first | rfl | (cases h;done) | (injection h with h;injection h with _ h;exact h.symm) | (simp only[Option.map_eq_some_iff,Option.bind_eq_some_iff] at h;obtain⟨_,_,h⟩:=h) | split at h | (obtain⟨_,h⟩:=h) | (simp only[Prod.mk.injEq] at h;exact h.2.symm))
theorem Nj{xs:List IV}{lo:Nat}{H:Heap}{v:IV}{H':Heap}(h:qK xs lo H=some (v,H')):H'=H:=by
 unfold qK at h
 repeat' (first | rfl | (cases h;done) | (injection h with h;injection h with _ h;exact h.symm) | (simp only[Option.map_eq_some_iff,Option.bind_eq_some_iff] at h;obtain⟨_,_,h⟩:=h) | split at h | (obtain⟨_,h⟩:=h) | (simp only[Prod.mk.injEq] at h;exact h.2.symm))
theorem GV{a0:Nat}{xs:List IV}{lo:Nat}{H:Heap}{v:IV}{H':Heap}(h:li a0 xs lo H=some (v,H')):H'=H:=by
 unfold li at h
 repeat' (first | rfl | (cases h;done) | (injection h with h;injection h with _ h;exact h.symm) | (simp only[Option.map_eq_some_iff,Option.bind_eq_some_iff] at h;obtain⟨_,_,h⟩:=h) | split at h | (obtain⟨_,h⟩:=h) | (simp only[Prod.mk.injEq] at h;exact h.2.symm))
theorem Ac(kd:Kd)(xs:List IV)(lo:Nat)(H:Heap):(jO kd xs lo H).map (lj H)=ev1 kd xs lo H:=by
 rw[←qI]
 cases kd with
 | move=>exact aA fun v H' h=>QJ h
 | pick=>exact aA fun v H' h=>QI h
 | alloc a0 a1 a2=>exact D2 a0 a1 a2 xs lo H
 | box a0 a1=>exact KL a0 a1 xs lo H
 | build a0 a1=>exact aA fun v H' h=>Nq h
 | buildSl a0 a1 a2 a3 a4=>exact Al a0 a1 a2 a3 a4 xs lo H
 | load a0=>exact aA fun v H' h=>QL h
 | store a0=>exact DY a0 xs lo H
 | nilCheck=>exact aA fun v H' h=>DP h
 | bin a0=>exact aA fun v H' h=>St h
 | eqBool a0=>exact aA fun v H' h=>Kf h
 | eqFlat a0 a1=>exact aA fun v H' h=>Ke h
 | eqNil a0 a1=>exact aA fun v H' h=>Np h
 | un a0=>exact aA fun v H' h=>UR h
 | conv a0=>exact aA fun v H' h=>QM h
 | iface a0=>exact aA fun v H' h=>Nm h
 | mkfn a0 a1=>exact aA (r:=sd a0 a1 xs lo H) fun v H' h=>QK (lo:=lo) h
 | mkmap=>exact D0 xs lo H
 | mksl a0 a1 a2 a3=>exact Hg a0 a1 a2 a3 xs lo H
 | slc a0 a1 a2 a3=>exact aA fun v H' h=>Sp h
 | slcStr a0 a1=>exact aA fun v H' h=>J5 h
 | slcArr a0 a1 a2 a3 a4 a5=>exact aA fun v H' h=>J6 h
 | fieldAddr a0=>exact aA fun v H' h=>BR h
 | field a0 a1=>exact aA fun v H' h=>No h
 | idxSl a0=>exact aA fun v H' h=>Nn h
 | idxArrAddr a0 a1=>exact aA fun v H' h=>zS h
 | idxArr a0 a1 a2=>exact aA fun v H' h=>Kc h
 | idxStr=>exact aA fun v H' h=>Kb h
 | lookup a0 a1 a2 a3=>exact aA fun v H' h=>J7 h
 | mapUpd a0=>exact Cf a0 xs lo H
 | mapEntry a0 a1 a2=>exact xg a0 a1 a2 xs lo H
 | entryStore=>exact tq xs lo H
 | delete a0=>exact Cg a0 xs lo H
 | lenSl=>exact aA fun v H' h=>Nl h
 | lenStr=>exact aA fun v H' h=>J8 h
 | lenArr a0=>exact aA fun v H' h=>Ka h
 | lenMap=>exact aA fun v H' h=>J9 h
 | cap=>exact aA fun v H' h=>Ss h
 | append a0 a1 a2=>exact Ch a0 a1 a2 xs lo H
 | copy a0=>exact Hh a0 xs lo H
 | min=>exact aA fun v H' h=>Sq h
 | max=>exact aA fun v H' h=>Sr h
 | clear a0=>exact D1 a0 xs lo H
 | appendZ a0 a1 a2 a3=>exact Am a0 a1 a2 a3 xs lo H
 | strOf=>exact aA fun v H' h=>Nj h
 | rangeM=>exact Ce xs lo H
 | nextM=>exact DZ xs lo H
 | entryM=>exact aA fun v H' h=>Kg h
 | extract a0=>exact aA fun v H' h=>GV h
 | call=>rfl
end Go.Iso
noncomputable section
namespace Go.Iso
def qF(n:Nat)(k:Nat→Bool):Bool:=Nat.casesOn n (k 0) fun m=>k (Nat.succ m)
theorem qE(n:Nat)(k:Nat→Bool):qF n k=k n:=by cases n<;>rfl
def QT(n:Int)(k:Int→Bool):Bool:=
 match n with
 | .ofNat m=>qF m fun m=>k (.ofNat m)
 | .negSucc m=>qF m fun m=>k (.negSucc m)
theorem NE(n:Int)(k:Int→Bool):QT n k=k n:=by cases n<;>simp only[QT,qE]
def fL{α:Type}(l:List α):(List α→Bool)→Bool:=
 List.rec (fun k=>k []) (fun x _ ih k=>ih fun r=>k (x::r)) l
theorem BX{α:Type}(l:List α):∀k:List α→Bool,fL l k=k l:=by
 induction l with
 | nil=>intro k;rfl
 | cons x l ih=>intro k;exact ih _
def Fk(b:Bool)(k:Bool→Bool):Bool:=match b with | true=>k true | false=>k false
theorem BY(b:Bool)(k:Bool→Bool):Fk b k=k b:=by cases b<;>rfl
def fV(v:IV)(k:IV→Bool):Bool:=
 match v with
 | .bool b=>Fk b fun b=>k (.bool b)
 | .int kd n=>QT n fun n=>k (.int kd n)
 | .str s=>fL s fun s=>k (.str s)
 | .ptr b o=>qF b fun b=>qF o fun o=>k (.ptr b o)
 | .nilPtr=>k .nilPtr
 | .slice b o n c ex=>qF b fun b=>qF o fun o=>qF n fun n=>qF c fun c=>Fk ex fun ex=>k (.slice b o n c ex)
 | .nilSlice=>k .nilSlice
 | .map b=>qF b fun b=>k (.map b)
 | .nilMap=>k .nilMap
 | .fn f a c=>fL a fun a=>fL c fun c=>k (.fn f a c)
 | .yield b=>qF b fun b=>k (.yield b)
 | .nilFunc=>k .nilFunc
 | .iface t x=>k (.iface t x)
 | .nilIface=>k .nilIface
 | .agg l=>fL l fun l=>k (.agg l)
 | .tuple l=>fL l fun l=>k (.tuple l)
theorem Fj(v:IV)(k:IV→Bool):fV v k=k v:=by cases v<;>simp only[fV,qE,NE,BX,BY]
def fO(o:IObj)(k:IObj→Bool):Bool:=
 match o with
 | .cells ro e ez cs=>Fk ro fun ro=>fL cs fun cs=>k (.cells ro e ez cs)
 | .map es c=>fL es fun es=>qF c fun c=>k (.map es c)
 | o=>k o
theorem Py(o:IObj)(k:IObj→Bool):fO o k=k o:=by cases o<;>simp only[fO,qE,BX,BY]
def Ku(tm:List IV):Nat→(IV→Bool)→Bool:=
 List.rec (fun _ k=>k IV.undef) (fun x _ ih i k=>Nat.casesOn i (k x) fun j=>ih j k) tm
theorem ug(tm:List IV):∀(i:Nat) (k:IV→Bool),Ku tm i k=k (tm.getD i IV.undef):=by
 induction tm with
 | nil=>intro i k;rfl
 | cons x l ih=>
   intro i k
   cases i with
   | zero=>rfl
   | succ i=>exact(ih i k).trans (by simp)
def R2(tm:List IV):Nat→IV→(List IV→Bool)→Bool:=
 List.rec (fun _ _ k=>k []) (fun x xs ih i v k=>Nat.casesOn i (k (v::xs)) fun j=>ih j v fun r=>k (x::r)) tm
theorem ME(tm:List IV):∀(i:Nat) (v:IV) (k:List IV→Bool),R2 tm i v k=k (tm.set i v):=by
 induction tm with
 | nil=>intro i v k;rfl
 | cons x l ih=>
   intro i v k
   cases i with
   | zero=>rfl
   | succ i=>exact ih i v _
def UB{α:Type}(ih:Tr α→Nat→α→(Tr α→Bool)→Bool)(j:Nat)(x:α)(k:Tr α→Bool):Bool:=
 qF (j / 2) fun h=>match Nat.beq (j%2) 0 with
  | true=>ih .leaf h x fun r=>k (.node none r .leaf)
  | false=>ih .leaf h x fun r=>k (.node none .leaf r)
def UA{α:Type}(ih:Tr α→Nat→α→(Tr α→Bool)→Bool)(v:Option α)(l r:Tr α)(j:Nat)(x:α)(k:Tr α→Bool):Bool:=
 qF (j / 2) fun h=>match Nat.beq (j%2) 0 with
  | true=>ih l h x fun l'=>k (.node v l' r)
  | false=>ih r h x fun r'=>k (.node v l r')
def vd{α:Type}(f:Nat):Tr α→Nat→α→(Tr α→Bool)→Bool:=
 Nat.rec (fun t _ _ k=>k t) (fun _ ih t i x k=>
  Tr.casesOn t (Nat.casesOn i (k (.node (some x) .leaf .leaf)) fun j=>UB ih j x k)
   (fun v l r=>Nat.casesOn i (k (.node (some x) l r)) fun j=>UA ih v l r j x k)) f
theorem AX{α:Type}:∀(f:Nat) (t:Tr α) (i:Nat) (x:α) (k:Tr α→Bool),vd f t i x k=k (Tr.setF f t i x):=by
 intro f
 induction f with
 | zero=>intro t i x k;rfl
 | succ f ih=>
   intro t i x k
   cases t with
   | leaf=>
     cases i with
     | zero=>rfl
     | succ j=>
       have e:vd (f+1) Tr.leaf (j+1) x k=UB (vd f) j x k:=rfl;rw[e];unfold UB;rw[qE];by_cases h:j%2=0
       ·have hb:Nat.beq (j%2) 0=true:=by rw[h];rfl
        simp only[hb,Tr.setF,h,if_true];exact ih _ _ _ _
       ·have hb:Nat.beq (j%2) 0=false:=by
         have:j%2=1:=by omega
         rw[this];rfl
        simp only[hb,Tr.setF,h,if_false];exact ih _ _ _ _
   | node v l r=>
     cases i with
     | zero=>rfl
     | succ j=>
       have e:vd (f+1) (Tr.node v l r) (j+1) x k=UA (vd f) v l r j x k:=rfl;rw[e];unfold UA;rw[qE];by_cases h:j%2=0
       ·have hb:Nat.beq (j%2) 0=true:=by rw[h];rfl
        simp only[hb,Tr.setF,h,if_true];exact ih _ _ _ _
       ·have hb:Nat.beq (j%2) 0=false:=by
         have:j%2=1:=by omega
         rw[this];rfl
        simp only[hb,Tr.setF,h,if_false];exact ih _ _ _ _
def Jz(H:Heap)(b:Nat)(o:IObj)(k:Heap→Bool):Bool:=
 match H with
 | ⟨n,t⟩=>fO o fun o=>vd (b+1) t b o fun t=>k ⟨n,t⟩
theorem E6(H:Heap)(b:Nat)(o:IObj)(k:Heap→Bool):Jz H b o k=k (H.put b o):=by
 cases H;simp only[Jz,Py,AX];rfl
def JR(H:Heap)(o:IObj)(k:Heap→Bool):Bool:=
 match H with
 | ⟨n,t⟩=>fO o fun o=>vd (n+1) t n o fun t=>k ⟨Nat.succ n,t⟩
theorem Fa(H:Heap)(o:IObj)(k:Heap→Bool):JR H o k=k (H.new o):=by
 cases H;simp only[JR,Py,AX];rfl
def dS(H:Heap)(d:D)(k:Heap→Bool):Bool:=
 match d with
 | .same=>k H
 | .put b o=>Jz H b o k
 | .new o=>JR H o k
 | .kill b o=>Jz H b .dead fun H=>JR H o k
theorem SF(H:Heap)(d:D)(k:Heap→Bool):dS H d k=k (d.app H):=by
 cases d<;>simp only[dS,E6,Fa]<;>rfl
def aS(g0:Nat)(tm:List IV)(a:IA)(k:IV→Bool):Bool:=
 match a with
 | .tmp t=>Ku tm t k
 | .val v=>k v
 | .glob g=>match Nat.blt g g0 with | true=>k (.ptr g 0) | false=>false
def tn{α:Type}(r:Option α)(k:α→Bool):Bool:=match r with | none=>false | some x=>k x
theorem Lf(g0:Nat)(tm:List IV)(a:IA)(k:IV→Bool):aS g0 tm a k=tn (a.eval g0 tm) k:=by
 cases a with
 | tmp t=>exact ug _ _ _
 | val v=>rfl
 | glob g=>
   simp only[aS,IA.eval,K3];by_cases h:g < g0<;>simp[h,tn]
def Zi(g0:Nat)(tm:List IV)(l:List IA):(List IV→Bool)→Bool:=
 List.rec (fun k=>k []) (fun a _ ih k=>aS g0 tm a fun v=>ih fun vs=>k (v::vs)) l
theorem Rp(g0:Nat)(tm:List IV)(l:List IA):∀k:List IV→Bool,Zi g0 tm l k=tn (be g0 tm l) k:=by
 induction l with
 | nil=>intro k;rfl
 | cons a l ih=>
   intro k
   show aS g0 tm a _=_
   rw[Lf];simp only[be]
   cases a.eval g0 tm with
   | none=>rfl
   | some v=>
     simp only[tn];refine(ih _).trans ?_
     cases be g0 tm l<;>rfl
def TI(fr:Fr)(dst:Option Nat)(v:IV)(k:Fr→Bool):Bool:=
 match fr with
 | ⟨tm,marks⟩=>match dst with
   | none=>k ⟨tm,marks⟩
   | some d=>R2 tm d v fun tm=>k ⟨tm,marks⟩
theorem QR(fr:Fr)(dst:Option Nat)(v:IV)(k:Fr→Bool):TI fr dst v k=k (fr.put dst v):=by
 cases dst<;>simp only[TI,ME]<;>rfl
def HU(tm:List IV)(g:Option (Nat×Bool))(k:Bool→Bool):Bool:=
 match g with
 | none=>k true
 | some (t,want)=>Ku tm t fun v=>match v with
   | .bool b=>match b,want with
     | true,true=>k true
     | false,false=>k true
     | _,_=>k false
   | _=>k false
theorem HT(tm:List IV)(g:Option (Nat×Bool))(k:Bool→Bool):HU tm g k=k (bA tm g):=by
 cases g with
 | none=>rfl
 | some p=>
   obtain⟨t,want⟩:=p;simp only[HU,ug,bA]
   cases tm.getD t IV.undef<;>first | rfl | skip
   rename_i b
   cases b<;>cases want<;>rfl
def MV(H:Heap)(tm:List IV)(r:Nat×Option (Option Nat))(k:IV→Bool):Bool:=
 match r with
 | (t,none)=>Ku tm t k
 | (t,some n)=>Ku tm t fun v=>match v with
   | .ptr b o=>tn ((H.read b o (n.getD 1)).bind (ak n)) fun v=>fV v k
   | _=>false
theorem MU(H:Heap)(tm:List IV)(r:Nat×Option (Option Nat))(k:IV→Bool):MV H tm r k=tn (gq H tm r) k:=by
 obtain⟨t,n⟩:=r
 cases n with
 | none=>exact ug _ _ _
 | some n=>
   simp only[MV,ug,gq]
   cases tm.getD t IV.undef<;>first | rfl | skip
   rename_i b o;simp only
   cases(H.read b o (n.getD 1)).bind (ak n)<;>simp[tn,Fj]
def Jq(H:Heap)(tm:List IV)(l:List (Nat×Option (Option Nat))):(List IV→Bool)→Bool:=
 List.rec (fun k=>k []) (fun r _ ih k=>MV H tm r fun v=>ih fun vs=>k (v::vs)) l
theorem Bh(H:Heap)(tm:List IV)(l:List (Nat×Option (Option Nat))):∀k:List IV→Bool,Jq H tm l k=tn (au H tm l) k:=by
 induction l with
 | nil=>intro k;rfl
 | cons a l ih=>
   intro k
   show MV H tm a _=_
   rw[MU];simp only[au]
   cases gq H tm a with
   | none=>rfl
   | some v=>
     simp only[tn];refine(ih _).trans ?_
     cases au H tm l<;>rfl
abbrev rj:=Task→Nat→Heap→(Out→Heap→Bool)→Bool
def PG(k:Out→Heap→Bool)(n:Fr→Heap→Bool):Out→Heap→Bool:=fun o H=>
 match o with
 | .val _=>k o H
 | .ex e fr=>match e with
   | .normal=>n fr H
   | .jmp _=>k o H
def Td(id:Nat)(k:Out→Heap→Bool):Out→Heap→Bool:=fun o H=>
 match o with
 | .val _=>k o H
 | .ex e fr=>match e with
   | .normal=>k o H
   | .jmp j=>match j with
     | .ret=>k o H
     | .exit id'=>match Nat.beq id' id with
       | true=>k (.ex .normal fr) H
       | false=>k o H
def Ry(k:IV→Heap→Bool):Out→Heap→Bool:=fun o H=>
 match o with
 | .val v=>k v H
 | .ex _ _=>false
def Ta(k:Ex→Fr→Heap→Bool):Out→Heap→Bool:=fun o H=>
 match o with
 | .val _=>false
 | .ex e fr=>k e fr H
def vD(k:Fr→Heap→Bool):Ex→Fr→Heap→Bool:=fun e fr H=>
 match e with
 | .normal=>k fr H
 | .jmp _=>false
def SJ(rec:rj)(a b:IC)(rd:Option Nat)(fr:Fr)(lo:Nat)(H:Heap)(k:Out→Heap→Bool)(v:IV):Bool:=
 match v with
 | .bool x=>match x with
   | true=>rec (.code a rd fr) lo H k
   | false=>rec (.code b rd fr) lo H k
 | _=>false
def Sb(l:Nat)(lo:Nat)(marks:List Nat)(fr:Fr)(k:Out→Heap→Bool)(_:IV)(H2:Heap):Bool:=
 match H2.get l with
 | some (.loop st pend tm ps asg body df)=>
   if st=.busy∨l < lo then false
   else Jz H2 l (.loop .exhausted pend tm ps asg body df) fun H3=>
    match pend with
    | none=>k (.ex .normal {fr with marks:=marks++fr.marks}) H3
    | some j=>k (.ex (.jmp j) {fr with marks:=marks++fr.marks}) H3
 | _=>false
def Pn(rec:rj)(ps:List Nat)(asg body:IC)(fr:Fr)(lo:Nat)(k:Out→Heap→Bool)(rd:Option Nat)(H:Heap)(g:IV):Bool:=
 tn (gE rd H) fun e=>match e with
  | (df,marks,H1)=>match H1 with
    | ⟨n,t⟩=>JR ⟨n,t⟩ (.loop .ready none fr.tm ps asg body df) fun H2=>rec (.apply g [.yield n]) lo H2 (Ry (Sb n lo marks fr k))
def ye(g0:Nat)(rec:rj)(c:IC)(rd:Option Nat)(fr:Fr)(lo:Nat)(H:Heap)(k:Out→Heap→Bool):Bool:=
 match c with
 | .skip=>k (.ex .normal fr) H
 | .exit id=>k (.ex (.jmp (.exit id)) fr) H
 | .ret=>k (.ex (.jmp .ret) fr) H
 | .ops l=>rec (.segs l rd fr) lo H k
 | .seq a b=>rec (.code a rd fr) lo H (PG k fun fr' H'=>rec (.code b rd fr') lo H' k)
 | .cond c a b=>aS g0 fr.tm c (SJ rec a b rd fr lo H k)
 | .block id c=>rec (.code c rd fr) lo H (Td id k)
 | .loop c=>rec (.code c rd fr) lo H (PG k fun fr' H'=>rec (.code (.loop c) rd fr') lo H' k)
 | .scope c=>rec (.code c rd fr) lo H k
 | .rfn f ps asg body=>aS g0 fr.tm f (Pn rec ps asg body fr lo k rd H)
def Kw(s:Sg):Option bR:=match s with | .seq=>none | .free=>some []
def Pm(rec:rj)(l:List (Sg×List IOp))(rd:Option Nat)(fr:Fr)(lo:Nat)(H:Heap)(k:Out→Heap→Bool):Bool:=
 match l with
 | []=>k (.ex .normal fr) H
 | x::l=>match x with
   | (s,os)=>rec (.ops (Kw s) os rd fr) lo H (Ta (vD fun fr' H'=>rec (.segs l rd fr') lo H' k))
def Pz(rec:rj)(xs:List IV)(lw:Nat)(H:Heap)(k:IV→Heap→Bool):Bool:=
 match xs with
 | []=>false
 | f::xs=>rec (.apply f xs) lw H (Ry k)
def UL(rec:rj)(kd:Kd)(xs:List IV)(lw:Nat)(H:Heap)(k:IV→Heap→Bool):Bool:=
 match kd.isCall with
 | true=>Pz rec xs lw H k
 | false=>match jO kd xs lw H with
   | none=>false
   | some (v,d)=>fV v fun v=>dS H d fun H=>k v H
def QF(free:Option bR)(amb:Bool)(lo:Nat)(H:Heap):Nat:=
 match free with
 | none=>lo
 | some _=>match amb with | true=>lo | false=>H.n
def Sf(g0:Nat)(rec:rj)(free:Option bR)(l:List IOp)(rd:Option Nat)(fr:Fr)(lo:Nat)(H:Heap)(k:Out→Heap→Bool):Bool:=
 match l with
 | []=>k (.ex .normal fr) H
 | o::l=>match o with
   | ⟨dst,kd,args,guard,amb,idx,mask⟩=>HU fr.tm guard fun w=>match w with
     | true=>Zi g0 fr.tm args fun xs=>match aR free ⟨dst,kd,args,guard,amb,idx,mask⟩ xs with
       | none=>false
       | some free'=>UL rec kd xs (QF free amb lo H) H fun v H'=>TI fr dst v fun fr'=>rec (.ops free' l rd fr') lo H' k
     | false=>TI fr dst IV.undef fun fr'=>rec (.ops free l rd fr') lo H k
def HM(rec:rj)(l:Nat)(args:List IV)(lo:Nat)(H:Heap)(k:Out→Heap→Bool):Bool:=
 match H.get l with
 | some (.loop _ _ tm ps asg body _)=>
   if args.length=ps.length∧lo≤l then
    fL (dQ tm ps args) fun tm=>rec (.code asg (some l) ⟨tm,[]⟩) lo H (Ta (vD fun fr H1=>tn (ig l H1) fun H2=>rec (.code body (some l) fr) lo H2 (Ta fun e _ H3=>tn (xf l e H3) fun p=>k p.1 p.2)))
   else false
 | _=>false
def Ee(rec:rj)(f:IV)(args:List IV)(lo:Nat)(H:Heap)(k:Out→Heap→Bool):Bool:=
 match f with
 | .fn f first cap=>fL (first++args++cap) fun xs=>rec (.call f xs) lo H k
 | .yield l=>HM rec l args lo H k
 | _=>false
def vS(res:List (Nat×Option (Option Nat)))(lo:Nat)(fr:Fr)(H':Heap)(k:Out→Heap→Bool):Bool:=
 match fr with
 | ⟨tm,marks⟩=>match marks with
   | []=>Jq H' tm res fun vs=>fV (d8 vs) fun v=>k (.val v) H'
   | marks=>tn (bq lo marks H') fun H''=>Jq H'' tm res fun vs=>fV (d8 vs) fun v=>k (.val v) H''
def UH(res:List (Nat×Option (Option Nat)))(lo:Nat)(k:Out→Heap→Bool):Ex→Fr→Heap→Bool:=fun e fr H=>
 match e with
 | .normal=>vS res lo fr H k
 | .jmp j=>match j with
   | .ret=>vS res lo fr H k
   | .exit _=>false
def Zb(rec:rj)(args:List IV)(lo:Nat)(H:Heap)(k:Out→Heap→Bool)(fn:IFn):Bool:=
 match fn with
 | ⟨ntmps,res,body⟩=>fL (args++bT (ntmps - args.length)) fun tm=>rec (.code body none ⟨tm,[]⟩) lo H (Ta (UH res lo k))
def KV(E:Env)(rec:rj)(f:FuncId)(args:List IV)(lo:Nat)(H:Heap)(k:Out→Heap→Bool):Bool:=
 match E.sums f with
 | some s=>tn (s args lo H) fun p=>k (.val p.1) p.2
 | none=>tn (E.fns f) (Zb rec args lo H k)
def mz(E:Env)(rec:rj):rj:=fun t lo H k=>
 match t with
 | .code c rd fr=>ye E.g0 rec c rd fr lo H k
 | .segs l rd fr=>Pm rec l rd fr lo H k
 | .ops free l rd fr=>Sf E.g0 rec free l rd fr lo H k
 | .apply f args=>Ee rec f args lo H k
 | .call f args=>KV E rec f args lo H k
def Jh(E:Env)(n:Nat):rj:=Nat.rec (fun _ _ _ _=>false) (fun _ ih=>mz E ih) n
theorem Gf(E:Env)(n:Nat):Jh E (n+1)=mz E (Jh E n):=rfl
def Lb(k:Out→Heap→Bool):Out×Heap→Bool:=fun p=>k p.1 p.2
theorem Nh(free:Option bR)(o:IOp)(lo:Nat)(H:Heap):QF free o.amb lo H=cU free o lo H:=by
 unfold QF cU
 cases free with
 | none=>rfl
 | some f=>cases o.amb<;>rfl
theorem MS(E:Env):∀(n:Nat) (t:Task) (lo:Nat) (H:Heap) (k:Out→Heap→Bool),Jh E n t lo H k=tn (run E n t lo H) (Lb k):=by
 intro n
 induction n with
 | zero=>intro t lo H k;rfl
 | succ n ih=>
   intro t lo H k;rw[Gf]
   cases t with
   | code c rd fr=>
     cases c with
     | skip=>rfl
     | exit id=>rfl
     | ret=>rfl
     | ops l=>exact ih _ _ _ _
     | scope c=>exact ih _ _ _ _
     | seq a b=>
       simp only[mz,ye,run,ih]
       cases run E n (.code a rd fr) lo H with
       | none=>rfl
       | some p=>
         obtain⟨o,H1⟩:=p
         cases o with
         | val v=>rfl
         | ex e fr=>cases e<;>rfl
     | cond c a b=>
       simp only[mz,ye,run,Lf]
       cases c.eval E.g0 fr.tm with
       | none=>rfl
       | some v=>cases v<;>first | rfl | (rename_i b;cases b<;>exact ih _ _ _ _)
     | block id c=>
       simp only[mz,ye,run,ih]
       cases run E n (.code c rd fr) lo H with
       | none=>rfl
       | some p=>
         obtain⟨o,H1⟩:=p
         cases o with
         | val v=>rfl
         | ex e fr=>cases e with
           | normal=>rfl
           | jmp j=>cases j with
             | ret=>rfl
             | exit id'=>
               simp only[tn,Lb,Td];by_cases h:id'=id
               ·subst h;simp
               ·have:Nat.beq id' id=false:=by
                 cases hb:Nat.beq id' id with
                 | false=>rfl
                 | true=>exact absurd (Nat.eq_of_beq_eq_true hb) h
                simp[this,h]
     | loop c=>
       simp only[mz,ye,run,ih]
       cases run E n (.code c rd fr) lo H with
       | none=>rfl
       | some p=>
         obtain⟨o,H1⟩:=p
         cases o with
         | val v=>rfl
         | ex e fr=>cases e<;>rfl
     | rfn f ps asg body=>
       simp only[mz,ye,run,Lf]
       cases f.eval E.g0 fr.tm with
       | none=>rfl
       | some g=>
         simp only[tn,Pn]
         cases gE rd H with
         | none=>rfl
         | some e=>
           obtain⟨df,marks,H1⟩:=e;simp only[tn,Fa,ih]
           cases run E n (.apply g [.yield H1.n]) lo (H1.new (.loop .ready none fr.tm ps asg body df)) with
           | none=>rfl
           | some p=>
             obtain⟨o,H2⟩:=p
             cases o with
             | ex e fr=>rfl
             | val v=>
               simp only[tn,Lb,Ry,Sb]
               cases H2.get H1.n with
               | none=>rfl
               | some ob=>cases ob with
                 | loop st pend tm ps asg body df=>
                   simp only[E6];split
                   ·rfl
                   ·cases pend<;>rfl
                 | _=>rfl
   | segs l rd fr=>
     cases l with
     | nil=>rfl
     | cons x l=>
       obtain⟨s,os⟩:=x;simp only[mz,Pm,run,ih,Kw]
       cases run E n (.ops (match s with | .seq=>none | .free=>some []) os rd fr) lo H with
       | none=>rfl
       | some p=>
         obtain⟨o,H1⟩:=p
         cases o with
         | val v=>rfl
         | ex e fr=>cases e<;>rfl
   | ops free l rd fr=>
     cases l with
     | nil=>rfl
     | cons o l=>
       obtain⟨dst,kd,args,guard,amb,idx,mask⟩:=o;simp only[mz,Sf,run,HT,QR,ih,Rp]
       cases bA fr.tm guard with
       | false=>rfl
       | true=>
         simp only[if_true]
         cases be E.g0 fr.tm args with
         | none=>rfl
         | some xs=>
           simp only[tn]
           cases aR free ⟨dst,kd,args,guard,amb,idx,mask⟩ xs with
           | none=>rfl
           | some free'=>
             simp only
             have hl:=Nh free ⟨dst,kd,args,guard,amb,idx,mask⟩ lo H;simp only at hl;rw[hl];generalize cU free ⟨dst,kd,args,guard,amb,idx,mask⟩ lo H=lw
             cases kd with
             | call=>
               simp only[UL,Kd.isCall,Pz]
               cases xs with
               | nil=>rfl
               | cons f xs=>
                 simp only[ih]
                 cases run E n (.apply f xs) lw H with
                 | none=>rfl
                 | some p=>
                   obtain⟨o,H1⟩:=p
                   cases o<;>rfl
             | _=>
               simp only[UL,Kd.isCall,←Ac]
               cases jO _ xs lw H with
               | none=>rfl
               | some p=>
                 obtain⟨v,d⟩:=p;simp only[Fj,SF];rfl
   | apply f args=>
     cases f with
     | fn f first cap=>
       simp only[mz,Ee,run,BX];exact ih _ _ _ _
     | yield l=>
       simp only[mz,Ee,run,HM]
       cases H.get l with
       | none=>rfl
       | some ob=>cases ob with
         | loop st pend tm ps asg body df=>
           simp only[BX,ih];split
           ·cases run E n (.code asg (some l) ⟨dQ tm ps args,[]⟩) lo H with
            | none=>rfl
            | some p=>
              obtain⟨o,H1⟩:=p
              cases o with
              | val v=>rfl
              | ex e fr=>cases e with
                | jmp j=>rfl
                | normal=>
                  simp only[tn,Lb,Ta,vD]
                  cases ig l H1 with
                  | none=>rfl
                  | some H2=>
                    simp only
                    cases run E n (.code body (some l) fr) lo H2 with
                    | none=>rfl
                    | some p=>
                      obtain⟨o,H3⟩:=p
                      cases o<;>rfl
           ·rfl
         | _=>rfl
     | _=>rfl
   | call f args=>
     simp only[mz,KV,run]
     cases E.sums f with
     | some s=>
       simp only
       cases s args lo H with
       | none=>rfl
       | some p=>rfl
     | none=>
       simp only
       cases E.fns f with
       | none=>rfl
       | some fn=>
         obtain⟨nt,res,body⟩:=fn;simp only[tn,Zb,BX,ih]
         cases run E n (.code body none ⟨args++bT (nt - args.length),[]⟩) lo H with
         | none=>rfl
         | some p=>
           obtain⟨o,H1⟩:=p
           cases o with
           | val v=>rfl
           | ex e fr=>
             have key:vS res lo fr H1 k=tn (match bq lo fr.marks H1 with | none=>none | some H''=>(au H'' fr.tm res).map fun vs=>(Out.val (d8 vs),H'')) (Lb k):=by
              obtain⟨tm,marks⟩:=fr
              cases marks with
              | nil=>
                simp only[vS,Bh,Fj,bq]
                cases au H1 tm res<;>rfl
              | cons m ms=>
                simp only[vS,Bh,Fj]
                cases bq lo (m::ms) H1 with
                | none=>rfl
                | some H2=>simp only[tn];cases au H2 tm res<;>rfl
             cases e with
             | normal=>exact key
             | jmp j=>cases j with
               | ret=>exact key
               | exit id=>rfl
theorem Bb{E:Env}{n:Nat}{t:Task}{lo:Nat}{H:Heap}{k:Out→Heap→Bool}(h:Jh E n t lo H k=true):∃o H',run E n t lo H=some (o,H')∧k o H'=true:=by
 rw[MS] at h
 cases hr:run E n t lo H with
 | none=>rw[hr] at h;cases h
 | some p=>rw[hr] at h;exact⟨p.1,p.2,rfl,h⟩
end Go.Iso
end
