/-
  arguments as data; from a run to a row; a strict form of the evaluator.
-/
import Derived.Test.YtpnbiapmndbhgaaGreatDoorIsoP4
import Derived.ChangeStays
import Derived.OpenShut
import Derived.ChangeOld
import Derived.Handed
import Derived.JoinedOf
import Derived.ChangeShapes
import Derived.SizedLaws
import Derived.ChangeCalls
import Derived.ChangeArms
import Derived.IntWalk
set_option linter.unusedSimpArgs false
set_option linter.unusedVariables false
namespace Go.Iso
open Classical
inductive Ty where
 | bool
 | int (k:IntKind)
 | str
 | slice (e:Ty)
 | struct (fs:List Ty)
 | arr (n:Nat) (e:Ty)
 deriving Inhabited
inductive PD where
 | bool (b:Bool)
 | int (n:Int)
 | str (s:List UInt8)
 | nil
 | slice (l:List PD)
 | agg (l:List PD)
 deriving Inhabited
mutual
def i9{T:Type}:DataW T→PD
 | .lit (.bool b)=>.bool b
 | .lit (.int _ n)=>.int n
 | .lit (.string s)=>.str s
 | .lit _=>.nil
 | .nil=>.nil
 | .ptr _=>.nil
 | .slice elems _=>.slice (Aw elems)
 | .agg parts=>.agg (Aw parts)
 | .iface _ _=>.nil
 | .map _=>.nil
 | .held _=>.nil
def Aw{T:Type}:List (DataW T)→List PD
 | []=>[]
 | d::r=>i9 d::Aw r
end
theorem oT{T:Type}:∀(l:List (DataW T)),Aw l=l.map i9
 | []=>by simp[Aw]
 | d::r=>by simp[Aw,oT r]
mutual
inductive Rd(H:Heap):Ty→List IV→PD→Prop
 | bool (b:Bool):Rd H .bool [.bool b] (.bool b)
 | int (k:IntKind) (n:Int) (h:k.min≤n∧n≤k.max):Rd H (.int k) [.int k n] (.int n)
 | str (s:List UInt8) (h:s.length≤maxLen):Rd H .str [.str s] (.str s)
 | nil (e:Ty):Rd H (.slice e) [.nilSlice] .nil
 | slice (e:Ty) (b cap:Nat) (l:List PD) (css:List (List IV)) (h1:l.length≤cap) (h2:cap≤maxLen) (hb:0 < l.length→H.get b=some (.cells true 0 0 css.flatten)) (he:Rds H (List.replicate l.length e) css l):
   Rd H (.slice e) [.slice b 0 l.length cap true] (.slice l)
 | struct (ts:List Ty) (css:List (List IV)) (l:List PD) (he:Rds H ts css l):Rd H (.struct ts) css.flatten (.agg l)
 | arr (n:Nat) (e:Ty) (css:List (List IV)) (l:List PD) (he:Rds H (List.replicate n e) css l):Rd H (.arr n e) css.flatten (.agg l)
inductive Rds(H:Heap):List Ty→List (List IV)→List PD→Prop
 | nil:Rds H [] [] []
 | cons {t:Ty} {c:List IV} {d:PD} {ts:List Ty} {cs:List (List IV)} {ds:List PD} (h:Rd H t c d) (hs:Rds H ts cs ds):Rds H (t::ts) (c::cs) (d::ds)
end
def Grow(H H':Heap):Prop:=H.n≤H'.n∧∀b o,b < H.n→H.get b=some o→H'.get b=some o
theorem Grow.refl(H:Heap):Grow H H:=⟨au _,fun _ _ _ h=>h⟩
theorem Grow.trans{a b c:Heap}(h:Grow a b)(k:Grow b c):Grow a c:=⟨dr h.1 k.1,fun x o hx e=>k.2 x o (du hx h.1) (h.2 x o hx e)⟩
def Ro(H:Heap):Prop:=∀b o,H.get b=some o→b < H.n∧o.owned=false
mutual
theorem Rd.mono{H H':Heap}(hr:Ro H)(hg:Grow H H'):∀{t:Ty} {c:List IV} {d:PD},Rd H t c d→Rd H' t c d
 | _,_,_,.bool b=>.bool b
 | _,_,_,.int k n h=>.int k n h
 | _,_,_,.str s h=>.str s h
 | _,_,_,.nil e=>.nil e
 | _,_,_,.slice e b cap l css h1 h2 hb he=>.slice e b cap l css h1 h2 (fun h=>hg.2 b _ (hr b _ (hb h)).1 (hb h)) (he.mono hr hg)
 | _,_,_,.struct ts css l he=>.struct ts css l (he.mono hr hg)
 | _,_,_,.arr n e css l he=>.arr n e css l (he.mono hr hg)
theorem Rds.mono{H H':Heap}(hr:Ro H)(hg:Grow H H'):∀{t:List Ty} {c:List (List IV)} {d:List PD},Rds H t c d→Rds H' t c d
 | _,_,_,.nil=>.nil
 | _,_,_,.cons h hs=>.cons (h.mono hr hg) (hs.mono hr hg)
end
section
variable {P:Program}{g0:Nat}{μ:Mu}{w:World}{H:Heap}
def RR(P:Program)(g0:Nat)(w:World)(τ:Ty)(cs:List Value)(pd:PD):Prop:=
 ∀(μ:Mu) (H:Heap),Rel P g0 μ H.get H.n w→Ro H→∃(μ':Mu) (H':Heap) (ivs:List IV),Rel P g0 μ' H'.get H'.n w∧Ro H'∧μ.le μ'∧Grow H H'∧VRs μ' ivs cs∧Rd H' τ ivs pd
theorem yz:∀(ps:List (Ty×List Value×PD)),(∀p,p∈ps→RR P g0 w p.1 p.2.1 p.2.2)→∀(μ:Mu) (H:Heap),Rel P g0 μ H.get H.n w→Ro H→
  ∃(μ':Mu) (H':Heap) (css:List (List IV)),Rel P g0 μ' H'.get H'.n w∧Ro H'∧μ.le μ'∧Grow H H'∧VRs μ' css.flatten (ps.map (·.2.1)).flatten∧Rds H' (ps.map (·.1)) css (ps.map (·.2.2))
 | [],_,μ,H,hr,ho=>⟨μ,H,[],hr,ho,μ.le_refl,.refl H,rfl,.nil⟩
 | p::ps,h,μ,H,hr,ho=>by
   obtain⟨μ1,H1,c,a1,a2,a3,a4,a5,a6⟩:=h p (by simp) μ H hr ho;obtain⟨μ2,H2,css,b1,b2,b3,b4,b5,b6⟩:=yz ps (fun q hq=>h q (by simp[hq])) μ1 H1 a1 a2;exact⟨μ2,H2,c::css,b1,b2,Mu.le_trans a3 b3,a4.trans b4,by simp only[up,bB];exact(VRs.mono b3 _ _ a5).append b5,.cons (a6.mono a2 b4) b6⟩
theorem Rel.allocRo(h:Rel P g0 μ H.get H.n w)(ho:Ro H){c p:Nat}{cs':Array Value}{e:TypeId}{fz:Nat×Nat}{cs:List IV}(hw:w.heap[c]? =some (.cells cs' e fz))(hl:p+cs.length≤cs'.size)(hv:VRs μ cs ((cs'.toList.drop p).take cs.length)):
  Rel P g0 (μ.upd H.n (.at c p 0 0)) (H.new (.cells true 0 0 cs)).get (H.new (.cells true 0 0 cs)).n w∧Ro (H.new (.cells true 0 0 cs)):=by
 have hle:=μ.le_upd (.at c p 0 0) h.fresh
 have hro:Ro (H.new (.cells true 0 0 cs)):=by
  intro b o hb;rw[al] at hb;rw[ac];split at hb
  ·injection hb with hb;subst hb;exact⟨by omega,rfl⟩
  ·have:=ho b o hb;exact⟨by omega,this.2⟩
 refine⟨⟨fun b hb=>?_,fun b b' c p ez z p' ez' z' hb hb' hob=>?_,fun b c' p' ez z hb=>?_,fun i hi=>?_,fun b hb=>?_⟩,hro⟩
 ·rw[ac];by_cases e:b=H.n
  ·omega
  ·rw[az _ _ e] at hb;have:=h.lt b hb;omega
 ·obtain⟨o,h1,h2⟩:=hob;rw[(hro b o h1).2] at h2;cases h2
 ·by_cases e:b=H.n
  ·subst e;rw[ay] at hb;injection hb with q1 q2 q3 q4;subst q1 q2 q3 q4;exact⟨.cells true 0 0 cs,by rw[al,if_pos rfl],rfl,cs',_,fz,hw,hl,VRs.mono hle _ _ hv⟩
  ·rw[az _ _ e] at hb;obtain⟨o,k1,k2⟩:=h.obj b c' p' ez z hb;exact⟨o,by rw[al,if_neg (Ne.symm e)];exact k1,k2.mono hle⟩
 ·have hn:=h.glob i hi
  have:i < H.n:=h.lt i (by rw[hn];exact fun x=>by cases x)
  rw[az _ _ (by omega)];exact hn
 ·by_cases e:b=H.n
  ·subst e;rw[ay] at hb;cases hb
  ·rw[az _ _ e] at hb;rw[al,if_neg (Ne.symm e)];exact h.ded b hb
theorem Rel.allocDead(h:Rel P g0 μ H.get H.n w)(ho:Ro H):Rel P g0 (μ.upd H.n .dead) (H.new .dead).get (H.new .dead).n w∧Ro (H.new .dead):=by
 have hle:=μ.le_upd .dead h.fresh
 have hro:Ro (H.new .dead):=by
  intro b o hb;rw[al] at hb;rw[ac];split at hb
  ·injection hb with hb;subst hb;exact⟨by omega,rfl⟩
  ·have:=ho b o hb;exact⟨by omega,this.2⟩
 refine⟨⟨fun b hb=>?_,fun b b' c p ez z p' ez' z' hb hb' hob=>?_,fun b c' p' ez z hb=>?_,fun i hi=>?_,fun b hb=>?_⟩,hro⟩
 ·rw[ac];by_cases e:b=H.n
  ·omega
  ·rw[az _ _ e] at hb;have:=h.lt b hb;omega
 ·obtain⟨o,h1,h2⟩:=hob;rw[(hro b o h1).2] at h2;cases h2
 ·by_cases e:b=H.n
  ·subst e;rw[ay] at hb;cases hb
  ·rw[az _ _ e] at hb;obtain⟨o,k1,k2⟩:=h.obj b c' p' ez z hb;exact⟨o,by rw[al,if_neg (Ne.symm e)];exact k1,k2.mono hle⟩
 ·have hn:=h.glob i hi
  have:i < H.n:=h.lt i (by rw[hn];exact fun x=>by cases x)
  rw[az _ _ (by omega)];exact hn
 ·by_cases e:b=H.n
  ·subst e;rw[al,if_pos rfl]
  ·rw[az _ _ e] at hb;rw[al,if_neg (Ne.symm e)];exact h.ded b hb
theorem Grow.new(ho:Ro H)(o:IObj):Grow H (H.new o):=⟨by rw[ac];omega,fun b x hb e=>by rw[al,if_neg (by omega)];exact e⟩
def zB(P:Program)(ty:TypeId→Option Ty):List Field→Nat→Option (List Ty)
 | [],_=>some []
 | f::fs,off=>
   match ty f.type with
   | some τ=>if f.offset=off then(zB P ty fs (off+P.cellsOf f.type)).map (τ::·) else none
   | none=>none
def mI(P:Program):Nat→TypeId→Option Ty
 | 0,_=>none
 | n+1,t=>
   match P.underlying t with
   | some .bool=>some .bool
   | some (.int k)=>some (.int k)
   | some .string=>some .str
   | some (.slice e)=>if 0 < P.cellsOf e then(mI P n e).map .slice else none
   | some (.struct fs)=>if P.cellsOf t=(fs.toList.map fun f=>P.cellsOf f.type).sum then(zB P (mI P n) fs.toList 0).map .struct else none
   | some (.array k e)=>if P.cellsOf t=k*P.cellsOf e then(mI P n e).map (.arr k) else none
   | _=>none
theorem uP{a:Addr}{n:Nat}{cs:List Value}(h:w.cells? 0 a n=some cs)(hn:0 < n):∃(cs':Array Value) (e:TypeId) (fz:Nat×Nat),w.heap[a.block]? =some (.cells cs' e fz)∧(a.spot=none)∧a.off+n≤cs'.size∧cs=(cs'.toList.drop a.off).take n:=by
 unfold World.cells? at h;simp only[fd,if_true] at h;have hl:=mapM_some_length h;simp only[List.length_range] at hl;have hg:∀i,i < n→w.cell? (a.add i)=cs[i]?:=fun i hi=>mapM_some_get h i i (by simp[hi]);have h0:=hg 0 hn;have ha:a.add 0=a:=by simp[Addr.add]
 rw[ha] at h0;have hc0:∃v,w.cell? a=some v:=⟨cs[0]'(by omega),by rw[h0];exact ca (by omega)⟩;obtain⟨v0,hv0⟩:=hc0;unfold World.cell? at hv0;split at hv0
 ·rename_i cs' e fz hh;split at hv0
  ·cases hv0
  ·rename_i hsp;have hsp':a.spot=none:=by cases hs:a.spot with | none=>rfl | some x=>rw[hs] at hsp;simp at hsp
   have hall:∀i,i < n→cs'[a.off+i]? =cs[i]?:=by
    intro i hi;rw[←hg i hi];unfold World.cell? Addr.add;by_cases e0:i=0
    ·subst e0;simp[hh,hsp']
    ·simp[hh,e0]
   have hsz:a.off+n≤cs'.size:=by
    have:=hall (n - 1) (by omega)
    have hx:cs[n - 1]? =some (cs[n - 1]'(by omega)):=ca (by omega);rw[hx] at this
    have:=(Array.getElem?_eq_some_iff.1 this).1
    omega
   refine⟨cs',e,fz,hh,hsp',hsz,?_⟩
   apply Al;intro i;by_cases hi:i < n
   ·rw[lm hi,px,←hall i hi,ur]
   ·rw[ji (by omega),ji (by simp;omega)]
 ·cases hv0
theorem jJ{α:Type}(l:List α)(sz:Nat):∀(k:Nat),((List.range k).map fun i=>(l.drop (i*sz)).take sz).flatten=l.take (k*sz)
 | 0=>by simp
 | k+1=>by
   rw[List.range_succ,pw,iq,jJ l sz k];simp only[bB,bc,up,List.flatten_nil,ip];rw[dB,List.take_add]
theorem np{α:Type}(P:Program)(ty:TypeId→Option Ty)(l:List α):∀(fs:List Field) (off:Nat) (ts:List Ty),zB P ty fs off=some ts→
  (fs.map fun f=>(l.drop f.offset).take (P.cellsOf f.type)).flatten=(l.drop off).take (fs.map fun f=>P.cellsOf f.type).sum
 | [],off,ts,_=>by simp
 | f::fs,off,ts,h=>by
   unfold zB at h;split at h
   ·split at h
    ·rename_i hoff
     cases h2:zB P ty fs (off+P.cellsOf f.type) with
     | none=>rw[h2] at h;cases h
     | some ts'=>
       have:=np P ty l fs _ _ h2
       simp only[bB,up,List.sum_cons];rw[this,hoff,List.take_add,pu]
    ·cases h
   ·cases h
theorem DA(P:Program)(ty:TypeId→Option Ty):∀(fs:List Field) (off:Nat) (ts:List Ty),zB P ty fs off=some ts→ts.length=fs.length∧∀(i:Nat) (f:Field),fs[i]? =some f→∃τ,ts[i]? =some τ∧ty f.type=some τ
 | [],off,ts,h=>by injection h with h;subst h;simp
 | f::fs,off,ts,h=>by
   unfold zB at h;split at h
   ·rename_i τ hτ;split at h
    ·cases h2:zB P ty fs (off+P.cellsOf f.type) with
     | none=>rw[h2] at h;cases h
     | some ts'=>
       rw[h2] at h;injection h with h;subst h;obtain⟨a,b⟩:=DA P ty fs _ _ h2;refine⟨by simp[a],fun i g hg=>?_⟩
       cases i with
       | zero=>simp at hg;subst hg;exact⟨τ,by simp,hτ⟩
       | succ i=>simpa using b i g (by simpa using hg)
    ·cases h
   ·cases h
theorem asn{T:Type}:∀(ts:List Ty) (cvs:List (List Value)) (xs:List (DataW T)),ts.length=xs.length→cvs.length=xs.length→
  ((ts.zip (cvs.zip (xs.map i9))).map (·.1)=ts∧(ts.zip (cvs.zip (xs.map i9))).map (·.2.1)=cvs∧(ts.zip (cvs.zip (xs.map i9))).map (·.2.2)=xs.map i9):=by
 intro ts
 induction ts with
 | nil=>intro cvs xs h1 h2;cases xs<;>cases cvs<;>simp at h1 h2⊢
 | cons t ts ih=>
   intro cvs xs h1 h2
   cases xs with
   | nil=>simp at h1
   | cons x xs=>
     cases cvs with
     | nil=>simp at h2
     | cons c cvs=>
       obtain⟨a,b,c'⟩:=ih cvs xs (by simpa using h1) (by simpa using h2);simp[a,b,c']
theorem nf{T:Type}{ts:List Ty}{cvs:List (List Value)}{xs:List (DataW T)}(h1:ts.length=xs.length)(h2:cvs.length=xs.length)
  (h:∀(i:Nat) (τ:Ty) (c:List Value) (x:DataW T),ts[i]? =some τ→cvs[i]? =some c→xs[i]? =some x→RR P g0 w τ c (i9 x)) (hr:Rel P g0 μ H.get H.n w) (ho:Ro H):
  ∃(μ':Mu) (H':Heap) (css:List (List IV)),Rel P g0 μ' H'.get H'.n w∧Ro H'∧μ.le μ'∧Grow H H'∧VRs μ' css.flatten cvs.flatten∧Rds H' ts css (xs.map i9):=by
 obtain⟨e1,e2,e3⟩:=asn ts cvs xs h1 h2
 have:=yz (P:=P) (g0:=g0) (w:=w) (ts.zip (cvs.zip (xs.map i9))) (fun p hp=>by
  obtain⟨i,hi,he⟩:=List.getElem_of_mem hp;have hx:(ts.zip (cvs.zip (xs.map i9)))[i]? =some p:=by rw[ca hi,he]
  simp only[List.length_zip,mD] at hi;have q1:ts[i]? =some p.1:=by rw[←e1,uo,hx];rfl
  have q2:cvs[i]? =some p.2.1:=by rw[←e2,uo,hx];rfl
  have q3:(xs.map i9)[i]? =some p.2.2:=by rw[←e3,uo,hx];rfl
  rw[uo] at q3
  cases hxi:xs[i]? with
  | none=>rw[hxi] at q3;cases q3
  | some x=>
    rw[hxi] at q3;injection q3 with q3;rw[←q3];exact h i _ _ x q1 q2 hxi) μ H hr ho
 rw[e1,e2,e3] at this;exact this
theorem zJ{T:Type}{enc:TypeId×Value→T}:∀(n:Nat) (t:TypeId) (τ:Ty) (fuel:Nat) (cs:List Value) (x:DataW T×List MemPlace),mI P n t=some τ→
  DataW.trod enc P w 0 (fun _=>true) true fuel t cs=some x→RR P g0 w τ cs (i9 x.1):=by
 intro n
 induction n with
 | zero=>intro t τ fuel cs x h;cases h
 | succ n ih=>
   intro t τ fuel cs x hτ hx;unfold mI at hτ;split at hτ
   ·rename_i hu;injection hτ with hτ;subst hτ;obtain⟨b,rfl,rfl⟩:=DataW.trod_bool hu hx;intro μ H hr ho;exact⟨μ,H,[.bool b],hr,ho,μ.le_refl,.refl H,⟨_,_,rfl,rfl,rfl⟩,.bool b⟩
   ·rename_i k hu;injection hτ with hτ;subst hτ;obtain⟨m,rfl,rfl,hwf⟩:=DataW.trod_int hu hx;intro μ H hr ho;refine⟨μ,H,[.int k m],hr,ho,μ.le_refl,.refl H,⟨_,_,rfl,rfl,rfl⟩,.int k m ?_⟩;simpa [Lit.wf] using hwf
   ·rename_i hu;injection hτ with hτ;subst hτ;obtain⟨s,rfl,rfl,hs⟩:=DataW.trod_string hu hx;intro μ H hr ho;exact⟨μ,H,[.str s.data.toList],hr,ho,μ.le_refl,.refl H,⟨_,_,rfl,rfl,rfl⟩,.str _ hs⟩
   ·rename_i e hu;split at hτ
    ·rename_i hsz
     cases he:mI P n e with
     | none=>rw[he] at hτ;cases hτ
     | some τe=>
       rw[he] at hτ;injection hτ with hτ;subst hτ;rcases DataW.trod_slice hu hx with⟨rfl,rfl⟩ | ⟨a,len,cap,elems,rest,m,rfl,rfl,rfl,_,hlc,hcm,hel,hget,hrest,_⟩
       ·intro μ H hr ho;exact⟨μ,H,[.nilSlice],hr,ho,μ.le_refl,.refl H,⟨_,_,rfl,rfl,rfl⟩,.nil τe⟩
       ·intro μ H hr ho;subst hel;obtain⟨hrl,hrg⟩:=hrest rfl
        have hcap63:cap < 2^63:=by have:maxLen < 2^63:=by decide
                                   omega
        have hpd:i9 (DataW.slice (elems.map (·.1)) (rest.map (·.1)))=.slice ((elems.map (·.1)).map i9):=by simp[i9,oT]
        have hlen:((elems.map (·.1)).map i9).length=elems.length:=by simp
        by_cases hc0:cap=0
        ·obtain⟨h1,h2⟩:=hr.allocDead ho;have hel0:elems=[]:=List.length_eq_zero_iff.1 (by omega);subst hel0;refine⟨_,_,[.slice H.n 0 0 cap true],h1,h2,Mu.le_upd μ _ hr.fresh,.new ho _,⟨_,_,rfl,⟨a,cap,rfl,⟨fd _,au _,hcap63,fun _=>rfl⟩,?_⟩,rfl⟩,?_⟩
         ·unfold SlR;rw[ay];trivial
         ·exact .slice τe H.n cap [] [] (fd _) hcm (fun h=>absurd h (by simp)) .nil
        ·
         have haddr:∃(cs':Array Value) (e':TypeId) (fz:Nat×Nat),w.heap[a.block]? =some (.cells cs' e' fz)∧a.spot=none∧a.off≤cs'.size∧
           ∀i (hi:i < elems.length),a.off+(i+1)*P.cellsOf e≤cs'.size∧DataW.trod enc P w 0 (fun _=>true) true m e (((cs'.toList.drop a.off).drop (i*P.cellsOf e)).take (P.cellsOf e))=some elems[i]:=by
          have base:∃c0,w.cells? 0 (a.add 0) (P.cellsOf e)=some c0:=by
           by_cases h0:0 < elems.length
           ·have:=hget 0 h0
            rw[ca h0] at this;simp only[xU] at this
            cases hq:w.cells? 0 (a.add 0) (P.cellsOf e) with
            | none=>rw[hq] at this;cases this
            | some c=>exact⟨c,rfl⟩
           ·have h00:elems.length=0:=by omega
            have:=hrg 0 (by omega)
            rw[ca (by omega)] at this;rw[h00] at this;simp only[uk,xU] at this
            cases hq:w.cells? 0 (a.add 0) (P.cellsOf e) with
            | none=>rw[hq] at this;cases this
            | some c=>exact⟨c,rfl⟩
          obtain⟨c0,hc⟩:=base;have ha:a.add 0=a:=by simp[Addr.add]
          rw[ha] at hc;obtain⟨cs',e',fz,g1,g2,g3,g4⟩:=uP hc hsz;refine⟨cs',e',fz,g1,g2,by omega,fun i hi=>?_⟩
          have:=hget i hi
          rw[ca hi] at this
          cases hq:w.cells? 0 (a.add (i*P.cellsOf e)) (P.cellsOf e) with
          | none=>rw[hq] at this;cases this
          | some c=>
            rw[hq] at this;simp only[br] at this;obtain⟨cs2,e2,fz2,k1,k2,k3,k4⟩:=uP hq hsz;have hbk:(a.add (i*P.cellsOf e)).block=a.block:=by unfold Addr.add;split<;>rfl
            have hof:(a.add (i*P.cellsOf e)).off=a.off+i*P.cellsOf e:=by unfold Addr.add;split<;>simp_all
            rw[hbk,g1] at k1;injection k1 with k1;injection k1 with k1 _ _;subst k1;rw[hof] at k3 k4;rw[k4] at this;refine⟨by rw[dB];omega,?_⟩;rw[pu];exact this
         obtain⟨cs',e',fz,hheap,hspot,hoff,hels⟩:=haddr
         obtain⟨μ1,H1,css,b1,b2,b3,b4,b5,b6⟩:=nf (P:=P) (g0:=g0) (w:=w) (μ:=μ) (H:=H) (ts:=List.replicate elems.length τe)
          (cvs:=(List.range elems.length).map fun i=>((cs'.toList.drop a.off).drop (i*P.cellsOf e)).take (P.cellsOf e)) (xs:=elems.map (·.1)) (by simp) (by simp) (fun i τ c x h1 h2 h3=>by
           rw[List.getElem?_replicate] at h1;rw[uo] at h2 h3;split at h1
           ·rename_i hi;injection h1 with h1;subst h1;rw[List.getElem?_range hi] at h2;injection h2 with h2;rw[ca hi] at h3;injection h3 with h3;subst h2 h3;exact ih e τe m _ elems[i] he (hels i hi).2
           ·cases h1) hr ho
         rw[jJ] at b5
         have hflen:css.flatten.length=elems.length*P.cellsOf e:=by
          rw[b5.length,eR,iV];have hq:cs'.toList.length=cs'.size:=mW;by_cases h0:elems.length=0
          ·simp[h0]
          ·have:=(hels (elems.length - 1) (by omega)).1
           rw[show elems.length - 1+1=elems.length from by omega] at this;omega
         have hfit:a.off+css.flatten.length≤cs'.size:=by
          rw[hflen];by_cases h0:elems.length=0
          ·rw[h0];simpa using hoff
          ·have:=(hels (elems.length - 1) (by omega)).1
           rw[show elems.length - 1+1=elems.length from by omega] at this;omega
         obtain⟨c1,c2⟩:=b1.allocRo b2 (cs:=css.flatten) hheap hfit (by rw[hflen];exact b5);refine⟨_,_,[.slice H1.n 0 elems.length cap true],c1,c2,Mu.le_trans b3 (Mu.le_upd μ1 _ b1.fresh),b4.trans (.new b2 _),⟨_,_,rfl,⟨a,cap,rfl,⟨hlc,au _,hcap63,fun _=>rfl⟩,?_⟩,rfl⟩,?_⟩
         ·unfold SlR;rw[ay];refine⟨.inr ?_,fun h=>by cases h⟩
          cases a;simp at hspot;simp[hspot]
         ·rw[hpd]
          have:=Rd.slice (H:=H1.new (.cells true 0 0 css.flatten)) τe H1.n cap ((elems.map (·.1)).map i9) css (by rw[hlen];exact hlc) hcm (fun _=>by rw[al,if_pos rfl]) (by rw[hlen];exact b6.mono b2 (.new b2 _))
          rw[hlen] at this;exact this
    ·cases hτ
   ·rename_i fs hu;split at hτ
    ·rename_i hsum
     cases hf:zB P (mI P n) fs.toList 0 with
     | none=>rw[hf] at hτ;cases hτ
     | some ts=>
       rw[hf] at hτ;injection hτ with hτ;subst hτ;obtain⟨xs,m,rfl,rfl,hcl,hxl,hget⟩:=DataW.trod_struct hu hx;obtain⟨tl,tget⟩:=DA P _ _ _ _ hf;intro μ H hr ho
       obtain⟨μ1,H1,css,b1,b2,b3,b4,b5,b6⟩:=nf (P:=P) (g0:=g0) (w:=w) (μ:=μ) (H:=H) (ts:=ts)
        (cvs:=fs.toList.map fun f=>(cs.drop f.offset).take (P.cellsOf f.type)) (xs:=xs.map (·.1)) (by simp[tl,hxl]) (by simp[hxl]) (fun i τ c x h1 h2 h3=>by
         rw[uo] at h2 h3
         cases hfi:fs.toList[i]? with
         | none=>rw[hfi] at h2;cases h2
         | some f=>
           rw[hfi] at h2;injection h2 with h2;obtain⟨τ',q1,q2⟩:=tget i f hfi;rw[h1] at q1;injection q1 with q1;subst q1
           cases hxi:xs[i]? with
           | none=>rw[hxi] at h3;cases h3
           | some y=>
             rw[hxi] at h3;injection h3 with h3;subst h2 h3;exact ih f.type τ m _ y q2 (by rw[hget i f (by rw[←ur];exact hfi)];exact hxi)) hr ho
       rw[np P _ cs _ _ _ hf,xX,←hsum,←hcl,xQ] at b5;refine⟨μ1,H1,css.flatten,b1,b2,b3,b4,b5,?_⟩
       have hpd:i9 (DataW.agg (xs.map (·.1)))=.agg ((xs.map (·.1)).map i9):=by simp[i9,oT]
       rw[hpd];exact .struct ts css _ b6
    ·cases hτ
   ·rename_i k e hu;split at hτ
    ·rename_i hsum
     cases he:mI P n e with
     | none=>rw[he] at hτ;cases hτ
     | some τe=>
       rw[he] at hτ;injection hτ with hτ;subst hτ;obtain⟨xs,m,rfl,rfl,hcl,hxl,hget⟩:=DataW.trod_array hu hx;intro μ H hr ho
       obtain⟨μ1,H1,css,b1,b2,b3,b4,b5,b6⟩:=nf (P:=P) (g0:=g0) (w:=w) (μ:=μ) (H:=H) (ts:=List.replicate k τe)
        (cvs:=(List.range k).map fun i=>(cs.drop (i*P.cellsOf e)).take (P.cellsOf e)) (xs:=xs.map (·.1)) (by simp[hxl]) (by simp[hxl]) (fun i τ c x h1 h2 h3=>by
         rw[List.getElem?_replicate] at h1;rw[uo] at h2 h3;split at h1
         ·rename_i hi;injection h1 with h1;subst h1;rw[List.getElem?_range hi] at h2;injection h2 with h2
          cases hxi:xs[i]? with
          | none=>rw[hxi] at h3;cases h3
          | some y=>
            rw[hxi] at h3;injection h3 with h3;subst h2 h3;exact ih e τe m _ y he (by rw[hget i hi];exact hxi)
         ·cases h1) hr ho
       rw[jJ,←hsum,←hcl,xQ] at b5;refine⟨μ1,H1,css.flatten,b1,b2,b3,b4,b5,?_⟩
       have hpd:i9 (DataW.agg (xs.map (·.1)))=.agg ((xs.map (·.1)).map i9):=by simp[i9,oT]
       rw[hpd];exact .arr k τe css _ b6
    ·cases hτ
   ·cases hτ
end
open Classical
def afQ:Ty→List IV→IV
 | .struct _,l=>.agg l
 | .arr _ _,l=>.agg l
 | _,l=>l.headD IV.undef
def Qa:List Ty→List (List IV)→List IV
 | τ::τs,c::cs=>afQ τ c::Qa τs cs
 | _,_=>[]
section
variable {P:Program}{g0:Nat}{μ:Mu}{w:World}{H:Heap}{T:Type}{enc:TypeId×Value→T}
theorem iQ{r:Reach}{base:Nat}{t:TypeId}{v:Value}(h:Value.okWide P w r base t v)(hs:∀fs,P.underlying t≠some (.struct fs))(ha:∀n e,P.underlying t≠some (.array n e)):∀cs,v≠.agg cs:=by
 intro cs e;subst e;unfold Value.okWide at h;split at h
 ·rename_i fs hu;exact hs _ hu
 ·rename_i n e hu;exact ha _ _ hu
 ·unfold Cell.okWide at h;split at h<;>first | (rename_i heq;cases heq;done) | skip
  all_goals (first | (rename_i heq _;cases heq;done) | (rename_i _ heq;cases heq;done) | skip)
  unfold Cell.ok at h;split at h<;>first | exact h | (rename_i heq;cases heq;done) | (rename_i heq _;cases heq;done) | (rename_i _ heq;cases heq;done)
theorem Gs{n:Nat}{t:TypeId}{τ:Ty}(hτ:mI P n t=some τ){r:Reach}{base:Nat}{v:Value}(hv:Value.okWide P w r base t v){c:List IV}(hc:VRs μ c v.cells.toList):VR μ (afQ τ c) v:=by
 cases n with
 | zero=>cases hτ
 | succ n=>
   unfold mI at hτ
   have scal:(∀cs,v≠.agg cs)→VR μ (c.headD IV.undef) v:=by
    intro hne
    have:v.cells=#[v]:=by cases v<;>first | rfl | exact absurd rfl (hne _)
    rw[this] at hc
    match c,hc with
    | x::xs,⟨y,ys,e,hy,hys⟩=>
      simp at e
      obtain⟨rfl,rfl⟩:=e;exact hy
   split at hτ
   ·rename_i hu;injection hτ with hτ;subst hτ;exact scal (iQ hv (fun _ e=>by rw[hu] at e;cases e) (fun _ _ e=>by rw[hu] at e;cases e))
   ·rename_i hu;injection hτ with hτ;subst hτ;exact scal (iQ hv (fun _ e=>by rw[hu] at e;cases e) (fun _ _ e=>by rw[hu] at e;cases e))
   ·rename_i hu;injection hτ with hτ;subst hτ;exact scal (iQ hv (fun _ e=>by rw[hu] at e;cases e) (fun _ _ e=>by rw[hu] at e;cases e))
   ·rename_i e hu;split at hτ
    ·cases he:mI P n e with
     | none=>rw[he] at hτ;cases hτ
     | some τe=>
       rw[he] at hτ;injection hτ with hτ;subst hτ;exact scal (iQ hv (fun _ e=>by rw[hu] at e;cases e) (fun _ _ e=>by rw[hu] at e;cases e))
    ·cases hτ
   ·rename_i fs hu;split at hτ
    ·cases he:zB P (mI P n) fs.toList 0 with
     | none=>rw[he] at hτ;cases hτ
     | some ts=>
       rw[he] at hτ;injection hτ with hτ;subst hτ;unfold Value.okWide at hv;rw[hu] at hv;obtain⟨cs,rfl,_⟩:=hv;exact⟨cs,rfl,hc⟩
    ·cases hτ
   ·rename_i k e hu;split at hτ
    ·cases he:mI P n e with
     | none=>rw[he] at hτ;cases hτ
     | some τe=>
       rw[he] at hτ;injection hτ with hτ;subst hτ;unfold Value.okWide at hv;rw[hu] at hv;obtain⟨cs,rfl,_⟩:=hv;exact⟨cs,rfl,hc⟩
    ·cases hτ
   ·cases hτ
theorem AG{n base:Nat}{r:Reach}:∀(ts:List TypeId) (vs:List Value) (ds:List (DataW T)) (ps:List MemPlace) (τs:List Ty),ts.mapM (mI P n)=some τs→
  DataW.TrodAll enc P w 0 (fun _=>true) true ts vs ds ps→(∀(j:Nat) t v,ts[j]? =some t→vs[j]? =some v→Value.okWide P w r base t v)→∀(μ:Mu) (H:Heap),Rel P g0 μ H.get H.n w→Ro H→
  ∃(μ':Mu) (H':Heap) (css:List (List IV)),Rel P g0 μ' H'.get H'.n w∧Ro H'∧μ.le μ'∧Grow H H'∧VRs μ' (Qa τs css) vs∧Rds H' τs css (ds.map i9)
 | [],[],[],ps,τs,hτ,_,_,μ,H,hr,ho=>by
   simp at hτ
   subst hτ;exact⟨μ,H,[],hr,ho,μ.le_refl,.refl H,rfl,.nil⟩
 | t::ts,v::vs,d::ds,ps,τs,hτ,ht,hv,μ,H,hr,ho=>by
   obtain⟨p,q,⟨fuel,h1⟩,h2,_⟩:=ht;simp only[xO] at hτ
   cases hτ1:mI P n t with
   | none=>rw[hτ1] at hτ;cases hτ
   | some τ=>
     rw[hτ1] at hτ
     cases hτ2:ts.mapM (mI P n) with
     | none=>rw[hτ2] at hτ;cases hτ
     | some τs'=>
       rw[hτ2] at hτ;injection hτ with hτ;subst hτ;obtain⟨μ1,H1,c,a1,a2,a3,a4,a5,a6⟩:=zJ n t τ fuel _ _ hτ1 h1 μ H hr ho;obtain⟨μ2,H2,css,b1,b2,b3,b4,b5,b6⟩:=AG ts vs ds q τs' hτ2 h2 (fun j t v h1 h2=>hv (j+1) t v (by simpa using h1) (by simpa using h2)) μ1 H1 a1 a2;have hp:=Gs hτ1 (hv 0 t v rfl rfl) a5;exact⟨μ2,H2,c::css,b1,b2,Mu.le_trans a3 b3,a4.trans b4,⟨v,vs,rfl,VR.mono b3 _ _ hp,b5⟩,.cons (a6.mono a2 b4) b6⟩
 | [],_::_,_,_,_,_,h,_,_,_,_,_=>h.elim
 | [],[],_::_,_,_,_,h,_,_,_,_,_=>h.elim
 | _::_,[],_,_,_,_,h,_,_,_,_,_=>h.elim
 | _::_,_::_,[],_,_,_,h,_,_,_,_,_=>h.elim
theorem po{w':World}{Q:TypeId→Prop}{sp':Nat→Bool}(K:Kids P Q)(hsz:∀{t e:TypeId},Q t→P.underlying t=some (.slice e)→0 < P.cellsOf e):
  ∀(ts:List TypeId) (vs:List Value) (ds:List (DataW T)) (ps:List MemPlace),(∀t,t∈ts→Q t)→DataW.TrodAll enc P w 0 (fun _=>true) true ts vs ds ps→(∀p∈ps,w.sameAt w' p)→(∀p∈ps,sp' p.block=true)→DataW.TrodAll enc P w' 0 sp' true ts vs ds ps
 | [],[],[],ps,_,h,_,_=>h
 | t::ts,v::vs,d::ds,ps,hq,⟨p,q,⟨fuel,h1⟩,h2,e⟩,hs,hsp=>by
   refine⟨p,q,⟨fuel,?_⟩,po K hsz ts vs ds q (fun t ht=>hq t (by simp[ht])) h2 (fun x hx=>hs x (by rw[e];simp[hx])) (fun x hx=>hsp x (by rw[e];simp[hx])),e⟩
   exact DataW.trod_stays K hsz (fun h=>by cases h) (hq t (by simp)) h1 (fun x hx=>hs x (by rw[e];simp[hx])) (fun x hx=>hsp x (by rw[e];simp[hx]))
 | [],_::_,_,_,_,h,_,_=>h.elim
 | [],[],_::_,_,_,h,_,_=>h.elim
 | _::_,[],_,_,_,h,_,_=>h.elim
 | _::_,_::_,[],_,_,h,_,_=>h.elim
def emptyHeap:Heap:=⟨0,.leaf⟩
theorem Oa(b:Nat):emptyHeap.get b=none:=nW b
theorem Rg:Ro emptyHeap:=fun b o h=>by rw[Oa] at h;cases h
theorem N9:Rel P 0 (fun _=>.no) emptyHeap.get emptyHeap.n w:=
 ⟨fun b h=>absurd rfl h,fun b b' c p ez z p' ez' z' h=>(by cases h),fun b c p ez z h=>(by cases h),fun i hi=>(by omega),fun b h=>(by cases h)⟩
def BL(P:Program)(fn:Func):Bool:=
 laidOutB P&&mapsRowed P&&((List.range P.types.size).all fun t=>match P.underlying t with | some (.slice e)=>decide (0 < P.cellsOf e) | _=>true)&&fn.params.toList.all fun t=>decide (t < P.types.size)
end
def Tr.All{α:Type}(p:Nat→α→Prop):Tr α→(Nat→Nat)→Prop
 | .leaf,_=>True
 | .node v l r,i=>(∀x,v=some x→p (i 0) x)∧l.All p (fun j=>i (2*j+1))∧r.All p (fun j=>i (2*j+2))
theorem mz{α:Type}{p:Nat→α→Prop}:∀(t:Tr α) (i:Nat→Nat) (k:Nat) (x:α),t.All p i→t.get k=some x→p (i k) x
 | .leaf,i,k,x,_,h=>by rw[nW] at h;cases h
 | .node v l r,i,k,x,⟨h1,h2,h3⟩,h=>by
   cases k with
   | zero=>exact h1 x h
   | succ j=>
     unfold Tr.get at h;simp only at h;split at h
     ·rename_i hj
      have:=mz l _ (j / 2) x h2 h
      rwa [show 2*(j / 2)+1=j+1 from by omega] at this
     ·rename_i hj
      have:=mz r _ (j / 2) x h3 h
      rwa [show 2*(j / 2)+2=j+1 from by omega] at this
def arl:List IV→Nat→Heap→Option (IV×Heap):=fun args _ H=>
 match args with
 | []=>some (.bool true,H)
 | _=>none
open Classical
def cq(zs:List Int):List IV:=zs.map fun z=>.int .i64 z
def bx:List IV→List Int→Bool
 | [],[]=>true
 | .int .i64 a::l,b::m=>a==b&&bx l m
 | _,_=>false
theorem AQ:∀{l:List IV} {m:List Int},bx l m=true→l=cq m
 | [],[],_=>rfl
 | .int .i64 a::l,b::m,h=>by
   simp only[bx,bk,beq_iff_eq] at h;rw[h.1,AQ h.2];rfl
 | [],_::_,h=>by simp[bx] at h
 | x::l,[],h=>by unfold bx at h;split at h<;>simp_all
 | .bool _::_,_::_,h=>by simp[bx] at h
 | .str _::_,_::_,h=>by simp[bx] at h
 | .ptr _ _::_,_::_,h=>by simp[bx] at h
 | .nilPtr::_,_::_,h=>by simp[bx] at h
 | .slice _ _ _ _ _::_,_::_,h=>by simp[bx] at h
 | .nilSlice::_,_::_,h=>by simp[bx] at h
 | .map _::_,_::_,h=>by simp[bx] at h
 | .nilMap::_,_::_,h=>by simp[bx] at h
 | .fn _ _ _::_,_::_,h=>by simp[bx] at h
 | .yield _::_,_::_,h=>by simp[bx] at h
 | .nilFunc::_,_::_,h=>by simp[bx] at h
 | .iface _ _::_,_::_,h=>by simp[bx] at h
 | .nilIface::_,_::_,h=>by simp[bx] at h
 | .agg _::_,_::_,h=>by simp[bx] at h
 | .tuple _::_,_::_,h=>by simp[bx] at h
 | .int .i8 _::_,_::_,h=>by simp[bx] at h
 | .int .i16 _::_,_::_,h=>by simp[bx] at h
 | .int .i32 _::_,_::_,h=>by simp[bx] at h
 | .int .u8 _::_,_::_,h=>by simp[bx] at h
 | .int .u16 _::_,_::_,h=>by simp[bx] at h
 | .int .u32 _::_,_::_,h=>by simp[bx] at h
 | .int .u64 _::_,_::_,h=>by simp[bx] at h
theorem uF:∀(m:List Int),bx (cq m) m=true
 | []=>rfl
 | a::m=>by
   show(a==a&&bx (cq m) m)=true
   rw[uF m];simp
theorem yK{μ μ':Mu}:∀{zs:List Int} {vs:List Value},VRs μ (cq zs) vs→VRs μ' (cq zs) vs
 | [],_,h=>h
 | _::zs,_,⟨y,ys,e,h1,h2⟩=>⟨y,ys,e,h1,yK h2⟩
def pq(zs:List Int):IObj:=.cells true 0 0 (cq zs)
def Tabs(ts:List (List Int))(H:Heap):Prop:=ts.length≤H.n∧∀(i:Nat) (h:i < ts.length),H.get i=some (pq ts[i])
theorem Tabs.keep{ts:List (List Int)}{H H':Heap}(h:Tabs ts H)(hn:H.n≤H'.n)(hg:∀i,i < ts.length→H'.get i=H.get i):Tabs ts H':=⟨dr h.1 hn,fun i hi=>by rw[hg i hi];exact h.2 i hi⟩
def QV:List Int→Option IObj→Bool
 | zs,some (.cells true 0 0 l)=>bx l zs
 | _,_=>false
theorem QU{zs:List Int}{o:Option IObj}(h:QV zs o=true):o=some (pq zs):=by
 unfold QV at h;split at h
 ·rw[AQ h];rfl
 ·cases h
def pM:List (List Int)→Nat→Heap→Bool
 | [],_,_=>true
 | t::ts,i,H=>QV t (H.get i)&&pM ts (i+1) H
theorem xy:∀{ts:List (List Int)} {i:Nat} {H:Heap},pM ts i H=true→∀(j:Nat) (h:j < ts.length),H.get (i+j)=some (pq ts[j])
 | [],_,_,_,j,h=>by simp at h
 | t::ts,i,H,h,j,hj=>by
   simp only[pM,bk] at h
   cases j with
   | zero=>exact QU h.1
   | succ j=>
     have:=xy h.2 j (by simpa using hj)
     rw[show i+(j+1)=i+1+j from by omega];simpa using this
theorem zW:∀{ts:List (List Int)} {i:Nat} {H:Heap},(∀(j:Nat) (h:j < ts.length),H.get (i+j)=some (pq ts[j]))→pM ts i H=true
 | [],_,_,_=>rfl
 | t::ts,i,H,h=>by
   simp only[pM,bk];refine⟨?_,zW fun j hj=>?_⟩
   ·have:=h 0 (by simp)
    rw[uk] at this;rw[this];exact uF t
   ·have:=h (j+1) (by simpa using hj)
    rw[show i+1+j=i+(j+1) from by omega];simpa using this
theorem Tabs.ok{ts:List (List Int)}{H:Heap}(h:Tabs ts H):pM ts 0 H=true:=zW fun j hj=>by rw[bL];exact h.2 j hj
def lO(ts:List (List Int)):List IV→Nat→Heap→Option (IV×Heap):=fun args _ H=>
 match args with
 | []=>if pM ts 0 H then some (.bool true,H) else none
 | _=>none
def bT:List (List Int)→Heap→Heap
 | [],H=>H
 | t::ts,H=>bT ts (H.new (pq t))
section
variable {P:Program}{g0:Nat}{w:World}
def aeA(ts:List (List Int))(w:World):Prop:=∀(i:Nat) (h:i < ts.length),∃(cs:Array Value) (e:TypeId) (fz:Nat×Nat),w.heap[i]? =some (.cells cs e fz)∧(cq ts[i]).length≤cs.size∧VRs (fun _=>.no) (cq ts[i]) (cs.toList.take (cq ts[i]).length)
theorem DF:∀(ts:List (List Int)) (H:Heap) (μ:Mu),Rel P 0 μ H.get H.n w→Ro H→(∀b,b < H.n→μ b=.at b 0 0 0)→
  (∀(i:Nat) (h:i < ts.length),∃(cs:Array Value) (e:TypeId) (fz:Nat×Nat),w.heap[H.n+i]? =some (.cells cs e fz)∧(cq ts[i]).length≤cs.size∧VRs (fun _=>.no) (cq ts[i]) (cs.toList.take (cq ts[i]).length))→
  ∃μ',Rel P 0 μ' (bT ts H).get (bT ts H).n w∧Ro (bT ts H)∧Grow H (bT ts H)∧(∀b,b < (bT ts H).n→μ' b=.at b 0 0 0)∧(bT ts H).n=H.n+ts.length∧∀(i:Nat) (h:i < ts.length),(bT ts H).get (H.n+i)=some (pq ts[i])
 | [],H,μ,hr,ho,hm,_=>⟨μ,hr,ho,.refl H,hm,rfl,fun i h=>by simp at h⟩
 | t::ts,H,μ,hr,ho,hm,hw=>by
   obtain⟨cs,e,fz,h1,h2,h3⟩:=hw 0 (by simp);simp only[List.getElem_cons_zero,uk] at h1 h2 h3;have hle:∀(c:Nat),c=c:=fun _=>rfl;obtain⟨a1,a2⟩:=Rel.allocRo (c:=H.n) (p:=0) (cs:=cq t) hr ho h1 (by omega) (by rw[xX];exact yK h3);have hn:(H.new (pq t)).n=H.n+1:=ac _ _
   obtain⟨μ',b1,b2,b3,b4,b5,b6⟩:=DF ts (H.new (pq t)) _ a1 a2 (fun b hb=>by
    rw[hn] at hb;by_cases hb':b=H.n
    ·subst hb';rw[ay]
    ·rw[az _ _ hb'];exact hm b (by omega)) (fun i hi=>by
    have:=hw (i+1) (by simpa using hi)
    rw[hn,show H.n+1+i=H.n+(i+1) from by omega];simpa using this)
   refine⟨μ',b1,b2,Grow.trans ⟨by rw[hn];omega,fun b o hb hg=>by rw[al,if_neg (by omega)];exact hg⟩ b3,b4,by rw[show(bT (t::ts) H).n=(bT ts (H.new (pq t))).n from rfl,b5,hn];simp;omega,fun i hi=>?_⟩
   cases i with
   | zero=>exact b3.2 H.n _ (by rw[hn];omega) (by rw[al,if_pos rfl];rfl)
   | succ i=>
     have:=b6 i (by simpa using hi)
     rw[hn,show H.n+1+i=H.n+(i+1) from by omega] at this;exact this
theorem zX{ts:List (List Int)}(h:aeA ts w):∃μ,Rel P ts.length μ (bT ts emptyHeap).get (bT ts emptyHeap).n w∧Ro (bT ts emptyHeap)∧Tabs ts (bT ts emptyHeap)∧(bT ts emptyHeap).n=ts.length:=by
 obtain⟨μ,a1,a2,a3,a4,a5,a6⟩:=DF (P:=P) ts emptyHeap _ N9 Rg (fun b hb=>by have:emptyHeap.n=0:=rfl;omega) (fun i hi=>by
  have:=h i hi
  rw[show emptyHeap.n=0 from rfl,bL];exact this)
 have e0:emptyHeap.n=0:=rfl;rw[e0,bL] at a5;refine⟨μ,⟨a1.lt,a1.inj,a1.obj,fun i hi=>a4 i (by omega),a1.ded⟩,a2,⟨by omega,fun i hi=>?_⟩,a5⟩
 have:=a6 i hi
 rwa [e0,bL] at this
theorem Rel.tabW{ts:List (List Int)}{μ:Mu}{H:Heap}(hr:Rel P ts.length μ H.get H.n w)(ht:∀(i:Nat) (h:i < ts.length),H.get i=some (pq ts[i])):aeA ts w:=by
 intro i hi;obtain⟨o,h1,h2⟩:=hr.obj i i 0 0 0 (hr.glob i hi);rw[ht i hi] at h1;injection h1 with h1;subst h1;obtain⟨_,cs,e,fz,h3,h4,h5⟩:=h2;refine⟨cs,e,fz,h3,by omega,?_⟩;rw[xX] at h5;exact yK h5
theorem G7{E:Env}{ts:List (List Int)}(hE:EnvOk P E)(hg:E.g0=ts.length){f:FuncId}{n:Nat}{H0:Heap}(h:run E n (.call f []) ts.length (bT ts emptyHeap)=some (.val (.bool true),H0)):
  ∀args lo H v H',lO ts args lo H=some (v,H')→CallSim P ts.length f args lo H v H':=by
 intro args lo H v H' hs
 cases args with
 | cons a l=>cases hs
 | nil=>
   simp only[lO] at hs;split at hs
   case isFalse=>cases hs
   rename_i hok;have hget:=xy hok;injection hs with hs;injection hs with h1 h2;subst h1 h2;have hsim:=oP hE h;rw[hg] at hsim;intro μ w args' hr ha;obtain⟨μ0,hrel0,hro0,_,hn0⟩:=zX (P:=P) (hr.tabW fun i hi=>by have:=hget i hi;rwa [bL] at this);refine(hsim μ0 w args' hrel0 ha).mono fun e w' ⟨v',μ',he,hrel,hpost,hv⟩=>⟨v',μ,he,?_,?_,hv⟩
   ·have hframe:∀c,c < w.heap.size→w'.heap[c]? =w.heap[c]?:=fun c hc=>hpost.frame c hc (fun b p ez z h1 h2 h3=>by omega);exact⟨hr.lt,hr.inj,fun b c p ez z hb=>by rw[hframe c (hr.clt hb)];exact hr.obj b c p ez z hb,hr.glob,hr.ded⟩
   ·have hframe:∀c,c < w.heap.size→w'.heap[c]? =w.heap[c]?:=fun c hc=>hpost.frame c hc (fun b p ez z h1 h2 h3=>by omega);exact⟨μ.le_refl,au _,fun _ _ h=>h,fun _ _ _=>⟨rfl,rfl⟩,fun _ _ h=>h,fun b c p ez z hb e=>absurd (hr.lt b (by rw[e];exact fun x=>by cases x)) (by omega),fun b h1 h2=>by omega,hpost.size,fun c hc _=>hframe c hc,hpost.os,hpost.tape,hpost.output,hpost.drawn⟩
end
section
variable {P:Program}{T:Type}{enc:TypeId×Value→T}
theorem zK{E:Env}{ts:List (List Int)}(hE:EnvOk P E)(hg:E.g0=ts.length){f:FuncId}{fn:Func}{n:Nat}{τs:List Ty}(hτ:fn.params.toList.mapM (mI P n)=some τs){tb:TypeId}(hres:fn.resultTypes=#[tb])(hb:P.underlying tb=some .bool)
  (hty:BL P fn=true) {s:ChangeSpec} (hvs:s.vars=[]) (hfn:∀(T:Type) (ds:List (DataW T)),ds.length=τs.length→s.fn T ds={results:=[.lit (.bool true)],args:=ds})
  (C:List PD→Prop)
  (hrun:∀(H:Heap) (css:List (List IV)) (ds:List PD),Ro H→Tabs ts H→Rds H τs css ds→C ds→∃n H',run E n (.call f (Qa τs css)) H.n H=some (.val (.bool true),H'))
  {apart fresh handsOn:Bool} (W:World) (base:Nat) (args:Array Value) (ds gs:List (DataW T)) (before:List MemPlace)
  (hval:∀(j:Nat) t v,fn.params[j]? =some t→args[j]? =some v→Value.okWide P W .any base t v)
  (hW:DataW.Whole enc P fn.params.toList s.vars apart W args.toList ds gs before) (hT:aeA ts W) (hC:C (ds.map i9)):
  Calls P f args W fun e W'=>∃v,e=.returned v∧s.post enc P fn apart fresh handsOn false W args v W':=by
 have hW0:=hW;obtain⟨p,q,hA,hV,hpq,hfz,hnd⟩:=hW;rw[hvs] at hV
 have hgs:gs=[]∧q=[]:=by
  cases gs with
  | nil=>exact⟨rfl,hV⟩
  | cons g gs=>exact hV.elim
 obtain⟨rfl,rfl⟩:=hgs;simp only[ip] at hpq;subst hpq;obtain⟨μ0,hrel0,hro0,htab0,hn0⟩:=zX (P:=P) hT;obtain⟨μ,H,css,a1,a2,_,hgrow,a5,a6⟩:=AG (g0:=ts.length) (n:=n) (base:=base) (r:=.any) _ _ _ _ _ hτ hA (fun j t v h1 h2=>hval j t v (by simpa using h1) (by simpa using h2)) μ0 (bT ts emptyHeap) hrel0 hro0;obtain⟨m,H',hr⟩:=hrun H css _ a2 ⟨by have:=hgrow.1;omega,fun i hi=>hgrow.2 i _ (by omega) (htab0.2 i hi)⟩ a6 hC;have hsim:=oP hE hr;rw[hg] at hsim;refine(hsim μ W args a1 (by simpa using a5)).mono fun e W' ⟨v',μ',he,hrel,hpost,hv⟩=>⟨v',he,?_⟩;have hv:v'=.bool true:=hv;subst hv;simp only[BL,bk,um,decide_eq_true_eq] at hty;obtain⟨⟨⟨hl,hm⟩,hz⟩,hps⟩:=hty;have hframe:∀c,c < W.heap.size→W'.heap[c]? =W.heap[c]?:=fun c hc=>hpost.frame c hc (fun b p ez z h1 h2=>by omega);have hlen:=(trodAll_length hA).2;have hτl:τs.length=fn.params.toList.length:=(nc hτ).1;have hf0:s.fn T (ds++[])={results:=[.lit (.bool true)],args:=ds}:=by rw[ip];exact hfn T ds (by rw[hlen,hτl])
 have hlt:=DataW.TrodAll.lt hA
 have hz':∀{t e:TypeId},t < P.types.size→P.underlying t=some (.slice e)→0 < P.cellsOf e:=by
  intro t e ht hu
  have:=hz t (List.mem_range.2 ht)
  rw[hu] at this;simpa using this
 refine⟨ds,[],before,[],before,[],hW0,?_,?_,?_,?_,fun h=>by cases h⟩
 ·rw[hf0,hres];refine⟨[],[],⟨1,?_⟩,rfl,rfl⟩;simp[DataW.trod,Value.cells,hb]
 ·rw[hf0];refine po (kids_rows hl hm) hz' _ _ _ _ hps hA (fun x hx=>?_) (fun x hx=>by simpa using hlt x hx)
  have:=hlt x hx
  cases x with
  | cell b off=>simp only[World.sameAt,World.cell?];rw[hframe b this]
  | map b=>exact hframe b this
 ·rw[hvs,hf0];rfl
 ·refine World.keptBut_mono (fun p hp=>hp.elim) (World.keptBut_none_iff.2 ⟨hpost.os,hpost.output,fun i hi=>hframe i hi⟩)
end
def HU(k:IntKind)(n:Int):Int:=
 match k with
 | .i64=>match n with
   | .ofNat m=>match Nat.blt m 9223372036854775808 with | true=>n | false=>IntKind.wrap k n
   | .negSucc m=>match Nat.blt m 9223372036854775808 with | true=>n | false=>IntKind.wrap k n
 | _=>IntKind.wrap k n
theorem OM(k:IntKind)(n:Int):HU k n=k.wrap n:=by
 cases k<;>try rfl
 unfold HU
 cases n with
 | ofNat m=>
   simp only
   split
   ·rename_i h
    have h:m < 9223372036854775808:=by
     have:=Gi h
     omega
    exact(IntWalk.i64_in (Int.ofNat m) (by simp only[Int.ofNat_eq_natCast];omega)).symm
   ·rfl
 | negSucc m=>
   simp only
   split
   ·rename_i h
    have h:m < 9223372036854775808:=by
     have:=Gi h
     omega
    exact(IntWalk.i64_in (Int.negSucc m) (by simp only[Int.negSucc_eq];omega)).symm
   ·rfl
theorem RD(m n:Nat):Nat.blt m n=decide (m < n):=by
 rw[Bool.eq_iff_iff,decide_eq_true_eq];exact⟨fun h=>Gi h,fun h=>Nat.ble_eq_true_of_le h⟩
def ltK(a b:Int):Bool:=
 match a with
 | .ofNat m=>match b with | .ofNat n=>Nat.blt m n | .negSucc _=>false
 | .negSucc m=>match b with | .ofNat _=>true | .negSucc n=>Nat.blt n m
theorem Qv(a b:Int):ltK a b=decide (a < b):=by
 unfold ltK
 cases a<;>cases b<;>simp only[RD,Int.ofNat_eq_natCast,Int.negSucc_eq]<;>first | (rw[decide_eq_decide];omega) | (rw[eq_comm,decide_eq_true_eq];omega) | (rw[eq_comm,decide_eq_false_iff_not];omega)
def leK(a b:Int):Bool:=!(ltK b a)
theorem anf(a b:Int):leK a b=decide (a≤b):=by
 unfold leK;rw[Qv];by_cases h:b < a
 ·have:¬a≤b:=by omega
  simp[h,this]
 ·have:a≤b:=by omega
  simp[h,this]
def aeg(a b:Int):Bool:=
 match a with
 | .ofNat m=>match b with | .ofNat n=>Nat.beq m n | .negSucc _=>false
 | .negSucc m=>match b with | .ofNat _=>false | .negSucc n=>Nat.beq m n
theorem aef(a b:Int):aeg a b=(a==b):=by
 rw[Bool.eq_iff_iff];unfold aeg
 cases a<;>cases b<;>simp<;>omega
def ikK:IntKind→IntKind→Bool
 | .i64,.i64=>true
 | .u8,.u8=>true
 | a,b=>decide (a=b)
theorem anm(a b:IntKind):ikK a b=decide (a=b):=by cases a<;>cases b<;>rfl
def apX(op:BinOp)(k:IntKind)(a:Int)(b:Int):Option IV:=
 match op with
 | .add=>some (.int k (HU k (a+b)))
 | .sub=>some (.int k (HU k (a - b)))
 | .eql=>some (.bool (aeg a b))
 | .neq=>some (.bool !(aeg a b))
 | .lss=>some (.bool (ltK a b))
 | .leq=>some (.bool (leK a b))
 | .gtr=>some (.bool (ltK b a))
 | .geq=>some (.bool (leK b a))
 | _=>nT op (.int k a) (.int k b)
def afZ(op:BinOp)(k:IntKind)(a:Int)(k':IntKind)(b:Int):Option IV:=
 match ikK k k' with
 | true=>apX op k a b
 | false=>nT op (.int k a) (.int k' b)
def anU(op:BinOp)(x y:IV):Option IV:=
 match x with
 | .int k a=>match y with
   | .int k' b=>afZ op k a k' b
   | _=>nT op x y
 | _=>nT op x y
theorem aev(op:BinOp)(x y:IV):anU op x y=nT op x y:=by
 unfold anU
 cases x<;>try rfl
 cases y<;>try rfl
 rename_i k a k' b;simp only[afZ];split
 ·rename_i h;rw[anm] at h;have h:k=k':=by simpa using h
  subst h
  cases op<;>simp[apX,nT,OM,Qv,anf,aef,bne]
 ·rfl
def yX(xs:List IV)(lo:Nat)(H:Heap):Option (IV×Heap):=
 match xs with
  | [x]=>some (x,H)
  | _=>none
def yW(xs:List IV)(lo:Nat)(H:Heap):Option (IV×Heap):=
 match xs with
  | [.bool c,a,b]=>some (if c then a else b,H)
  | _=>none
def CL(e:Nat)(ez:Nat)(zs:List IV)(xs:List IV)(lo:Nat)(H:Heap):Option (IV×Heap):=
 match xs with
  | []=>some (.ptr H.n 0,H.new (.cells false e ez zs))
  | _=>none
def Rk(e:Nat)(ez:Nat)(xs:List IV)(lo:Nat)(H:Heap):Option (IV×Heap):=
 match xs with
  | [x]=>some (.ptr H.n 0,H.new (.cells false e ez x.cells))
  | _=>none
def sq(zs:List IV)(offs:List (Nat×Nat))(xs:List IV)(lo:Nat)(H:Heap):Option (IV×Heap):=
 match xs with
  | xs=>(bO offs xs zs).map fun cs=>(.agg cs,H)
def tR(e:Nat)(ez:Nat)(n:Nat)(zs:List IV)(offs:List (Nat×Nat))(xs:List IV)(lo:Nat)(H:Heap):Option (IV×Heap):=
 match xs with
  | xs=>(bO offs xs zs).map fun cs=>(.slice H.n 0 n n true,H.new (.cells false e ez cs))
def yZ(n:Option Nat)(xs:List IV)(lo:Nat)(H:Heap):Option (IV×Heap):=
 match xs with
  | [.ptr b o]=>(H.read b o (n.getD 1)).bind fun cs=>(aq n cs).map fun v=>(v,H)
  | _=>none
def CG(n:Nat)(xs:List IV)(lo:Nat)(H:Heap):Option (IV×Heap):=
 match xs with
  | [.ptr b o,x]=>if x.cells.length=n then(H.write lo b o x.cells).map fun H'=>(IV.undef,H') else none
  | _=>none
def jL(xs:List IV)(lo:Nat)(H:Heap):Option (IV×Heap):=
 match xs with
  | [x]=>match x with | .nilPtr | .nilIface | .nilFunc | .yield _=>none | x=>some (x,H)
  | _=>none
def AR(op:BinOp)(xs:List IV)(lo:Nat)(H:Heap):Option (IV×Heap):=
 match xs with
  | [x,y]=>(anU op x y).map (·,H)
  | _=>none
def nL(neg:Bool)(xs:List IV)(lo:Nat)(H:Heap):Option (IV×Heap):=
 match xs with
  | [.bool a,.bool b]=>some (.bool (neg !=(a==b)),H)
  | _=>none
def nJ(neg:Bool)(ds:List Pk)(xs:List IV)(lo:Nat)(H:Heap):Option (IV×Heap):=
 match xs with
  | [.agg x,.agg y]=>(iF ds x y).map fun r=>(.bool (neg !=r),H)
  | _=>none
def sm(neg:Bool)(nk:Nk)(xs:List IV)(lo:Nat)(H:Heap):Option (IV×Heap):=
 match xs with
  | [x,y]=>
    match jn nk x,jn nk y with
    | some true,some r=>some (.bool (neg !=r),H)
    | some r,some true=>some (.bool (neg !=r),H)
    | _,_=>none
  | _=>none
def Ri(op:UnOp)(xs:List IV)(lo:Nat)(H:Heap):Option (IV×Heap):=
 match xs with
  | [x]=>(unI op x).map (·,H)
  | _=>none
def za(k:IntKind)(xs:List IV)(lo:Nat)(H:Heap):Option (IV×Heap):=
 match xs with
  | [.int _ n]=>some (.int k (k.wrap n),H)
  | _=>none
def si(t:TypeId)(xs:List IV)(lo:Nat)(H:Heap):Option (IV×Heap):=
 match xs with
  | [x]=>some (.iface t x,H)
  | _=>none
def tQ(f:FuncId)(k:Nat)(xs:List IV)(lo:Nat)(H:Heap):Option (IV×Heap):=
 match xs with
  | xs=>some (.fn f (xs.take k) (xs.drop k),H)
def yV(xs:List IV)(lo:Nat)(H:Heap):Option (IV×Heap):=
 match xs with
  | [.nilMap]=>some (.ptr H.n 0,H.new (.iter none 0 [] 0))
  | [.map b]=>(aF H b).map fun p=>(.ptr H.n 0,H.new (.iter (some b) p.2 [] p.2))
  | _=>none
def nM(xs:List IV)(lo:Nat)(H:Heap):Option (IV×Heap):=
 match xs with
  | [.ptr r 0]=>(yT H r).map (·,H)
  | _=>none
def CH(xs:List IV)(lo:Nat)(H:Heap):Option (IV×Heap):=
 match xs with
  | [.ptr r 0]=>if lo≤r then(stepM H r).map fun p=>(p.1,match p.2 with | none=>H | some o=>H.put r o) else none
  | _=>none
def CI(xs:List IV)(lo:Nat)(H:Heap):Option (IV×Heap):=
 match xs with
  | []=>some (.map H.n,H.new (.map [] 0))
  | [.int _ _]=>some (.map H.n,H.new (.map [] 0))
  | _=>none
def GW(e:Nat)(ez:Nat)(bytes:Nat)(zs:List IV)(xs:List IV)(lo:Nat)(H:Heap):Option (IV×Heap):=
 match xs with
  | [.int _ l,.int _ c]=>
    if 0≤l∧l≤c∧c*(bytes+1)≤2^40 then
     some (.slice H.n 0 l.toNat c.toNat true,H.new (.cells false e ez (iP c.toNat zs)))
    else none
  | _=>none
def EQ(size:Nat)(lo:Bool)(hi:Bool)(mx:Bool)(xs:List IV)(lo0:Nat)(H:Heap):Option (IV×Heap):=
 match xs with
  | s::l=>
    match s with
    | .nilSlice=>(aP 0 0 lo hi mx l).bind fun(a,b,_)=>if a=0∧b=0 then some (.nilSlice,H) else none
    | .slice b o len lb ex=>
      if ex||zM H b size then
       (aP len lb lo hi mx l).map fun(a,h,m)=>
        match m with
        | some m=>(.slice b (o+a*size) (h - a) (m - a) true,H)
        | none=>(.slice b (o+a*size) (h - a) (lb - a) ex,H)
      else none
    | _=>none
  | _=>none
def nz(lo:Bool)(hi:Bool)(xs:List IV)(lo0:Nat)(H:Heap):Option (IV×Heap):=
 match xs with
  | .str s::l=>
    (aP s.length s.length lo hi false l).map fun(a,h,_)=>(.str ((s.drop a).take (h - a)),H)
  | _=>none
def nC(_:Nat)(n:Nat)(size:Nat)(lo:Bool)(hi:Bool)(mx:Bool)(xs:List IV)(lo0:Nat)(H:Heap):Option (IV×Heap):=
 match xs with
  | .ptr b o::l=>
    (aP n n lo hi mx l).bind fun(a,h,m)=>if 0 < n∧n≤2^40 then
     some (.slice b (o+a*size) (h - a) (m.getD n - a) true,H) else none
  | _=>none
def i4(off:Nat)(xs:List IV)(lo:Nat)(H:Heap):Option (IV×Heap):=
 match xs with
  | [.ptr b o]=>some (.ptr b (o+off),H)
  | _=>none
def sk(off:Nat)(n:Option Nat)(xs:List IV)(lo:Nat)(H:Heap):Option (IV×Heap):=
 match xs with
  | [.agg cs]=>if off+n.getD 1≤cs.length then(aq n ((cs.drop off).take (n.getD 1))).map fun v=>(v,H) else none
  | _=>none
def sj(size:Nat)(xs:List IV)(lo:Nat)(H:Heap):Option (IV×Heap):=
 match xs with
  | [.slice b o len _ _,.int _ i]=>if 0≤i∧i < (len:Int) then some (.ptr b (o+i.toNat*size),H) else none
  | _=>none
def hX(len:Nat)(size:Nat)(xs:List IV)(lo:Nat)(H:Heap):Option (IV×Heap):=
 match xs with
  | [.ptr b o,.int _ i]=>if 0≤i∧i < (len:Int) then some (.ptr b (o+i.toNat*size),H) else none
  | _=>none
def nI(len:Nat)(size:Nat)(n:Option Nat)(xs:List IV)(lo:Nat)(H:Heap):Option (IV×Heap):=
 match xs with
  | [.agg cs,.int _ i]=>
    if 0≤i∧i < (len:Int)∧i.toNat*size+n.getD 1≤cs.length then(aq n ((cs.drop (i.toNat*size)).take (n.getD 1))).map fun v=>(v,H) else none
  | _=>none
def nH(xs:List IV)(lo:Nat)(H:Heap):Option (IV×Heap):=
 match xs with
  | [.str s,.int _ i]=>if 0≤i then(s[i.toNat]?).map fun c=>(.int .u8 c.toNat,H) else none
  | _=>none
def nD(_:TypeId)(ky:Bool×List Pk)(zero:IV)(ok:Bool)(xs:List IV)(lo:Nat)(H:Heap):Option (IV×Heap):=
 match xs with
  | [m,k]=>
    match (match m with | .nilMap=>some [] | .map b=>(aF H b).map (·.1) | _=>none) with
    | none=>none
    | some es=>
      if cp ky k then
       match aK ky k es 0 with
       | none=>none
       | some r=>
         let (v,there):IV×Bool:=match r with | some (_,v)=>(v,true) | none=>(zero,false)
         some (if ok then .tuple [v,.bool there] else v,H)
      else none
  | _=>none
def yY(ky:Bool×List Pk)(xs:List IV)(lo:Nat)(H:Heap):Option (IV×Heap):=
 match xs with
  | [.map b,k,v]=>
    match aF H b with
    | none=>none
    | some (es,clock)=>
      if lo≤b∧cp ky k then
       match aK ky k es 0 with
       | none=>none
       | some (some (i,_))=>some (IV.undef,H.put b (.map (dz k v es i) clock))
       | some none=>some (IV.undef,H.put b (.map (es++[(k,v,clock)]) (clock+1)))
      else none
  | _=>none
def p9(_:TypeId)(ky:Bool×List Pk)(zero:IV)(xs:List IV)(lo:Nat)(H:Heap):Option (IV×Heap):=
 match xs with
  | [.map b,k]=>
    match aF H b with
    | none=>none
    | some (es,clock)=>
      if lo≤b∧cp ky k then
       match aK ky k es 0 with
       | none=>none
       | some (some (i,v))=>(es[i]?).map fun e=>(.tuple [v,.int .i64 e.2.2],H.put b (.map (dz k v es i) clock))
       | some none=>some (.tuple [zero,.int .i64 clock],H.put b (.map (es++[(k,zero,clock)]) (clock+1)))
      else none
  | _=>none
def mh(xs:List IV)(lo:Nat)(H:Heap):Option (IV×Heap):=
 match xs with
  | [.map b,.int _ s,v]=>
    match aF H b with
    | none=>none
    | some (es,clock)=>if lo≤b then(gM v s es).map fun es'=>(IV.undef,H.put b (.map es' clock)) else none
  | _=>none
def y5(ky:Bool×List Pk)(xs:List IV)(lo:Nat)(H:Heap):Option (IV×Heap):=
 match xs with
  | [.map b,k]=>
    match aF H b with
    | none=>none
    | some (es,clock)=>
      if lo≤b∧cp ky k then
       match aK ky k es 0 with
       | none=>none
       | some (some (i,_))=>some (IV.undef,H.put b (.map (eM es i) clock))
       | some none=>some (IV.undef,H)
      else none
  | _=>none
def sh(xs:List IV)(lo:Nat)(H:Heap):Option (IV×Heap):=
 match xs with
  | [x]=>match x with | .nilSlice=>some (.int .i64 0,H) | .slice _ _ n _ _=>some (.int .i64 n,H) | _=>none
  | _=>none
def nE(xs:List IV)(lo:Nat)(H:Heap):Option (IV×Heap):=
 match xs with
  | [.str s]=>some (.int .i64 s.length,H)
  | _=>none
def nG(n:Nat)(xs:List IV)(lo:Nat)(H:Heap):Option (IV×Heap):=
 match xs with
  | [_]=>some (.int .i64 n,H)
  | _=>none
def nF(xs:List IV)(lo:Nat)(H:Heap):Option (IV×Heap):=
 match xs with
  | [m]=>match m with | .nilMap=>some (.int .i64 0,H) | .map b=>(aF H b).map fun(es,_)=>(.int .i64 es.length,H) | _=>none
  | _=>none
def ET(xs:List IV)(lo:Nat)(H:Heap):Option (IV×Heap):=
 match xs with
  | [x]=>match x with | .nilSlice=>some (.int .i64 0,H) | .slice _ _ _ c true=>some (.int .i64 c,H) | _=>none
  | _=>none
def zb(e:Nat)(size:Nat)(bytes:Nat)(xs:List IV)(lo:Nat)(H:Heap):Option (IV×Heap):=
 match xs with
  | [s,x]=>(jb x).bind fun n=>(eZ H size n x).bind fun xs=>bV e size bytes s xs n lo H
  | _=>none
def GX(size:Nat)(xs:List IV)(lo:Nat)(H:Heap):Option (IV×Heap):=
 match xs with
  | [d,s]=>
    match jM d,jb s with
    | some n,some m=>
      let k:=Min.min m n
      if k=0 then some (.int .i64 0,H)
      else(eZ H size k s).bind fun xs=>
       match d with
       | .slice b o _ _ _=>(H.write lo b o xs).map fun H'=>(.int .i64 k,H')
       | _=>none
    | _,_=>none
  | _=>none
def ER(xs:List IV)(lo:Nat)(H:Heap):Option (IV×Heap):=
 match xs with
  | [.int k a,.int k' b]=>if k=k' then some (.int k (if b < a then b else a),H) else none
  | _=>none
def ES(xs:List IV)(lo:Nat)(H:Heap):Option (IV×Heap):=
 match xs with
  | [.int k a,.int k' b]=>if k=k' then some (.int k (if b>a then b else a),H) else none
  | _=>none
def CK(zs:List IV)(xs:List IV)(lo:Nat)(H:Heap):Option (IV×Heap):=
 match xs with
  | [x]=>
    match x with
    | .nilSlice=>some (.tuple [],H)
    | .slice b o n _ _=>if n=0 then some (.tuple [],H) else(H.write lo b o (iP n zs)).map fun H'=>(.tuple [],H')
    | _=>none
  | _=>none
def tS(e:Nat)(size:Nat)(bytes:Nat)(zs:List IV)(xs:List IV)(lo:Nat)(H:Heap):Option (IV×Heap):=
 match xs with
  | [s,.int _ n]=>
    if 0≤n∧n*(bytes+1)≤2^40 then bV e size bytes s (iP n.toNat zs) n.toNat lo H else none
  | _=>none
def sg(xs:List IV)(lo:Nat)(H:Heap):Option (IV×Heap):=
 match xs with
  | [x]=>
    match x with
    | .nilSlice=>some (.str [],H)
    | .slice b o n _ _=>if n=0 then some (.str [],H) else(H.read b o n).bind fun cs=>(nR cs).map fun s=>(.str s,H)
    | _=>none
  | _=>none
def lB(i:Nat)(xs:List IV)(lo:Nat)(H:Heap):Option (IV×Heap):=
 match xs with
  | [.tuple l]=>(l[i]?).map (·,H)
  | _=>none
def Rj(xs:List IV)(lo:Nat)(H:Heap):Option (IV×Heap):=
 none
def anG(kd:Kd)(xs:List IV)(lo:Nat)(H:Heap):Option (IV×Heap):=
 match kd with
 | .move=>yX xs lo H
 | .pick=>yW xs lo H
 | .alloc a0 a1 a2=>CL a0 a1 a2 xs lo H
 | .box a0 a1=>Rk a0 a1 xs lo H
 | .build a0 a1=>sq a0 a1 xs lo H
 | .buildSl a0 a1 a2 a3 a4=>tR a0 a1 a2 a3 a4 xs lo H
 | .load a0=>yZ a0 xs lo H
 | .store a0=>CG a0 xs lo H
 | .nilCheck=>jL xs lo H
 | .bin a0=>AR a0 xs lo H
 | .eqBool a0=>nL a0 xs lo H
 | .eqFlat a0 a1=>nJ a0 a1 xs lo H
 | .eqNil a0 a1=>sm a0 a1 xs lo H
 | .un a0=>Ri a0 xs lo H
 | .conv a0=>za a0 xs lo H
 | .iface a0=>si a0 xs lo H
 | .mkfn a0 a1=>tQ a0 a1 xs lo H
 | .mkmap=>CI xs lo H
 | .mksl a0 a1 a2 a3=>GW a0 a1 a2 a3 xs lo H
 | .slc a0 a1 a2 a3=>EQ a0 a1 a2 a3 xs lo H
 | .slcStr a0 a1=>nz a0 a1 xs lo H
 | .slcArr a0 a1 a2 a3 a4 a5=>nC a0 a1 a2 a3 a4 a5 xs lo H
 | .fieldAddr a0=>i4 a0 xs lo H
 | .field a0 a1=>sk a0 a1 xs lo H
 | .idxSl a0=>sj a0 xs lo H
 | .idxArrAddr a0 a1=>hX a0 a1 xs lo H
 | .idxArr a0 a1 a2=>nI a0 a1 a2 xs lo H
 | .idxStr=>nH xs lo H
 | .lookup a0 a1 a2 a3=>nD a0 a1 a2 a3 xs lo H
 | .mapUpd a0=>yY a0 xs lo H
 | .mapEntry a0 a1 a2=>p9 a0 a1 a2 xs lo H
 | .entryStore=>mh xs lo H
 | .delete a0=>y5 a0 xs lo H
 | .lenSl=>sh xs lo H
 | .lenStr=>nE xs lo H
 | .lenArr a0=>nG a0 xs lo H
 | .lenMap=>nF xs lo H
 | .cap=>ET xs lo H
 | .append a0 a1 a2=>zb a0 a1 a2 xs lo H
 | .copy a0=>GX a0 xs lo H
 | .min=>ER xs lo H
 | .max=>ES xs lo H
 | .clear a0=>CK a0 xs lo H
 | .appendZ a0 a1 a2 a3=>tS a0 a1 a2 a3 xs lo H
 | .strOf=>sg xs lo H
 | .rangeM=>yV xs lo H
 | .nextM=>CH xs lo H
 | .entryM=>nM xs lo H
 | .extract a0=>lB a0 xs lo H
 | .call=>Rj xs lo H
theorem se(kd:Kd)(xs:List IV)(lo:Nat)(H:Heap):anG kd xs lo H=ev1 kd xs lo H:=by
 cases kd<;>first | rfl | (simp only[anG,AR,ev1,aev];rfl)
abbrev Fq:=Task→Nat→Heap→Option (Out×Heap)
def Kd.isCall:Kd→Bool
 | .call=>true
 | _=>false
def mZ(k:Fr→Heap→Option (Out×Heap))(r:Option (Out×Heap)):Option (Out×Heap):=
 match r with
 | none=>none
 | some p=>match p.1 with
   | .val _=>r
   | .ex e fr=>match e with
     | .normal=>k fr p.2
     | .jmp _=>r
def yk(k:IV→Heap→Option (Out×Heap))(r:Option (Out×Heap)):Option (Out×Heap):=
 match r with
 | none=>none
 | some p=>match p.1 with
   | .val v=>k v p.2
   | .ex _ _=>none
def apz(k:IV→Heap→Option (Out×Heap))(r:Option (IV×Heap)):Option (Out×Heap):=
 match r with
 | none=>none
 | some p=>k p.1 p.2
def tU(id:Nat)(r:Option (Out×Heap)):Option (Out×Heap):=
 match r with
 | none=>none
 | some p=>match p.1 with
   | .val _=>r
   | .ex e fr=>match e with
     | .normal=>r
     | .jmp j=>match j with
       | .ret=>r
       | .exit id'=>some (.ex (if id'=id then .normal else .jmp (.exit id')) fr,p.2)
def Rs(rec:Fq)(a b:IC)(rd:Option Nat)(fr:Fr)(lo:Nat)(H:Heap)(c:Option IV):Option (Out×Heap):=
 match c with
 | none=>none
 | some v=>match v with
   | .bool x=>match x with
     | true=>rec (.code a rd fr) lo H
     | false=>rec (.code b rd fr) lo H
   | _=>none
def BU(l:Nat)(lo:Nat)(marks:List Nat)(fr:Fr)(_:IV)(H2:Heap):Option (Out×Heap):=
 match H2.get l with
 | some (.loop st pend tm ps asg body df)=>
   if st=.busy∨l < lo then none
   else
    match pend with
    | none=>some (.ex .normal {fr with marks:=marks++fr.marks},H2.put l (.loop .exhausted pend tm ps asg body df))
    | some j=>some (.ex (.jmp j) {fr with marks:=marks++fr.marks},H2.put l (.loop .exhausted pend tm ps asg body df))
 | _=>none
def amU(rec:Fq)(ps:List Nat)(asg body:IC)(fr:Fr)(lo:Nat)(g:Option IV)(en:Option (Nat×List Nat×Heap)):Option (Out×Heap):=
 match g with
 | none=>none
 | some g=>match en with
   | none=>none
   | some e=>yk (BU e.2.2.n lo e.2.1 fr) (rec (.apply g [.yield e.2.2.n]) lo (e.2.2.new (.loop .ready none fr.tm ps asg body e.1)))
def jj(g0:Nat)(rec:Fq)(c:IC)(rd:Option Nat)(fr:Fr)(lo:Nat)(H:Heap):Option (Out×Heap):=
 match c with
 | .skip=>some (.ex .normal fr,H)
 | .exit id=>some (.ex (.jmp (.exit id)) fr,H)
 | .ret=>some (.ex (.jmp .ret) fr,H)
 | .ops l=>rec (.segs l rd fr) lo H
 | .seq a b=>mZ (fun fr' H'=>rec (.code b rd fr') lo H') (rec (.code a rd fr) lo H)
 | .cond c a b=>Rs rec a b rd fr lo H (c.eval g0 fr.tm)
 | .block id c=>tU id (rec (.code c rd fr) lo H)
 | .loop c=>mZ (fun fr' H'=>rec (.code (.loop c) rd fr') lo H') (rec (.code c rd fr) lo H)
 | .scope c=>rec (.code c rd fr) lo H
 | .rfn f ps asg body=>amU rec ps asg body fr lo (f.eval g0 fr.tm) (gY rd H)
def vQ(rec:Fq)(l:List (Sg×List IOp))(rd:Option Nat)(lo:Nat)(r:Option (Out×Heap)):Option (Out×Heap):=
 match r with
 | none=>none
 | some p=>match p.1 with
   | .val _=>none
   | .ex e fr=>match e with
     | .normal=>rec (.segs l rd fr) lo p.2
     | .jmp _=>none
def Pv(rec:Fq)(l:List (Sg×List IOp))(rd:Option Nat)(fr:Fr)(lo:Nat)(H:Heap):Option (Out×Heap):=
 match l with
 | []=>some (.ex .normal fr,H)
 | x::l=>vQ rec l rd lo (rec (.ops (match x.1 with | .seq=>none | .free=>some []) x.2 rd fr) lo H)
def AZ(rec:Fq)(xs:List IV)(lw:Nat)(H:Heap):Option (Out×Heap):=
 match xs with
 | []=>none
 | f::xs=>rec (.apply f xs) lw H
def yi(rec:Fq)(o:IOp)(l:List IOp)(rd:Option Nat)(fr:Fr)(lo:Nat)(H:Heap)(free':Option ci)(xs:List IV)(lw:Nat):Bool→Option (Out×Heap)
 | true=>yk (fun v H'=>rec (.ops free' l rd (fr.put o.dst v)) lo H') (AZ rec xs lw H)
 | false=>apz (fun v H'=>rec (.ops free' l rd (fr.put o.dst v)) lo H') (anG o.kd xs lw H)
def tH(rec:Fq)(free:Option ci)(o:IOp)(l:List IOp)(rd:Option Nat)(fr:Fr)(lo:Nat)(H:Heap)(xs:Option (List IV)):Option (Out×Heap):=
 match xs with
 | none=>none
 | some xs=>match aV free o xs with
   | none=>none
   | some free'=>yi rec o l rd fr lo H free' xs (dv free o lo H) o.kd.isCall
def D9(g0:Nat)(rec:Fq)(free:Option ci)(l:List IOp)(rd:Option Nat)(fr:Fr)(lo:Nat)(H:Heap):Option (Out×Heap):=
 match l with
 | []=>some (.ex .normal fr,H)
 | o::l=>match bK fr.tm o.guard with
   | true=>tH rec free o l rd fr lo H (bj g0 fr.tm o.args)
   | false=>rec (.ops free l rd (fr.put o.dst IV.undef)) lo H
def ww(l:Nat)(r:Option (Out×Heap)):Option (Out×Heap):=
 match r with
 | none=>none
 | some p=>match p.1 with
   | .val _=>none
   | .ex e _=>zN l e p.2
def oe(rec:Fq)(l:Nat)(body:IC)(lo:Nat)(r:Option (Out×Heap)):Option (Out×Heap):=
 match r with
 | none=>none
 | some p=>match p.1 with
   | .val _=>none
   | .ex e fr=>match e with
     | .jmp _=>none
     | .normal=>match iJ l p.2 with
       | none=>none
       | some H2=>ww l (rec (.code body (some l) fr) lo H2)
def FK(rec:Fq)(l:Nat)(args:List IV)(lo:Nat)(H:Heap):Option (Out×Heap):=
 match H.get l with
 | some (.loop _ _ tm ps asg body _)=>
   if args.length=ps.length∧lo≤l then oe rec l body lo (rec (.code asg (some l) ⟨eG tm ps args,[]⟩) lo H) else none
 | _=>none
def Hi(rec:Fq)(f:IV)(args:List IV)(lo:Nat)(H:Heap):Option (Out×Heap):=
 match f with
 | .fn f first cap=>rec (.call f (first++args++cap)) lo H
 | .yield l=>FK rec l args lo H
 | _=>none
def lV(fn:IFn)(lo:Nat)(fr:Fr)(H':Heap):Option (Out×Heap):=
 match bF lo fr.marks H' with
 | none=>none
 | some H''=>(ax H'' fr.tm fn.results).map fun vs=>(.val (eV vs),H'')
def amY(fn:IFn)(lo:Nat)(r:Option (Out×Heap)):Option (Out×Heap):=
 match r with
 | none=>none
 | some p=>match p.1 with
   | .val _=>none
   | .ex e fr=>match e with
     | .normal=>lV fn lo fr p.2
     | .jmp j=>match j with
       | .ret=>lV fn lo fr p.2
       | .exit _=>none
def fnK(rec:Fq)(args:List IV)(lo:Nat)(H:Heap)(fn:Option IFn):Option (Out×Heap):=
 match fn with
 | none=>none
 | some fn=>amY fn lo (rec (.code fn.body none ⟨args++ce (fn.ntmps - args.length),[]⟩) lo H)
def zh(E:Env)(rec:Fq)(f:FuncId)(args:List IV)(lo:Nat)(H:Heap):Option (Out×Heap):=
 match E.sums f with
 | some s=>(s args lo H).map fun(v,H')=>(.val v,H')
 | none=>fnK rec args lo H (E.fns f)
def dq(E:Env)(rec:Fq):Fq:=fun t lo H=>
 match t with
 | .code c rd fr=>jj E.g0 rec c rd fr lo H
 | .segs l rd fr=>Pv rec l rd fr lo H
 | .ops free l rd fr=>D9 E.g0 rec free l rd fr lo H
 | .apply f args=>Hi rec f args lo H
 | .call f args=>zh E rec f args lo H
def Nf(E:Env)(n:Nat):Fq:=Nat.rec (fun _ _ _=>none) (fun _ ih=>dq E ih) n
theorem tw(E:Env)(n:Nat):Nf E (n+1)=dq E (Nf E n):=rfl
theorem vS(E:Env):∀(n:Nat) (t:Task) (lo:Nat) (H:Heap),Nf E n t lo H=run E n t lo H:=by
 intro n
 induction n with
 | zero=>intro t lo H;rfl
 | succ n ih=>
   intro t lo H;have e:Nf E n=run E n:=by funext t lo H;exact ih t lo H
   rw[tw,e]
   cases t with
   | code c rd fr=>
     cases c with
     | skip=>rfl
     | exit id=>rfl
     | ret=>rfl
     | ops l=>rfl
     | scope c=>rfl
     | seq a b=>
       simp only[dq,jj,run,mZ]
       cases run E n (.code a rd fr) lo H with
       | none=>rfl
       | some p=>
         obtain⟨o,H1⟩:=p
         cases o with
         | val v=>rfl
         | ex e fr=>cases e<;>rfl
     | cond c a b=>
       simp only[dq,jj,run,Rs]
       cases c.eval E.g0 fr.tm with
       | none=>rfl
       | some v=>cases v<;>first | rfl | (rename_i b;cases b<;>rfl)
     | block id c=>
       simp only[dq,jj,run,tU]
       cases run E n (.code c rd fr) lo H with
       | none=>rfl
       | some p=>
         obtain⟨o,H1⟩:=p
         cases o with
         | val v=>rfl
         | ex e fr=>cases e with
           | normal=>rfl
           | jmp j=>cases j<;>rfl
     | loop c=>
       simp only[dq,jj,run,mZ]
       cases run E n (.code c rd fr) lo H with
       | none=>rfl
       | some p=>
         obtain⟨o,H1⟩:=p
         cases o with
         | val v=>rfl
         | ex e fr=>cases e<;>rfl
     | rfn f ps asg body=>
       simp only[dq,jj,run,amU]
       cases f.eval E.g0 fr.tm with
       | none=>rfl
       | some g=>
         cases gY rd H with
         | none=>rfl
         | some e=>
           obtain⟨df,marks,H1⟩:=e;simp only[yk]
           cases run E n (.apply g [.yield H1.n]) lo (H1.new (.loop .ready none fr.tm ps asg body df)) with
           | none=>rfl
           | some p=>
             obtain⟨o,H2⟩:=p
             cases o with
             | ex e fr=>rfl
             | val v=>
               simp only[BU]
               cases H2.get H1.n with
               | none=>rfl
               | some ob=>cases ob with
                 | loop st pend tm ps asg body df=>cases pend<;>rfl
                 | _=>rfl
   | segs l rd fr=>
     cases l with
     | nil=>rfl
     | cons x l=>
       obtain⟨k,os⟩:=x;simp only[dq,Pv,run,vQ]
       cases run E n (.ops (match k with | .seq=>none | .free=>some []) os rd fr) lo H with
       | none=>rfl
       | some p=>
         obtain⟨o,H1⟩:=p
         cases o with
         | val v=>rfl
         | ex e fr=>cases e<;>rfl
   | ops free l rd fr=>
     cases l with
     | nil=>rfl
     | cons o l=>
       simp only[dq,D9,run]
       cases bK fr.tm o.guard with
       | false=>rfl
       | true=>
         simp only[if_true,tH]
         cases bj E.g0 fr.tm o.args with
         | none=>rfl
         | some xs=>
           simp only
           cases aV free o xs with
           | none=>rfl
           | some free'=>
             simp only
             obtain⟨dst,kd,args,guard,amb,idx,mask⟩:=o
             cases kd with
             | call=>
               simp only[Kd.isCall,yi,AZ]
               cases xs with
               | nil=>rfl
               | cons f xs=>
                 simp only[yk]
                 cases run E n (.apply f xs) (dv free _ lo H) H with
                 | none=>rfl
                 | some p=>
                   obtain⟨o,H1⟩:=p
                   cases o<;>rfl
             | _=>
               simp only[Kd.isCall,yi,apz,se];split<;>simp_all
   | apply f args=>
     cases f with
     | fn f first cap=>rfl
     | yield l=>
       simp only[dq,Hi,run,FK]
       cases H.get l with
       | none=>rfl
       | some ob=>cases ob with
         | loop st pend tm ps asg body df=>
           simp only
           split
           ·simp only[oe]
            cases run E n (.code asg (some l) ⟨eG tm ps args,[]⟩) lo H with
            | none=>rfl
            | some p=>
              obtain⟨o,H1⟩:=p
              cases o with
              | val v=>rfl
              | ex e fr=>cases e with
                | jmp j=>rfl
                | normal=>
                  simp only
                  cases iJ l H1 with
                  | none=>rfl
                  | some H2=>
                    simp only[ww]
                    cases run E n (.code body (some l) fr) lo H2 with
                    | none=>rfl
                    | some p=>
                      obtain⟨o,H3⟩:=p
                      cases o<;>rfl
           ·rfl
         | _=>rfl
     | _=>rfl
   | call f args=>
     simp only[dq,zh,run]
     cases E.sums f with
     | some s=>rfl
     | none=>
       simp only[fnK]
       cases E.fns f with
       | none=>rfl
       | some fn=>
         simp only[amY]
         cases run E n (.code fn.body none ⟨args++ce (fn.ntmps - args.length),[]⟩) lo H with
         | none=>rfl
         | some p=>
           obtain⟨o,H1⟩:=p
           cases o with
           | val v=>rfl
           | ex e fr=>cases e with
             | normal=>rfl
             | jmp j=>cases j<;>rfl
inductive D where
 | same
 | put (b:Nat) (o:IObj)
 | new (o:IObj)
 | kill (b:Nat) (o:IObj)
def D.app(H:Heap):D→Heap
 | .same=>H
 | .put b o=>H.put b o
 | .new o=>H.new o
 | .kill b o=>(H.put b .dead).new o
def eU(H:Heap)(lo b o:Nat)(vs:List IV):Option D:=
 match H.get b with
 | some (.cells false e ez cs)=>if lo≤b∧o+vs.length≤cs.length∧vs.all IV.one then some (.put b (.cells false e ez (aA cs o vs))) else none
 | _=>none
theorem MM(H:Heap)(lo b o:Nat)(vs:List IV):(eU H lo b o vs).map (D.app H)=H.write lo b o vs:=by
 unfold eU Heap.write
 cases H.get b with
 | none=>rfl
 | some ob=>
   cases ob with
   | cells ro e ez cs=>
     cases ro with
     | true=>rfl
     | false=>
       simp only
       split<;>rfl
   | _=>rfl
def lC(H:Heap)(p:IV×D):IV×Heap:=(p.1,p.2.app H)
theorem lJ(H:Heap)(lo b o:Nat)(vs:List IV)(v:IV):((eU H lo b o vs).map fun d=>(v,d)).map (lC H)=(H.write lo b o vs).map fun H'=>(v,H'):=by
 rw[←MM]
 cases eU H lo b o vs<;>rfl
def mv(e size bytes:Nat)(s:IV)(xs:List IV)(n lo:Nat)(H:Heap):Option (IV×D):=
 if xs.all IV.one=false then none else
  match s with
  | .nilSlice=>
    if n=0 then some (.nilSlice,.same)
    else if n*(bytes+1)≤2^40 then some (.slice H.n 0 n n false,.new (.cells false e size xs))
    else none
  | .slice b o len lb ex=>
    if n=0 then some (.slice b o len lb ex,.same)
    else if len+n≤lb then(eU H lo b (o+len*size) xs).map fun H'=>(.slice b o (len+n) lb ex,H')
    else if (len+n)*(bytes+1)≤2^40 then
     if ex then(eZ H size len s).map fun old=>(.slice H.n 0 (len+n) (len+n) false,.new (.cells false e size (old++xs)))
     else
      match H.get b with
      | some (.cells false e' ez cs)=>
        if e'=e∧ez=size∧0 < size∧o=0∧lo≤b∧len*size≤cs.length then
         some (.slice H.n 0 (len+n) (len+n) false,.kill b (.cells false e size (cs.take (len*size)++xs)))
        else none
      | _=>none
    else none
  | _=>none
theorem zk(e size bytes:Nat)(s:IV)(xs:List IV)(n lo:Nat)(H:Heap):(mv e size bytes s xs n lo H).map (lC H)=bV e size bytes s xs n lo H:=by
 unfold mv bV;split
 ·rfl
 ·cases s with
  | nilSlice=>simp only;repeat' split
              all_goals rfl
  | slice b o len lb ex=>
    simp only
    split
    ·rfl
    ·split
     ·exact lJ _ _ _ _ _ _
     ·split
      ·split
       ·cases eZ H size len (.slice b o len lb ex)<;>rfl
       ·cases H.get b with
        | none=>rfl
        | some ob=>
          cases ob with
          | cells ro e' ez cs=>
            cases ro with
            | true=>rfl
            | false=>simp only;split<;>rfl
          | _=>rfl
      ·rfl
  | _=>rfl
def v7(e:Nat)(ez:Nat)(zs:List IV)(xs:List IV)(lo:Nat)(H:Heap):Option (IV×D):=
 match xs with
  | []=>some (.ptr H.n 0,D.new (.cells false e ez zs))
  | _=>none
def IG(e:Nat)(ez:Nat)(xs:List IV)(lo:Nat)(H:Heap):Option (IV×D):=
 match xs with
  | [x]=>some (.ptr H.n 0,D.new (.cells false e ez x.cells))
  | _=>none
def pa(e:Nat)(ez:Nat)(n:Nat)(zs:List IV)(offs:List (Nat×Nat))(xs:List IV)(lo:Nat)(H:Heap):Option (IV×D):=
 match xs with
  | xs=>(bO offs xs zs).map fun cs=>(.slice H.n 0 n n true,D.new (.cells false e ez cs))
def vW(n:Nat)(xs:List IV)(lo:Nat)(H:Heap):Option (IV×D):=
 match xs with
  | [.ptr b o,x]=>if x.cells.length=n then(eU H lo b o x.cells).map fun H'=>(IV.undef,H') else none
  | _=>none
def ss(xs:List IV)(lo:Nat)(H:Heap):Option (IV×D):=
 match xs with
  | [.nilMap]=>some (.ptr H.n 0,D.new (.iter none 0 [] 0))
  | [.map b]=>(aF H b).map fun p=>(.ptr H.n 0,D.new (.iter (some b) p.2 [] p.2))
  | _=>none
def vX(xs:List IV)(lo:Nat)(H:Heap):Option (IV×D):=
 match xs with
  | [.ptr r 0]=>if lo≤r then(stepM H r).map fun p=>(p.1,match p.2 with | none=>D.same | some o=>D.put r o) else none
  | _=>none
def vY(xs:List IV)(lo:Nat)(H:Heap):Option (IV×D):=
 match xs with
  | []=>some (.map H.n,D.new (.map [] 0))
  | [.int _ _]=>some (.map H.n,D.new (.map [] 0))
  | _=>none
def CM(e:Nat)(ez:Nat)(bytes:Nat)(zs:List IV)(xs:List IV)(lo:Nat)(H:Heap):Option (IV×D):=
 match xs with
  | [.int _ l,.int _ c]=>
    if 0≤l∧l≤c∧c*(bytes+1)≤2^40 then
     some (.slice H.n 0 l.toNat c.toNat true,D.new (.cells false e ez (iP c.toNat zs)))
    else none
  | _=>none
def sw(ky:Bool×List Pk)(xs:List IV)(lo:Nat)(H:Heap):Option (IV×D):=
 match xs with
  | [.map b,k,v]=>
    match aF H b with
    | none=>none
    | some (es,clock)=>
      if lo≤b∧cp ky k then
       match aK ky k es 0 with
       | none=>none
       | some (some (i,_))=>some (IV.undef,D.put b (.map (dz k v es i) clock))
       | some none=>some (IV.undef,D.put b (.map (es++[(k,v,clock)]) (clock+1)))
      else none
  | _=>none
def mj(_:TypeId)(ky:Bool×List Pk)(zero:IV)(xs:List IV)(lo:Nat)(H:Heap):Option (IV×D):=
 match xs with
  | [.map b,k]=>
    match aF H b with
    | none=>none
    | some (es,clock)=>
      if lo≤b∧cp ky k then
       match aK ky k es 0 with
       | none=>none
       | some (some (i,v))=>(es[i]?).map fun e=>(.tuple [v,.int .i64 e.2.2],D.put b (.map (dz k v es i) clock))
       | some none=>some (.tuple [zero,.int .i64 clock],D.put b (.map (es++[(k,zero,clock)]) (clock+1)))
      else none
  | _=>none
def js(xs:List IV)(lo:Nat)(H:Heap):Option (IV×D):=
 match xs with
  | [.map b,.int _ s,v]=>
    match aF H b with
    | none=>none
    | some (es,clock)=>if lo≤b then(gM v s es).map fun es'=>(IV.undef,D.put b (.map es' clock)) else none
  | _=>none
def sx(ky:Bool×List Pk)(xs:List IV)(lo:Nat)(H:Heap):Option (IV×D):=
 match xs with
  | [.map b,k]=>
    match aF H b with
    | none=>none
    | some (es,clock)=>
      if lo≤b∧cp ky k then
       match aK ky k es 0 with
       | none=>none
       | some (some (i,_))=>some (IV.undef,D.put b (.map (eM es i) clock))
       | some none=>some (IV.undef,D.same)
      else none
  | _=>none
def sy(e:Nat)(size:Nat)(bytes:Nat)(xs:List IV)(lo:Nat)(H:Heap):Option (IV×D):=
 match xs with
  | [s,x]=>(jb x).bind fun n=>(eZ H size n x).bind fun xs=>mv e size bytes s xs n lo H
  | _=>none
def CN(size:Nat)(xs:List IV)(lo:Nat)(H:Heap):Option (IV×D):=
 match xs with
  | [d,s]=>
    match jM d,jb s with
    | some n,some m=>
      let k:=Min.min m n
      if k=0 then some (.int .i64 0,D.same)
      else(eZ H size k s).bind fun xs=>
       match d with
       | .slice b o _ _ _=>(eU H lo b o xs).map fun H'=>(.int .i64 k,H')
       | _=>none
    | _,_=>none
  | _=>none
def vZ(zs:List IV)(xs:List IV)(lo:Nat)(H:Heap):Option (IV×D):=
 match xs with
  | [x]=>
    match x with
    | .nilSlice=>some (.tuple [],D.same)
    | .slice b o n _ _=>if n=0 then some (.tuple [],D.same) else(eU H lo b o (iP n zs)).map fun H'=>(.tuple [],H')
    | _=>none
  | _=>none
def pb(e:Nat)(size:Nat)(bytes:Nat)(zs:List IV)(xs:List IV)(lo:Nat)(H:Heap):Option (IV×D):=
 match xs with
  | [s,.int _ n]=>
    if 0≤n∧n*(bytes+1)≤2^40 then mv e size bytes s (iP n.toNat zs) n.toNat lo H else none
  | _=>none
def bE(r:Option (IV×Heap)):Option (IV×D):=
 match r with
 | none=>none
 | some p=>some (p.1,.same)
theorem aB{r:Option (IV×Heap)}{H:Heap}(h:∀v H',r=some (v,H')→H'=H):(bE r).map (lC H)=r:=by
 cases r with
 | none=>rfl
 | some p=>obtain⟨v,H'⟩:=p;have:=h v H' rfl;subst this;rfl
def jU(kd:Kd)(xs:List IV)(lo:Nat)(H:Heap):Option (IV×D):=
 match kd with
 | .move=>bE (yX xs lo H)
 | .pick=>bE (yW xs lo H)
 | .alloc a0 a1 a2=>v7 a0 a1 a2 xs lo H
 | .box a0 a1=>IG a0 a1 xs lo H
 | .build a0 a1=>bE (sq a0 a1 xs lo H)
 | .buildSl a0 a1 a2 a3 a4=>pa a0 a1 a2 a3 a4 xs lo H
 | .load a0=>bE (yZ a0 xs lo H)
 | .store a0=>vW a0 xs lo H
 | .nilCheck=>bE (jL xs lo H)
 | .bin a0=>bE (AR a0 xs lo H)
 | .eqBool a0=>bE (nL a0 xs lo H)
 | .eqFlat a0 a1=>bE (nJ a0 a1 xs lo H)
 | .eqNil a0 a1=>bE (sm a0 a1 xs lo H)
 | .un a0=>bE (Ri a0 xs lo H)
 | .conv a0=>bE (za a0 xs lo H)
 | .iface a0=>bE (si a0 xs lo H)
 | .mkfn a0 a1=>bE (tQ a0 a1 xs lo H)
 | .mkmap=>vY xs lo H
 | .mksl a0 a1 a2 a3=>CM a0 a1 a2 a3 xs lo H
 | .slc a0 a1 a2 a3=>bE (EQ a0 a1 a2 a3 xs lo H)
 | .slcStr a0 a1=>bE (nz a0 a1 xs lo H)
 | .slcArr a0 a1 a2 a3 a4 a5=>bE (nC a0 a1 a2 a3 a4 a5 xs lo H)
 | .fieldAddr a0=>bE (i4 a0 xs lo H)
 | .field a0 a1=>bE (sk a0 a1 xs lo H)
 | .idxSl a0=>bE (sj a0 xs lo H)
 | .idxArrAddr a0 a1=>bE (hX a0 a1 xs lo H)
 | .idxArr a0 a1 a2=>bE (nI a0 a1 a2 xs lo H)
 | .idxStr=>bE (nH xs lo H)
 | .lookup a0 a1 a2 a3=>bE (nD a0 a1 a2 a3 xs lo H)
 | .mapUpd a0=>sw a0 xs lo H
 | .mapEntry a0 a1 a2=>mj a0 a1 a2 xs lo H
 | .entryStore=>js xs lo H
 | .delete a0=>sx a0 xs lo H
 | .lenSl=>bE (sh xs lo H)
 | .lenStr=>bE (nE xs lo H)
 | .lenArr a0=>bE (nG a0 xs lo H)
 | .lenMap=>bE (nF xs lo H)
 | .cap=>bE (ET xs lo H)
 | .append a0 a1 a2=>sy a0 a1 a2 xs lo H
 | .copy a0=>CN a0 xs lo H
 | .min=>bE (ER xs lo H)
 | .max=>bE (ES xs lo H)
 | .clear a0=>vZ a0 xs lo H
 | .appendZ a0 a1 a2 a3=>pb a0 a1 a2 a3 xs lo H
 | .strOf=>bE (sg xs lo H)
 | .rangeM=>ss xs lo H
 | .nextM=>vX xs lo H
 | .entryM=>bE (nM xs lo H)
 | .extract a0=>bE (lB a0 xs lo H)
 | .call=>bE (Rj xs lo H)
theorem G3(a0:Nat)(a1:Nat)(a2:List IV)(xs:List IV)(lo:Nat)(H:Heap):(v7 a0 a1 a2 xs lo H).map (lC H)=CL a0 a1 a2 xs lo H:=by
 unfold v7 CL
 cases xs<;>rfl
theorem Rm(a0:Nat)(a1:Nat)(xs:List IV)(lo:Nat)(H:Heap):(IG a0 a1 xs lo H).map (lC H)=Rk a0 a1 xs lo H:=by
 unfold IG Rk;rcases xs with _ | ⟨x,_ | ⟨q,r⟩⟩<;>rfl
theorem CO(a0:Nat)(a1:Nat)(a2:Nat)(a3:List IV)(a4:List (Nat×Nat))(xs:List IV)(lo:Nat)(H:Heap):(pa a0 a1 a2 a3 a4 xs lo H).map (lC H)=tR a0 a1 a2 a3 a4 xs lo H:=by
 unfold pa tR;simp only
 cases bO a4 xs a3<;>rfl
theorem GZ(a0:Nat)(xs:List IV)(lo:Nat)(H:Heap):(vW a0 xs lo H).map (lC H)=CG a0 xs lo H:=by
 unfold vW CG;rcases xs with _ | ⟨p,_ | ⟨x,_ | ⟨q,r⟩⟩⟩
 ·rfl
 ·cases p<;>rfl
 ·cases p<;>first | rfl | skip
  simp only
  split
  ·exact lJ _ _ _ _ _ _
  ·rfl
 ·cases p<;>rfl
theorem EW(xs:List IV)(lo:Nat)(H:Heap):(ss xs lo H).map (lC H)=yV xs lo H:=by
 unfold ss yV;rcases xs with _ | ⟨x,_ | ⟨q,r⟩⟩
 ·rfl
 ·cases x<;>first | rfl | skip
  simp only
  cases aF H _<;>rfl
 ·cases x<;>rfl
theorem G0(xs:List IV)(lo:Nat)(H:Heap):(vX xs lo H).map (lC H)=CH xs lo H:=by
 unfold vX CH;rcases xs with _ | ⟨x,_ | ⟨q,r⟩⟩
 ·rfl
 ·cases x<;>first | rfl | skip
  rename_i b o
  cases o with
  | succ o=>rfl
  | zero=>
    simp only
    split
    ·cases stepM H _ with
     | none=>rfl
     | some p=>obtain⟨v,o⟩:=p;cases o<;>rfl
    ·rfl
 ·cases x<;>first | rfl | skip
  rename_i b o
  cases o<;>rfl
theorem G1(xs:List IV)(lo:Nat)(H:Heap):(vY xs lo H).map (lC H)=CI xs lo H:=by
 unfold vY CI;rcases xs with _ | ⟨x,_ | ⟨q,r⟩⟩
 ·rfl
 ·cases x<;>rfl
 ·cases x<;>rfl
theorem Oc(a0:Nat)(a1:Nat)(a2:Nat)(a3:List IV)(xs:List IV)(lo:Nat)(H:Heap):(CM a0 a1 a2 a3 xs lo H).map (lC H)=GW a0 a1 a2 a3 xs lo H:=by
 unfold CM GW;rcases xs with _ | ⟨x,_ | ⟨y,_ | ⟨q,r⟩⟩⟩
 ·rfl
 ·cases x<;>rfl
 ·cases x<;>first | rfl | skip
  cases y<;>first | rfl | skip
  simp only
  split<;>rfl
 ·cases x<;>first | rfl | (cases y<;>rfl)
theorem EX(a0:Bool×List Pk)(xs:List IV)(lo:Nat)(H:Heap):(sw a0 xs lo H).map (lC H)=yY a0 xs lo H:=by
 unfold sw yY;rcases xs with _ | ⟨m,_ | ⟨k,_ | ⟨v,_ | ⟨q,r⟩⟩⟩⟩
 ·rfl
 ·cases m<;>rfl
 ·cases m<;>rfl
 ·cases m<;>first | rfl | skip
  simp only
  cases aF H _ with
  | none=>rfl
  | some p=>
    obtain⟨es,clock⟩:=p;simp only;split
    ·cases aK a0 k es 0 with
     | none=>rfl
     | some r=>cases r with
       | none=>rfl
       | some x=>obtain⟨i,v⟩:=x;rfl
    ·rfl
 ·cases m<;>rfl
theorem zO(a0:TypeId)(a1:Bool×List Pk)(a2:IV)(xs:List IV)(lo:Nat)(H:Heap):(mj a0 a1 a2 xs lo H).map (lC H)=p9 a0 a1 a2 xs lo H:=by
 unfold mj p9;rcases xs with _ | ⟨m,_ | ⟨k,_ | ⟨q,r⟩⟩⟩
 ·rfl
 ·cases m<;>rfl
 ·cases m<;>first | rfl | skip
  simp only
  cases aF H _ with
  | none=>rfl
  | some p=>
    obtain⟨es,clock⟩:=p;simp only;split
    ·cases aK a1 k es 0 with
     | none=>rfl
     | some r=>cases r with
       | none=>rfl
       | some x=>obtain⟨i,v⟩:=x;simp only;cases es[i]?<;>rfl
    ·rfl
 ·cases m<;>rfl
theorem ve(xs:List IV)(lo:Nat)(H:Heap):(js xs lo H).map (lC H)=mh xs lo H:=by
 unfold js mh;rcases xs with _ | ⟨m,_ | ⟨k,_ | ⟨v,_ | ⟨q,r⟩⟩⟩⟩
 ·rfl
 ·cases m<;>rfl
 ·cases m<;>first | rfl | (cases k<;>rfl)
 ·cases m<;>first | rfl | skip
  cases k<;>first | rfl | skip
  simp only
  cases aF H _ with
  | none=>rfl
  | some p=>
    obtain⟨es,clock⟩:=p;simp only;split
    ·cases gM v _ es<;>rfl
    ·rfl
 ·cases m<;>first | rfl | (cases k<;>rfl)
theorem EY(a0:Bool×List Pk)(xs:List IV)(lo:Nat)(H:Heap):(sx a0 xs lo H).map (lC H)=y5 a0 xs lo H:=by
 unfold sx y5;rcases xs with _ | ⟨m,_ | ⟨k,_ | ⟨q,r⟩⟩⟩
 ·rfl
 ·cases m<;>rfl
 ·cases m<;>first | rfl | skip
  simp only
  cases aF H _ with
  | none=>rfl
  | some p=>
    obtain⟨es,clock⟩:=p;simp only;split
    ·cases aK a0 k es 0 with
     | none=>rfl
     | some r=>cases r with
       | none=>rfl
       | some x=>obtain⟨i,v⟩:=x;rfl
    ·rfl
 ·cases m<;>rfl
theorem EZ(a0:Nat)(a1:Nat)(a2:Nat)(xs:List IV)(lo:Nat)(H:Heap):(sy a0 a1 a2 xs lo H).map (lC H)=zb a0 a1 a2 xs lo H:=by
 unfold sy zb;rcases xs with _ | ⟨s,_ | ⟨x,_ | ⟨q,r⟩⟩⟩
 ·rfl
 ·rfl
 ·simp only
  cases jb x with
  | none=>rfl
  | some n=>
    simp only[br]
    cases eZ H a1 n x with
    | none=>rfl
    | some l=>exact zk _ _ _ _ _ _ _ _
 ·rfl
theorem Od(a0:Nat)(xs:List IV)(lo:Nat)(H:Heap):(CN a0 xs lo H).map (lC H)=GX a0 xs lo H:=by
 unfold CN GX;rcases xs with _ | ⟨d,_ | ⟨s,_ | ⟨q,r⟩⟩⟩
 ·rfl
 ·rfl
 ·simp only
  cases jM d with
  | none=>rfl
  | some n=>
    cases jb s with
    | none=>rfl
    | some m=>
      simp only
      split
      ·rfl
      ·cases eZ H a0 (Min.min m n) s with
       | none=>rfl
       | some l=>
         simp only[br]
         cases d<;>first | rfl | exact lJ _ _ _ _ _ _
 ·rfl
theorem G2(a0:List IV)(xs:List IV)(lo:Nat)(H:Heap):(vZ a0 xs lo H).map (lC H)=CK a0 xs lo H:=by
 unfold vZ CK;rcases xs with _ | ⟨x,_ | ⟨q,r⟩⟩
 ·rfl
 ·simp only
  cases x<;>first | rfl | skip
  simp only
  split
  ·rfl
  ·exact lJ _ _ _ _ _ _
 ·rfl
theorem CP(a0:Nat)(a1:Nat)(a2:Nat)(a3:List IV)(xs:List IV)(lo:Nat)(H:Heap):(pb a0 a1 a2 a3 xs lo H).map (lC H)=tS a0 a1 a2 a3 xs lo H:=by
 unfold pb tS;rcases xs with _ | ⟨x,_ | ⟨y,_ | ⟨q,r⟩⟩⟩
 ·rfl
 ·rfl
 ·cases y<;>first | rfl | skip
  simp only
  split
  ·exact zk _ _ _ _ _ _ _ _
  ·rfl
 ·cases y<;>rfl
theorem anh{xs:List IV}{lo:Nat}{H:Heap}{v:IV}{H':Heap}(h:yX xs lo H=some (v,H')):H'=H:=by
 unfold yX at h
 repeat' (first | rfl | (cases h;done) | (injection h with h;injection h with _ h;exact h.symm) | (simp only[bZ,b9] at h;obtain⟨_,_,h⟩:=h) | split at h | (obtain⟨_,h⟩:=h) | (simp only[bz] at h;exact h.2.symm))
theorem ang{xs:List IV}{lo:Nat}{H:Heap}{v:IV}{H':Heap}(h:yW xs lo H=some (v,H')):H'=H:=by
 unfold yW at h
 repeat' (first | rfl | (cases h;done) | (injection h with h;injection h with _ h;exact h.symm) | (simp only[bZ,b9] at h;obtain⟨_,_,h⟩:=h) | split at h | (obtain⟨_,h⟩:=h) | (simp only[bz] at h;exact h.2.symm))
theorem adZ{a0:List IV}{a1:List (Nat×Nat)}{xs:List IV}{lo:Nat}{H:Heap}{v:IV}{H':Heap}(h:sq a0 a1 xs lo H=some (v,H')):H'=H:=by
 unfold sq at h
 repeat' (first | rfl | (cases h;done) | (injection h with h;injection h with _ h;exact h.symm) | (simp only[bZ,b9] at h;obtain⟨_,_,h⟩:=h) | split at h | (obtain⟨_,h⟩:=h) | (simp only[bz] at h;exact h.2.symm))
theorem anj{a0:Option Nat}{xs:List IV}{lo:Nat}{H:Heap}{v:IV}{H':Heap}(h:yZ a0 xs lo H=some (v,H')):H'=H:=by
 unfold yZ at h
 repeat' (first | rfl | (cases h;done) | (injection h with h;injection h with _ h;exact h.symm) | (simp only[bZ,b9] at h;obtain⟨_,_,h⟩:=h) | split at h | (obtain⟨_,h⟩:=h) | (simp only[bz] at h;exact h.2.symm))
theorem GN{xs:List IV}{lo:Nat}{H:Heap}{v:IV}{H':Heap}(h:jL xs lo H=some (v,H')):H'=H:=by
 unfold jL at h
 repeat' (first | rfl | (cases h;done) | (injection h with h;injection h with _ h;exact h.symm) | (simp only[bZ,b9] at h;obtain⟨_,_,h⟩:=h) | split at h | (obtain⟨_,h⟩:=h) | (simp only[bz] at h;exact h.2.symm))
theorem apH{a0:BinOp}{xs:List IV}{lo:Nat}{H:Heap}{v:IV}{H':Heap}(h:AR a0 xs lo H=some (v,H')):H'=H:=by
 unfold AR at h
 repeat' (first | rfl | (cases h;done) | (injection h with h;injection h with _ h;exact h.symm) | (simp only[bZ,b9] at h;obtain⟨_,_,h⟩:=h) | split at h | (obtain⟨_,h⟩:=h) | (simp only[bz] at h;exact h.2.symm))
theorem QO{a0:Bool}{xs:List IV}{lo:Nat}{H:Heap}{v:IV}{H':Heap}(h:nL a0 xs lo H=some (v,H')):H'=H:=by
 unfold nL at h
 repeat' (first | rfl | (cases h;done) | (injection h with h;injection h with _ h;exact h.symm) | (simp only[bZ,b9] at h;obtain⟨_,_,h⟩:=h) | split at h | (obtain⟨_,h⟩:=h) | (simp only[bz] at h;exact h.2.symm))
theorem QM{a0:Bool}{a1:List Pk}{xs:List IV}{lo:Nat}{H:Heap}{v:IV}{H':Heap}(h:nJ a0 a1 xs lo H=some (v,H')):H'=H:=by
 unfold nJ at h
 repeat' (first | rfl | (cases h;done) | (injection h with h;injection h with _ h;exact h.symm) | (simp only[bZ,b9] at h;obtain⟨_,_,h⟩:=h) | split at h | (obtain⟨_,h⟩:=h) | (simp only[bz] at h;exact h.2.symm))
theorem adY{a0:Bool}{a1:Nk}{xs:List IV}{lo:Nat}{H:Heap}{v:IV}{H':Heap}(h:sm a0 a1 xs lo H=some (v,H')):H'=H:=by
 unfold sm at h
 repeat' (first | rfl | (cases h;done) | (injection h with h;injection h with _ h;exact h.symm) | (simp only[bZ,b9] at h;obtain⟨_,_,h⟩:=h) | split at h | (obtain⟨_,h⟩:=h) | (simp only[bz] at h;exact h.2.symm))
theorem asG{a0:UnOp}{xs:List IV}{lo:Nat}{H:Heap}{v:IV}{H':Heap}(h:Ri a0 xs lo H=some (v,H')):H'=H:=by
 unfold Ri at h
 repeat' (first | rfl | (cases h;done) | (injection h with h;injection h with _ h;exact h.symm) | (simp only[bZ,b9] at h;obtain⟨_,_,h⟩:=h) | split at h | (obtain⟨_,h⟩:=h) | (simp only[bz] at h;exact h.2.symm))
theorem ank{a0:IntKind}{xs:List IV}{lo:Nat}{H:Heap}{v:IV}{H':Heap}(h:za a0 xs lo H=some (v,H')):H'=H:=by
 unfold za at h
 repeat' (first | rfl | (cases h;done) | (injection h with h;injection h with _ h;exact h.symm) | (simp only[bZ,b9] at h;obtain⟨_,_,h⟩:=h) | split at h | (obtain⟨_,h⟩:=h) | (simp only[bz] at h;exact h.2.symm))
theorem adV{a0:TypeId}{xs:List IV}{lo:Nat}{H:Heap}{v:IV}{H':Heap}(h:si a0 xs lo H=some (v,H')):H'=H:=by
 unfold si at h
 repeat' (first | rfl | (cases h;done) | (injection h with h;injection h with _ h;exact h.symm) | (simp only[bZ,b9] at h;obtain⟨_,_,h⟩:=h) | split at h | (obtain⟨_,h⟩:=h) | (simp only[bz] at h;exact h.2.symm))
theorem ani{a0:FuncId}{a1:Nat}{xs:List IV}{lo:Nat}{H:Heap}{v:IV}{H':Heap}(h:tQ a0 a1 xs lo H=some (v,H')):H'=H:=by
 unfold tQ at h
 repeat' (first | rfl | (cases h;done) | (injection h with h;injection h with _ h;exact h.symm) | (simp only[bZ,b9] at h;obtain⟨_,_,h⟩:=h) | split at h | (obtain⟨_,h⟩:=h) | (simp only[bz] at h;exact h.2.symm))
theorem apD{a0:Nat}{a1:Bool}{a2:Bool}{a3:Bool}{xs:List IV}{lo:Nat}{H:Heap}{v:IV}{H':Heap}(h:EQ a0 a1 a2 a3 xs lo H=some (v,H')):H'=H:=by
 unfold EQ at h
 repeat' (first | rfl | (cases h;done) | (injection h with h;injection h with _ h;exact h.symm) | (simp only[bZ,b9] at h;obtain⟨_,_,h⟩:=h) | split at h | (obtain⟨_,h⟩:=h) | (simp only[bz] at h;exact h.2.symm))
theorem QD{a0:Bool}{a1:Bool}{xs:List IV}{lo:Nat}{H:Heap}{v:IV}{H':Heap}(h:nz a0 a1 xs lo H=some (v,H')):H'=H:=by
 unfold nz at h
 repeat' (first | rfl | (cases h;done) | (injection h with h;injection h with _ h;exact h.symm) | (simp only[bZ,b9] at h;obtain⟨_,_,h⟩:=h) | split at h | (obtain⟨_,h⟩:=h) | (simp only[bz] at h;exact h.2.symm))
theorem QE{a0:Nat}{a1:Nat}{a2:Nat}{a3:Bool}{a4:Bool}{a5:Bool}{xs:List IV}{lo:Nat}{H:Heap}{v:IV}{H':Heap}(h:nC a0 a1 a2 a3 a4 a5 xs lo H=some (v,H')):H'=H:=by
 unfold nC at h
 repeat' (first | rfl | (cases h;done) | (injection h with h;injection h with _ h;exact h.symm) | (simp only[bZ,b9] at h;obtain⟨_,_,h⟩:=h) | split at h | (obtain⟨_,h⟩:=h) | (simp only[bz] at h;exact h.2.symm))
theorem EB{a0:Nat}{xs:List IV}{lo:Nat}{H:Heap}{v:IV}{H':Heap}(h:i4 a0 xs lo H=some (v,H')):H'=H:=by
 unfold i4 at h
 repeat' (first | rfl | (cases h;done) | (injection h with h;injection h with _ h;exact h.symm) | (simp only[bZ,b9] at h;obtain⟨_,_,h⟩:=h) | split at h | (obtain⟨_,h⟩:=h) | (simp only[bz] at h;exact h.2.symm))
theorem adX{a0:Nat}{a1:Option Nat}{xs:List IV}{lo:Nat}{H:Heap}{v:IV}{H':Heap}(h:sk a0 a1 xs lo H=some (v,H')):H'=H:=by
 unfold sk at h
 repeat' (first | rfl | (cases h;done) | (injection h with h;injection h with _ h;exact h.symm) | (simp only[bZ,b9] at h;obtain⟨_,_,h⟩:=h) | split at h | (obtain⟨_,h⟩:=h) | (simp only[bz] at h;exact h.2.symm))
theorem adW{a0:Nat}{xs:List IV}{lo:Nat}{H:Heap}{v:IV}{H':Heap}(h:sj a0 xs lo H=some (v,H')):H'=H:=by
 unfold sj at h
 repeat' (first | rfl | (cases h;done) | (injection h with h;injection h with _ h;exact h.symm) | (simp only[bZ,b9] at h;obtain⟨_,_,h⟩:=h) | split at h | (obtain⟨_,h⟩:=h) | (simp only[bz] at h;exact h.2.symm))
theorem Ct{a0:Nat}{a1:Nat}{xs:List IV}{lo:Nat}{H:Heap}{v:IV}{H':Heap}(h:hX a0 a1 xs lo H=some (v,H')):H'=H:=by
 unfold hX at h
 repeat' (first | rfl | (cases h;done) | (injection h with h;injection h with _ h;exact h.symm) | (simp only[bZ,b9] at h;obtain⟨_,_,h⟩:=h) | split at h | (obtain⟨_,h⟩:=h) | (simp only[bz] at h;exact h.2.symm))
theorem QL{a0:Nat}{a1:Nat}{a2:Option Nat}{xs:List IV}{lo:Nat}{H:Heap}{v:IV}{H':Heap}(h:nI a0 a1 a2 xs lo H=some (v,H')):H'=H:=by
 unfold nI at h
 repeat' (first | rfl | (cases h;done) | (injection h with h;injection h with _ h;exact h.symm) | (simp only[bZ,b9] at h;obtain⟨_,_,h⟩:=h) | split at h | (obtain⟨_,h⟩:=h) | (simp only[bz] at h;exact h.2.symm))
theorem QK{xs:List IV}{lo:Nat}{H:Heap}{v:IV}{H':Heap}(h:nH xs lo H=some (v,H')):H'=H:=by
 unfold nH at h
 repeat' (first | rfl | (cases h;done) | (injection h with h;injection h with _ h;exact h.symm) | (simp only[bZ,b9] at h;obtain⟨_,_,h⟩:=h) | split at h | (obtain⟨_,h⟩:=h) | (simp only[bz] at h;exact h.2.symm))
theorem QF{a0:TypeId}{a1:Bool×List Pk}{a2:IV}{a3:Bool}{xs:List IV}{lo:Nat}{H:Heap}{v:IV}{H':Heap}(h:nD a0 a1 a2 a3 xs lo H=some (v,H')):H'=H:=by
 unfold nD at h
 repeat' (first | rfl | (cases h;done) | (injection h with h;injection h with _ h;exact h.symm) | (simp only[bZ,b9] at h;obtain⟨_,_,h⟩:=h) | split at h | (obtain⟨_,h⟩:=h) | (simp only[bz] at h;exact h.2.symm))
theorem adU{xs:List IV}{lo:Nat}{H:Heap}{v:IV}{H':Heap}(h:sh xs lo H=some (v,H')):H'=H:=by
 unfold sh at h
 repeat' (first | rfl | (cases h;done) | (injection h with h;injection h with _ h;exact h.symm) | (simp only[bZ,b9] at h;obtain⟨_,_,h⟩:=h) | split at h | (obtain⟨_,h⟩:=h) | (simp only[bz] at h;exact h.2.symm))
theorem QH{xs:List IV}{lo:Nat}{H:Heap}{v:IV}{H':Heap}(h:nE xs lo H=some (v,H')):H'=H:=by
 unfold nE at h
 repeat' (first | rfl | (cases h;done) | (injection h with h;injection h with _ h;exact h.symm) | (simp only[bZ,b9] at h;obtain⟨_,_,h⟩:=h) | split at h | (obtain⟨_,h⟩:=h) | (simp only[bz] at h;exact h.2.symm))
theorem QJ{a0:Nat}{xs:List IV}{lo:Nat}{H:Heap}{v:IV}{H':Heap}(h:nG a0 xs lo H=some (v,H')):H'=H:=by
 unfold nG at h
 repeat' (first | rfl | (cases h;done) | (injection h with h;injection h with _ h;exact h.symm) | (simp only[bZ,b9] at h;obtain⟨_,_,h⟩:=h) | split at h | (obtain⟨_,h⟩:=h) | (simp only[bz] at h;exact h.2.symm))
theorem QP{xs:List IV}{lo:Nat}{H:Heap}{v:IV}{H':Heap}(h:nM xs lo H=some (v,H')):H'=H:=by
 unfold nM at h;split at h
 ·cases he:yT H _ with
  | none=>rw[he] at h;cases h
  | some x=>rw[he] at h;injection h with h;injection h with h1 h2;exact h2.symm
 ·cases h
theorem QI{xs:List IV}{lo:Nat}{H:Heap}{v:IV}{H':Heap}(h:nF xs lo H=some (v,H')):H'=H:=by
 unfold nF at h
 repeat' (first | rfl | (cases h;done) | (injection h with h;injection h with _ h;exact h.symm) | (simp only[bZ,b9] at h;obtain⟨_,_,h⟩:=h) | split at h | (obtain⟨_,h⟩:=h) | (simp only[bz] at h;exact h.2.symm))
theorem apG{xs:List IV}{lo:Nat}{H:Heap}{v:IV}{H':Heap}(h:ET xs lo H=some (v,H')):H'=H:=by
 unfold ET at h
 repeat' (first | rfl | (cases h;done) | (injection h with h;injection h with _ h;exact h.symm) | (simp only[bZ,b9] at h;obtain⟨_,_,h⟩:=h) | split at h | (obtain⟨_,h⟩:=h) | (simp only[bz] at h;exact h.2.symm))
theorem apE{xs:List IV}{lo:Nat}{H:Heap}{v:IV}{H':Heap}(h:ER xs lo H=some (v,H')):H'=H:=by
 unfold ER at h
 repeat' (first | rfl | (cases h;done) | (injection h with h;injection h with _ h;exact h.symm) | (simp only[bZ,b9] at h;obtain⟨_,_,h⟩:=h) | split at h | (obtain⟨_,h⟩:=h) | (simp only[bz] at h;exact h.2.symm))
theorem apF{xs:List IV}{lo:Nat}{H:Heap}{v:IV}{H':Heap}(h:ES xs lo H=some (v,H')):H'=H:=by
 unfold ES at h
 repeat' (first | rfl | (cases h;done) | (injection h with h;injection h with _ h;exact h.symm) | (simp only[bZ,b9] at h;obtain⟨_,_,h⟩:=h) | split at h | (obtain⟨_,h⟩:=h) | (simp only[bz] at h;exact h.2.symm))
theorem adT{xs:List IV}{lo:Nat}{H:Heap}{v:IV}{H':Heap}(h:sg xs lo H=some (v,H')):H'=H:=by
 unfold sg at h
 repeat' (first | rfl | (cases h;done) | (injection h with h;injection h with _ h;exact h.symm) | (simp only[bZ,b9] at h;obtain⟨_,_,h⟩:=h) | split at h | (obtain⟨_,h⟩:=h) | (simp only[bz] at h;exact h.2.symm))
theorem NU{a0:Nat}{xs:List IV}{lo:Nat}{H:Heap}{v:IV}{H':Heap}(h:lB a0 xs lo H=some (v,H')):H'=H:=by
 unfold lB at h
 repeat' (first | rfl | (cases h;done) | (injection h with h;injection h with _ h;exact h.symm) | (simp only[bZ,b9] at h;obtain⟨_,_,h⟩:=h) | split at h | (obtain⟨_,h⟩:=h) | (simp only[bz] at h;exact h.2.symm))
theorem CE(kd:Kd)(xs:List IV)(lo:Nat)(H:Heap):(jU kd xs lo H).map (lC H)=ev1 kd xs lo H:=by
 rw[←se]
 cases kd with
 | move=>exact aB fun v H' h=>anh h
 | pick=>exact aB fun v H' h=>ang h
 | alloc a0 a1 a2=>exact G3 a0 a1 a2 xs lo H
 | box a0 a1=>exact Rm a0 a1 xs lo H
 | build a0 a1=>exact aB fun v H' h=>adZ h
 | buildSl a0 a1 a2 a3 a4=>exact CO a0 a1 a2 a3 a4 xs lo H
 | load a0=>exact aB fun v H' h=>anj h
 | store a0=>exact GZ a0 xs lo H
 | nilCheck=>exact aB fun v H' h=>GN h
 | bin a0=>exact aB fun v H' h=>apH h
 | eqBool a0=>exact aB fun v H' h=>QO h
 | eqFlat a0 a1=>exact aB fun v H' h=>QM h
 | eqNil a0 a1=>exact aB fun v H' h=>adY h
 | un a0=>exact aB fun v H' h=>asG h
 | conv a0=>exact aB fun v H' h=>ank h
 | iface a0=>exact aB fun v H' h=>adV h
 | mkfn a0 a1=>exact aB (r:=tQ a0 a1 xs lo H) fun v H' h=>ani (lo:=lo) h
 | mkmap=>exact G1 xs lo H
 | mksl a0 a1 a2 a3=>exact Oc a0 a1 a2 a3 xs lo H
 | slc a0 a1 a2 a3=>exact aB fun v H' h=>apD h
 | slcStr a0 a1=>exact aB fun v H' h=>QD h
 | slcArr a0 a1 a2 a3 a4 a5=>exact aB fun v H' h=>QE h
 | fieldAddr a0=>exact aB fun v H' h=>EB h
 | field a0 a1=>exact aB fun v H' h=>adX h
 | idxSl a0=>exact aB fun v H' h=>adW h
 | idxArrAddr a0 a1=>exact aB fun v H' h=>Ct h
 | idxArr a0 a1 a2=>exact aB fun v H' h=>QL h
 | idxStr=>exact aB fun v H' h=>QK h
 | lookup a0 a1 a2 a3=>exact aB fun v H' h=>QF h
 | mapUpd a0=>exact EX a0 xs lo H
 | mapEntry a0 a1 a2=>exact zO a0 a1 a2 xs lo H
 | entryStore=>exact ve xs lo H
 | delete a0=>exact EY a0 xs lo H
 | lenSl=>exact aB fun v H' h=>adU h
 | lenStr=>exact aB fun v H' h=>QH h
 | lenArr a0=>exact aB fun v H' h=>QJ h
 | lenMap=>exact aB fun v H' h=>QI h
 | cap=>exact aB fun v H' h=>apG h
 | append a0 a1 a2=>exact EZ a0 a1 a2 xs lo H
 | copy a0=>exact Od a0 xs lo H
 | min=>exact aB fun v H' h=>apE h
 | max=>exact aB fun v H' h=>apF h
 | clear a0=>exact G2 a0 xs lo H
 | appendZ a0 a1 a2 a3=>exact CP a0 a1 a2 a3 xs lo H
 | strOf=>exact aB fun v H' h=>adT h
 | rangeM=>exact EW xs lo H
 | nextM=>exact G0 xs lo H
 | entryM=>exact aB fun v H' h=>QP h
 | extract a0=>exact aB fun v H' h=>NU h
 | call=>rfl
end Go.Iso
noncomputable section
namespace Go.Iso
def rW(n:Nat)(k:Nat→Bool):Bool:=Nat.casesOn n (k 0) fun m=>k (Nat.succ m)
theorem rV(n:Nat)(k:Nat→Bool):rW n k=k n:=by cases n<;>rfl
def anq(n:Int)(k:Int→Bool):Bool:=
 match n with
 | .ofNat m=>rW m fun m=>k (.ofNat m)
 | .negSucc m=>rW m fun m=>k (.negSucc m)
theorem aec(n:Int)(k:Int→Bool):anq n k=k n:=by cases n<;>simp only[anq,rV]
def fL{α:Type}(l:List α):(List α→Bool)→Bool:=
 List.rec (fun k=>k []) (fun x _ ih k=>ih fun r=>k (x::r)) l
theorem EH{α:Type}(l:List α):∀k:List α→Bool,fL l k=k l:=by
 induction l with
 | nil=>intro k;rfl
 | cons x l ih=>intro k;exact ih _
def ID(b:Bool)(k:Bool→Bool):Bool:=match b with | true=>k true | false=>k false
theorem EI(b:Bool)(k:Bool→Bool):ID b k=k b:=by cases b<;>rfl
def fV(v:IV)(k:IV→Bool):Bool:=
 match v with
 | .bool b=>ID b fun b=>k (.bool b)
 | .int kd n=>anq n fun n=>k (.int kd n)
 | .str s=>fL s fun s=>k (.str s)
 | .ptr b o=>rW b fun b=>rW o fun o=>k (.ptr b o)
 | .nilPtr=>k .nilPtr
 | .slice b o n c ex=>rW b fun b=>rW o fun o=>rW n fun n=>rW c fun c=>ID ex fun ex=>k (.slice b o n c ex)
 | .nilSlice=>k .nilSlice
 | .map b=>rW b fun b=>k (.map b)
 | .nilMap=>k .nilMap
 | .fn f a c=>fL a fun a=>fL c fun c=>k (.fn f a c)
 | .yield b=>rW b fun b=>k (.yield b)
 | .nilFunc=>k .nilFunc
 | .iface t x=>k (.iface t x)
 | .nilIface=>k .nilIface
 | .agg l=>fL l fun l=>k (.agg l)
 | .tuple l=>fL l fun l=>k (.tuple l)
theorem IB(v:IV)(k:IV→Bool):fV v k=k v:=by cases v<;>simp only[fV,rV,aec,EH,EI]
def fO(o:IObj)(k:IObj→Bool):Bool:=
 match o with
 | .cells ro e ez cs=>ID ro fun ro=>fL cs fun cs=>k (.cells ro e ez cs)
 | .map es c=>fL es fun es=>rW c fun c=>k (.map es c)
 | o=>k o
theorem afW(o:IObj)(k:IObj→Bool):fO o k=k o:=by cases o<;>simp only[fO,rV,EH,EI]
def Q4(tm:List IV):Nat→(IV→Bool)→Bool:=
 List.rec (fun _ k=>k IV.undef) (fun x _ ih i k=>Nat.casesOn i (k x) fun j=>ih j k) tm
theorem vU(tm:List IV):∀(i:Nat) (k:IV→Bool),Q4 tm i k=k (tm.getD i IV.undef):=by
 induction tm with
 | nil=>intro i k;rfl
 | cons x l ih=>
   intro i k
   cases i with
   | zero=>rfl
   | succ i=>exact(ih i k).trans (by simp)
def apj(tm:List IV):Nat→IV→(List IV→Bool)→Bool:=
 List.rec (fun _ _ k=>k []) (fun x xs ih i v k=>Nat.casesOn i (k (v::xs)) fun j=>ih j v fun r=>k (x::r)) tm
theorem adm(tm:List IV):∀(i:Nat) (v:IV) (k:List IV→Bool),apj tm i v k=k (tm.set i v):=by
 induction tm with
 | nil=>intro i v k;rfl
 | cons x l ih=>
   intro i v k
   cases i with
   | zero=>rfl
   | succ i=>exact ih i v _
def tsL{α:Type}(ih:Tr α→Nat→α→(Tr α→Bool)→Bool)(j:Nat)(x:α)(k:Tr α→Bool):Bool:=
 rW (j / 2) fun h=>match Nat.beq (j%2) 0 with
  | true=>ih .leaf h x fun r=>k (.node none r .leaf)
  | false=>ih .leaf h x fun r=>k (.node none .leaf r)
def tsN{α:Type}(ih:Tr α→Nat→α→(Tr α→Bool)→Bool)(v:Option α)(l r:Tr α)(j:Nat)(x:α)(k:Tr α→Bool):Bool:=
 rW (j / 2) fun h=>match Nat.beq (j%2) 0 with
  | true=>ih l h x fun l'=>k (.node v l' r)
  | false=>ih r h x fun r'=>k (.node v l r')
def xu{α:Type}(f:Nat):Tr α→Nat→α→(Tr α→Bool)→Bool:=
 Nat.rec (fun t _ _ k=>k t) (fun _ ih t i x k=>
  Tr.casesOn t (Nat.casesOn i (k (.node (some x) .leaf .leaf)) fun j=>tsL ih j x k)
   (fun v l r=>Nat.casesOn i (k (.node (some x) l r)) fun j=>tsN ih v l r j x k)) f
theorem DC{α:Type}:∀(f:Nat) (t:Tr α) (i:Nat) (x:α) (k:Tr α→Bool),xu f t i x k=k (Tr.setF f t i x):=by
 intro f
 induction f with
 | zero=>intro t i x k;rfl
 | succ f ih=>
   intro t i x k
   cases t with
   | leaf=>
     cases i with
     | zero=>rfl
     | succ j=>
       have e:xu (f+1) Tr.leaf (j+1) x k=tsL (xu f) j x k:=rfl;rw[e];unfold tsL;rw[rV];by_cases h:j%2=0
       ·have hb:Nat.beq (j%2) 0=true:=by rw[h];rfl
        simp only[hb,Tr.setF,h,if_true];exact ih _ _ _ _
       ·have hb:Nat.beq (j%2) 0=false:=by
         have:j%2=1:=by omega
         rw[this];rfl
        simp only[hb,Tr.setF,h,if_false];exact ih _ _ _ _
   | node v l r=>
     cases i with
     | zero=>rfl
     | succ j=>
       have e:xu (f+1) (Tr.node v l r) (j+1) x k=tsN (xu f) v l r j x k:=rfl;rw[e];unfold tsN;rw[rV];by_cases h:j%2=0
       ·have hb:Nat.beq (j%2) 0=true:=by rw[h];rfl
        simp only[hb,Tr.setF,h,if_true];exact ih _ _ _ _
       ·have hb:Nat.beq (j%2) 0=false:=by
         have:j%2=1:=by omega
         rw[this];rfl
        simp only[hb,Tr.setF,h,if_false];exact ih _ _ _ _
def P7(H:Heap)(b:Nat)(o:IObj)(k:Heap→Bool):Bool:=
 match H with
 | ⟨n,t⟩=>fO o fun o=>xu (b+1) t b o fun t=>k ⟨n,t⟩
theorem Io(H:Heap)(b:Nat)(o:IObj)(k:Heap→Bool):P7 H b o k=k (H.put b o):=by
 cases H;simp only[P7,afW,DC];rfl
def Qq(H:Heap)(o:IObj)(k:Heap→Bool):Bool:=
 match H with
 | ⟨n,t⟩=>fO o fun o=>xu (n+1) t n o fun t=>k ⟨Nat.succ n,t⟩
theorem Is(H:Heap)(o:IObj)(k:Heap→Bool):Qq H o k=k (H.new o):=by
 cases H;simp only[Qq,afW,DC];rfl
def dS(H:Heap)(d:D)(k:Heap→Bool):Bool:=
 match d with
 | .same=>k H
 | .put b o=>P7 H b o k
 | .new o=>Qq H o k
 | .kill b o=>P7 H b .dead fun H=>Qq H o k
theorem apT(H:Heap)(d:D)(k:Heap→Bool):dS H d k=k (d.app H):=by
 cases d<;>simp only[dS,Io,Is]<;>rfl
def aS(g0:Nat)(tm:List IV)(a:IA)(k:IV→Bool):Bool:=
 match a with
 | .tmp t=>Q4 tm t k
 | .val v=>k v
 | .glob g=>match Nat.blt g g0 with | true=>k (.ptr g 0) | false=>false
def uZ{α:Type}(r:Option α)(k:α→Bool):Bool:=match r with | none=>false | some x=>k x
theorem RM(g0:Nat)(tm:List IV)(a:IA)(k:IV→Bool):aS g0 tm a k=uZ (a.eval g0 tm) k:=by
 cases a with
 | tmp t=>exact vU _ _ _
 | val v=>rfl
 | glob g=>
   simp only[aS,IA.eval,RD];by_cases h:g < g0<;>simp[h,uZ]
def asS(g0:Nat)(tm:List IV)(l:List IA):(List IV→Bool)→Bool:=
 List.rec (fun k=>k []) (fun a _ ih k=>aS g0 tm a fun v=>ih fun vs=>k (v::vs)) l
theorem anV(g0:Nat)(tm:List IV)(l:List IA):∀k:List IV→Bool,asS g0 tm l k=uZ (bj g0 tm l) k:=by
 induction l with
 | nil=>intro k;rfl
 | cons a l ih=>
   intro k
   show aS g0 tm a _=_
   rw[RM];simp only[bj]
   cases a.eval g0 tm with
   | none=>rfl
   | some v=>
     simp only[uZ];refine(ih _).trans ?_
     cases bj g0 tm l<;>rfl
def frS(fr:Fr)(dst:Option Nat)(v:IV)(k:Fr→Bool):Bool:=
 match fr with
 | ⟨tm,marks⟩=>match dst with
   | none=>k ⟨tm,marks⟩
   | some d=>apj tm d v fun tm=>k ⟨tm,marks⟩
theorem ano(fr:Fr)(dst:Option Nat)(v:IV)(k:Fr→Bool):frS fr dst v k=k (fr.put dst v):=by
 cases dst<;>simp only[frS,adm]<;>rfl
def OP(tm:List IV)(g:Option (Nat×Bool))(k:Bool→Bool):Bool:=
 match g with
 | none=>k true
 | some (t,want)=>Q4 tm t fun v=>match v with
   | .bool b=>match b,want with
     | true,true=>k true
     | false,false=>k true
     | _,_=>k false
   | _=>k false
theorem OO(tm:List IV)(g:Option (Nat×Bool))(k:Bool→Bool):OP tm g k=k (bK tm g):=by
 cases g with
 | none=>rfl
 | some p=>
   obtain⟨t,want⟩:=p;simp only[OP,vU,bK]
   cases tm.getD t IV.undef<;>first | rfl | skip
   rename_i b
   cases b<;>cases want<;>rfl
def adB(H:Heap)(tm:List IV)(r:Nat×Option (Option Nat))(k:IV→Bool):Bool:=
 match r with
 | (t,none)=>Q4 tm t k
 | (t,some n)=>Q4 tm t fun v=>match v with
   | .ptr b o=>uZ ((H.read b o (n.getD 1)).bind (aq n)) fun v=>fV v k
   | _=>false
theorem adA(H:Heap)(tm:List IV)(r:Nat×Option (Option Nat))(k:IV→Bool):adB H tm r k=uZ (gN H tm r) k:=by
 obtain⟨t,n⟩:=r
 cases n with
 | none=>exact vU _ _ _
 | some n=>
   simp only[adB,vU,gN]
   cases tm.getD t IV.undef<;>first | rfl | skip
   rename_i b o;simp only
   cases(H.read b o (n.getD 1)).bind (aq n)<;>simp[uZ,IB]
def PZ(H:Heap)(tm:List IV)(l:List (Nat×Option (Option Nat))):(List IV→Bool)→Bool:=
 List.rec (fun k=>k []) (fun r _ ih k=>adB H tm r fun v=>ih fun vs=>k (v::vs)) l
theorem DX(H:Heap)(tm:List IV)(l:List (Nat×Option (Option Nat))):∀k:List IV→Bool,PZ H tm l k=uZ (ax H tm l) k:=by
 induction l with
 | nil=>intro k;rfl
 | cons a l ih=>
   intro k
   show adB H tm a _=_
   rw[adA];simp only[ax]
   cases gN H tm a with
   | none=>rfl
   | some v=>
     simp only[uZ];refine(ih _).trans ?_
     cases ax H tm l<;>rfl
abbrev sN:=Task→Nat→Heap→(Out→Heap→Bool)→Bool
def af3(k:Out→Heap→Bool)(n:Fr→Heap→Bool):Out→Heap→Bool:=fun o H=>
 match o with
 | .val _=>k o H
 | .ex e fr=>match e with
   | .normal=>n fr H
   | .jmp _=>k o H
def aqW(id:Nat)(k:Out→Heap→Bool):Out→Heap→Bool:=fun o H=>
 match o with
 | .val _=>k o H
 | .ex e fr=>match e with
   | .normal=>k o H
   | .jmp j=>match j with
     | .ret=>k o H
     | .exit id'=>match Nat.beq id' id with
       | true=>k (.ex .normal fr) H
       | false=>k o H
def an4(k:IV→Heap→Bool):Out→Heap→Bool:=fun o H=>
 match o with
 | .val v=>k v H
 | .ex _ _=>false
def ExS(k:Ex→Fr→Heap→Bool):Out→Heap→Bool:=fun o H=>
 match o with
 | .val _=>false
 | .ex e fr=>k e fr H
def yj(k:Fr→Heap→Bool):Ex→Fr→Heap→Bool:=fun e fr H=>
 match e with
 | .normal=>k fr H
 | .jmp _=>false
def apW(rec:sN)(a b:IC)(rd:Option Nat)(fr:Fr)(lo:Nat)(H:Heap)(k:Out→Heap→Bool)(v:IV):Bool:=
 match v with
 | .bool x=>match x with
   | true=>rec (.code a rd fr) lo H k
   | false=>rec (.code b rd fr) lo H k
 | _=>false
def aps(l:Nat)(lo:Nat)(marks:List Nat)(fr:Fr)(k:Out→Heap→Bool)(_:IV)(H2:Heap):Bool:=
 match H2.get l with
 | some (.loop st pend tm ps asg body df)=>
   if st=.busy∨l < lo then false
   else P7 H2 l (.loop .exhausted pend tm ps asg body df) fun H3=>
    match pend with
    | none=>k (.ex .normal {fr with marks:=marks++fr.marks}) H3
    | some j=>k (.ex (.jmp j) {fr with marks:=marks++fr.marks}) H3
 | _=>false
def afO(rec:sN)(ps:List Nat)(asg body:IC)(fr:Fr)(lo:Nat)(k:Out→Heap→Bool)(rd:Option Nat)(H:Heap)(g:IV):Bool:=
 uZ (gY rd H) fun e=>match e with
  | (df,marks,H1)=>match H1 with
    | ⟨n,t⟩=>Qq ⟨n,t⟩ (.loop .ready none fr.tm ps asg body df) fun H2=>rec (.apply g [.yield n]) lo H2 (an4 (aps n lo marks fr k))
def AU(g0:Nat)(rec:sN)(c:IC)(rd:Option Nat)(fr:Fr)(lo:Nat)(H:Heap)(k:Out→Heap→Bool):Bool:=
 match c with
 | .skip=>k (.ex .normal fr) H
 | .exit id=>k (.ex (.jmp (.exit id)) fr) H
 | .ret=>k (.ex (.jmp .ret) fr) H
 | .ops l=>rec (.segs l rd fr) lo H k
 | .seq a b=>rec (.code a rd fr) lo H (af3 k fun fr' H'=>rec (.code b rd fr') lo H' k)
 | .cond c a b=>aS g0 fr.tm c (apW rec a b rd fr lo H k)
 | .block id c=>rec (.code c rd fr) lo H (aqW id k)
 | .loop c=>rec (.code c rd fr) lo H (af3 k fun fr' H'=>rec (.code (.loop c) rd fr') lo H' k)
 | .scope c=>rec (.code c rd fr) lo H k
 | .rfn f ps asg body=>aS g0 fr.tm f (afO rec ps asg body fr lo k rd H)
def Q6(s:Sg):Option ci:=match s with | .seq=>none | .free=>some []
def afN(rec:sN)(l:List (Sg×List IOp))(rd:Option Nat)(fr:Fr)(lo:Nat)(H:Heap)(k:Out→Heap→Bool):Bool:=
 match l with
 | []=>k (.ex .normal fr) H
 | x::l=>match x with
   | (s,os)=>rec (.ops (Q6 s) os rd fr) lo H (ExS (yj fun fr' H'=>rec (.segs l rd fr') lo H' k))
def afX(rec:sN)(xs:List IV)(lw:Nat)(H:Heap)(k:IV→Heap→Bool):Bool:=
 match xs with
 | []=>false
 | f::xs=>rec (.apply f xs) lw H (an4 k)
def opS(rec:sN)(kd:Kd)(xs:List IV)(lw:Nat)(H:Heap)(k:IV→Heap→Bool):Bool:=
 match kd.isCall with
 | true=>afX rec xs lw H k
 | false=>match jU kd xs lw H with
   | none=>false
   | some (v,d)=>fV v fun v=>dS H d fun H=>k v H
def ane(free:Option ci)(amb:Bool)(lo:Nat)(H:Heap):Nat:=
 match free with
 | none=>lo
 | some _=>match amb with | true=>lo | false=>H.n
def apw(g0:Nat)(rec:sN)(free:Option ci)(l:List IOp)(rd:Option Nat)(fr:Fr)(lo:Nat)(H:Heap)(k:Out→Heap→Bool):Bool:=
 match l with
 | []=>k (.ex .normal fr) H
 | o::l=>match o with
   | ⟨dst,kd,args,guard,amb,idx,mask⟩=>OP fr.tm guard fun w=>match w with
     | true=>asS g0 fr.tm args fun xs=>match aV free ⟨dst,kd,args,guard,amb,idx,mask⟩ xs with
       | none=>false
       | some free'=>opS rec kd xs (ane free amb lo H) H fun v H'=>frS fr dst v fun fr'=>rec (.ops free' l rd fr') lo H' k
     | false=>frS fr dst IV.undef fun fr'=>rec (.ops free l rd fr') lo H k
def OI(rec:sN)(l:Nat)(args:List IV)(lo:Nat)(H:Heap)(k:Out→Heap→Bool):Bool:=
 match H.get l with
 | some (.loop _ _ tm ps asg body _)=>
   if args.length=ps.length∧lo≤l then
    fL (eG tm ps args) fun tm=>rec (.code asg (some l) ⟨tm,[]⟩) lo H (ExS (yj fun fr H1=>uZ (iJ l H1) fun H2=>rec (.code body (some l) fr) lo H2 (ExS fun e _ H3=>uZ (zN l e H3) fun p=>k p.1 p.2)))
   else false
 | _=>false
def Hh(rec:sN)(f:IV)(args:List IV)(lo:Nat)(H:Heap)(k:Out→Heap→Bool):Bool:=
 match f with
 | .fn f first cap=>fL (first++args++cap) fun xs=>rec (.call f xs) lo H k
 | .yield l=>OI rec l args lo H k
 | _=>false
def yC(res:List (Nat×Option (Option Nat)))(lo:Nat)(fr:Fr)(H':Heap)(k:Out→Heap→Bool):Bool:=
 match fr with
 | ⟨tm,marks⟩=>match marks with
   | []=>PZ H' tm res fun vs=>fV (eV vs) fun v=>k (.val v) H'
   | marks=>uZ (bF lo marks H') fun H''=>PZ H'' tm res fun vs=>fV (eV vs) fun v=>k (.val v) H''
def asx(res:List (Nat×Option (Option Nat)))(lo:Nat)(k:Out→Heap→Bool):Ex→Fr→Heap→Bool:=fun e fr H=>
 match e with
 | .normal=>yC res lo fr H k
 | .jmp j=>match j with
   | .ret=>yC res lo fr H k
   | .exit _=>false
def fnS(rec:sN)(args:List IV)(lo:Nat)(H:Heap)(k:Out→Heap→Bool)(fn:IFn):Bool:=
 match fn with
 | ⟨ntmps,res,body⟩=>fL (args++ce (ntmps - args.length)) fun tm=>rec (.code body none ⟨tm,[]⟩) lo H (ExS (asx res lo k))
def Rw(E:Env)(rec:sN)(f:FuncId)(args:List IV)(lo:Nat)(H:Heap)(k:Out→Heap→Bool):Bool:=
 match E.sums f with
 | some s=>uZ (s args lo H) fun p=>k (.val p.1) p.2
 | none=>uZ (E.fns f) (fnS rec args lo H k)
def mC(E:Env)(rec:sN):sN:=fun t lo H k=>
 match t with
 | .code c rd fr=>AU E.g0 rec c rd fr lo H k
 | .segs l rd fr=>afN rec l rd fr lo H k
 | .ops free l rd fr=>apw E.g0 rec free l rd fr lo H k
 | .apply f args=>Hh rec f args lo H k
 | .call f args=>Rw E rec f args lo H k
def PR(E:Env)(n:Nat):sN:=Nat.rec (fun _ _ _ _=>false) (fun _ ih=>mC E ih) n
theorem Nd(E:Env)(n:Nat):PR E (n+1)=mC E (PR E n):=rfl
def RI(k:Out→Heap→Bool):Out×Heap→Bool:=fun p=>k p.1 p.2
theorem adR(free:Option ci)(o:IOp)(lo:Nat)(H:Heap):ane free o.amb lo H=dv free o lo H:=by
 unfold ane dv
 cases free with
 | none=>rfl
 | some f=>cases o.amb<;>rfl
theorem ady(E:Env):∀(n:Nat) (t:Task) (lo:Nat) (H:Heap) (k:Out→Heap→Bool),PR E n t lo H k=uZ (run E n t lo H) (RI k):=by
 intro n
 induction n with
 | zero=>intro t lo H k;rfl
 | succ n ih=>
   intro t lo H k;rw[Nd]
   cases t with
   | code c rd fr=>
     cases c with
     | skip=>rfl
     | exit id=>rfl
     | ret=>rfl
     | ops l=>exact ih _ _ _ _
     | scope c=>exact ih _ _ _ _
     | seq a b=>
       simp only[mC,AU,run,ih]
       cases run E n (.code a rd fr) lo H with
       | none=>rfl
       | some p=>
         obtain⟨o,H1⟩:=p
         cases o with
         | val v=>rfl
         | ex e fr=>cases e<;>rfl
     | cond c a b=>
       simp only[mC,AU,run,RM]
       cases c.eval E.g0 fr.tm with
       | none=>rfl
       | some v=>cases v<;>first | rfl | (rename_i b;cases b<;>exact ih _ _ _ _)
     | block id c=>
       simp only[mC,AU,run,ih]
       cases run E n (.code c rd fr) lo H with
       | none=>rfl
       | some p=>
         obtain⟨o,H1⟩:=p
         cases o with
         | val v=>rfl
         | ex e fr=>cases e with
           | normal=>rfl
           | jmp j=>cases j with
             | ret=>rfl
             | exit id'=>
               simp only[uZ,RI,aqW];by_cases h:id'=id
               ·subst h;simp
               ·have:Nat.beq id' id=false:=by
                 cases hb:Nat.beq id' id with
                 | false=>rfl
                 | true=>exact absurd (Nat.eq_of_beq_eq_true hb) h
                simp[this,h]
     | loop c=>
       simp only[mC,AU,run,ih]
       cases run E n (.code c rd fr) lo H with
       | none=>rfl
       | some p=>
         obtain⟨o,H1⟩:=p
         cases o with
         | val v=>rfl
         | ex e fr=>cases e<;>rfl
     | rfn f ps asg body=>
       simp only[mC,AU,run,RM]
       cases f.eval E.g0 fr.tm with
       | none=>rfl
       | some g=>
         simp only[uZ,afO]
         cases gY rd H with
         | none=>rfl
         | some e=>
           obtain⟨df,marks,H1⟩:=e;simp only[uZ,Is,ih]
           cases run E n (.apply g [.yield H1.n]) lo (H1.new (.loop .ready none fr.tm ps asg body df)) with
           | none=>rfl
           | some p=>
             obtain⟨o,H2⟩:=p
             cases o with
             | ex e fr=>rfl
             | val v=>
               simp only[uZ,RI,an4,aps]
               cases H2.get H1.n with
               | none=>rfl
               | some ob=>cases ob with
                 | loop st pend tm ps asg body df=>
                   simp only[Io];split
                   ·rfl
                   ·cases pend<;>rfl
                 | _=>rfl
   | segs l rd fr=>
     cases l with
     | nil=>rfl
     | cons x l=>
       obtain⟨s,os⟩:=x;simp only[mC,afN,run,ih,Q6]
       cases run E n (.ops (match s with | .seq=>none | .free=>some []) os rd fr) lo H with
       | none=>rfl
       | some p=>
         obtain⟨o,H1⟩:=p
         cases o with
         | val v=>rfl
         | ex e fr=>cases e<;>rfl
   | ops free l rd fr=>
     cases l with
     | nil=>rfl
     | cons o l=>
       obtain⟨dst,kd,args,guard,amb,idx,mask⟩:=o;simp only[mC,apw,run,OO,ano,ih,anV]
       cases bK fr.tm guard with
       | false=>rfl
       | true=>
         simp only[if_true]
         cases bj E.g0 fr.tm args with
         | none=>rfl
         | some xs=>
           simp only[uZ]
           cases aV free ⟨dst,kd,args,guard,amb,idx,mask⟩ xs with
           | none=>rfl
           | some free'=>
             simp only
             have hl:=adR free ⟨dst,kd,args,guard,amb,idx,mask⟩ lo H;simp only at hl;rw[hl];generalize dv free ⟨dst,kd,args,guard,amb,idx,mask⟩ lo H=lw
             cases kd with
             | call=>
               simp only[opS,Kd.isCall,afX]
               cases xs with
               | nil=>rfl
               | cons f xs=>
                 simp only[ih]
                 cases run E n (.apply f xs) lw H with
                 | none=>rfl
                 | some p=>
                   obtain⟨o,H1⟩:=p
                   cases o<;>rfl
             | _=>
               simp only[opS,Kd.isCall,←CE]
               cases jU _ xs lw H with
               | none=>rfl
               | some p=>
                 obtain⟨v,d⟩:=p;simp only[IB,apT];rfl
   | apply f args=>
     cases f with
     | fn f first cap=>
       simp only[mC,Hh,run,EH];exact ih _ _ _ _
     | yield l=>
       simp only[mC,Hh,run,OI]
       cases H.get l with
       | none=>rfl
       | some ob=>cases ob with
         | loop st pend tm ps asg body df=>
           simp only[EH,ih];split
           ·cases run E n (.code asg (some l) ⟨eG tm ps args,[]⟩) lo H with
            | none=>rfl
            | some p=>
              obtain⟨o,H1⟩:=p
              cases o with
              | val v=>rfl
              | ex e fr=>cases e with
                | jmp j=>rfl
                | normal=>
                  simp only[uZ,RI,ExS,yj]
                  cases iJ l H1 with
                  | none=>rfl
                  | some H2=>
                    simp only
                    cases run E n (.code body (some l) fr) lo H2 with
                    | none=>rfl
                    | some p=>
                      obtain⟨o,H3⟩:=p
                      cases o<;>rfl
           ·rfl
         | _=>rfl
     | _=>rfl
   | call f args=>
     simp only[mC,Rw,run]
     cases E.sums f with
     | some s=>
       simp only
       cases s args lo H with
       | none=>rfl
       | some p=>rfl
     | none=>
       simp only
       cases E.fns f with
       | none=>rfl
       | some fn=>
         obtain⟨nt,res,body⟩:=fn;simp only[uZ,fnS,EH,ih]
         cases run E n (.code body none ⟨args++ce (nt - args.length),[]⟩) lo H with
         | none=>rfl
         | some p=>
           obtain⟨o,H1⟩:=p
           cases o with
           | val v=>rfl
           | ex e fr=>
             have key:yC res lo fr H1 k=uZ (match bF lo fr.marks H1 with | none=>none | some H''=>(ax H'' fr.tm res).map fun vs=>(Out.val (eV vs),H'')) (RI k):=by
              obtain⟨tm,marks⟩:=fr
              cases marks with
              | nil=>
                simp only[yC,DX,IB,bF]
                cases ax H1 tm res<;>rfl
              | cons m ms=>
                simp only[yC,DX,IB]
                cases bF lo (m::ms) H1 with
                | none=>rfl
                | some H2=>simp only[uZ];cases ax H2 tm res<;>rfl
             cases e with
             | normal=>exact key
             | jmp j=>cases j with
               | ret=>exact key
               | exit id=>rfl
theorem DS{E:Env}{n:Nat}{t:Task}{lo:Nat}{H:Heap}{k:Out→Heap→Bool}(h:PR E n t lo H k=true):∃o H',run E n t lo H=some (o,H')∧k o H'=true:=by
 rw[ady] at h
 cases hr:run E n t lo H with
 | none=>rw[hr] at h;cases h
 | some p=>rw[hr] at h;exact⟨p.1,p.2,rfl,h⟩
end Go.Iso
end
