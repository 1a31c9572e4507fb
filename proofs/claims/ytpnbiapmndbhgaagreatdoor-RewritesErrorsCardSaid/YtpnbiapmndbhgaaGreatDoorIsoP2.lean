/-
  further operations of the evaluator stand for those of the model.
-/
import Derived.Test.YtpnbiapmndbhgaaGreatDoorIsoP1
import Derived.Deep.Upon
import Derived.Laws.BytesString
import Derived.Laws.StructEq
set_option linter.unusedSimpArgs false
set_option linter.unusedVariables false
namespace Go.Iso
section
variable {P:Program}{g0 lo:Nat}{μ:Mu}{H:Heap}{w:World}{ρ:Operand→Value}{type:TypeId}{pos:String}{dst:Option Tmp}{after:Array Edge}{guard:Option (Nat×Bool)}
 {xs:List IV} {v:IV} {H':Heap}
theorem Sa(h:Rel P g0 μ H.get H.n w){e n:Nat}{x:Operand}(he:ev1 (.box e n) xs lo H=some (v,H'))(hx:VRs μ xs [ρ x]):
  Gives P g0 lo μ H w (execOp ρ ⟨dst,.box e x,type,pos,after,guard⟩) v H':=by
 simp only[ev1] at he;split at he
 ·injection he with he;injection he with e1 e2;subst e1 e2;obtain⟨y,hy,hv⟩:=aO hx;injection hy with hy;subst hy;obtain⟨μ',hle,hn,hr,hp⟩:=oQ (lo:=lo) (e:=e) (ez:=n) h hv.cells_ (w':={w with heap:=w.heap.push (.cells (ρ x).cells e (0,0))}) rfl rfl rfl rfl;exact⟨_,_,_,μ',by simp[execOp,Instr.box,newVar,newRow,newObj,Sem.run]<;>rfl,.inl rfl,hr,hp,E7 hn⟩
 ·cases he
theorem gX(zs:List IV):∀n:Nat,(iU n zs).length=n*zs.length
 | 0=>by simp[iU]
 | n+1=>by simp[iU,gX zs n,Nat.succ_mul];omega
theorem E4(zs:List IV):∀(n i:Nat),i < n*zs.length→(iU n zs)[i]? =zs[i%zs.length]?
 | 0,i,h=>by simp at h
 | n+1,i,h=>by
   simp only[iU];by_cases hi:i < zs.length
   ·rw[List.getElem?_append_left hi,Nat.mod_eq_of_lt hi]
   ·rw[List.getElem?_append_right (by omega),E4 zs n (i - zs.length) (by rw[Nat.succ_mul] at h;omega)];congr 1;rw[←Nat.mod_eq_sub_mod (by omega)]
theorem qp{zs:List IV}{z:Array Value}(hz:VRs μ zs z.toList)(c:Nat):VRs μ (iU c zs) (madeCells z (c*z.size)).toList:=by
 have hl:zs.length=z.size:=by simpa using hz.length
 refine wL (by rw[gX,hl];simp[madeCells]) fun i x y hx hy=>?_
 have hi:i < c*zs.length:=by
  have:=(List.getElem?_eq_some_iff.1 hx).1
  rw[gX] at this;exact this
 rw[E4 zs c i hi] at hx;obtain⟨u,hu,hv⟩:=hz.get hx
 have hm:i%z.size < z.size:=Nat.mod_lt _ (by
  rcases Nat.eq_zero_or_pos z.size with h0 | h0
  ·rw[hl,h0] at hi;omega
  ·exact h0)
 have:(madeCells z (c*z.size)).toList[i]? =some u:=by
  have hi':i < c*z.size:=by rw[←hl];exact hi
  simp[madeCells,hi',List.getElem?_range];rw[hl] at hu;have hu':z[i%z.size]? =some u:=by simpa using hu
  rw[getElem!_pos z _ hm];rw[Array.getElem?_eq_getElem hm] at hu';injection hu'
 rw[this] at hy;injection hy with hy;subst hy;exact hv
theorem jE{e:TypeId}{z:Nat×List IV}(h:gF P e=some z):∃(i:TypeInfo) (zv:Value),P.info? e=some i∧i.size=z.1∧i.zero=some zv∧zv.cells.size=z.1∧(∀μ:Mu,VRs μ z.2 zv.cells.toList):=by
 unfold gF at h
 cases hs:aJ P e with
 | none=>simp[hs] at h
 | some n=>
   cases hz:fk P e with
   | none=>simp[hs,hz] at h
   | some x=>
     simp[hs,hz] at h;obtain⟨hl,rfl⟩:=h;obtain⟨i,hi,hn⟩:=vp hs;obtain⟨i',zv,hi',hzv,hv⟩:=gU hz;rw[hi] at hi';injection hi' with hi';subst hi';refine⟨i,zv,hi,hn,hzv,?_,fun μ=>(hv μ).cells_⟩
     have:=((hv (fun _=>.no)).cells_).length
     simp at this
     omega
theorem xu{μ':Mu}{c ez z n len cap:Nat}(h:μ' n=.at c 0 ez z)(hl:len≤cap)(hc:cap < 2^63):VR μ' (.slice n 0 len cap true) (.slice (some ⟨c,0,none⟩) len cap):=
 ⟨_,_,rfl,⟨hl,Nat.le_refl _,hc,fun _=>rfl⟩,by unfold SlR;rw[h];exact⟨.inr rfl,fun e=>by cases e⟩⟩
theorem sx{μ':Mu}{c ez z n len cap:Nat}(h:μ' n=.at c 0 ez z)(hl:len≤cap)(hc:cap < 2^63)(hz:cap*ez≤z):VR μ' (.slice n 0 len len false) (.slice (some ⟨c,0,none⟩) len cap):=
 ⟨_,_,rfl,⟨Nat.le_refl _,hl,hc,fun e=>by cases e⟩,by unfold SlR;rw[h];exact⟨.inr rfl,fun _ _=>by simpa using hz⟩⟩
theorem Gd(h:Rel P g0 μ H.get H.n w){t e:TypeId}{len:Nat}{ps:Array (Nat×Operand)}{z:Nat×List IV}{offs:List (Nat×Nat)}(hu:P.underlying t=some (.slice e))(hz:gF P e=some z)
  (ho:pE (fun i=>some (i*z.1,z.1)) ps=some offs) (hlen:len*z.1≤2^24) (hlen2:len < 2^40)
  (he:ev1 (.buildSl e z.1 len (iU len z.2) offs) xs lo H=some (v,H')) (hx:VRs μ xs ((Op.buildSlice t len ps).operands.toList.map ρ)):
  Gives P g0 lo μ H w (execOp ρ ⟨dst,.buildSlice t len ps,type,pos,after,guard⟩) v H':=by
 have hops:(Op.buildSlice t len ps).operands.toList.map ρ=ps.toList.map fun p=>ρ p.2:=by simp[Op.operands]
 rw[hops] at hx;simp only[ev1] at he
 cases hf:bD offs xs (iU len z.2) with
 | none=>rw[hf] at he;cases he
 | some cs=>
   rw[hf] at he;injection he with he;injection he with e1 e2;subst e1 e2;obtain⟨i,zv,hi,hsz,hzv,hzs,hvr⟩:=jE hz;have hrep:=qp (hvr μ) len;rw[hzs] at hrep;obtain⟨r',hr',hv⟩:=ny (ρ:=ρ) (μ:=μ) (fun i=>some (i*z.1,z.1)) ps.toList offs xs (iU len z.2) cs _ ho hx hrep hf;obtain⟨μ',hle,hn,hr,hp⟩:=oQ (lo:=lo) (e:=e) (ez:=z.1) h hv (w':={w with heap:=w.heap.push (.cells r' e (0,0))}) rfl rfl rfl rfl;refine⟨_,_,_,μ',?_,.inl rfl,hr,hp,xu (cap:=len) hn (Nat.le_refl _) (by omega)⟩;have hn16:¬(16777216 < len*z.1):=by omega
   simp only[execOp,Instr.buildSlice];by_cases h0:len*z.1=0
   ·have hmc:madeCells zv.cells (len*z.1)=#[]:=by rw[h0];simp[madeCells]
    rw[hmc] at hr';simp[run_underlying hu,sizeOf,typeInfo,hi,hsz,h0,Array.range_zero',hr',newRow,newObj,Sem.run]
   ·unfold madeCells at hr';simp[run_underlying hu,sizeOf,typeInfo,hi,hsz,h0,hn16,zeroValue,hzv,hr',newRow,newObj,Sem.run]
theorem MJ(h:Rel P g0 μ H.get H.n w){t k e:TypeId}{r:Option Operand}(hu:P.underlying t=some (.map k e))(he:ev1 .mkmap xs lo H=some (v,H'))(hx:VRs μ xs ((Op.makeMap t r).operands.toList.map ρ)):
  Gives P g0 lo μ H w (execOp ρ ⟨dst,.makeMap t r,type,pos,after,guard⟩) v H':=by
 have key:∃μ':Mu,μ' H.n=.at w.heap.size 0 0 0∧Rel P g0 μ' (H.new (.map [] 0)).get (H.new (.map [] 0)).n {w with heap:=w.heap.push (.map #[] 0)}∧
   Post lo μ H.get H.n w μ' (H.new (.map [] 0)).get (H.new (.map [] 0)).n {w with heap:=w.heap.push (.map #[] 0)}:=by
  obtain⟨a,b⟩:=h.alloc (lo:=lo) (o:=.map [] 0) (ez:=0) (z:=0) (w':={w with heap:=w.heap.push (.map #[] 0)}) rfl ⟨rfl,#[],rfl,rfl⟩ rfl rfl rfl;exact⟨_,av _ _ _,a,b⟩
 obtain⟨μ',hn,hr,hp⟩:=key;have hv:VR μ' (.map H.n) (.map (some w.heap.size)):=⟨_,rfl,by unfold LocR;rw[hn]⟩;simp only[ev1] at he;split at he
 ·injection he with he;injection he with e1 e2;subst e1 e2
  cases r with
  | none=>exact⟨_,_,_,μ',by simp[execOp,Instr.makeMap,newObj,Sem.run]<;>rfl,.inl rfl,hr,hp,hv⟩
  | some x=>simp[Op.operands,VRs] at hx
 ·injection he with he;injection he with e1 e2;subst e1 e2
  cases r with
  | none=>simp[Op.operands,VRs] at hx
  | some x=>
    obtain⟨y,hy,hvy⟩:=aO hx;simp[Op.operands] at hy;have hvx:=dZ hvy;rw[←hy] at hvx;exact⟨_,_,_,μ',by simp[execOp,Instr.makeMap,run_underlying hu,hvx,asInt,asIntOf,newObj,Sem.run]<;>rfl,.inl rfl,hr,hp,hv⟩
 ·cases he
theorem Qd(h:Rel P g0 μ H.get H.n w){t e:TypeId}{l c:Operand}{z:Nat×List IV}{bytes:Nat}(hu:P.underlying t=some (.slice e))(hz:gF P e=some z)(hb:hZ P e=some bytes)
  (he:ev1 (.mksl e z.1 bytes z.2) xs lo H=some (v,H')) (hx:VRs μ xs [ρ l,ρ c]):
  Gives P g0 lo μ H w (execOp ρ ⟨dst,.makeSlice t l c,type,pos,after,guard⟩) v H':=by
 simp only[ev1] at he;split at he
 ·rename_i k1 len k2 cap;split at he
  ·rename_i hc;obtain⟨h0,hlc,hbound⟩:=hc;injection he with he;injection he with e1 e2;subst e1 e2;obtain⟨y1,y2,hy,h1,h2⟩:=ba hx;simp only[List.cons.injEq,and_true] at hy;obtain⟨rfl,rfl⟩:=hy;obtain⟨i,zv,hi,hsz,hzv,hzs,hvr⟩:=jE hz;obtain⟨i',hi',hbt⟩:=nU hb;rw[hi] at hi';injection hi' with hi';subst hi';have hcn:0≤cap:=by omega
   have hprod:(0:Int)≤cap*bytes:=Int.mul_nonneg hcn (by omega);have hexp:cap*((bytes:Int)+1)=cap*bytes+cap:=by rw[Int.mul_add,Int.mul_one]
   have hbytes:(i.bytes:Int)*cap≤281474976710656:=by rw[hbt,Int.mul_comm];omega
   have hrun:=run_make (P:=P) w t e i zv hu hi hzv k1 k2 len cap h0 hlc hbytes (by omega);have hrep:=qp (hvr μ) cap.toNat;rw[hzs,←hsz] at hrep;obtain⟨μ',hle,hn,hr,hp⟩:=oQ (lo:=lo) (e:=e) (ez:=z.1) h hrep (w':=w.alloc (.cells (madeCells zv.cells (cap.toNat*i.size)) e)) rfl rfl rfl rfl;refine⟨_,_,_,μ',?_,.inl rfl,hr,hp,xu (len:=len.toNat) (cap:=cap.toNat) hn (by omega) (by omega)⟩;simp only[execOp,dZ h1,dZ h2];simp[hrun]
  ·cases he
 ·cases he
theorem lR(h:Rel P g0 μ H.get H.n w){b o n:Nat}{cs:List IV}(hr:H.read b o n=some cs){a:Addr}(hl:LocR μ b o a):
  ∃cs':List Value,cs'.length=n∧VRs μ cs cs'∧∀(j:Nat) (v:Value),cs'[j]? =some v→w.cell? (a.add j)=some v:=by
 unfold Heap.read at hr
 cases hg:H.get b with
 | none=>rw[hg] at hr;cases hr
 | some ob=>
   rw[hg] at hr
   cases ob with
   | cells ro e ez all=>
     simp only at hr;split at hr
     ·rename_i hlen;injection hr with hr;subst hr;unfold LocR at hl
      cases hb:μ b with
      | no=>rw[hb] at hl;exact hl.elim
      | dead=>have:=h.ded b hb;rw[hg] at this;cases this
      | «at» c p ez' z=>
        rw[hb] at hl;simp only at hl;subst hl;obtain⟨ob',hob',hor⟩:=h.obj b c p ez' z hb;rw[hg] at hob';injection hob' with hob';subst hob'
        have key:∃(q:Array Value) (e':TypeId) (fz:Nat×Nat),w.heap[c]? =some (.cells q e' fz)∧p+all.length≤q.size∧VRs μ all ((q.toList.drop p).take all.length):=by
         cases ro
         ·obtain⟨hp,_,q,hq,hz,hle,hv⟩:=hor;subst hp;exact⟨q,_,_,hq,by omega,by simpa using hv⟩
         ·obtain⟨_,q,e',fz,hq,hle,hv⟩:=hor;exact⟨q,e',fz,hq,hle,hv⟩
        obtain⟨q,e',fz,hq,hle,hv⟩:=key;refine⟨(((q.toList.drop p).take all.length).drop o).take n,?_,(hv.drop o).take n,fun j u hu=>?_⟩
        ·simp;omega
        ·have hj:j < n:=by
          have:=(List.getElem?_eq_some_iff.1 hu).1
          simp at this;omega
         rw[ur]
         have hu':q[p+o+j]? =some u:=by
          rw[List.getElem?_take_of_lt hj,List.getElem?_drop,List.getElem?_take_of_lt (by omega),List.getElem?_drop] at hu;rw[←hu];simp[Nat.add_assoc]
         simp[World.cell?,hq,hu']
     ·cases hr
   | _=>simp at hr
theorem Qf(h:Rel P g0 μ H.get H.n w){t:TypeId}{x:Operand}{n:Option Nat}(ha:pO P t=some n)(he:ev1 (.load n) xs lo H=some (v,H'))(hx:VRs μ xs [ρ x]):
  Gives P g0 lo μ H w (execOp ρ ⟨dst,.load t x,type,pos,after,guard⟩) v H':=by
 simp only[ev1] at he;split at he
 ·rename_i b o
  cases hr:H.read b o (n.getD 1) with
  | none=>rw[hr] at he;cases he
  | some cs=>
    rw[hr] at he;simp only[Option.bind_some] at he
    cases hm:ak n cs with
    | none=>rw[hm] at he;cases he
    | some r=>
      rw[hm] at he;injection he with he;injection he with e1 e2;subst e1 e2;obtain⟨y,hy,a,hval,hl⟩:=aO hx;injection hy with hy;subst hy;obtain⟨cs',hlen,hv,hc⟩:=lR h hr hl;rcases sj ha with⟨rfl,hagg⟩ | ⟨k,rfl,hs,hagg⟩
      ·match cs,hm with
       | [r1],hm=>
         injection hm with hm;subst hm;obtain⟨u,rfl,hu⟩:=aO hv;have h0:=hc 0 u rfl;have ha0:a.add 0=a:=by simp[Addr.add]
         rw[ha0] at h0;exact Gives.pure h (v':=u) (by simp[execOp,Instr.loadAt,Instr.sureAddr,hval,loadVar,hagg,load,Sem.run,h0]) hu
      ·injection hm with hm;subst hm;have hlc:=run_loadCells_list (P:=P) w a cs' hc;rw[hlen] at hlc;simp only[Option.getD_some] at hlc;exact Gives.pure h (v':=.agg cs'.toArray) (by simp[execOp,Instr.loadAt,Instr.sureAddr,hval,loadVar,hagg,aP hs,hlc]) ⟨_,rfl,by simpa using hv⟩
 ·cases he
theorem jQ(h:Rel P g0 μ H.get H.n w){b o:Nat}{vs:List IV}{vs':List Value}(hw:H.write lo b o vs=some H'){a:Addr}(hl:LocR μ b o a)(hv:VRs μ vs vs'):
  ∃w':World,(storeCells a vs').run P w=.ok () w'∧Rel P g0 μ H'.get H'.n w'∧Post lo μ H.get H.n w μ H'.get H'.n w':=by
 unfold Heap.write at hw
 cases hg:H.get b with
 | none=>rw[hg] at hw;cases hw
 | some ob=>
   rw[hg] at hw
   cases ob with
   | cells ro e ez all=>
     cases ro
     ·simp only at hw;split at hw
      ·rename_i hlen;obtain⟨hlo,hlen,hone⟩:=hlen;injection hw with hw;subst hw;unfold LocR at hl
       cases hb:μ b with
       | no=>rw[hb] at hl;exact hl.elim
       | dead=>have:=h.ded b hb;rw[hg] at this;cases this
       | «at» c p ez' z=>
         rw[hb] at hl;simp only at hl;subst hl;obtain⟨ob',hob',hor⟩:=h.obj b c p ez' z hb;rw[hg] at hob';injection hob' with hob';subst hob';obtain⟨hp,hez,q,hq,hz,hle,hvr⟩:=hor;subst hp;have hvl:vs.length=vs'.length:=hv.length;have hst:=run_storeCells_at P c (0+o) e vs' 0 q w hq (by omega) (hv.one_cells hone);simp only[Nat.zero_add,Nat.add_zero] at hst;refine⟨_,by rw[Nat.zero_add];exact hst,?_⟩;refine h.update (o:=.cells false e ez (ar all o vs)) hb hlo ⟨_,hg,rfl⟩ (setRow_size _ _ _) (fun c' hc'=>setRow_other w c c' _ hc') ?_ rfl rfl rfl;rw[setRow_heap w c q _ e (0,0) hq];refine⟨rfl,hez,_,rfl,?_,?_,?_⟩
         ·simp;omega
         ·rw[pi _ _ _ hlen];exact hle
         ·rw[pi _ _ _ hlen,bM _ _ _ hlen]
          have e1:(List.take o q.toList++vs'++List.drop (o+vs'.length) q.toList).toArray.toList.take all.length=
            (q.toList.take all.length).take o++vs'++(q.toList.take all.length).drop (o+vs'.length):=by
           apply List.ext_getElem?;intro j;have hq':q.toList.length=z:=by simpa using hz
           by_cases hj:j < all.length
           ·rw[List.getElem?_take_of_lt hj];simp only[List.append_assoc];by_cases h1:j < o
            ·rw[List.getElem?_append_left (by simp;omega),List.getElem?_append_left (by simp;omega),List.getElem?_take_of_lt h1,List.getElem?_take_of_lt h1,List.getElem?_take_of_lt hj]
            ·by_cases h2:j < o+vs'.length
             ·rw[List.getElem?_append_right (by simp;omega),List.getElem?_append_left (by simp;omega),List.getElem?_append_right (by simp;omega),List.getElem?_append_left (by simp;omega)];congr 1;simp;omega
             ·rw[List.getElem?_append_right (by simp;omega),List.getElem?_append_right (by simp;omega),List.getElem?_append_right (by simp;omega),List.getElem?_append_right (by simp;omega)];rw[List.getElem?_drop,List.getElem?_drop,List.getElem?_take_of_lt (by simp;omega)];congr 1;simp;omega
           ·rw[List.getElem?_eq_none (by simp;omega),List.getElem?_eq_none (by simp;omega)]
          rw[e1,←hvl];exact((hvr.take o).append hv).append (hvr.drop _)
      ·cases hw
     ·simp at hw
   | _=>simp at hw
theorem MG(h:Rel P g0 μ H.get H.n w){t:TypeId}{x y:Operand}{n:Nat}(hs:aJ P t=some n)(he:ev1 (.store n) xs lo H=some (v,H'))(hx:VRs μ xs [ρ x,ρ y]):
  Gives P g0 lo μ H w (execOp ρ ⟨dst,.store t x y,type,pos,after,guard⟩) v H':=by
 simp only[ev1] at he;split at he
 ·rename_i b o u;split at he
  ·rename_i hl
   cases hw:H.write lo b o u.cells with
   | none=>rw[hw] at he;cases he
   | some H1=>
     rw[hw] at he;injection he with he;injection he with e1 e2;subst e1 e2;obtain⟨y1,y2,hy,⟨a,hval,hloc⟩,h2⟩:=ba hx;simp only[List.cons.injEq,and_true] at hy;obtain⟨rfl,rfl⟩:=hy;obtain⟨w',hrun,hr,hp⟩:=jQ h hw hloc h2.cells_;have hsz:(ρ y).cells.size=n:=by have:=h2.cells_.length;simp at this;omega
     exact⟨.skip,undef,w',μ,by simp[execOp,Instr.storeAt,Instr.sureAddr,hval,storeVar,aP hs,hsz,hrun],.inr ⟨rfl,rfl⟩,hr,hp,⟨#[],rfl,rfl⟩⟩
  ·cases he
 ·cases he
end
section
variable {P:Program}{g0 lo:Nat}{μ:Mu}{H:Heap}{w:World}{ρ:Operand→Value}{type:TypeId}{pos:String}{dst:Option Tmp}{after:Array Edge}{guard:Option (Nat×Bool)}
 {xs:List IV} {v:IV} {H':Heap}
theorem AY{α:Type}{l:List α}{n:Nat}(h:l.length=n):l.take n=l:=List.take_of_length_le (by omega)
theorem j9(h:Rel P g0 μ H.get H.n w){size n:Nat}{b o len lb:Nat}{ex:Bool}{y:Value}{cs:List IV}(hs:eq H size n (.slice b o len lb ex)=some cs)(hv:VR μ (.slice b o len lb ex) y)(hn:n≤len):
  ∃cs':List Value,cs'.length=n*size∧VRs μ cs cs'∧∀w':World,w'.heap=w.heap→(Builtin.firstCells size n y).run P w'=.ok cs'.toArray w':=by
 obtain⟨a,cap,rfl,⟨c1,c2,c3,c4⟩,hsl⟩:=hv;simp only[eq] at hs;split at hs
 ·rename_i h0;injection hs with hs;subst hs h0;refine⟨[],by simp,rfl,fun w' _=>?_⟩;exact run_firstCells_some w' size 0 a len cap [] (by simp) (fun j v h=>by simp at h)
 ·rename_i h0;obtain⟨cs',hlen,hv,hc⟩:=lR h hs (hsl.loc (by omega));refine⟨cs',hlen,hv,fun w' hw'=>run_firstCells_some w' size n a len cap cs' hlen fun j u hu=>?_⟩
  have:=hc j u hu
  unfold World.cell? at this⊢;rw[hw'];exact this
theorem nT:∀s:List UInt8,VRs μ (s.map fun c=>IV.int .u8 c.toNat) (s.map fun c=>Value.int .u8 c.toNat)
 | []=>rfl
 | _::s=>⟨_,_,rfl,rfl,nT s⟩
theorem F4(h:Rel P g0 μ H.get H.n w){size n:Nat}{x:IV}{y:Value}{cs:List IV}{tx:TypeId}(hk:(∃e',P.underlying tx=some (.slice e'))∨P.underlying tx=some .string)
  (hl:i4 x=some n) (hs:eq H size n x=some cs) (hv:VR μ x y) (hone:cs.all IV.one=true):∃cs':List Value,VRs μ cs cs'∧Src P size tx y n cs' w:=by
 cases x with
 | nilSlice=>
   injection hl with hl;subst hl;simp[eq] at hs;subst hs;have hv:y=.slice none 0 0:=hv;subst hv;exact⟨[],rfl,hk,fun _=>rfl,run_firstCells_none w size 0 0 0,run_firstCells_none w.drew size 0 0 0,by simp,fun _ h=>by cases h⟩
 | slice b o len lb ex=>
   injection hl with hl;subst hl;obtain⟨cs',hlen,hvs,hrun⟩:=j9 h hs hv (Nat.le_refl _);obtain⟨a,cap,rfl,_⟩:=hv;exact⟨cs',hvs,hk,fun _=>rfl,hrun w rfl,hrun w.drew rfl,hlen,hvs.one_cells hone⟩
 | str s=>
   injection hl with hl;subst hl;simp only[eq] at hs;split at hs
   ·rename_i h1;obtain⟨_,rfl⟩:=h1;injection hs with hs;have hv:y=.string ⟨⟨s⟩⟩:=hv;subst hv;have hsz:(ByteArray.mk ⟨s⟩).size=s.length:=rfl
    have hcs:VRs μ cs (byteCells ⟨⟨s⟩⟩):=by
     rw[←hs,List.take_of_length_le (Nat.le_refl _)];exact nT s
    refine⟨byteCells ⟨⟨s⟩⟩,hcs,hk,fun _=>rfl,firstCells_string _ w,firstCells_string _ w.drew,by rw[byteCells_length,Nat.mul_one];rfl,fun u hu=>?_⟩
    obtain⟨_,_,rfl⟩:=List.mem_map.1 hu;rfl
   ·cases hs
 | _=>simp[i4] at hl
theorem qv{need cap bytes:Nat}(h:cap < need)(hb:need*(bytes+1)≤2^40):Builtin.nextslicecap need cap*bytes≤281474976710656:=by
 have h1:=nextslicecap_le h;have h2:Builtin.nextslicecap need cap*bytes≤2*need*bytes:=Nat.mul_le_mul_right _ h1;have h3:need*(bytes+1)=need*bytes+need:=by rw[Nat.mul_add,Nat.mul_one]
 have h4:2*need*bytes=2*(need*bytes):=by rw[Nat.mul_assoc]
 omega
structure Ap(P:Program)(w:World)(ap:Value→Sem Value)(e:TypeId)(size n:Nat)(news:List Value)(zs:Array Value)(bytes:Nat):Prop where
 none_:n=0→∀(base:Option Addr) (len cap:Nat),len≤cap→(ap (.slice base len cap)).run P w=.ok (.slice base len cap) w
 room:∀(a:Addr) (len cap:Nat) (w':World),len+n≤cap→(storeCells (a.add (len*size)) news).run P w=.ok () w'→(ap (.slice (some a) len cap)).run P w=.ok (.slice (some a) (len+n) cap) w'
 grow:∀(base:Option Addr) (len cap:Nat) (olds:List Value),(Builtin.firstCells size len (.slice base len cap)).run P w.drew=.ok olds.toArray w.drew→cap < len+n→(len+n)*(bytes+1)≤2^40→
  (ap (.slice base len cap)).run P w=.ok (.slice (some ⟨w.heap.size,0,none⟩) (len+n) (grownCap w (len+n) cap e))
      (w.drew.alloc (.cells ((olds++news).toArray++Builtin.zeroCells zs (grownCap w (len+n) cap e - (len+n))) e))
theorem G2{olds news:List Value}{zs:Array Value}{size len n gc:Nat}(h1:olds.length=len*size)(h2:news.length=n*size)(hz:zs.size=size)(hg:len+n≤gc):
  ((olds++news).toArray++Builtin.zeroCells zs (gc - (len+n))).size=gc*size:=by
 simp only[Array.size_append,List.size_toArray,List.length_append,h1,h2,size_zeroCells,hz];rw[←Nat.add_mul,←Nat.add_mul];congr 1;omega
theorem te(h:Rel P g0 μ H.get H.n w){ap:Value→Sem Value}{e size n bytes:Nat}{news:List Value}{zs:Array Value}(hap:Ap P w ap e size n news zs bytes)(hzs:zs.size=size)
  {cs:List IV} (hcs:VRs μ cs news) (hlen:news.length=n*size) {s:IV} {y:Value} (hv:VR μ s y) (he:bF e size bytes s cs n lo H=some (v,H')):
  ∃(v':Value) (w':World) (μ':Mu),(ap y).run P w=.ok v' w'∧Rel P g0 μ' H'.get H'.n w'∧Post lo μ H.get H.n w μ' H'.get H'.n w'∧VR μ' v v':=by
 have fresh:∀(base:Option Addr) (len cap:Nat) (old:List IV) (olds:List Value) (μ1:Mu) (H1:Heap),Rel P g0 μ1 H1.get H1.n w→Post lo μ H.get H.n w μ1 H1.get H1.n w→VRs μ1 old olds→VRs μ1 cs news→olds.length=len*size→
   (Builtin.firstCells size len (.slice base len cap)).run P w.drew=.ok olds.toArray w.drew→cap < len+n→(len+n)*(bytes+1)≤2^40→
   ∃(v':Value) (w':World) (μ':Mu),(ap (.slice base len cap)).run P w=.ok v' w'∧Rel P g0 μ' (H1.new (.cells false e size (old++cs))).get (H1.new (.cells false e size (old++cs))).n w'∧
    Post lo μ H.get H.n w μ' (H1.new (.cells false e size (old++cs))).get (H1.new (.cells false e size (old++cs))).n w'∧VR μ' (.slice H1.n 0 (len+n) (len+n) false) v':=by
  intro base len cap old olds μ1 H1 hr1 hp1 hold hcs1 hol hrun hcap hb;have hge:=grownCap_ge w (len+n) cap e
  have hmax:len+n≤2^40:=by
   have:len+n≤(len+n)*(bytes+1):=Nat.le_mul_of_pos_right _ (by omega)
   omega
  have hlt:grownCap w (len+n) cap e < 2^63:=by
   show len+n+w.tape w.drawn (.appendCap (len+n) cap e)%(2^63 - (len+n)) < 2^63
   have:=Nat.mod_lt (w.tape w.drawn (.appendCap (len+n) cap e)) (y:=2^63 - (len+n)) (by omega)
   omega
  have hrow:=G2 (zs:=zs) hol hlen hzs hge;have hle:=μ1.le_upd (.at w.heap.size 0 size (grownCap w (len+n) cap e*size)) hr1.fresh
  have hlens:(old++cs).length=(len+n)*size:=by
   rw[List.length_append,hold.length,hcs1.length,hol,hlen,Nat.add_mul]
  obtain⟨hra,hpa⟩:=hr1.alloc (lo:=lo) (o:=.cells false e size (old++cs)) (ez:=size) (z:=grownCap w (len+n) cap e*size)
   (w':=w.drew.alloc (.cells ((olds++news).toArray++Builtin.zeroCells zs (grownCap w (len+n) cap e - (len+n))) e)) rfl
   ⟨rfl,rfl,_,rfl,hrow,by rw[hlens];exact Nat.mul_le_mul_right _ hge,by
    rw[Array.toList_append];rw[List.take_append_of_le_length (by rw[hlens];simp[hol,hlen,Nat.add_mul])];rw[AY (by rw[hlens];simp[hol,hlen,Nat.add_mul])];exact VRs.mono hle _ _ (hold.append hcs1)⟩ rfl rfl rfl
  exact⟨_,_,_,hap.grow base len cap olds hrun hcap hb,hra,hp1.trans hpa,sx (av _ _ _) hge hlt (Nat.le_refl _)⟩
 unfold bF at he;split at he
 ·cases he
 ·rename_i hone';have hone:cs.all IV.one=true:=by simpa using hone'
  cases s with
  | nilSlice=>
    have hy:y=.slice none 0 0:=hv;subst hy;simp only at he;split at he
    ·rename_i h0;injection he with he;injection he with e1 e2;subst e1 e2;exact⟨_,_,μ,hap.none_ h0 none 0 0 (Nat.le_refl _),h,Post.refl h,rfl⟩
    ·rename_i h0;split at he
     ·rename_i hb;injection he with he;injection he with e1 e2;subst e1 e2
      have:=fresh none 0 0 [] [] μ H h (Post.refl h) rfl hcs (by simp) (run_firstCells_none w.drew size 0 0 0) (by omega) (by simpa using hb)
      simpa using this
     ·cases he
  | slice b o len lb ex=>
    obtain⟨a,cap,rfl,⟨c1,c2,c3,c4⟩,hsl⟩:=id hv;simp only at he;split at he
    ·rename_i h0;injection he with he;injection he with e1 e2;subst e1 e2;exact⟨_,_,μ,hap.none_ h0 (some a) len cap (by omega),h,Post.refl h,hv⟩
    ·rename_i h0;split at he
     ·rename_i hroom
      cases hw:H.write lo b (o+len*size) cs with
      | none=>rw[hw] at he;cases he
      | some H1=>
        rw[hw] at he;injection he with he;injection he with e1 e2;subst e1 e2;obtain⟨w',hst,hr,hp⟩:=jQ h hw (hsl.loc (by omega)).add hcs;refine⟨_,_,μ,hap.room a len cap w' (by omega) hst,hr,hp,a,cap,rfl,⟨hroom,c2,c3,c4⟩,hsl⟩
     ·rename_i hroom;split at he
      ·rename_i hb;split at he
       ·rename_i hex;have hcap:=c4 hex
        cases hs:eq H size len (.slice b o len lb ex) with
        | none=>rw[hs] at he;cases he
        | some old=>
          rw[hs] at he;injection he with he;injection he with e1 e2;subst e1 e2;obtain⟨olds,hol,hvo,hrun⟩:=j9 h hs hv (Nat.le_refl _);exact fresh (some a) len cap old olds μ H h (Post.refl h) hvo hcs hol (hrun w.drew rfl) (by omega) hb
       ·rename_i hex;have hex':ex=false:=by simpa using hex
        cases hg:H.get b with
        | none=>rw[hg] at he;cases he
        | some ob=>
          rw[hg] at he
          cases ob with
          | cells ro e' ez all=>
            cases ro
            ·simp only at he;split at he
             ·rename_i hcond;obtain⟨rfl,rfl,hsz,rfl,hlo,hall⟩:=hcond;injection he with he;injection he with e1 e2;subst e1 e2
              cases hb':μ b with
              | no=>unfold SlR at hsl;rw[hb'] at hsl;exact hsl.elim
              | dead=>have:=h.ded b hb';rw[hg] at this;cases this
              | «at» c p ez' z=>
                obtain⟨ob',hob',hor⟩:=h.obj b c p ez' z hb';rw[hg] at hob';injection hob' with hob';subst hob';obtain⟨hp,hez,q,hq,hz,hle,hvr⟩:=hor;subst hp hez
                have hgb:g0≤b:=by
                 rcases Nat.lt_or_ge b g0 with hlt | hge
                 ·have:=h.glob b hlt
                  rw[hb'] at this;injection this with _ _ h3 _;omega
                 ·exact hge
                have hslz:cap*ez'≤z:=by
                 unfold SlR at hsl;rw[hb'] at hsl;simpa using hsl.2 hex' (by omega)
                by_cases hin:len+n≤cap
                ·
                 have ha:a=⟨c,0,none⟩:=by
                  unfold SlR at hsl;rw[hb'] at hsl;simpa using hsl.1.resolve_left (by omega)
                 subst ha
                 have hfit:len*ez'+news.length≤q.size:=by
                  rw[hlen,hz,←Nat.add_mul];exact Nat.le_trans (Nat.mul_le_mul_right _ hin) hslz
                 have hst:=run_storeCells_at P c (0+len*ez') e' news 0 q w hq (by omega) (hcs.one_cells hone);simp only[Nat.zero_add,Nat.add_zero] at hst
                 have hst':(storeCells ((⟨c,0,none⟩:Addr).add (len*ez')) news).run P w=.ok () (w.setRow c (q.toList.take (len*ez')++news++q.toList.drop (len*ez'+news.length)).toArray):=by
                  rw[ur,Nat.zero_add];exact hst
                 have hrun:=hap.room ⟨c,0,none⟩ len cap _ hin hst'
                 have hle':μ.le ((μ.upd b .dead).upd H.n (.at c 0 ez' z)):=Mu.le_trans (μ.le_kill b) (Mu.le_upd _ _ (by
                  have hlt:=h.lt b (by rw[hb'];exact fun x=>by cases x);rw[aw _ _ (by omega)];exact h.fresh))
                 obtain⟨hr,hpost⟩:=h.regrow (lo:=lo) (o:=.cells false e' ez' (all.take (len*ez')++cs)) (w':=w.setRow c (q.toList.take (len*ez')++news++q.toList.drop (len*ez'+news.length)).toArray) hb' hlo hgb ⟨_,hg,rfl⟩ (setRow_size _ _ _)
                  (fun c' hc'=>setRow_other w c c' _ hc') (by
                   rw[setRow_heap w c q _ e' (0,0) hq];refine⟨rfl,rfl,_,rfl,by simp;omega,?_,?_⟩
                   ·simp[hcs.length];omega
                   ·have hl1:(all.take (len*ez')++cs).length=len*ez'+news.length:=by simp[hcs.length];omega
                    rw[hl1]
                    have e1:((q.toList.take (len*ez')++news++q.toList.drop (len*ez'+news.length)).toArray).toList.take (len*ez'+news.length)=(q.toList.take all.length).take (len*ez')++news:=by
                     rw[List.take_append_of_le_length (by simp;omega),AY (by simp;omega),List.take_take,Nat.min_eq_left hall]
                    rw[e1];exact VRs.mono hle' _ _ ((hvr.take _).append hcs)) rfl rfl rfl
                 exact⟨_,_,_,hrun,hr,hpost,sx (av _ _ _) hin c3 hslz⟩
                ·
                 obtain⟨hr1,hp1⟩:=h.kill (lo:=lo) hlo hgb (by rw[hb'];exact fun x=>by cases x)
                 have hread:eq H ez' len (.slice b 0 len lb ex)=some (all.take (len*ez')):=by
                  simp only[eq];by_cases hl0:len=0
                  ·subst hl0;simp
                  ·rw[if_neg hl0];simp only[Heap.read,hg];rw[if_pos (by omega)];simp
                 obtain⟨olds,hol,hvo,hrun⟩:=j9 h hread hv (Nat.le_refl _);exact fresh (some a) len cap _ olds (μ.upd b .dead) (H.put b .dead) hr1 hp1 (VRs.mono (μ.le_kill b) _ _ hvo) (VRs.mono (μ.le_kill b) _ _ hcs) hol (hrun w.drew rfl) (by omega) hb
             ·cases he
            ·simp at he
          | _=>simp at he
      ·cases he
  | _=>simp at he
theorem Rs{t tx e:TypeId}{i:TypeInfo}{zv:Value}{n:Nat}{news:List Value}{y:Value}(ht:P.underlying t=some (.slice e))(hi:P.info? e=some i)(hz:i.zero=some zv)(hs:Src P i.size tx y n news w):
  Ap P w (fun s=>Builtin.append_ #[t,tx] type #[s,y]) e i.size n news zv.cells i.bytes where
 none_:=fun h0 base len cap hle=>by
  subst h0;have hn:news=[]:=List.length_eq_zero_iff.1 (by have:=hs.newsLen;simpa using this);subst hn;exact run_append_nothing w t tx type e i ht hi base len cap hle y hs
 room:=fun a len cap w' hroom hst=>by
  rcases hs.kind with⟨e',hk⟩ | hk<;>simp[Builtin.append_,run_underlying ht,run_underlying hk,sizeOf,typeInfo,hi,hs.len,hroom,hs.cells,hst]
 grow:=fun base len cap olds hold hcap hb=>by
  have hmax:len+n≤2^40:=by
   have:len+n≤(len+n)*(i.bytes+1):=Nat.le_mul_of_pos_right _ (by omega)
   omega
  exact run_append_grow_src w t tx type e i zv ht hi hz base len cap olds hold y n news hs hcap (by omega) (qv hcap hb)
theorem Ba(h:Rel P g0 μ H.get H.n w){t u e:TypeId}{args:Array Operand}{ts:Array TypeId}{z:Nat×List IV}{bytes:Nat}(hts:ts=#[t,u])(ht:P.underlying t=some (.slice e))
  (hk:(∃e',P.underlying u=some (.slice e'))∨P.underlying u=some .string) (hz:gF P e=some z) (hb:hZ P e=some bytes)
  (he:ev1 (.append e z.1 bytes) xs lo H=some (v,H')) (hx:VRs μ xs (args.toList.map ρ)):
  Gives P g0 lo μ H w (execOp ρ ⟨dst,.call ⟨.builtin .append,args,ts⟩,type,pos,after,guard⟩) v H':=by
 simp only[ev1] at he;split at he
 ·rename_i s x
  cases hl:i4 x with
  | none=>rw[hl] at he;cases he
  | some n=>
    rw[hl] at he;simp only[Option.bind_some] at he
    cases hs:eq H z.1 n x with
    | none=>rw[hs] at he;cases he
    | some cs=>
      rw[hs] at he;simp only[Option.bind_some] at he;obtain⟨y1,y2,hy,h1,h2⟩:=ba hx;have hargs:args.map ρ=#[y1,y2]:=by apply Array.ext';simpa using hy
      subst hts;obtain⟨i,zv,hi,hsz,hzv,hzs,hvr⟩:=jE hz;obtain⟨i',hi',hbt⟩:=nU hb;rw[hi] at hi';injection hi' with hi';subst hi'
      have hone:cs.all IV.one=true:=by
       unfold bF at he;split at he
       ·cases he
       ·rename_i hh;simpa using hh
      obtain⟨news,hvn,hsrc⟩:=F4 (P:=P) h hk hl hs h2 hone;rw[←hsz] at hsrc he;rw[←hbt] at he;have hap:=Rs (type:=type) ht hi hzv hsrc;obtain⟨v',w',μ',hrun,hr,hp,hv'⟩:=te h hap (by rw[hzs,hsz]) hvn hsrc.newsLen h1 he;exact⟨_,v',w',μ',by simp only[execOp];simp[resolve,invoke,builtin,hargs,hrun],.inl rfl,hr,hp,hv'⟩
 ·cases he
theorem Lc{t u e:TypeId}{k0 k:IntKind}{i:TypeInfo}{zv:Value}{n:Nat}(ht:P.underlying t=some (.slice e))(hu:P.underlying u=some (.int k0))(hi:P.info? e=some i)(hz:i.zero=some zv)
  (hzs:zv.cells.size=i.size) (hn:n*(i.bytes+1)≤2^40):
  Ap P w (fun s=>Builtin.append_ #[t,u] type #[s,.int k (n:Int)]) e i.size n (madeCells zv.cells (n*i.size)).toList zv.cells i.bytes:=by
 have hn1:n≤n*(i.bytes+1):=Nat.le_mul_of_pos_right _ (by omega);have hn2:n*(i.bytes+1)=n*i.bytes+n:=by rw[Nat.mul_add,Nat.mul_one]
 have hwrap:IntKind.i64.wrap (n:Int)=n:=by rw[IntKind.wrap_i64];omega
 have hneg:¬((n:Int) < 0):=by omega
 have hbig:¬(281474976710656 < (n:Int)*(i.bytes:Int)):=by
  have:((n*i.bytes:Nat):Int)≤281474976710656:=by omega
  rw[Int.natCast_mul] at this;omega
 have hzc:Builtin.zeroCells zv.cells n=madeCells zv.cells (n*i.size):=by simp[Builtin.zeroCells,madeCells,hzs]
 have hz0:n*i.size=0→madeCells zv.cells (n*i.size)=#[]:=fun h0=>by rw[h0];simp[madeCells]
 refine⟨fun h0 base len cap hle=>?_,fun a len cap w' hroom hst=>?_,fun base len cap olds hold hcap hb=>?_⟩
 ·subst h0;have hw0:IntKind.i64.wrap 0=0:=by rw[IntKind.wrap_i64];omega
  cases base<;>simp[Builtin.append_,run_underlying ht,run_underlying hu,sizeOf,typeInfo,hi,asInt,asIntOf,hw0,hle,storeCells]
 ·by_cases h0:n*i.size=0
  ·rw[hz0 h0] at hst;simp only[] at hst;have hst':(storeCells (a.add (len*i.size)) []).run P w=.ok () w':=hst;simp[Builtin.append_,run_underlying ht,run_underlying hu,sizeOf,typeInfo,hi,asInt,asIntOf,hwrap,hneg,hbig,hroom,h0,hst']
  ·rw[←hzc] at hst;simp[Builtin.append_,run_underlying ht,run_underlying hu,sizeOf,typeInfo,hi,asInt,asIntOf,hwrap,hneg,hbig,hroom,h0,zeroValue,hz,hst]
 ·have hmax:len+n≤2^40:=by
   have:len+n≤(len+n)*(i.bytes+1):=Nat.le_mul_of_pos_right _ (by omega)
   omega
  have hno:¬(len+n≤cap):=by omega
  have h63':¬(9223372036854775807 < ((len:Int)+(n:Int))):=by omega
  have h48':¬(281474976710656 < Builtin.nextslicecap (len+n) cap*i.bytes):=by have:=qv hcap hb;omega
  by_cases h0:n*i.size=0
  ·rw[hz0 h0];simp[Builtin.append_,run_underlying ht,run_underlying hu,sizeOf,typeInfo,zeroValue,hi,hz,asInt,asIntOf,hwrap,hneg,hbig,hno,h63',h48',h0,Question.forced,hold,newRow,grownCap]
  ·simp[Builtin.append_,run_underlying ht,run_underlying hu,sizeOf,typeInfo,zeroValue,hi,hz,asInt,asIntOf,hwrap,hneg,hbig,hno,h63',h48',h0,Question.forced,hold,newRow,grownCap,hzc];congr 2;apply Array.ext';simp[List.append_assoc]
theorem Ge(h:Rel P g0 μ H.get H.n w){t u e:TypeId}{k0:IntKind}{args:Array Operand}{ts:Array TypeId}{z:Nat×List IV}{bytes:Nat}(hts:ts=#[t,u])(ht:P.underlying t=some (.slice e))
  (hu:P.underlying u=some (.int k0)) (hz:gF P e=some z) (hb:hZ P e=some bytes)
  (he:ev1 (.appendZ e z.1 bytes z.2) xs lo H=some (v,H')) (hx:VRs μ xs (args.toList.map ρ)):
  Gives P g0 lo μ H w (execOp ρ ⟨dst,.call ⟨.builtin .append,args,ts⟩,type,pos,after,guard⟩) v H':=by
 simp only[ev1] at he;split at he
 ·rename_i s k m;split at he
  ·rename_i hm;obtain⟨hm0,hmb⟩:=hm;obtain⟨n,rfl⟩:=Int.eq_ofNat_of_zero_le hm0;obtain⟨y1,y2,hy,h1,h2⟩:=ba hx;have h2':=dZ h2;subst h2';have hargs:args.map ρ=#[y1,.int k (n:Int)]:=by apply Array.ext';simpa using hy
   subst hts;obtain⟨i,zv,hi,hsz,hzv,hzs,hvr⟩:=jE hz;obtain⟨i',hi',hbt⟩:=nU hb;rw[hi] at hi';injection hi' with hi';subst hi';rw[←hsz,←hbt] at he;simp only[Int.toNat_natCast] at he
   have hnb:n*(i.bytes+1)≤2^40:=by
    rw[←hbt] at hmb
    have:((n*(i.bytes+1):Nat):Int)≤2^40:=by simpa using hmb
    omega
   have hap:=Lc (P:=P) (w:=w) (type:=type) (k:=k) ht hu hi hzv (by rw[hzs,hsz]) hnb;have hrep:=qp (hvr μ) n;rw[hzs,←hsz] at hrep;obtain⟨v',w',μ',hrun,hr,hp,hv'⟩:=te h hap (by rw[hzs,hsz]) hrep (by simp[madeCells]) h1 he;exact⟨_,v',w',μ',by simp only[execOp];simp[resolve,invoke,builtin,hargs,hrun],.inl rfl,hr,hp,hv'⟩
  ·cases he
 ·cases he
theorem zW(h:Rel P g0 μ H.get H.n w){size n m:Nat}{x:IV}{y:Value}{cs:List IV}(hl:i4 x=some m)(hn:n≤m)(hs:eq H size n x=some cs)(hv:VR μ x y):
  ∃cs':List Value,VRs μ cs cs'∧(Builtin.lenOf y).run P w=.ok m w∧(Builtin.firstCells size n y).run P w=.ok cs'.toArray w:=by
 cases x with
 | nilSlice=>
   injection hl with hl;subst hl;have h0:n=0:=by omega
   subst h0;simp[eq] at hs;subst hs;have hv:y=.slice none 0 0:=hv;subst hv;exact⟨[],rfl,rfl,run_firstCells_none w size 0 0 0⟩
 | slice b o len lb ex=>
   injection hl with hl;subst hl;obtain⟨cs',hlen,hvs,hrun⟩:=j9 h hs hv hn;obtain⟨a,cap,rfl,_⟩:=hv;exact⟨cs',hvs,rfl,hrun w rfl⟩
 | str s=>
   injection hl with hl;subst hl;simp only[eq] at hs;split at hs
   ·rename_i h1;obtain⟨_,rfl⟩:=h1;injection hs with hs;have hv:y=.string ⟨⟨s⟩⟩:=hv;subst hv hs;refine⟨(s.take n).map fun c=>Value.int .u8 c.toNat,nT _,rfl,?_⟩;have e:((ByteArray.mk ⟨s⟩).extract 0 n).data.toList=s.take n:=by rw[Lib.extract_data];simp
    simp only[Builtin.firstCells]
    have e2:((ByteArray.mk ⟨s⟩).extract 0 n).data.map (fun b=>Value.int .u8 b.toNat)=((s.take n).map fun c=>Value.int .u8 c.toNat).toArray:=by
     apply Array.ext';rw[Array.toList_map,e]
    rw[e2];simp
   ·cases hs
 | _=>simp[i4] at hl
theorem QS{size m:Nat}{x:IV}{y:Value}(hl:i4 x=some m)(hv:VR μ x y):(Builtin.lenOf y).run P w=.ok m w∧(Builtin.firstCells size 0 y).run P w=.ok #[] w:=by
 cases x with
 | nilSlice=>
   injection hl with hl;subst hl;have hv:y=.slice none 0 0:=hv;subst hv;exact⟨rfl,run_firstCells_none w size 0 0 0⟩
 | slice b o len lb ex=>
   injection hl with hl;subst hl;obtain⟨a,cap,rfl,_⟩:=hv;exact⟨rfl,run_firstCells_some w size 0 a len cap [] (by simp) (fun j v h=>by simp at h)⟩
 | str s=>
   injection hl with hl;subst hl;have hv:y=.string ⟨⟨s⟩⟩:=hv;subst hv;refine⟨rfl,?_⟩;have e:((ByteArray.mk ⟨s⟩).extract 0 0).data.toList=[]:=by rw[Lib.extract_data];simp
   have e2:((ByteArray.mk ⟨s⟩).extract 0 0).data.map (fun b=>Value.int .u8 b.toNat)=#[]:=by
    apply Array.ext';rw[Array.toList_map,e];rfl
   simp only[Builtin.firstCells];rw[e2];simp
 | _=>simp[i4] at hl
theorem Qg(h:Rel P g0 μ H.get H.n w){t e:TypeId}{args:Array Operand}{ts:Array TypeId}{size:Nat}(hts:ts[0]? =some t)(ht:P.underlying t=some (.slice e))(hs:aJ P e=some size)
  (he:ev1 (.copy size) xs lo H=some (v,H')) (hx:VRs μ xs (args.toList.map ρ)):
  Gives P g0 lo μ H w (execOp ρ ⟨dst,.call ⟨.builtin .copy,args,ts⟩,type,pos,after,guard⟩) v H':=by
 simp only[ev1] at he;split at he
 ·rename_i d s;obtain⟨y1,y2,hy,h1,h2⟩:=ba hx;have hargs:args.map ρ=#[y1,y2]:=by apply Array.ext';simpa using hy
  have hd:∃(base:Option Addr) (n cap:Nat),y1=.slice base n cap∧jG d=some n:=by
   cases d with
   | nilSlice=>exact⟨none,0,0,h1,rfl⟩
   | slice b o n lb ex=>obtain⟨a,cap,rfl,_⟩:=h1;exact⟨some a,n,cap,rfl,rfl⟩
   | _=>simp[jG] at he
  obtain⟨base,n,cap,rfl,hdn⟩:=hd;rw[hdn] at he
  cases hl:i4 s with
  | none=>rw[hl] at he;cases he
  | some m=>
    rw[hl] at he;simp only at he;split at he
    ·rename_i hk0;injection he with he;injection he with e1 e2;subst e1 e2;obtain⟨hlen,hf⟩:=QS (P:=P) (w:=w) (size:=size) hl h2;have hk0':Nat.min m n=0:=hk0;refine Gives.pure h (v':=.int .i64 0) ?_ rfl
     cases base<;>simp[execOp,resolve,invoke,builtin,hargs,Builtin.copy_,hts,run_underlying ht,hlen,aP hs,hk0',hf,storeCells,goInt]
    ·rename_i hk0
     cases hsr:eq H size (Min.min m n) s with
     | none=>rw[hsr] at he;cases he
     | some cs=>
       rw[hsr] at he;simp only[Option.bind_some] at he;obtain⟨cs',hvc,hlen,hf⟩:=zW h hl (Nat.min_le_left _ _) hsr h2;have hf':(Builtin.firstCells size (Nat.min m n) y2).run P w=.ok cs'.toArray w:=hf
       cases d with
       | slice b o n' lb ex=>
         injection hdn with hdn;subst hdn;simp only at he
         cases hw:H.write lo b o cs with
         | none=>rw[hw] at he;cases he
         | some H1=>
           rw[hw] at he;injection he with he;injection he with e1 e2;subst e1 e2;obtain⟨a,cap',hval,⟨c1,c2,c3,c4⟩,hsl⟩:=h1;injection hval with hb hn hc;subst hb hc;have hpos:Min.min m n'≠0:=hk0;obtain⟨w',hst,hr,hp⟩:=jQ h hw (hsl.loc (by have:=Nat.min_le_right m n';omega)) hvc;exact⟨_,.int .i64 (Min.min m n':Nat),w',μ,by simp[execOp,resolve,invoke,builtin,hargs,Builtin.copy_,hts,run_underlying ht,hlen,aP hs,hf',hst,goInt]<;>rfl,.inl rfl,hr,hp,rfl⟩
       | _=>simp at he
 ·cases he
theorem MO(h:Rel P g0 μ H.get H.n w){t e:TypeId}{args:Array Operand}{ts:Array TypeId}{z:Nat×List IV}(hts:ts[0]? =some t)(ht:P.underlying t=some (.slice e))(hz:gF P e=some z)
  (he:ev1 (.clear z.2) xs lo H=some (v,H')) (hx:VRs μ xs (args.toList.map ρ)):
  Gives P g0 lo μ H w (execOp ρ ⟨dst,.call ⟨.builtin .clear,args,ts⟩,type,pos,after,guard⟩) v H':=by
 simp only[ev1] at he;split at he
 ·rename_i x;obtain⟨y,hy,hv⟩:=aO hx;have hargs:args.map ρ=#[y]:=by apply Array.ext';simpa using hy
  have htup:VR μ (.tuple []) (.tuple #[]):=⟨#[],rfl,rfl⟩
  cases x with
  | nilSlice=>
    injection he with he;injection he with e1 e2;subst e1 e2;have hv:y=.slice none 0 0:=hv;subst hv;exact Gives.pure h (v':=.tuple #[]) (by simp[execOp,resolve,invoke,builtin,hargs,Builtin.clear_,hts,run_underlying ht]) htup
  | slice b o n lb ex=>
    obtain⟨a,cap,rfl,⟨c1,c2,c3,c4⟩,hsl⟩:=hv;simp only at he;split at he
    ·rename_i h0;injection he with he;injection he with e1 e2;subst e1 e2;subst h0;exact Gives.pure h (v':=.tuple #[]) (by simp[execOp,resolve,invoke,builtin,hargs,Builtin.clear_,hts,run_underlying ht]) htup
    ·rename_i h0
     cases hw:H.write lo b o (iU n z.2) with
     | none=>rw[hw] at he;cases he
     | some H1=>
       rw[hw] at he;injection he with he;injection he with e1 e2;subst e1 e2;obtain⟨i,zv,hi,hsz,hzv,hzs,hvr⟩:=jE hz;have hrep:=qp (hvr μ) n;obtain⟨w',hst,hr,hp⟩:=jQ h hw (hsl.loc (by omega)) hrep;have hzc:Builtin.zeroCells zv.cells n=madeCells zv.cells (n*zv.cells.size):=by simp[Builtin.zeroCells,madeCells]
       rw[←hzc] at hst;refine⟨_,.tuple #[],w',μ,?_,.inl rfl,hr,hp,htup⟩;obtain⟨n',rfl⟩:∃n',n=n'+1:=⟨n - 1,by omega⟩;simp[execOp,resolve,invoke,builtin,hargs,Builtin.clear_,hts,run_underlying ht,zeroValue,typeInfo,hi,hzv,hst]
  | _=>simp at he
 ·cases he
theorem tc:∀(l:List IV) (s:List UInt8) (l':List Value),nV l=some s→VRs μ l l'→∃ns:List Int,l'=ns.map (Value.int .u8)∧s=ns.map fun n=>UInt8.ofNat n.toNat
 | [],s,l',hb,hv=>by cases hv;simp[nV] at hb;subst hb;exact⟨[],rfl,rfl⟩
 | x::l,s,l',hb,hv=>by
   obtain⟨y,ys,rfl,h1,h2⟩:=hv
   cases x with
   | int k n=>
     cases k<;>simp[nV] at hb
     obtain⟨r,hr,rfl⟩:=hb;obtain⟨ns,rfl,rfl⟩:=tc l r ys hr h2;have h1:y=.int .u8 n:=h1;subst h1;exact⟨n::ns,rfl,rfl⟩
   | _=>simp[nV] at hb
theorem xB:∀(ns:List Int) (s:ByteArray),(ns.foldl (fun r n=>r.push (UInt8.ofNat n.toNat)) s).data.toList=s.data.toList++ns.map fun n=>UInt8.ofNat n.toNat
 | [],s=>by simp
 | n::ns,s=>by
   rw[List.foldl_cons,xB ns];simp[ByteArray.push]
theorem MF(h:Rel P g0 μ H.get H.n w){s d e:TypeId}{x:Operand}(hs:P.underlying s=some (.slice e))(hd:P.underlying d=some .string)(hu:P.underlying e=some (.int .u8))
  (he:ev1 .strOf xs lo H=some (v,H')) (hx:VRs μ xs [ρ x]):
  Gives P g0 lo μ H w (execOp ρ ⟨dst,.convert s d x,type,pos,after,guard⟩) v H':=by
 simp only[ev1] at he;split at he
 ·rename_i x1;obtain⟨y,hy,hv⟩:=aO hx;injection hy with hy;subst hy
  cases x1 with
  | nilSlice=>
    injection he with he;injection he with e1 e2;subst e1 e2;have hv:ρ x=.slice none 0 0:=hv;exact Gives.pure h (v':=.string .empty) (by simp[execOp,hv,convert,run_underlying hs,run_underlying hd,run_underlying hu,Conv.bytesToString]) rfl
  | slice b o n lb ex=>
    obtain⟨a,cap,hval,⟨c1,c2,c3,c4⟩,hsl⟩:=hv;simp only at he;split at he
    ·rename_i h0;injection he with he;injection he with e1 e2;subst e1 e2;subst h0;have hr:=run_bytesToString (P:=P) w a 0 cap [] (by simp[loadCells,loadCellsFrom]);exact Gives.pure h (v':=.string .empty) (by simp[execOp,hval,convert,run_underlying hs,run_underlying hd,run_underlying hu,hr]) rfl
    ·rename_i h0
     cases hr:H.read b o n with
     | none=>rw[hr] at he;cases he
     | some cs=>
       rw[hr] at he;simp only[Option.bind_some] at he
       cases hb:nV cs with
       | none=>rw[hb] at he;cases he
       | some str=>
         rw[hb] at he;injection he with he;injection he with e1 e2;subst e1 e2;obtain⟨cs',hlen,hvc,hc⟩:=lR h hr (hsl.loc (by omega));obtain⟨ns,rfl,rfl⟩:=tc cs str cs' hb hvc;have hlc:=run_loadCells_list (P:=P) w a _ hc;rw[hlen] at hlc;have hrun:=run_bytesToString (P:=P) w a n cap ns hlc;refine Gives.pure h (v':=.string (ns.foldl (fun r n=>r.push (UInt8.ofNat n.toNat)) ByteArray.empty)) (by simp[execOp,hval,convert,run_underlying hs,run_underlying hd,run_underlying hu,hrun]) ?_;exact congrArg Value.string (nS (by rw[xB];rfl))
  | _=>simp at he
 ·cases he
end
section
variable {P:Program}{g0 lo:Nat}{μ:Mu}{H:Heap}{w:World}{ρ:Operand→Value}{type:TypeId}{pos:String}{dst:Option Tmp}{after:Array Edge}{guard:Option (Nat×Bool)}
 {xs:List IV} {v:IV} {H':Heap}
def B2:Pk→Value→Value→Option Bool
 | .bool,.bool a,.bool b=>some (a==b)
 | .int,.int k a,.int k' b=>if k=k' then some (a==b) else none
 | .str,.string a,.string b=>some (a.data.toList==b.data.toList)
 | _,_,_=>none
def bn:List Pk→List Value→List Value→Option Bool
 | [],[],[]=>some true
 | d::ds,x::xs,y::ys=>
   match B2 d x y,bn ds xs ys with
   | some a,some b=>some (a&&b)
   | _,_=>none
 | _,_,_=>none
def Y6:Pk→Value→Bool
 | .bool,.bool _=>true
 | .int,.int _ _=>true
 | .str,.string _=>true
 | _,_=>false
def nr:List Pk→List Value→Bool
 | [],[]=>true
 | d::ds,x::xs=>Y6 d x&&nr ds xs
 | _,_=>false
theorem Sv{d:Pk}{x:IV}{y:Value}(h:Ns d x=true)(hv:VR μ x y):Y6 d y=true:=by
 cases d<;>cases x<;>simp[Ns] at h<;>(cases hv;rfl)
theorem Ko:∀{ds:List Pk} {xs:List IV} {ys:List Value},qB ds xs=true→VRs μ xs ys→nr ds ys=true
 | [],[],_,_,hv=>by cases hv;rfl
 | [],_::_,_,h,_=>by simp[qB] at h
 | _::_,[],_,h,_=>by simp[qB] at h
 | d::ds,x::xs,_,h,hv=>by
   obtain⟨y,ys,rfl,h1,h2⟩:=hv;simp only[qB,Bool.and_eq_true] at h;simp only[nr,Sv h.1 h1,Ko h.2 h2,Bool.and_self]
theorem SD{d:Pk}{x y:IV}{x' y':Value}{r:Bool}(h:G8 d x y=some r)(hx:VR μ x x')(hy:VR μ y y'):B2 d x' y'=some r:=by
 cases d<;>cases x<;>cases y<;>simp only[G8,reduceCtorEq] at h<;>(cases hx;cases hy;exact h)
theorem wi:∀{ds:List Pk} {xs ys:List IV} {xs' ys':List Value} {r:Bool},hU ds xs ys=some r→VRs μ xs xs'→VRs μ ys ys'→bn ds xs' ys'=some r
 | [],[],[],_,_,_,h,hx,hy=>by cases hx;cases hy;exact h
 | [],[],_::_,_,_,_,h,_,_=>by simp[hU] at h
 | [],_::_,_,_,_,_,h,_,_=>by simp[hU] at h
 | _::_,[],_,_,_,_,h,_,_=>by simp[hU] at h
 | _::_,_::_,[],_,_,_,h,_,_=>by simp[hU] at h
 | d::ds,x::xs,y::ys,_,_,r,h,hx,hy=>by
   obtain⟨x',xs',rfl,hx1,hx2⟩:=hx;obtain⟨y',ys',rfl,hy1,hy2⟩:=hy;simp only[hU] at h
   cases h1:G8 d x y with
   | none=>rw[h1] at h;cases h
   | some a=>
     cases h2:hU ds xs ys with
     | none=>rw[h1,h2] at h;cases h
     | some b=>
       rw[h1,h2] at h;simp only[bn,SD h1 hx1 hy1,wi h2 hx2 hy2];exact h
theorem bO:∀{ds:List Pk} {xs ys:List Value} {r:Bool},bn ds xs ys=some r→xs.length=ds.length∧ys.length=ds.length
 | [],[],[],_,_=>⟨rfl,rfl⟩
 | [],[],_::_,_,h=>by simp[bn] at h
 | [],_::_,_,_,h=>by simp[bn] at h
 | _::_,[],_,_,h=>by simp[bn] at h
 | _::_,_::_,[],_,h=>by simp[bn] at h
 | d::ds,x::xs,y::ys,r,h=>by
   simp only[bn] at h
   cases h1:B2 d x y with
   | none=>rw[h1] at h;cases h
   | some a=>
     cases h2:bn ds xs ys with
     | none=>rw[h1,h2] at h;cases h
     | some b=>have:=bO h2;simp[this.1,this.2]
theorem nE:∀{d1 d2:List Pk} {xs ys:List Value} {r:Bool},bn (d1++d2) xs ys=some r→
  ∃a b,bn d1 (xs.take d1.length) (ys.take d1.length)=some a∧bn d2 (xs.drop d1.length) (ys.drop d1.length)=some b∧r=(a&&b)
 | [],d2,xs,ys,r,h=>⟨true,r,by simp[bn],by simpa using h,by simp⟩
 | d::d1,d2,xs,ys,r,h=>by
   match xs,ys,h with
   | [],_,h=>simp[bn] at h
   | _::_,[],h=>simp[bn] at h
   | x::xs,y::ys,h=>
     simp only[List.cons_append,bn] at h
     cases h1:B2 d x y with
     | none=>rw[h1] at h;cases h
     | some a=>
       cases h2:bn (d1++d2) xs ys with
       | none=>rw[h1,h2] at h;cases h
       | some b=>
         rw[h1,h2] at h;injection h with h;obtain⟨p,q,hp,hq,hr⟩:=nE h2;refine⟨a&&p,q,?_,by simpa using hq,by rw[←h,hr,Bool.and_assoc]⟩;simp only[List.length_cons,List.take_succ_cons,bn,h1,hp]
def d9(P:Program)(t:TypeId):Bool:=
 match P.underlying t with
 | some (.struct _) | some (.array _ _)=>true
 | _=>false
def sk:TypeDesc→Bool
 | .struct _ | .array _ _=>true
 | _=>false
theorem rf{t:TypeId}{d:TypeDesc}(h:P.underlying t=some d):d9 P t=sk d:=by
 unfold d9;rw[h];cases d<;>rfl
def bu(a:Bool)(l:List Value):Value:=if a then .agg l.toArray else l.headD undef
theorem qt{t:TypeId}{n:Nat}(hs:aJ P t=some n){d:TypeDesc}(hu:P.underlying t=some d)(hn:d9 P t=false→n=1){cs:Array Value}{off:Nat}(hl:off+n≤cs.size)(w:World):
  (part t cs off).run P w=.ok (bu (d9 P t) ((cs.toList.drop off).take n)) w:=by
 cases ha:d9 P t with
 | true=>
   have hagg:(isAgg t).run P w=.ok true w:=by
    unfold d9 at ha;rw[hu] at ha
    cases d<;>simp at ha<;>simp[isAgg,run_underlying hu]
   have e:(cs.extract off (off+n))=((cs.toList.drop off).take n).toArray:=by
    apply Array.ext';simp[List.extract_eq_take_drop]
   simp[part,hagg,aP hs,bu,e]
 | false=>
   have hagg:(isAgg t).run P w=.ok false w:=by
    unfold d9 at ha;rw[hu] at ha
    cases d<;>simp at ha<;>simp[isAgg,run_underlying hu]
   have h1:=hn ha;subst h1;have hlt:off < cs.size:=by omega
   have e:(cs.toList.drop off).take 1=[cs[off]]:=by rw[List.drop_eq_getElem_cons (by simpa using hlt)];rfl
   simp[part,hagg,hlt,bu,e]
theorem gZ{d:Nat}{t:TypeId}{ds:List Pk}(h:bH P d t=some ds)(ha:d9 P t=false):ds.length=1:=by
 cases d with
 | zero=>cases h
 | succ d=>
   simp only[bH] at h;unfold d9 at ha
   cases hu:P.underlying t with
   | none=>rw[hu] at h;cases h
   | some desc=>
     rw[hu] at h ha
     cases desc<;>simp at h ha<;>subst h<;>rfl
theorem j8{d:Nat}{t:TypeId}{ds:List Pk}(h:bH P d t=some ds):∃desc,P.underlying t=some desc:=by
 cases d with
 | zero=>cases h
 | succ d=>
   simp only[bH] at h
   cases hu:P.underlying t with
   | none=>rw[hu] at h;cases h
   | some desc=>exact⟨desc,rfl⟩
theorem pq{d k:Nat}(IH:∀(t:TypeId) (ds:List Pk),bH P d t=some ds→∀(xs ys:List Value) (r:Bool) (w:World),bn ds xs ys=some r→(Op.equalIn k t (bu (d9 P t) xs) (bu (d9 P t) ys)).run P w=.ok r w)
  (xs ys:Array Value) (w:World):∀(fs:List Field) (off:Nat) (ds:List Pk) (r:Bool),lY P (bH P d) fs off=some ds→bn ds (xs.toList.drop off) (ys.toList.drop off)=some r→(Op.eqFields k xs ys fs).run P w=.ok r w
 | [],off,ds,r,h,he=>by
   simp[lY] at h;subst h
   cases hx:xs.toList.drop off with
   | nil=>cases hy:ys.toList.drop off with
     | nil=>rw[hx,hy] at he;simp[bn] at he;subst he;simp[Op.eqFields]
     | cons=>rw[hx,hy] at he;simp[bn] at he
   | cons=>rw[hx] at he;simp[bn] at he
 | f::fs,off,ds,r,h,he=>by
   simp only[lY] at h
   cases hf:bH P d f.type with
   | none=>rw[hf] at h;cases h
   | some l=>
     rw[hf] at h;simp only at h;split at h
     ·rename_i hc;obtain⟨hn,ho,hs⟩:=hc
      cases hr:lY P (bH P d) fs (off+l.length) with
      | none=>rw[hr] at h;cases h
      | some rest=>
        rw[hr] at h;injection h with h;subst h;have hlen:=bO he;obtain⟨a,b,ha,hb,rfl⟩:=nE he;rw[List.drop_drop,List.drop_drop] at hb;have hrec:=pq IH xs ys w fs (off+l.length) rest b hr hb;obtain⟨desc,hu⟩:=j8 hf;simp only[List.length_drop,List.length_append,Array.length_toList] at hlen;have hle:l.length+rest.length=l.length+rest.length:=rfl;by_cases hl0:l.length=0
        ·
         have hx0:off+l.length≤xs.size∨xs.size < off+l.length:=by omega
         have hagg:d9 P f.type=true:=by
          cases hab:d9 P f.type with
          | true=>rfl
          | false=>have:=gZ hf hab;omega
         have p1:∀cs:Array Value,(part f.type cs off).run P w=.ok (bu (d9 P f.type) ((cs.toList.drop off).take l.length)) w:=by
          intro cs
          have hagg':(isAgg f.type).run P w=.ok true w:=by
           unfold d9 at hagg;rw[hu] at hagg
           cases desc<;>simp at hagg<;>simp[isAgg,run_underlying hu]
          have e:(cs.extract off (off+l.length))=((cs.toList.drop off).take l.length).toArray:=by
           apply Array.ext';simp[List.extract_eq_take_drop]
          simp[part,hagg',aP hs,bu,hagg,e]
         have p3:=IH f.type l hf _ _ a w ha;simp only[Op.eqFields,hn,ne_eq,not_false_eq_true,if_true,Sem.run_bind,ho,p1,p3,Result.andThen_ok]
         cases a<;>simp[hrec]
        ·have p1:=qt (P:=P) hs hu (fun hab=>gZ hf hab) (cs:=xs) (off:=off) (by omega) w;have p2:=qt (P:=P) hs hu (fun hab=>gZ hf hab) (cs:=ys) (off:=off) (by omega) w;have p3:=IH f.type l hf _ _ a w ha;simp only[Op.eqFields,hn,ne_eq,not_false_eq_true,if_true,Sem.run_bind,ho,p1,p2,p3,Result.andThen_ok]
         cases a<;>simp[hrec]
     ·cases h
theorem qJ{k:Nat}{e:TypeId}{l:List Pk}{d:Nat}(hf:bH P d e=some l)(hs:aJ P e=some l.length)
  (IH:∀(xs ys:List Value) (r:Bool) (w:World),bn l xs ys=some r→(Op.equalIn k e (bu (d9 P e) xs) (bu (d9 P e) ys)).run P w=.ok r w)
  (xs ys:Array Value) (w:World):∀(n j:Nat) (r:Bool),bn (List.replicate n l).flatten (xs.toList.drop (j*l.length)) (ys.toList.drop (j*l.length))=some r→
  (Op.eqItems k e l.length xs ys (List.range' j n)).run P w=.ok r w
 | 0,j,r,he=>by
   simp only[List.replicate_zero,List.flatten_nil] at he
   cases hx:xs.toList.drop (j*l.length) with
   | nil=>cases hy:ys.toList.drop (j*l.length) with
     | nil=>rw[hx,hy] at he;simp[bn] at he;subst he;simp[Op.eqItems]
     | cons=>rw[hx,hy] at he;simp[bn] at he
   | cons=>rw[hx] at he;simp[bn] at he
 | n+1,j,r,he=>by
   simp only[List.replicate_succ,List.flatten_cons] at he;have hlen:=bO he;obtain⟨a,b,ha,hb,rfl⟩:=nE he;rw[List.drop_drop,List.drop_drop,←Nat.succ_mul] at hb;have hrec:=qJ hf hs IH xs ys w n (j+1) b hb;obtain⟨desc,hu⟩:=j8 hf;simp only[List.length_drop,List.length_append,Array.length_toList] at hlen;have p3:=IH _ _ a w ha
   have pp:∀cs:Array Value,(l.length=0∨j*l.length+l.length≤cs.size)→(part e cs (j*l.length)).run P w=.ok (bu (d9 P e) ((cs.toList.drop (j*l.length)).take l.length)) w:=by
    intro cs hc;rcases hc with hl0 | hc
    ·have hagg:d9 P e=true:=by
      cases hab:d9 P e with
      | true=>rfl
      | false=>have:=gZ hf hab;omega
     have hagg':(isAgg e).run P w=.ok true w:=by
      unfold d9 at hagg;rw[hu] at hagg
      cases desc<;>simp at hagg<;>simp[isAgg,run_underlying hu]
     have e1:(cs.extract (j*l.length) (j*l.length+l.length))=((cs.toList.drop (j*l.length)).take l.length).toArray:=by
      apply Array.ext';simp[List.extract_eq_take_drop]
     simp[part,hagg',aP hs,bu,hagg,e1]
    ·exact qt (P:=P) hs hu (fun hab=>gZ hf hab) hc w
   have hx:l.length=0∨j*l.length+l.length≤xs.size:=by omega
   have hy:l.length=0∨j*l.length+l.length≤ys.size:=by omega
   simp only[List.range'_succ,Op.eqItems,Sem.run_bind,pp xs hx,pp ys hy,p3,Result.andThen_ok]
   cases a<;>simp[hrec]
theorem Ad(k:Nat):∀(d:Nat) (t:TypeId) (ds:List Pk),bH P d t=some ds→∀(xs ys:List Value) (r:Bool) (w:World),bn ds xs ys=some r→
  (Op.equalIn (k+d) t (bu (d9 P t) xs) (bu (d9 P t) ys)).run P w=.ok r w:=by
 intro d
 induction d with
 | zero=>intro t ds h;cases h
 | succ d ih=>
   intro t ds h xs ys r w he;simp only[bH] at h
   cases hu:P.underlying t with
   | none=>rw[hu] at h;cases h
   | some desc=>
     rw[hu] at h;have hab:=rf hu
     cases desc with
     | bool=>
       injection h with h;subst h
       match xs,ys,he with
       | [x],[y],he=>
         simp only[bn] at he
         cases x<;>cases y<;>simp[B2] at he
         subst he;simp only[hab,sk,bu,Bool.false_eq_true,if_false,List.headD_cons];rw[←Nat.add_assoc];simp[Op.equalIn,run_underlying hu]
       | [],_,he=>simp[bn] at he
       | [_],[],he=>simp[bn] at he
       | _::_::_,[],he=>simp[bn] at he
       | _::_::_,_::_,he=>simp[bn] at he
       | [_],_::_::_,he=>simp[bn] at he
     | int q=>
       injection h with h;subst h
       match xs,ys,he with
       | [x],[y],he=>
         simp only[bn] at he
         cases x<;>cases y<;>simp[B2] at he
         rename_i k1 a k2 b;by_cases hk:k1=k2
         ·subst hk;simp at he;subst he;simp only[hab,sk,bu,Bool.false_eq_true,if_false,List.headD_cons];rw[←Nat.add_assoc];simp[Op.equalIn,run_underlying hu]
         ·simp[hk] at he
       | [],_,he=>simp[bn] at he
       | [_],[],he=>simp[bn] at he
       | _::_::_,[],he=>simp[bn] at he
       | _::_::_,_::_,he=>simp[bn] at he
       | [_],_::_::_,he=>simp[bn] at he
     | string=>
       injection h with h;subst h
       match xs,ys,he with
       | [x],[y],he=>
         simp only[bn] at he
         cases x<;>cases y<;>simp[B2] at he
         rename_i a b;subst he;simp only[hab,sk,bu,Bool.false_eq_true,if_false,List.headD_cons];rw[←Nat.add_assoc];simp[Op.equalIn,run_underlying hu,beq_toListBytes,ByteArray.toList_eq]
       | [],_,he=>simp[bn] at he
       | [_],[],he=>simp[bn] at he
       | _::_::_,[],he=>simp[bn] at he
       | _::_::_,_::_,he=>simp[bn] at he
       | [_],_::_::_,he=>simp[bn] at he
     | struct fs=>
       simp only at h;split at h
       ·cases h
       ·rename_i hst;have hfo:P.fieldsOf t=fs:=by simp[Program.fieldsOf,hu]
        simp only[hab,sk,bu,if_true];rw[←Nat.add_assoc,run_equalIn_struct w (k+d) t _ _ (by rw[hfo];exact hu) (by simpa using hst),hfo];exact pq (fun t ds h xs ys r w he=>ih t ds h xs ys r w he) _ _ w fs.toList 0 ds r h (by simpa using he)
     | array n e=>
       simp only at h
       cases hf:bH P d e with
       | none=>rw[hf] at h;cases h
       | some l=>
         rw[hf] at h;simp only at h;split at h
         ·rename_i hs;injection h with h;subst h;obtain⟨i,hi,hin⟩:=vp hs;have hce:P.cellsOf e=l.length:=by simp[Program.cellsOf,hi,hin]
          simp only[hab,sk,bu,if_true];rw[←Nat.add_assoc,run_equalIn_array w (k+d) _ _ hu hi,hce,List.range_eq_range'];exact qJ hf hs (fun xs ys r w he=>ih e l hf xs ys r w he) _ _ w n 0 r (by simpa using he)
         ·cases h
     | _=>simp at h
end
section
variable {P:Program}{g0 lo:Nat}{μ:Mu}{H:Heap}{w:World}{ρ:Operand→Value}{type:TypeId}{pos:String}{dst:Option Tmp}{after:Array Edge}{guard:Option (Nat×Bool)}
 {xs:List IV} {v:IV} {H':Heap}
theorem wh{t:TypeId}{ds:List Pk}(h:bH P 8 t=some ds){xs ys:List Value}{r:Bool}(he:bn ds xs ys=some r)(w:World):
  (Op.equal t (bu (d9 P t) xs) (bu (d9 P t) ys)).run P w=.ok r w:=Ad 9992 8 t ds h xs ys r w he
theorem A9(h:Rel P g0 μ H.get H.n w){op:BinOp}{neg:Bool}{t t2:TypeId}{x y:Operand}{ds:List Pk}(hag:d9 P t=true)(hg:P.eqGuardType P.depth t=false)(hf:bH P 8 t=some ds)
  (hop:op=.eql∧neg=false∨op=.neq∧neg=true) (he:ev1 (.eqFlat neg ds) xs lo H=some (v,H')) (hx:VRs μ xs [ρ x,ρ y]):
  Gives P g0 lo μ H w (execOp ρ ⟨dst,.binOp op t x y t2,type,pos,after,guard⟩) v H':=by
 simp only[ev1] at he;split at he
 ·rename_i l1 l2
  cases hr:hU ds l1 l2 with
  | none=>rw[hr] at he;cases he
  | some r=>
    rw[hr] at he;injection he with he;injection he with e1 e2;subst e1 e2;obtain⟨y1,y2,hy,⟨a1,hv1,h1⟩,⟨a2,hv2,h2⟩⟩:=ba hx;simp only[List.cons.injEq,and_true] at hy;obtain⟨rfl,rfl⟩:=hy;have heq:=wh (P:=P) hf (wi hr h1 h2) w;simp only[hag,bu,if_true,Array.toArray_toList] at heq
    have hgu:∀op:BinOp,(eqGuard op t x y (.agg a1) (.agg a2)).run P w=.ok () w:=by
     intro op
     cases op<;>simp[eqGuard,hg]
    rcases hop with⟨rfl,rfl⟩ | ⟨rfl,rfl⟩
    ·refine Gives.pure h (v':=.bool r) ?_ (by simp[VR]);simp only[execOp,hv1,hv2];simp[hgu,binOp,heq]
    ·refine Gives.pure h (v':=.bool !r) ?_ (by simp[VR]);simp only[execOp,hv1,hv2];simp[hgu,binOp,heq]
 ·cases he
def DD:Nk→TypeDesc→Bool
 | .ptr,.pointer _ | .sl,.slice _ | .map,.map _ _ | .fn,.func _ _ _=>true
 | _,_=>false
theorem G7{t:TypeId}{d:TypeDesc}{nk:Nk}(hu:P.underlying t=some d)(hd:DD nk d=true){x y:IV}{x' y':Value}{a b:Bool}(ha:iE nk x=some a)(hb:iE nk y=some b)(hab:a=true∨b=true)
  (hx:VR μ x x') (hy:VR μ y y') (w:World):(Op.equal t x' y').run P w=.ok (a&&b) w:=by
 have key:∀k:Nat,(Op.equalIn (k+1) t x' y').run P w=.ok (a&&b) w:=by
  intro k
  cases nk<;>cases d<;>simp[DD] at hd
  ·cases x<;>simp[iE] at ha<;>cases y<;>simp[iE] at hb<;>subst ha hb
   ·obtain⟨_,_⟩ | h:=hab<;>simp_all
   ·obtain⟨a1,rfl,_⟩:=hx;cases hy;simp[Op.equalIn,run_underlying hu]
   ·obtain⟨a1,rfl,_⟩:=hy;cases hx;simp[Op.equalIn,run_underlying hu]
   ·cases hx;cases hy;simp[Op.equalIn,run_underlying hu]
  ·cases x<;>simp[iE] at ha<;>cases y<;>simp[iE] at hb<;>subst ha hb
   ·obtain⟨_,_⟩ | h:=hab<;>simp_all
   ·obtain⟨a1,c1,rfl,_⟩:=hx;cases hy;simp[Op.equalIn,run_underlying hu]
   ·obtain⟨a1,c1,rfl,_⟩:=hy;cases hx;simp[Op.equalIn,run_underlying hu]
   ·cases hx;cases hy;simp[Op.equalIn,run_underlying hu]
  ·cases x<;>simp[iE] at ha<;>cases y<;>simp[iE] at hb<;>subst ha hb
   ·obtain⟨_,_⟩ | h:=hab<;>simp_all
   ·obtain⟨a1,rfl,_⟩:=hx;cases hy;simp[Op.equalIn,run_underlying hu]
   ·obtain⟨a1,rfl,_⟩:=hy;cases hx;simp[Op.equalIn,run_underlying hu]
   ·cases hx;cases hy;simp[Op.equalIn,run_underlying hu]
  ·cases x<;>simp[iE] at ha<;>cases y<;>simp[iE] at hb<;>subst ha hb
   ·obtain⟨_,_⟩ | h:=hab<;>simp_all
   ·obtain⟨a1,c1,rfl,_⟩:=hx;cases hy;simp[Op.equalIn,run_underlying hu]
   ·obtain⟨a1,c1,rfl,_⟩:=hy;cases hx;simp[Op.equalIn,run_underlying hu]
   ·cases hx;cases hy;simp[Op.equalIn,run_underlying hu]
 exact key 9999
theorem DE{nk:Nk}{x:IV}{a:Bool}(h:iE nk x=some a){x':Value}(hx:VR μ x x'):(∀cs,x'≠.agg cs)∧x'≠.nilIface:=by
 cases nk<;>cases x<;>simp[iE] at h
 all_goals first
  | (obtain⟨a1,c1,rfl,_⟩:=hx;exact⟨(fun _ e=>by cases e),(fun e=>by cases e)⟩)
  | (obtain⟨a1,rfl,_⟩:=hx;exact⟨(fun _ e=>by cases e),(fun e=>by cases e)⟩)
  | (cases hx;exact⟨(fun _ e=>by cases e),(fun e=>by cases e)⟩)
theorem ud(h:Rel P g0 μ H.get H.n w){op:BinOp}{neg:Bool}{t t2:TypeId}{d:TypeDesc}{x y:Operand}{nk:Nk}(hu:P.underlying t=some d)(hd:DD nk d=true)
  (hop:op=.eql∧neg=false∨op=.neq∧neg=true) (he:ev1 (.eqNil neg nk) xs lo H=some (v,H')) (hx:VRs μ xs [ρ x,ρ y]):
  Gives P g0 lo μ H w (execOp ρ ⟨dst,.binOp op t x y t2,type,pos,after,guard⟩) v H':=by
 simp only[ev1] at he;split at he
 ·rename_i a b;obtain⟨y1,y2,hy,h1,h2⟩:=ba hx;simp only[List.cons.injEq,and_true] at hy;obtain⟨rfl,rfl⟩:=hy
  have key:∃p q:Bool,iE nk a=some p∧iE nk b=some q∧(p=true∨q=true)∧v=.bool (neg !=(p&&q))∧H'=H:=by
   cases hp:iE nk a with
   | none=>rw[hp] at he;simp at he
   | some p=>
     cases hq:iE nk b with
     | none=>rw[hp,hq] at he;cases p<;>simp at he
     | some q=>
       rw[hp,hq] at he
       cases p<;>cases q<;>simp at he
       all_goals (obtain⟨rfl,rfl⟩:=he;exact⟨_,_,rfl,rfl,by simp,by simp,rfl⟩)
  obtain⟨p,q,hp,hq,hpq,rfl,rfl⟩:=key;have heq:=G7 (P:=P) hu hd hp hq hpq h1 h2 w;obtain⟨n1,n2⟩:=DE hp h1;rcases hop with⟨rfl,rfl⟩ | ⟨rfl,rfl⟩
  ·refine Gives.pure h (v':=.bool (p&&q)) ?_ (by simp[VR]);simp only[execOp]
   have hb:(binOp .eql t (ρ x) (ρ y)).run P w=.ok (.bool (p&&q)) w:=by
    cases nk<;>cases a<;>simp[iE] at hp<;>cases b<;>simp[iE] at hq
    all_goals first
     | (obtain⟨a1,c1,e1,_⟩:=h1;rw[e1] at heq⊢;simp[binOp,heq];done)
     | (obtain⟨a1,e1,_⟩:=h1;rw[e1] at heq⊢;simp[binOp,heq];done)
     | (have e1:ρ x=_:=h1;rw[e1] at heq⊢;simp[binOp,heq];done)
   simp[hX n1 n2,hb]
  ·refine Gives.pure h (v':=.bool !(p&&q)) ?_ (by simp[VR]);simp only[execOp]
   have hb:(binOp .neq t (ρ x) (ρ y)).run P w=.ok (.bool !(p&&q)) w:=by
    cases nk<;>cases a<;>simp[iE] at hp<;>cases b<;>simp[iE] at hq
    all_goals first
     | (obtain⟨a1,c1,e1,_⟩:=h1;rw[e1] at heq⊢;simp[binOp,heq];done)
     | (obtain⟨a1,e1,_⟩:=h1;rw[e1] at heq⊢;simp[binOp,heq];done)
     | (have e1:ρ x=_:=h1;rw[e1] at heq⊢;simp[binOp,heq];done)
   simp[hX n1 n2,hb]
 ·cases he
theorem np:∀{ds:List Pk} {xs:List Value},nr ds xs=true→xs.length=ds.length
 | [],[],_=>rfl
 | [],_::_,h=>by simp[nr] at h
 | _::_,[],h=>by simp[nr] at h
 | _::ds,_::xs,h=>by simp only[nr,Bool.and_eq_true] at h;simp[np h.2]
theorem nq:∀{d1 d2:List Pk} {xs:List Value},nr (d1++d2) xs=true→nr d1 (xs.take d1.length)=true∧nr d2 (xs.drop d1.length)=true
 | [],d2,xs,h=>⟨by simp[nr],by simpa using h⟩
 | d::d1,d2,[],h=>by simp[nr] at h
 | d::d1,d2,x::xs,h=>by
   simp only[List.cons_append,nr,Bool.and_eq_true] at h;obtain⟨a,b⟩:=nq h.2;exact⟨by simp[nr,h.1,a],by simpa using b⟩
theorem xD{t:TypeId}{d:Nat}{l:List Pk}(hf:bH P d t=some l)(hs:aJ P t=some l.length)(cs:Array Value)(off:Nat)(hc:l.length=0∨off+l.length≤cs.size)(w:World):
  (part t cs off).run P w=.ok (bu (d9 P t) ((cs.toList.drop off).take l.length)) w:=by
 obtain⟨desc,hu⟩:=j8 hf;rcases hc with hl0 | hc
 ·have hagg:d9 P t=true:=by
   cases hab:d9 P t with
   | true=>rfl
   | false=>have:=gZ hf hab;omega
  have hagg':(isAgg t).run P w=.ok true w:=by
   unfold d9 at hagg;rw[hu] at hagg
   cases desc<;>simp at hagg<;>simp[isAgg,run_underlying hu]
  have e1:(cs.extract off (off+l.length))=((cs.toList.drop off).take l.length).toArray:=by
   apply Array.ext';simp[List.extract_eq_take_drop]
  simp[part,hagg',aP hs,bu,hagg,e1]
 ·exact qt (P:=P) hs hu (fun hab=>gZ hf hab) hc w
theorem D7(em:Bool)(k:Nat):∀(d:Nat) (t:TypeId) (ds:List Pk),bH P d t=some ds→∀(xs:List Value) (w:World),nr ds xs=true→(Instr.checkKey em (k+d) t (bu (d9 P t) xs)).run P w=.ok () w:=by
 intro d
 induction d with
 | zero=>intro t ds h;cases h
 | succ d ih=>
   intro t ds h xs w he;simp only[bH] at h
   cases hu:P.underlying t with
   | none=>rw[hu] at h;cases h
   | some desc=>
     rw[hu] at h;have hab:=rf hu
     have prim:sk desc=false→(∀ms,desc≠.interface ms)→ds.length=1→(Instr.checkKey em (k+(d+1)) t (bu (d9 P t) xs)).run P w=.ok () w:=by
      intro h1 h2 h3;rw[hab,h1,←Nat.add_assoc];simp only[Instr.checkKey,Sem.run_bind,run_underlying hu,Result.andThen_ok]
      cases desc<;>simp_all [sk]
     cases desc with
     | bool=>injection h with h;subst h;exact prim rfl (fun _ e=>by cases e) rfl
     | int q=>injection h with h;subst h;exact prim rfl (fun _ e=>by cases e) rfl
     | string=>injection h with h;subst h;exact prim rfl (fun _ e=>by cases e) rfl
     | struct fs=>
       simp only at h;split at h
       ·cases h
       ·simp only[hab,sk,bu,if_true];rw[←Nat.add_assoc,Instr.checkKey];simp only[Sem.run_bind,run_underlying hu,Result.andThen_ok];rw[←Array.forIn_toList]
        have key:∀(L:List Field) (off:Nat) (ds:List Pk),lY P (bH P d) L off=some ds→nr ds (xs.drop off)=true→
          (forIn L PUnit.unit fun f _=>(do
           if f.name≠"_" then Instr.checkKey em (k+d) f.type (←part f.type xs.toArray f.offset)
           pure (ForInStep.yield PUnit.unit):Sem (ForInStep PUnit))).run P w=.ok PUnit.unit w:=by
         intro L
         induction L with
         | nil=>intro off ds _ _;simp
         | cons f L ihL=>
           intro off ds hfl hv;simp only[lY] at hfl
           cases hf:bH P d f.type with
           | none=>rw[hf] at hfl;cases hfl
           | some l=>
             rw[hf] at hfl;simp only at hfl;split at hfl
             ·rename_i hc;obtain⟨hn,ho,hs⟩:=hc
              cases hr:lY P (bH P d) L (off+l.length) with
              | none=>rw[hr] at hfl;cases hfl
              | some rest=>
                rw[hr] at hfl;injection hfl with hfl;subst hfl;have hlen:=np hv;obtain⟨hv1,hv2⟩:=nq hv;rw[List.drop_drop] at hv2;simp only[List.length_drop,List.length_append] at hlen;have p1:=xD hf hs xs.toArray off (by rw[List.size_toArray];omega) w;have p2:=ih f.type l hf _ w hv1;simp only[List.forIn_cons,Sem.run_bind,hn,ne_eq,not_false_eq_true,if_true,ho,p1,p2,Result.andThen_ok,Sem.run_pure];exact ihL _ rest hr hv2
             ·cases hfl
        have:=key fs.toList 0 ds h (by simpa using he)
        simp at this⊢
        rw[this];rfl
     | array n e=>
       simp only at h
       cases hf:bH P d e with
       | none=>rw[hf] at h;cases h
       | some l=>
         rw[hf] at h;simp only at h;split at h
         ·rename_i hs;injection h with h;subst h;simp only[hab,sk,bu,if_true];rw[←Nat.add_assoc,Instr.checkKey];simp only[Sem.run_bind,run_underlying hu,Result.andThen_ok];simp only[Std.Legacy.Range.forIn_eq_forIn_range',Std.Legacy.Range.size,Nat.sub_zero,Nat.add_one_sub_one,Nat.div_one]
          have key:∀(m j:Nat),nr (List.replicate m l).flatten (xs.drop (j*l.length))=true→
            (forIn (List.range' j m) PUnit.unit fun i _=>(do
             Instr.checkKey em (k+d) e (←part e xs.toArray (i*(←sizeOf e)))
             pure (ForInStep.yield PUnit.unit):Sem (ForInStep PUnit))).run P w=.ok PUnit.unit w:=by
           intro m
           induction m with
           | zero=>intro j _;simp
           | succ m ihm=>
             intro j hv;simp only[List.replicate_succ,List.flatten_cons] at hv;have hlen:=np hv;obtain⟨hv1,hv2⟩:=nq hv;rw[List.drop_drop,←Nat.succ_mul] at hv2;simp only[List.length_drop,List.length_append] at hlen;have p1:=xD hf hs xs.toArray (j*l.length) (by rw[List.size_toArray];omega) w;have p2:=ih e l hf _ w hv1;simp only[List.range'_succ,List.forIn_cons,Sem.run_bind,aP hs,Result.andThen_ok,p1,p2,Sem.run_pure];exact ihm (j+1) hv2
          have:=key n 0 (by simpa using he)
          simp at this⊢
          rw[this];rfl
         ·cases h
     | _=>simp at h
end
section
variable {P:Program}{g0 lo:Nat}{μ:Mu}{H:Heap}{w:World}{ρ:Operand→Value}{type:TypeId}{pos:String}{dst:Option Tmp}{after:Array Edge}{guard:Option (Nat×Bool)}
 {xs:List IV} {v:IV} {H':Heap}
theorem rV{k:TypeId}{ky:Bool×List Pk}(h:lg P k=some ky):bH P 8 k=some ky.2∧ky.1=d9 P k:=by
 unfold lg at h
 cases hf:bH P 8 k with
 | none=>rw[hf] at h;cases h
 | some ds=>
   rw[hf] at h;injection h with h;subst h;exact⟨rfl,rfl⟩
theorem gW{ag:Bool}{x:IV}{y:Value}(h:aT ag x=true)(hv:VR μ x y):y=bu ag y.cells.toList:=by
 cases x with
 | agg l=>obtain⟨l',rfl,_⟩:=hv;simp[aT] at h;subst h;simp[bu,Value.cells]
 | ptr b o=>obtain⟨a,rfl,_⟩:=hv;simp[aT] at h;subst h;rfl
 | slice b o n lb ex=>obtain⟨a,c,rfl,_⟩:=hv;simp[aT] at h;subst h;rfl
 | map b=>obtain⟨a,rfl,_⟩:=hv;simp[aT] at h;subst h;rfl
 | fn f a b=>obtain⟨l,r,rfl,_⟩:=hv;simp[aT] at h;subst h;rfl
 | yield b=>obtain⟨a,rfl,_⟩:=hv;simp[aT] at h;subst h;rfl
 | iface t x=>obtain⟨a,rfl,_⟩:=hv;simp[aT] at h;subst h;rfl
 | tuple l=>obtain⟨l',rfl,_⟩:=hv;simp[aT] at h;subst h;rfl
 | _=>cases hv;simp[aT] at h;subst h;rfl
theorem lW{ky:Bool×List Pk}{k k':IV}{r:Bool}(h:dU ky k k'=some r):aT ky.1 k=true∧aT ky.1 k'=true∧hU ky.2 k.cells k'.cells=some r:=by
 unfold dU at h;split at h
 ·rename_i hh;simp only[Bool.and_eq_true] at hh;exact⟨hh.1,hh.2,h⟩
 ·cases h
def Ej(μ:Mu):Option (Nat×IV)→Option (Nat×Value)→Prop
 | none,none=>True
 | some (i,v),some (j,u)=>i=j∧VR μ v u
 | _,_=>False
theorem Az{kt:TypeId}{ky:Bool×List Pk}(hk:lg P kt=some ky){k:IV}{key:Value}(hkey:VR μ k key)(w:World):∀(es:List (IV×IV×Nat)) (es':List MapEntry) (i:Nat) (r:Option (Nat×IV)),
  EsR μ es es'→aF ky k es i=some r→∃r',(Instr.findAsking kt key es' i).run P w=.ok r' w∧Ej μ r r':=by
 obtain⟨hf,hag⟩:=rV hk;intro es
 induction es with
 | nil=>
   intro es' i r he hfi;cases he;simp[aF] at hfi;subst hfi;exact⟨none,by simp[Instr.findAsking],trivial⟩
 | cons e es ih=>
   intro es' i r he hfi;obtain⟨k',v,s⟩:=e;obtain⟨e',l',rfl,hk',hv',_,hes⟩:=he;simp only[aF] at hfi
   cases hq:dU ky k k' with
   | none=>rw[hq] at hfi;cases hfi
   | some b=>
     obtain⟨s1,s2,hq'⟩:=lW hq;have heq:=wh (P:=P) hf (wi hq' hkey.cells_ hk'.cells_) w;rw[←hag,←gW s1 hkey,←gW s2 hk'] at heq;rw[hq] at hfi
     cases b with
     | true=>
       injection hfi with hfi;subst hfi;exact⟨some (i,e'.val),by simp[Instr.findAsking,heq],rfl,hv'⟩
     | false=>
       obtain⟨r',hr',hfr⟩:=ih l' (i+1) r hes hfi;exact⟨r',by simp[Instr.findAsking,heq,hr'],hfr⟩
theorem Gb{desc:TypeDesc}{pk:Pk}(hd:(desc=.bool∧pk=.bool)∨(∃q,desc=.int q∧pk=.int)∨(desc=.string∧pk=.str)){x y:Value}{r:Bool}(h:B2 pk x y=some r):Instr.sameNow desc x y=some r:=by
 rcases hd with⟨rfl,rfl⟩ | ⟨q,rfl,rfl⟩ | ⟨rfl,rfl⟩
 ·cases x<;>cases y<;>simp[B2] at h;subst h;rfl
 ·cases x<;>cases y<;>simp only[B2,reduceCtorEq] at h;simpa [Instr.sameNow] using h
 ·cases x<;>cases y<;>simp only[B2,reduceCtorEq] at h
  injection h with h;subst h;simp[Instr.sameNow,beq_toListBytes,ByteArray.toList_eq]
theorem GK{ky:Bool×List Pk}{desc:TypeDesc}{pk:Pk}(hd:(desc=.bool∧pk=.bool)∨(∃q,desc=.int q∧pk=.int)∨(desc=.string∧pk=.str))(hds:ky=(false,[pk])){k:IV}{key:Value}(hkey:VR μ k key):
  ∀(es:List (IV×IV×Nat)) (es':List MapEntry) (i:Nat) (r:Option (Nat×IV)),EsR μ es es'→aF ky k es i=some r→∃r',Instr.findNow desc key es' i=some r'∧Ej μ r r':=by
 subst hds;intro es
 induction es with
 | nil=>
   intro es' i r he hfi;cases he;simp[aF] at hfi;subst hfi;exact⟨none,rfl,trivial⟩
 | cons e es ih=>
   intro es' i r he hfi;obtain⟨k',v,s⟩:=e;obtain⟨e',l',rfl,hk',hv',_,hes⟩:=he;simp only[aF] at hfi
   cases hq:dU (false,[pk]) k k' with
   | none=>rw[hq] at hfi;cases hfi
   | some b=>
     obtain⟨s1,s2,hq'⟩:=lW hq;have hev:=wi hq' hkey.cells_ hk'.cells_
     have c1:∃x,key.cells.toList=[x]∧key=x:=by
      have:=gW s1 hkey
      have hl:=(bO hev).1
      cases hc:key.cells.toList with
      | nil=>rw[hc] at hl;simp at hl
      | cons x t=>
        rw[hc] at hl this;have ht:t=[]:=List.length_eq_zero_iff.1 (by simpa using hl);subst ht;exact⟨x,rfl,by simpa [bu] using this⟩
     have c2:∃x,e'.key.cells.toList=[x]∧e'.key=x:=by
      have:=gW s2 hk'
      have hl:=(bO hev).2
      cases hc:e'.key.cells.toList with
      | nil=>rw[hc] at hl;simp at hl
      | cons x t=>
        rw[hc] at hl this;have ht:t=[]:=List.length_eq_zero_iff.1 (by simpa using hl);subst ht;exact⟨x,rfl,by simpa [bu] using this⟩
     obtain⟨x1,hc1,hx1⟩:=c1;obtain⟨x2,hc2,hx2⟩:=c2;rw[hc1,hc2] at hev
     have hev':B2 pk key e'.key=some b:=by
      rw[hx1,hx2];simp only[bn] at hev
      cases hh:B2 pk x1 x2 with
      | none=>rw[hh] at hev;cases hev
      | some q=>rw[hh] at hev;simpa using hev
     have hsn:=Gb hd hev';rw[hq] at hfi
     cases b with
     | true=>
       injection hfi with hfi;subst hfi;exact⟨some (i,e'.val),by simp[Instr.findNow,hsn],rfl,hv'⟩
     | false=>
       obtain⟨r',hr',hfr⟩:=ih l' (i+1) r hes hfi;exact⟨r',by simp[Instr.findNow,hsn,hr'],hfr⟩
theorem lZ{kt:TypeId}{ky:Bool×List Pk}(hk:lg P kt=some ky){k:IV}{key:Value}(hkey:VR μ k key)(w:World){es:List (IV×IV×Nat)}{es':List MapEntry}{r:Option (Nat×IV)}
  (he:EsR μ es es') (hfi:aF ky k es 0=some r):∃r',(Instr.findKey kt key es').run P w=.ok r' w∧Ej μ r r':=by
 obtain⟨hf,hag⟩:=rV hk;obtain⟨desc,hu⟩:=j8 hf;have hab:=rf hu
 cases hd:sk desc with
 | true=>
   obtain⟨r',hr',hfr⟩:=Az hk hkey w es es' 0 r he hfi
   cases es' with
   | nil=>
     refine⟨none,by simp[Instr.findKey,run_underlying hu,Instr.findNow],?_⟩
     simp[Instr.findAsking] at hr';subst hr';exact hfr
   | cons e l=>
     have hnow:Instr.findNow desc key (e::l) 0=none:=by
      cases desc<;>simp[sk] at hd<;>simp[Instr.findNow,Instr.sameNow]
     exact⟨r',by simp[Instr.findKey,run_underlying hu,hnow,hr'],hfr⟩
 | false=>
   have hd3:∃pk,((desc=.bool∧pk=.bool)∨(∃q,desc=.int q∧pk=.int)∨(desc=.string∧pk=.str))∧ky=(false,[pk]):=by
    simp only[bH,hu] at hf;have h1:ky.1=false:=by rw[hag,hab,hd]
    cases desc<;>simp[sk] at hd hf
    ·exact⟨.bool,.inl ⟨rfl,rfl⟩,Prod.ext h1 hf.symm⟩
    ·exact⟨.int,.inr (.inl ⟨_,rfl,rfl⟩),Prod.ext h1 hf.symm⟩
    ·exact⟨.str,.inr (.inr ⟨rfl,rfl⟩),Prod.ext h1 hf.symm⟩
   obtain⟨pk,hdd,hky⟩:=hd3;obtain⟨r',hr',hfr⟩:=GK hdd hky hkey es es' 0 r he hfi;exact⟨r',by simp[Instr.findKey,run_underlying hu,hr'],hfr⟩
theorem kg{kt:TypeId}{ky:Bool×List Pk}(hk:lg P kt=some ky){k:IV}{key:Value}(hkey:VR μ k key)(ho:bS ky k=true)(em:Bool)(w:World):(Instr.checkKey em 10000 kt key).run P w=.ok () w:=by
 obtain⟨hf,hag⟩:=rV hk;unfold bS at ho;simp only[Bool.and_eq_true] at ho
 have:=D7 (P:=P) em 9992 8 kt ky.2 hf key.cells.toList w (Ko ho.2 hkey.cells_)
 rw[←hag,←gW ho.1 hkey] at this;exact this
theorem bQ{b clock:Nat}{es:List (IV×IV×Nat)}(h:az H b=some (es,clock)):H.get b=some (.map es clock):=by
 unfold az at h;split at h
 ·rename_i hh;injection h with h;injection h with h1 h2;subst h1 h2;exact hh
 ·cases h
theorem kC(h:Rel P g0 μ H.get H.n w){b clock:Nat}{es:List (IV×IV×Nat)}(hm:az H b=some (es,clock)){y:Value}(hv:VR μ (.map b) y):
  ∃(r ez z:Nat) (es':Array MapEntry),y=.map (some r)∧μ b=.at r 0 ez z∧w.heap[r]? =some (.map es' clock)∧EsR μ es es'.toList:=by
 have hg:=bQ hm;obtain⟨r,rfl,hl⟩:=hv;unfold LocR at hl
 cases hb:μ b with
 | no=>rw[hb] at hl;exact hl.elim
 | dead=>have:=h.ded b hb;rw[hg] at this;cases this
 | «at» c p ez z=>
   rw[hb] at hl;obtain⟨ob,hob,hor⟩:=h.obj b c p ez z hb;rw[hg] at hob;injection hob with hob;subst hob;obtain⟨hp,es',hes,her⟩:=hor;subst hp;simp only[Addr.mk.injEq] at hl;obtain⟨rfl,_⟩:=hl;exact⟨r,ez,z,es',rfl,rfl,hes,her⟩
theorem EsR.length:∀{es:List (IV×IV×Nat)} {l:List MapEntry},EsR μ es l→es.length=l.length
 | [],_,h=>by cases h;rfl
 | (_,_,_)::_,_,h=>by obtain⟨e,l',rfl,_,_,_,h'⟩:=h;simp[EsR.length h']
theorem bh{r clock:Nat}{es:Array MapEntry}(h:w.heap[r]? =some (.map es clock)):(getObj r).run P w=.ok (.map es clock) w:=by
 simp[getObj,Sem.run,h]
theorem I6(h:Rel P g0 μ H.get H.n w){t k e:TypeId}{x i:Operand}{ok:Bool}{ky:Bool×List Pk}{z:IV}(hu:P.underlying t=some (.map k e))(hk:lg P k=some ky)(hz:fk P e=some z)
  (he:ev1 (.lookup t ky z ok) xs lo H=some (v,H')) (hx:VRs μ xs [ρ x,ρ i]):
  Gives P g0 lo μ H w (execOp ρ ⟨dst,.lookup t x i ok,type,pos,after,guard⟩) v H':=by
 simp only[ev1] at he;split at he
 ·rename_i m key;obtain⟨y1,y2,hy,h1,h2⟩:=ba hx;simp only[List.cons.injEq,and_true] at hy;obtain⟨rfl,rfl⟩:=hy;obtain⟨inf,zv,hi,hzv,hvr⟩:=gU hz;have hzr:∀w:World,(zeroValue e).run P w=.ok zv w:=fun w=>by simp[zeroValue,typeInfo,hi,hzv]
  have fin:∀(es:List (IV×IV×Nat)) (es':Array MapEntry),EsR μ es es'.toList→bS ky key=true→∀r,aF ky key es 0=some r→
    (∀s:Sem Value,s=(do
     Instr.checkKey es'.isEmpty 10000 k (ρ i)
     let (v,there)←match←Instr.findKey k (ρ i) es'.toList with
      | some (_,v)=>pure (v,true)
      | none=>pure (←zeroValue e,false)
     pure (if ok then .tuple #[v,.bool there] else v))→∃r':Value,s.run P w=.ok r' w∧
      VR μ (let (v,there):IV×Bool:=match r with | some (_,v)=>(v,true) | none=>(z,false);if ok then .tuple [v,.bool there] else v) r'):=by
   intro es es' hes hok r hfi s hs;subst hs;obtain⟨r',hr',hfr⟩:=lZ hk h2 w hes hfi;have hch:=kg hk h2 hok es'.isEmpty w
   cases r with
   | none=>
     cases r' with
     | none=>
       refine⟨if ok then .tuple #[zv,.bool false] else zv,by simp[hch,hr',hzr],?_⟩
       cases ok
       ·exact hvr μ
       ·exact⟨_,rfl,_,_,rfl,hvr μ,_,_,rfl,rfl,rfl⟩
     | some p=>exact hfr.elim
   | some p=>
     obtain⟨i0,v0⟩:=p
     cases r' with
     | none=>exact hfr.elim
     | some p'=>
       obtain⟨i1,v1⟩:=p';obtain⟨_,hv1⟩:=hfr;refine⟨if ok then .tuple #[v1,.bool true] else v1,by simp[hch,hr'],?_⟩;cases ok
       ·exact hv1
       ·exact⟨_,rfl,_,_,rfl,hv1,_,_,rfl,rfl,rfl⟩
  cases m with
  | nilMap=>
    simp only at he;split at he
    ·rename_i hok
     cases hfi:aF ky key [] 0 with
     | none=>rw[hfi] at he;cases he
     | some r=>
       rw[hfi] at he;injection he with he;injection he with e1 e2;subst e1 e2;obtain⟨r',hr',hv'⟩:=fin [] #[] rfl hok r hfi _ rfl;have h1:ρ x=.map none:=h1;refine Gives.pure h (v':=r') ?_ hv';simp only[execOp,Instr.lookup,h1];simp[run_underlying hu] at hr'⊢;exact congrArg (fun r:Result Value=>r.andThen fun a w'=>Result.ok (Next.value a) w') hr'
    ·cases he
  | map b=>
    simp only at he
    cases hm:az H b with
    | none=>rw[hm] at he;cases he
    | some p=>
      obtain⟨es,clock⟩:=p;rw[hm] at he;simp only[Option.map_some] at he;split at he
      ·rename_i hok
       cases hfi:aF ky key es 0 with
       | none=>rw[hfi] at he;cases he
       | some r=>
         rw[hfi] at he;injection he with he;injection he with e1 e2;subst e1 e2;obtain⟨rr,ez,zz,es',hval,_,hheap,hes⟩:=kC h hm h1;obtain⟨r',hr',hv'⟩:=fin es es' hes hok r hfi _ rfl;refine Gives.pure h (v':=r') ?_ hv';simp only[execOp,Instr.lookup,hval];simp[run_underlying hu,bh hheap] at hr'⊢;exact congrArg (fun r:Result Value=>r.andThen fun a w'=>Result.ok (Next.value a) w') hr'
      ·cases he
  | _=>simp at he
 ·cases he
theorem ma{ky:Bool×List Pk}{k:IV}:∀{es:List (IV×IV×Nat)} {i0 i:Nat} {v:IV},aF ky k es i0=some (some (i,v))→i0≤i∧∃(k':IV) (s:Nat),es[i - i0]? =some (k',v,s)∧dU ky k k'=some true
 | [],i0,i,v,h=>by simp[aF] at h
 | (k',v',s)::es,i0,i,v,h=>by
   simp only[aF] at h
   cases hq:dU ky k k' with
   | none=>rw[hq] at h;cases h
   | some b=>
     rw[hq] at h
     cases b with
     | true=>
       simp only[Option.some.injEq,Prod.mk.injEq] at h;obtain⟨rfl,rfl⟩:=h;exact⟨Nat.le_refl _,k',s,by simp,hq⟩
     | false=>
       obtain⟨h1,k2,s2,h2,h3⟩:=ma h;refine⟨by omega,k2,s2,?_,h3⟩;rw[show i - i0=(i - (i0+1))+1 by omega];simpa using h2
theorem EsR.get:∀{es:List (IV×IV×Nat)} {l:List MapEntry} {i:Nat} {k v:IV} {s:Nat},EsR μ es l→es[i]? =some (k,v,s)→∃e,l[i]? =some e∧VR μ k e.key∧VR μ v e.val∧e.born=s
 | [],_,_,_,_,_,_,h=>by simp at h
 | (k0,v0,s0)::es,_,0,k,v,s,h,hi=>by
   obtain⟨e,l',rfl,h1,h2,h3,_⟩:=h;simp at hi;obtain⟨rfl,rfl,rfl⟩:=hi;exact⟨e,by simp,h1,h2,h3⟩
 | (k0,v0,s0)::es,_,i+1,k,v,s,h,hi=>by
   obtain⟨e,l',rfl,_,_,_,h'⟩:=h;obtain⟨e',he',hr⟩:=EsR.get h' (i:=i) (by simpa using hi);exact⟨e',by simpa using he',hr⟩
theorem EsR.set{k v:IV}{key val:Value}(hk:VR μ k key)(hv:VR μ v val):∀{es:List (IV×IV×Nat)} {l:List MapEntry} (i:Nat),EsR μ es l→EsR μ (bP k v es i) (l.modify i fun e=>{e with key,val})
 | [],_,i,h=>by cases h;cases i<;>simp[bP,EsR]
 | (_,_,_)::es,_,0,h=>by
   obtain⟨e,l',rfl,_,_,h3,h'⟩:=h;exact⟨_,_,rfl,hk,hv,h3,h'⟩
 | (_,_,_)::es,_,i+1,h=>by
   obtain⟨e,l',rfl,h1,h2,h3,h'⟩:=h;exact⟨_,_,rfl,h1,h2,h3,EsR.set hk hv i h'⟩
theorem EsR.snoc{k v:IV}{s:Nat}{e:MapEntry}(hk:VR μ k e.key)(hv:VR μ v e.val)(hs:e.born=s):∀{es:List (IV×IV×Nat)} {l:List MapEntry},EsR μ es l→EsR μ (es++[(k,v,s)]) (l++[e])
 | [],_,h=>by cases h;exact⟨e,[],rfl,hk,hv,hs,rfl⟩
 | (_,_,_)::es,_,h=>by
   obtain⟨e',l',rfl,h1,h2,h3,h'⟩:=h;exact⟨e',_,rfl,h1,h2,h3,EsR.snoc hk hv hs h'⟩
theorem EsR.erase:∀{es:List (IV×IV×Nat)} {l:List MapEntry} (i:Nat),EsR μ es l→EsR μ (dX es i) (l.eraseIdx i)
 | [],_,i,h=>by cases h;simp[dX,EsR]
 | (_,_,_)::es,_,0,h=>by
   obtain⟨e,l',rfl,_,_,_,h'⟩:=h;exact h'
 | (_,_,_)::es,_,i+1,h=>by
   obtain⟨e,l',rfl,h1,h2,h3,h'⟩:=h;exact⟨e,_,rfl,h1,h2,h3,EsR.erase i h'⟩
theorem EsR.born{val:Value}{v:IV}(hv:VR μ v val){born:Int}:∀{es es1:List (IV×IV×Nat)} {l:List MapEntry},EsR μ es l→gp v born es=some es1→
  ∃i,l.findIdx? (fun e=>(e.born:Int)==born)=some i∧EsR μ es1 (l.modify i fun e=>{e with val})
 | [],_,_,_,h=>by simp[gp] at h
 | (k,v0,s)::es,es1,_,hr,h=>by
   obtain⟨e,l',rfl,h1,h2,h3,h'⟩:=hr;simp only[gp] at h;split at h
   ·rename_i hs;injection h with h;subst h;refine⟨0,by simp[List.findIdx?_cons,h3,hs],e.key|>fun _=>⟨_,_,rfl,h1,hv,h3,h'⟩⟩
   ·rename_i hs
    cases hb:gp v born es with
    | none=>rw[hb] at h;cases h
    | some r=>
      rw[hb] at h;injection h with h;subst h;obtain⟨i,hi,hrr⟩:=EsR.born hv h' hb;refine⟨i+1,?_,⟨_,_,rfl,h1,h2,h3,hrr⟩⟩;have hne:((e.born:Int)==born)=false:=by rw[h3];simpa using hs
      simp[List.findIdx?_cons,hne,hi]
theorem vt{pk:Pk}{x y:Value}(h:B2 pk x y=some true)(n:Nat):Instr.sameBits n y x=true:=by
 cases pk<;>cases x<;>cases y<;>simp only[B2,reduceCtorEq] at h
 ·rename_i a b;injection h with h;simp at h;subst h;simp[Instr.sameBits]
 ·rename_i k a k' b;split at h
  ·rename_i hk;subst hk;injection h with h;simp at h;subst h;simp[Instr.sameBits]
  ·cases h
 ·rename_i a b;injection h with h
  have e:a=b:=by
   obtain⟨⟨x⟩⟩:=a;obtain⟨⟨y⟩⟩:=b;simp at h;subst h;rfl
  subst e;simp only[Instr.sameBits];rw[beq_toListBytes];simp
theorem sD:∀{ds:List Pk} {xs ys:List Value} (n:Nat),bn ds xs ys=some true→((ys.zip xs).all fun(p:Value×Value)=>Instr.sameBits n p.1 p.2)=true
 | [],[],[],_,_=>rfl
 | [],[],_::_,_,h=>by simp[bn] at h
 | [],_::_,_,_,h=>by simp[bn] at h
 | _::_,[],_,_,h=>by simp[bn] at h
 | _::_,_::_,[],_,h=>by simp[bn] at h
 | d::ds,x::xs,y::ys,n,h=>by
   simp only[bn] at h
   cases h1:B2 d x y with
   | none=>rw[h1] at h;cases h
   | some a=>
     cases h2:bn ds xs ys with
     | none=>rw[h1,h2] at h;cases h
     | some b=>
       rw[h1,h2] at h;injection h with h;simp only[Bool.and_eq_true] at h;obtain⟨rfl,rfl⟩:=h;simp[vt h1 n,sD n h2]
theorem Pl{ky:Bool×List Pk}{k k':IV}{key old:Value}(h:dU ky k k'=some true)(hk:VR μ k key)(hk':VR μ k' old)(w:World):(Instr.keyThatStays old key).run P w=.ok key w:=by
 obtain⟨s1,s2,hq⟩:=lW h;have hev:=wi hq hk.cells_ hk'.cells_;have e1:=gW s1 hk;have e2:=gW s2 hk'
 have hsb:Instr.sameBits 10000 old key=true:=by
  rw[e1,e2]
  cases hag:ky.1 with
  | true=>
    have hl:=bO hev;have hz:=sD 9999 hev
    have:Instr.sameBits (9999+1) (.agg old.cells.toList.toArray) (.agg key.cells.toList.toArray)=true:=by
     simp only[Instr.sameBits];rw[Bool.and_eq_true];refine⟨by simp at hl⊢;omega,by simpa using hz⟩
    simpa [bu] using this
  | false=>
    have c:∀{v:Value} {l:List Value},v=bu false l→l.length=1→∃x,l=[x]∧v=x:=by
     intro v l hv hl
     match l,hl with
     | [x],_=>exact⟨x,rfl,by simpa [bu] using hv⟩
    have hone:ky.2.length=1:=by
     have:=(bO hev).1
     rw[hag] at e1
     cases k with
     | agg l=>rw[hag] at s1;simp[aT] at s1
     | _=>
       have hcl:=hk.cells_.length;simp[IV.cells] at hcl;simp at this;omega
    obtain⟨x1,hx1,_⟩:=c (hag▸e1) (by rw[(bO hev).1];exact hone);obtain⟨x2,hx2,_⟩:=c (hag▸e2) (by rw[(bO hev).2];exact hone);rw[hx1,hx2] at hev⊢
    cases hds:ky.2 with
    | nil=>rw[hds] at hone;simp at hone
    | cons d ds=>
      rw[hds] at hev hone;have hd0:ds=[]:=List.length_eq_zero_iff.1 (by simpa using hone);subst hd0;simp only[bn] at hev
      cases hh:B2 d x1 x2 with
      | none=>rw[hh] at hev;cases hev
      | some q=>
        rw[hh] at hev;simp at hev;subst hev;simpa [bu] using vt hh 10000
 simp[Instr.keyThatStays,hsb]
theorem oG(h:Rel P g0 μ H.get H.n w){b r ez z clock clock':Nat}{es es1:List (IV×IV×Nat)}{es' es1':Array MapEntry}(hg:H.get b=some (.map es clock))(hb:μ b=.at r 0 ez z)(hlo:lo≤b)
  (hheap:w.heap[r]? =some (.map es' clock)) (hes:EsR μ es1 es1'.toList):
  ∃w':World,(setObj r (.map es1' clock')).run P w=.ok () w'∧Rel P g0 μ (H.put b (.map es1 clock')).get (H.put b (.map es1 clock')).n w'∧Post lo μ H.get H.n w μ (H.put b (.map es1 clock')).get (H.put b (.map es1 clock')).n w':=by
 have hlt:r < w.heap.size:=(Array.getElem?_eq_some_iff.1 hheap).1;refine⟨{w with heap:=w.heap.setIfInBounds r (.map es1' clock')},by simp[setObj,Sem.run,hheap],?_⟩;refine h.update (o:=.map es1 clock') hb hlo ⟨_,hg,rfl⟩ (by simp) (fun c' hc'=>by rw[Array.getElem?_setIfInBounds_ne (Ne.symm hc')]) ?_ rfl rfl rfl;rw[Array.getElem?_setIfInBounds_self_of_lt hlt];exact⟨rfl,es1',rfl,hes⟩
theorem A7(h:Rel P g0 μ H.get H.n w){t kt e:TypeId}{m k x:Operand}{ky:Bool×List Pk}(hu:P.underlying t=some (.map kt e))(hk:lg P kt=some ky)
  (he:ev1 (.mapUpd ky) xs lo H=some (v,H')) (hx:VRs μ xs [ρ m,ρ k,ρ x]):
  Gives P g0 lo μ H w (execOp ρ ⟨dst,.mapUpdate t m k x,type,pos,after,guard⟩) v H'∧Gives P g0 lo μ H w (execOp ρ ⟨dst,.insert t m k x,type,pos,after,guard⟩) v H':=by
 simp only[ev1] at he;split at he
 ·rename_i b key val;obtain⟨y1,y2,y3,hy,h1,h2,h3⟩:=mv hx;simp only[List.cons.injEq,and_true] at hy;obtain⟨rfl,rfl,rfl⟩:=hy
  cases hm:az H b with
  | none=>rw[hm] at he;cases he
  | some p=>
    obtain⟨es,clock⟩:=p;rw[hm] at he;simp only at he;split at he
    ·rename_i hok;obtain⟨r,ez,z,es',hval,hb,hheap,hes⟩:=kC h hm h1;have hch:=kg hk h2 hok.2 false w
     cases hfi:aF ky key es 0 with
     | none=>rw[hfi] at he;cases he
     | some fr=>
       rw[hfi] at he;obtain⟨r',hr',hfr⟩:=lZ hk h2 w hes hfi
       cases fr with
       | some q=>
         obtain⟨i,v0⟩:=q;injection he with he;injection he with e1 e2;subst e1 e2
         cases r' with
         | none=>exact hfr.elim
         | some q'=>
           obtain⟨i',v'⟩:=q';obtain⟨rfl,_⟩:=hfr;obtain⟨_,k',s,hget,hkeq⟩:=ma hfi;obtain⟨e',he',hke,_,_⟩:=hes.get hget;simp only[Nat.sub_zero] at he';have he'':es'[i]? =some e':=by simpa using he'
           have hst:=Pl (P:=P) hkeq h2 hke w;obtain⟨w',hset,hr,hp⟩:=oG (clock':=clock) (es1':=es'.modify i fun e=>{e with key:=ρ k,val:=ρ x}) h (bQ hm) hb hok.1 hheap (by rw[Array.toList_modify];exact hes.set h2 h3 i)
           have hrun:(Instr.mapUpdate t (ρ m) (ρ k) (ρ x)).run P w=.ok () w':=by
            simp[Instr.mapUpdate,run_underlying hu,hval,bh hheap,hch,hr',he'',hst,hset]
           exact⟨⟨.skip,undef,w',μ,by simp[execOp,hrun],.inr ⟨rfl,rfl⟩,hr,hp,⟨#[],rfl,rfl⟩⟩,⟨.skip,undef,w',μ,by simp[execOp,hrun],.inr ⟨rfl,rfl⟩,hr,hp,⟨#[],rfl,rfl⟩⟩⟩
       | none=>
         injection he with he;injection he with e1 e2;subst e1 e2
         cases r' with
         | some q'=>exact hfr.elim
         | none=>
           obtain⟨w',hset,hr,hp⟩:=oG (clock':=clock+1) (es1':=es'.push {key:=ρ k,val:=ρ x,born:=clock}) h (bQ hm) hb hok.1 hheap (by rw[Array.toList_push];exact EsR.snoc (e:={key:=ρ k,val:=ρ x,born:=clock}) h2 h3 rfl hes)
           have hrun:(Instr.mapUpdate t (ρ m) (ρ k) (ρ x)).run P w=.ok () w':=by
            simp[Instr.mapUpdate,run_underlying hu,hval,bh hheap,hch,hr',hset]
           exact⟨⟨.skip,undef,w',μ,by simp[execOp,hrun],.inr ⟨rfl,rfl⟩,hr,hp,⟨#[],rfl,rfl⟩⟩,⟨.skip,undef,w',μ,by simp[execOp,hrun],.inr ⟨rfl,rfl⟩,hr,hp,⟨#[],rfl,rfl⟩⟩⟩
    ·cases he
 ·cases he
theorem Dk(h:Rel P g0 μ H.get H.n w){t kt e:TypeId}{m k:Operand}{ky:Bool×List Pk}{z:IV}(hu:P.underlying t=some (.map kt e))(hk:lg P kt=some ky)(hz:fk P e=some z)
  (he:ev1 (.mapEntry t ky z) xs lo H=some (v,H')) (hx:VRs μ xs [ρ m,ρ k]):
  Gives P g0 lo μ H w (execOp ρ ⟨dst,.mapEntry t m k,type,pos,after,guard⟩) v H':=by
 simp only[ev1] at he;split at he
 ·rename_i b key;obtain⟨y1,y2,hy,h1,h2⟩:=ba hx;simp only[List.cons.injEq,and_true] at hy;obtain⟨rfl,rfl⟩:=hy
  cases hm:az H b with
  | none=>rw[hm] at he;cases he
  | some p=>
    obtain⟨es,clock⟩:=p;rw[hm] at he;simp only at he;split at he
    ·rename_i hok;obtain⟨r,ez,zz,es',hval,hb,hheap,hes⟩:=kC h hm h1;have hch:=kg hk h2 hok.2 false w
     cases hfi:aF ky key es 0 with
     | none=>rw[hfi] at he;cases he
     | some fr=>
       rw[hfi] at he;obtain⟨r',hr',hfr⟩:=lZ hk h2 w hes hfi
       cases fr with
       | some q=>
         obtain⟨i,v0⟩:=q;simp only at he;obtain⟨_,k',s,hget,hkeq⟩:=ma hfi;simp only[Nat.sub_zero] at hget;rw[hget] at he;injection he with he;injection he with e1 e2;subst e1 e2
         cases r' with
         | none=>exact hfr.elim
         | some q'=>
           obtain⟨i',v'⟩:=q';obtain⟨rfl,hv'⟩:=hfr;obtain⟨e',he',hke,hve,hbo⟩:=hes.get hget;have he'':es'[i]? =some e':=by simpa using he'
           have hst:=Pl (P:=P) hkeq h2 hke w
           have hmod:(es'.modify i fun e=>{e with key:=ρ k}).toList=es'.toList.modify i fun e=>{e with key:=ρ k,val:=e'.val}:=by
            rw[Array.toList_modify];apply List.ext_getElem?;intro j;simp only[List.getElem?_modify];by_cases hj:i=j
            ·subst hj;rw[he'];simp
            ·simp[hj]
           obtain⟨w',hset,hr,hp⟩:=oG (clock':=clock) (es1':=es'.modify i fun e=>{e with key:=ρ k}) h (bQ hm) hb hok.1 hheap (by rw[hmod];exact hes.set h2 hve i);refine⟨_,.tuple #[v',goInt e'.born],w',μ,?_,.inl rfl,hr,hp,_,rfl,_,_,rfl,hv',_,_,rfl,by rw[hbo];rfl,rfl⟩;simp only[execOp];simp[Instr.mapEntry,run_underlying hu,hval,bh hheap,hch,hr',he'',hst,hset]
       | none=>
         injection he with he;injection he with e1 e2;subst e1 e2
         cases r' with
         | some q'=>exact hfr.elim
         | none=>
           obtain⟨inf,zv,hi,hzv,hvr⟩:=gU hz;obtain⟨w',hset,hr,hp⟩:=oG (clock':=clock+1) (es1':=es'.push {key:=ρ k,val:=zv,born:=clock}) h (bQ hm) hb hok.1 hheap (by rw[Array.toList_push];exact EsR.snoc (e:={key:=ρ k,val:=zv,born:=clock}) h2 (hvr μ) rfl hes);refine⟨_,.tuple #[zv,goInt clock],w',μ,?_,.inl rfl,hr,hp,_,rfl,_,_,rfl,hvr μ,_,_,rfl,rfl,rfl⟩;simp only[execOp];simp[Instr.mapEntry,run_underlying hu,hval,bh hheap,hch,hr',zeroValue,typeInfo,hi,hzv,hset]
    ·cases he
 ·cases he
theorem zt(h:Rel P g0 μ H.get H.n w){t:TypeId}{m s x:Operand}(he:ev1 .entryStore xs lo H=some (v,H'))(hx:VRs μ xs [ρ m,ρ s,ρ x]):
  Gives P g0 lo μ H w (execOp ρ ⟨dst,.entryStore t m s x,type,pos,after,guard⟩) v H':=by
 simp only[ev1] at he;split at he
 ·rename_i b k born val;obtain⟨y1,y2,y3,hy,h1,h2,h3⟩:=mv hx;simp only[List.cons.injEq,and_true] at hy;obtain⟨rfl,rfl,rfl⟩:=hy
  cases hm:az H b with
  | none=>rw[hm] at he;cases he
  | some p=>
    obtain⟨es,clock⟩:=p;rw[hm] at he;simp only at he;split at he
    ·rename_i hlo
     cases hsb:gp val born es with
     | none=>rw[hsb] at he;cases he
     | some es1=>
       rw[hsb] at he;injection he with he;injection he with e1 e2;subst e1 e2;obtain⟨r,ez,z,es',hval,hb,hheap,hes⟩:=kC h hm h1;obtain⟨i,hi,hr1⟩:=EsR.born h3 hes hsb;have hi':es'.findIdx? (fun e=>(e.born:Int)==born)=some i:=by rw[←List.findIdx?_toArray,Array.toArray_toList] at hi;exact hi
       obtain⟨w',hset,hr,hp⟩:=oG (clock':=clock) (es1':=es'.modify i fun e=>{e with val:=ρ x}) h (bQ hm) hb hlo hheap (by rw[Array.toList_modify];exact hr1);refine⟨.skip,undef,w',μ,?_,.inr ⟨rfl,rfl⟩,hr,hp,⟨#[],rfl,rfl⟩⟩;simp only[execOp];simp[Instr.entryStore,hval,bh hheap,dZ h2,asInt,asIntOf,hi',hset]
    ·cases he
 ·cases he
theorem Je(h:Rel P g0 μ H.get H.n w){t kt e:TypeId}{args:Array Operand}{ts:Array TypeId}{ky:Bool×List Pk}(hts:ts[0]? =some t)(hu:P.underlying t=some (.map kt e))(hk:lg P kt=some ky)
  (he:ev1 (.delete ky) xs lo H=some (v,H')) (hx:VRs μ xs (args.toList.map ρ)):
  Gives P g0 lo μ H w (execOp ρ ⟨dst,.call ⟨.builtin .delete,args,ts⟩,type,pos,after,guard⟩) v H':=by
 simp only[ev1] at he;split at he
 ·rename_i b key;obtain⟨y1,y2,hy,h1,h2⟩:=ba hx;have hargs:args.map ρ=#[y1,y2]:=by apply Array.ext';simpa using hy
  have htup:VR μ IV.undef (.tuple #[]):=⟨#[],rfl,rfl⟩
  cases hm:az H b with
  | none=>rw[hm] at he;cases he
  | some p=>
    obtain⟨es,clock⟩:=p;rw[hm] at he;simp only at he;split at he
    ·rename_i hok;obtain⟨r,ez,z,es',hval,hb,hheap,hes⟩:=kC h hm h1;have hch:=kg hk h2 hok.2 es'.isEmpty w
     cases hfi:aF ky key es 0 with
     | none=>rw[hfi] at he;cases he
     | some fr=>
       rw[hfi] at he;obtain⟨r',hr',hfr⟩:=lZ hk h2 w hes hfi
       cases fr with
       | some q=>
         obtain⟨i,v0⟩:=q;injection he with he;injection he with e1 e2;subst e1 e2
         cases r' with
         | none=>exact hfr.elim
         | some q'=>
           obtain⟨i',v'⟩:=q';obtain⟨rfl,_⟩:=hfr;have her:(es'.eraseIdxIfInBounds i).toList=es'.toList.eraseIdx i:=by simp
           obtain⟨w',hset,hr,hp⟩:=oG (clock':=clock) (es1':=es'.eraseIdxIfInBounds i) h (bQ hm) hb hok.1 hheap (by rw[her];exact hes.erase i);refine⟨_,.tuple #[],w',μ,?_,.inl rfl,hr,hp,htup⟩;simp[execOp,resolve,invoke,builtin,hargs,Builtin.delete_,hts,run_underlying hu,hval,bh hheap,hch,hr',hset]
       | none=>
         injection he with he;injection he with e1 e2;subst e1 e2
         cases r' with
         | some q'=>exact hfr.elim
         | none=>
           have hself:w.heap.setIfInBounds r (.map es' clock)=w.heap:=by
            have hlt:r < w.heap.size:=(Array.getElem?_eq_some_iff.1 hheap).1;have hg:w.heap[r]=.map es' clock:=(Array.getElem?_eq_some_iff.1 hheap).2;apply Array.ext
            ·simp
            ·intro j h1 h2;rw[Array.getElem_setIfInBounds];split
             ·rename_i hj;subst hj;exact hg.symm
             ·rfl
           have hset:(setObj r (.map es' clock)).run P w=.ok () w:=by simp[setObj,Sem.run,hheap,hself]
           refine Gives.pure h (v':=.tuple #[]) ?_ htup;simp[execOp,resolve,invoke,builtin,hargs,Builtin.delete_,hts,run_underlying hu,hval,bh hheap,hch,hr',hset]
    ·cases he
 ·cases he
theorem I8(h:Rel P g0 μ H.get H.n w){t k e:TypeId}{args:Array Operand}{ts:Array TypeId}(hts:ts=#[t])(hu:P.underlying t=some (.map k e))
  (he:ev1 .lenMap xs lo H=some (v,H')) (hx:VRs μ xs (args.toList.map ρ)):
  Gives P g0 lo μ H w (execOp ρ ⟨dst,.call ⟨.builtin .len,args,ts⟩,type,pos,after,guard⟩) v H':=by
 simp only[ev1] at he;split at he
 ·rename_i x;obtain⟨y,hy,hv⟩:=aO hx;have hargs:args.map ρ=#[y]:=by apply Array.ext';simpa using hy
  subst hts
  cases x with
  | nilMap=>
    injection he with he;injection he with e1 e2;subst e1 e2;cases hv;exact Gives.pure h (v':=.int .i64 0) (by simp[execOp,resolve,invoke,builtin,hargs,Builtin.len_,run_underlying hu,goInt]) rfl
  | map b=>
    simp only at he
    cases hm:az H b with
    | none=>rw[hm] at he;cases he
    | some p=>
      obtain⟨es,clock⟩:=p;rw[hm] at he;injection he with he;injection he with e1 e2;subst e1 e2;obtain⟨r,ez,z,es',hval,hb,hheap,hes⟩:=kC h hm hv;subst hval;have hl:es.length=es'.size:=by have:=hes.length;simpa using this
      exact Gives.pure h (v':=.int .i64 es'.size) (by simp[execOp,resolve,invoke,builtin,hargs,Builtin.len_,run_underlying hu,bh hheap,goInt]) (by rw[hl];rfl)
  | _=>simp at he
 ·cases he
end
section
variable {P:Program}{g0 lo:Nat}{μ:Mu}{H:Heap}{w:World}{ρ:Operand→Value}{type:TypeId}{pos:String}{dst:Option Tmp}{after:Array Edge}{guard:Option (Nat×Bool)}
 {xs:List IV} {v:IV} {H':Heap}
theorem oY{xs:List IV}{y:Value}(hx:VRs μ xs [y]):∃(a:IV),xs=[a]∧VR μ a y:=by
 cases xs with
 | nil=>cases hx
 | cons a l=>
   obtain⟨y',ys,e,h1,h2⟩:=hx;injection e with e1 e2;subst e1 e2
   cases l with
   | nil=>exact⟨a,rfl,h1⟩
   | cons b l=>obtain⟨y,ys,e,_⟩:=h2;cases e
theorem I4(h:Rel P g0 μ H.get H.n w){t k e:TypeId}{x:Operand}(hu:P.underlying t=some (.map k e))
  (he:ev1 .rangeM xs lo H=some (v,H')) (hx:VRs μ xs [ρ x]):
  Gives P g0 lo μ H w (execOp ρ ⟨dst,.range t x,type,pos,after,guard⟩) v H':=by
 have key:∀(m:Option Nat) (m':Option Nat) (c:Nat),VR μ (match m with | none=>.nilMap | some b=>.map b) (.map m')→
   ∃μ':Mu,μ' H.n=.at w.heap.size 0 0 0∧Rel P g0 μ' (H.new (.iter m c [] c)).get (H.new (.iter m c [] c)).n {w with heap:=w.heap.push (.mapIter m' c #[] c)}∧
   Post lo μ H.get H.n w μ' (H.new (.iter m c [] c)).get (H.new (.iter m c [] c)).n {w with heap:=w.heap.push (.mapIter m' c #[] c)}:=by
  intro m m' c hm;have hle:=μ.le_upd (.at w.heap.size 0 0 0) h.fresh;obtain⟨a,b⟩:=h.alloc (lo:=lo) (o:=.iter m c [] c) (ez:=0) (z:=0) (w':={w with heap:=w.heap.push (.mapIter m' c #[] c)}) rfl ⟨rfl,m',rfl,VR.mono hle _ _ hm⟩ rfl rfl rfl;exact⟨_,av _ _ _,a,b⟩
 obtain⟨y,hy,hv⟩:=oY hx;subst hy;simp only[ev1] at he;split at he
 ·rename_i e0;injection e0 with e0 _;subst e0;injection he with he;injection he with e1 e2;subst e1 e2;obtain⟨μ',hn,hr,hp⟩:=key none none 0 rfl;have hv':ρ x=.map none:=hv;have hvr:VR μ' (.ptr H.n 0) (.pointer (some ⟨w.heap.size,0,none⟩)):=⟨_,rfl,by unfold LocR;rw[hn]⟩;refine⟨_,_,_,μ',?_,.inl rfl,hr,hp,hvr⟩;simp only[execOp];simp[Instr.range,run_underlying hu,hv',newObj,Sem.run]
 ·rename_i b e0;injection e0 with e0 _;subst e0
  cases hm:az H b with
  | none=>rw[hm] at he;cases he
  | some p=>
    obtain⟨es,clock⟩:=p;rw[hm] at he;injection he with he;injection he with e1 e2;subst e1 e2;obtain⟨r,ez,z,es',hval,hb,hheap,hes⟩:=kC h hm hv;obtain⟨μ',hn,hr,hp⟩:=key (some b) (some r) clock (by rw[←hval];exact hv);have hvr:VR μ' (.ptr H.n 0) (.pointer (some ⟨w.heap.size,0,none⟩)):=⟨_,rfl,by unfold LocR;rw[hn]⟩;refine⟨_,_,_,μ',?_,.inl rfl,hr,hp,hvr⟩;simp only[execOp];simp[Instr.range,run_underlying hu,hval,bh hheap,newObj,Sem.run]
 ·cases he
theorem wM{f:Nat→Bool}:∀{es:List (IV×IV×Nat)} {l:List MapEntry},EsR μ es l→EsR μ (es.filter fun e=>f e.2.2) (l.filter fun e=>f e.born)
 | [],_,h=>by cases h;rfl
 | (k,v,s)::es,_,h=>by
   obtain⟨e,l',rfl,h1,h2,h3,h'⟩:=h;have ih:=wM (f:=f) h';simp only[List.filter_cons,h3];split
   ·exact⟨e,_,rfl,h1,h2,h3,ih⟩
   ·exact ih
theorem wN{f:Nat→Bool}:∀{es:List (IV×IV×Nat)} {l:List MapEntry},EsR μ es l→(es.all fun e=>f e.2.2)=l.all fun e=>f e.born
 | [],_,h=>by cases h;rfl
 | (k,v,s)::es,_,h=>by
   obtain⟨e,l',rfl,h1,h2,h3,h'⟩:=h;simp only[List.all_cons,h3,wN (f:=f) h']
theorem MH(h:Rel P g0 μ H.get H.n w){x:Operand}
  (he:ev1 .nextM xs lo H=some (v,H')) (hx:VRs μ xs [ρ x]):
  Gives P g0 lo μ H w (execOp ρ ⟨dst,.next x false,type,pos,after,guard⟩) v H':=by
 obtain⟨y,hy,hv⟩:=oY hx;subst hy;simp only[ev1] at he;split at he
 ·rename_i r hr0;injection hr0 with hr0 _;subst hr0;split at he
  ·rename_i hlo;obtain⟨a,hval,hl⟩:=hv;unfold stepM at he
   have hown:∀o,H.get r=some o→o≠.dead→∃c p ez z,μ r=.at c p ez z∧ObjR P μ o p ez z w.heap[c]?∧a=⟨c,p+0,none⟩:=by
    intro o ho hd;unfold LocR at hl
    cases hb:μ r with
    | no=>rw[hb] at hl;exact hl.elim
    | dead=>have:=h.ded r hb;rw[ho] at this;injection this with this;exact absurd this hd
    | «at» c p ez z=>
      rw[hb] at hl;obtain⟨ob,hob,hor⟩:=h.obj r c p ez z hb;rw[ho] at hob;injection hob with hob;subst hob;exact⟨c,p,ez,z,rfl,hor,hl⟩
   have hover:VR μ (.tuple [.bool false]) (.tuple #[.bool false]):=⟨_,rfl,_,_,rfl,rfl,rfl⟩;split at he
   ·rename_i c0 s0 l0 hg;injection he with he;injection he with e1 e2;subst e1 e2;obtain⟨c,p,ez,z,hb,⟨rfl,m',hheap,hvm⟩,ha⟩:=hown _ hg (by simp);have hm':(Value.map m')=.map none:=hvm;injection hm' with hm';subst hm' ha;refine Gives.pure h (v':=.tuple #[.bool false]) ?_ hover;simp only[execOp];simp[Instr.next,hval,getObj,Sem.run,hheap]
   ·rename_i b since seen last hg;obtain⟨c,p,ez,z,hb,⟨rfl,m',hheap,hvm⟩,ha⟩:=hown _ hg (by simp);subst ha
    cases hm:az H b with
    | none=>rw[hm] at he;cases he
    | some q=>
      obtain⟨es,clock⟩:=q;rw[hm] at he;obtain⟨rm,ez2,z2,es',hvm',hbm,hheapm,hes⟩:=kC h hm hvm;injection hvm' with hvm';subst hvm';simp only at he;split at he
      ·cases he
      ·rename_i hcnd;have hall:=wN (f:=fun s=>decide (last≤s)) hes
       have hne:es=[]↔es'.toList=[]:=by
        have:=EsR.length hes
        rw[←List.length_eq_zero_iff,←List.length_eq_zero_iff,this]
       have hc1:(!seen.toArray.isEmpty&&!es'.isEmpty&&es'.all fun e=>decide (e.born≥last))=false:=by
        rw[Bool.eq_false_iff];intro hh;apply hcnd;simp only[Bool.and_eq_true,Bool.not_eq_true',Array.isEmpty_iff,decide_eq_true_eq] at hh;obtain⟨⟨h1,h2⟩,h3⟩:=hh;refine⟨fun e=>by subst e;simp at h1,fun e=>?_,?_⟩
        ·have:=hne.1 e
         have h4:es'=#[]:=by simpa using this
         subst h4;simp at h2
        ·rw[hall,←Array.all_toList] at *;exact h3
       have hfl:=wM (f:=fun s=>!seen.contains s) hes
       have hleft:(es'.filter fun e=>!seen.toArray.contains e.born).toList=es'.toList.filter fun e=>!seen.contains e.born:=by
        rw[Array.toList_filter];simp
       have g1:(getObj c).run P w=.ok (.mapIter (some rm) since seen.toArray last) w:=by simp[getObj,Sem.run,hheap]
       split at he
       ·rename_i hnil;injection he with he;injection he with e1 e2;subst e1 e2;rw[hnil] at hfl;have h0:es'.toList.filter (fun e=>!seen.contains e.born)=[]:=hfl;rw[h0] at hleft;have hla:(es'.filter fun e=>!seen.toArray.contains e.born)=#[]:=by simpa using hleft
        refine Gives.pure h (v':=.tuple #[.bool false]) ?_ hover;simp only[execOp,Instr.next,hval,Sem.run_bind,g1,Result.andThen_ok,bh hheapm,hc1,Bool.false_eq_true,if_false,hla];simp[choose,Sem.run,Question.forced]
       ·rename_i k0 v0 s0 hone;rw[hone] at hfl;obtain⟨e0,l',h0,hk0,hv0,hs0,h1⟩:=hfl;have h1:l'=[]:=h1;subst h1;rw[h0] at hleft;have hla:(es'.filter fun e=>!seen.toArray.contains e.born)=#[e0]:=by apply Array.ext';simpa using hleft
        split at he
        ·rename_i hlt;injection he with he;injection he with e1 e2;subst e1 e2;have hlt':e0.born < since:=by omega
         have hcs:c < w.heap.size:=(Array.getElem?_eq_some_iff.1 hheap).1
         obtain⟨hr,hp⟩:=h.update (lo:=lo) (w':={w with heap:=w.heap.setIfInBounds c (.mapIter (some rm) since (seen.toArray.push e0.born) clock)}) (o:=.iter (some b) since (seen++[s0]) clock) hb hlo ⟨_,hg,rfl⟩ (by simp) (fun c' hc'=>by rw[Array.getElem?_setIfInBounds_ne (Ne.symm hc')]) (by
          rw[Array.getElem?_setIfInBounds_self_of_lt hcs];exact⟨rfl,some rm,by rw[hs0];simp,hvm⟩) rfl rfl rfl
         refine⟨.value (.tuple #[.bool true,e0.key,e0.val]),.tuple #[.bool true,e0.key,e0.val],_,μ,?_,.inl rfl,hr,hp,⟨_,rfl,_,_,rfl,rfl,_,_,rfl,hk0,_,_,rfl,hv0,rfl⟩⟩
         simp only[execOp,Instr.next,hval,Sem.run_bind,g1,Result.andThen_ok,bh hheapm,hc1,Bool.false_eq_true,if_false,hla];have f1:(#[e0].filter fun x=>decide (x.born < since))=#[e0]:=by simp[hlt']
         have f2:(#[e0].filter fun x=>decide (x.born≥since))=#[]:=by simp;omega
         simp only[f1,f2];simp[choose,Sem.run,Question.forced,setObj,hheap]
        ·cases he
       ·cases he
   ·cases he
  ·cases he
 ·cases he
theorem yv{f:Nat→Bool}:∀{es:List (IV×IV×Nat)} {l:List MapEntry} {x:IV×IV×Nat},EsR μ es l→(es.find? fun e=>f e.2.2)=some x→∃e,(l.find? fun e=>f e.born)=some e∧VR μ x.1 e.key∧VR μ x.2.1 e.val
 | [],_,_,_,h=>by cases h
 | (k,v,s)::es,_,x,hr,h=>by
   obtain⟨e,l',rfl,h1,h2,h3,h'⟩:=hr;rw[List.find?_cons] at h⊢;rw[h3];simp only at h
   cases hf:f s with
   | true=>rw[hf] at h;injection h with h;subst h;exact⟨e,rfl,h1,h2⟩
   | false=>rw[hf] at h;exact yv h' h
theorem Jd(h:Rel P g0 μ H.get H.n w){x:Operand}
  (he:ev1 .entryM xs lo H=some (v,H')) (hx:VRs μ xs [ρ x]):
  Gives P g0 lo μ H w (execOp ρ ⟨dst,.entry x,type,pos,after,guard⟩) v H':=by
 obtain⟨y,hy,hv⟩:=oY hx;subst hy;simp only[ev1] at he;split at he
 ·rename_i r hr0;injection hr0 with hr0 _;subst hr0;obtain⟨a,hval,hl⟩:=hv;unfold wk at he;split at he
  ·rename_i b since seen last hg;unfold LocR at hl
   cases hb:μ r with
   | no=>rw[hb] at hl;exact hl.elim
   | dead=>have:=h.ded r hb;rw[hg] at this;cases this
   | «at» c p ez z=>
     rw[hb] at hl;obtain⟨ob,hob,hor⟩:=h.obj r c p ez z hb;rw[hg] at hob;injection hob with hob;subst hob;obtain⟨rfl,m',hheap,hvm⟩:=hor;subst hl;have g1:(getObj c).run P w=.ok (.mapIter m' since seen.toArray last) w:=by simp[getObj,Sem.run,hheap]
     cases hs:seen.getLast? with
     | none=>rw[hs] at he;cases he
     | some s=>
       rw[hs] at he;simp only at he
       cases hm:az H b with
       | none=>rw[hm] at he;cases he
       | some q=>
         obtain⟨es,clock⟩:=q;rw[hm] at he;simp only at he;obtain⟨rm,ez2,z2,es',hvm',hbm,hheapm,hes⟩:=kC h hm hvm;injection hvm' with hvm';subst hvm';split at he
         ·rename_i hcl;subst hcl
          cases hf:es.find? fun e=>e.2.2==s with
          | none=>rw[hf] at he;cases he
          | some e=>
            rw[hf] at he;injection he with he;injection he with e1 e2;subst e1 e2;obtain⟨e',hf',hk,hv⟩:=yv (f:=fun n=>n==s) hes hf;have hf2:es'.find? (fun e=>e.born==s)=some e':=by rw[←Array.find?_toList];exact hf'
            have hb2:seen.toArray.back? =some s:=by rw[List.back?_toArray];exact hs
            refine Gives.pure h (v':=.tuple #[e'.key,e'.val]) ?_ ⟨_,rfl,_,_,rfl,hk,_,_,rfl,hv,rfl⟩;simp only[execOp,Instr.entry,hval,Sem.run_bind,g1,Result.andThen_ok,hb2,bh hheapm];simp[hf2]
         ·cases he
  ·cases he
 ·cases he
end
section
variable {P:Program}{g0 lo:Nat}{μ:Mu}{H:Heap}{w:World}{ρ:Operand→Value}{xs:List IV}{v:IV}{H':Heap}
theorem G6{o:Oper}{kd:Kd}(hk:bG P o.op=some kd)(he:ev1 kd xs lo H=some (v,H'))(h:Rel P g0 μ H.get H.n w)(hx:VRs μ xs (o.op.operands.toList.map ρ)):
  Gives P g0 lo μ H w (execOp ρ o) v H':=by
 obtain⟨dst,op,type,pos,after,guard⟩:=o;simp only at hk hx
 cases op with
 | move x=>injection hk with hk;subst hk;exact(I5 h he hx).1
 | assign x=>injection hk with hk;subst hk;exact(I5 h he hx).2
 | pick c a b=>injection hk with hk;subst hk;exact Qc h he hx
 | alloc e=>
   simp only[bG] at hk
   cases hs:aJ P e with
   | none=>rw[hs] at hk;cases hk
   | some n=>
     rw[hs] at hk
     cases hz:fk P e with
     | none=>simp[hz] at hk
     | some z=>simp[hz] at hk;subst hk;exact MR h hz he
 | box e x=>
   simp only[bG] at hk
   cases hs:aJ P e with
   | none=>rw[hs] at hk;cases hk
   | some n=>rw[hs] at hk;injection hk with hk;subst hk;exact Sa h he hx
 | build t ps=>exact MP h hk he hx
 | buildSlice t len ps=>
   simp only[bG] at hk
   cases hu:P.underlying t with
   | none=>rw[hu] at hk;cases hk
   | some d=>
     rw[hu] at hk
     cases d with
     | slice e=>
       simp only at hk
       cases hz:gF P e with
       | none=>rw[hz] at hk;cases hk
       | some z=>
         rw[hz] at hk;simp only[Option.bind_some] at hk
         cases ho:pE (fun i=>some (i*z.1,z.1)) ps with
         | none=>rw[ho] at hk;cases hk
         | some offs=>
           rw[ho] at hk;simp only[Option.bind_some] at hk;split at hk
           ·rename_i hl;injection hk with hk;subst hk;exact Gd h hu hz ho hl.1 hl.2 he hx
           ·cases hk
     | _=>simp at hk
 | insert t m k x=>
   simp only[bG] at hk
   cases hu:P.underlying t with
   | none=>rw[hu] at hk;cases hk
   | some d=>
     rw[hu] at hk
     cases d with
     | map kt e=>
       simp only at hk
       cases hky:lg P kt with
       | none=>rw[hky] at hk;cases hk
       | some ky=>rw[hky] at hk;injection hk with hk;subst hk;exact(A7 h hu hky he hx).2
     | _=>simp at hk
 | load t a=>
   simp only[bG] at hk
   cases ha:pO P t with
   | none=>rw[ha] at hk;cases hk
   | some n=>rw[ha] at hk;injection hk with hk;subst hk;exact Qf h ha he hx
 | store t a x=>
   simp only[bG] at hk
   cases hs:aJ P t with
   | none=>rw[hs] at hk;cases hk
   | some n=>rw[hs] at hk;injection hk with hk;subst hk;exact MG h hs he hx
 | nilCheck x=>injection hk with hk;subst hk;exact Dj h he hx
 | binOp op t x y t2=>
   simp only[bG] at hk;by_cases hop:op=.eql∨op=.neq
   ·have key:∃neg:Bool,(op=.eql∧neg=false∨op=.neq∧neg=true)∧(match P.underlying t with
      | some .bool=>some (Kd.eqBool neg)
      | some (.int _) | some .string=>some (.bin op)
      | some (.struct _) | some (.array _ _)=>if P.eqGuardType P.depth t then none else(bH P 8 t).map (.eqFlat neg)
      | some (.pointer _)=>some (.eqNil neg .ptr)
      | some (.slice _)=>some (.eqNil neg .sl)
      | some (.map _ _)=>some (.eqNil neg .map)
      | some (.func _ _ _)=>some (.eqNil neg .fn)
      | _=>none)=some kd:=by
     rcases hop with rfl | rfl
     ·exact⟨false,.inl ⟨rfl,rfl⟩,hk⟩
     ·exact⟨true,.inr ⟨rfl,rfl⟩,hk⟩
    obtain⟨neg,hneg,hk⟩:=key
    cases hu:P.underlying t with
    | none=>rw[hu] at hk;cases hk
    | some d=>
      rw[hu] at hk
      cases d with
      | bool=>injection hk with hk;subst hk;exact Jc h hu hneg he hx
      | int q=>injection hk with hk;subst hk;exact Jf h he hx
      | string=>injection hk with hk;subst hk;exact Jf h he hx
      | struct fs=>
        simp only at hk;split at hk
        ·cases hk
        ·rename_i hg
         cases hf:bH P 8 t with
         | none=>rw[hf] at hk;cases hk
         | some ds=>
           rw[hf] at hk;injection hk with hk;subst hk;exact A9 h (by rw[rf hu];rfl) (by simpa using hg) hf hneg he hx
      | array n e=>
        simp only at hk;split at hk
        ·cases hk
        ·rename_i hg
         cases hf:bH P 8 t with
         | none=>rw[hf] at hk;cases hk
         | some ds=>
           rw[hf] at hk;injection hk with hk;subst hk;exact A9 h (by rw[rf hu];rfl) (by simpa using hg) hf hneg he hx
      | pointer e=>injection hk with hk;subst hk;exact ud h hu rfl hneg he hx
      | slice e=>injection hk with hk;subst hk;exact ud h hu rfl hneg he hx
      | map k e=>injection hk with hk;subst hk;exact ud h hu rfl hneg he hx
      | func a b c=>injection hk with hk;subst hk;exact ud h hu rfl hneg he hx
      | _=>simp at hk
   ·have:kd=.bin op:=by
     cases op<;>simp at hop<;>(injection hk with hk;exact hk.symm)
    subst this;exact Jf h he hx
 | unOp op t x=>injection hk with hk;subst hk;exact UD h he hx
 | convert s d x=>
   simp only[bG] at hk
   cases hs:P.underlying s with
   | none=>rw[hs] at hk;cases hk
   | some ds=>
     cases hd:P.underlying d with
     | none=>rw[hs,hd] at hk;cases ds<;>simp at hk
     | some dd=>
       rw[hs,hd] at hk
       cases ds with
       | int k0=>
         cases dd with
         | int k=>injection hk with hk;subst hk;exact Qh h hs hd he hx
         | _=>simp at hk
       | slice e=>
         cases dd with
         | string=>
           simp only at hk
           cases hu:P.underlying e with
           | none=>rw[hu] at hk;cases hk
           | some de=>
             rw[hu] at hk
             cases de with
             | int q=>cases q<;>simp at hk;subst hk;exact MF h hs hd hu he hx
             | _=>simp at hk
         | _=>simp at hk
       | _=>simp at hk
 | makeInterface t x=>
   simp only[bG] at hk
   cases hu:P.underlying t with
   | none=>rw[hu] at hk;cases hk
   | some d=>
     rw[hu] at hk
     cases d<;>simp at hk<;>subst hk<;>exact ML h hu (fun _ e=>by cases e) he hx
 | makeFunc fn first cap=>
   cases fn with
   | func f=>injection hk with hk;subst hk;exact Qe h he hx
   | _=>simp[bG] at hk
 | makeMap t r=>
   simp only[bG] at hk
   cases hu:P.underlying t with
   | none=>rw[hu] at hk;cases hk
   | some d=>
     rw[hu] at hk
     cases d with
     | map k e=>injection hk with hk;subst hk;exact MJ h hu he hx
     | _=>simp at hk
 | makeSlice t l c=>
   simp only[bG] at hk
   cases hu:P.underlying t with
   | none=>rw[hu] at hk;cases hk
   | some d=>
     rw[hu] at hk
     cases d with
     | slice e=>
       simp only at hk
       cases hz:gF P e with
       | none=>rw[hz] at hk;cases hk
       | some z=>
         rw[hz] at hk
         cases hb:hZ P e with
         | none=>simp[hb] at hk
         | some bt=>simp[hb] at hk;subst hk;exact Qd h hu hz hb he hx
     | _=>simp at hk
 | slice t x a b c=>
   simp only[bG] at hk
   cases hu:P.underlying t with
   | none=>rw[hu] at hk;cases hk
   | some d=>
     rw[hu] at hk
     cases d with
     | slice e=>
       simp only at hk
       cases hs:aJ P e with
       | none=>rw[hs] at hk;cases hk
       | some n=>rw[hs] at hk;injection hk with hk;subst hk;exact R6 h hu hs he hx
     | string=>
       simp only at hk
       cases c with
       | some z=>simp at hk
       | none=>simp at hk;subst hk;exact I2 h hu he hx
     | array n e=>
       simp only at hk
       cases hs:aJ P e with
       | none=>rw[hs] at hk;cases hk
       | some m=>rw[hs] at hk;injection hk with hk;subst hk;exact I3 h hu hs he hx
     | _=>simp at hk
 | fieldAddr t x i=>
   simp only[bG] at hk
   cases hf:ka P t i with
   | none=>rw[hf] at hk;cases hk
   | some f=>
     rw[hf] at hk;simp only[Option.bind_some] at hk
     cases hs:aJ P f.type with
     | none=>rw[hs] at hk;cases hk
     | some n=>
       rw[hs] at hk;simp only[Option.bind_some] at hk;split at hk
       ·cases hk
       ·rename_i hn;injection hk with hk;subst hk;exact A8 h hf hs hn he hx
 | field t x i=>
   simp only[bG] at hk
   cases hf:ka P t i with
   | none=>rw[hf] at hk;cases hk
   | some f=>
     rw[hf] at hk
     cases ha:pO P f.type with
     | none=>simp[ha] at hk
     | some n=>simp[ha] at hk;subst hk;exact MN h hf ha he hx
 | indexAddr t x i=>
   simp only[bG] at hk
   cases hu:P.underlying t with
   | none=>rw[hu] at hk;cases hk
   | some d=>
     rw[hu] at hk
     cases d with
     | slice e=>
       simp only at hk
       cases hs:aJ P e with
       | none=>rw[hs] at hk;cases hk
       | some n=>rw[hs] at hk;injection hk with hk;subst hk;exact MM h hu hs he hx
     | array n e=>
       simp only at hk
       cases hs:aJ P e with
       | none=>rw[hs] at hk;cases hk
       | some m=>rw[hs] at hk;injection hk with hk;subst hk;exact zr h hu hs he hx
     | _=>simp at hk
 | index t x i=>
   simp only[bG] at hk
   cases hu:P.underlying t with
   | none=>rw[hu] at hk;cases hk
   | some d=>
     rw[hu] at hk
     cases d with
     | array n e=>
       simp only at hk
       cases hs:aJ P e with
       | none=>rw[hs] at hk;cases hk
       | some m=>
         rw[hs] at hk
         cases ha:pO P e with
         | none=>simp[ha] at hk
         | some a=>simp[ha] at hk;subst hk;exact Jb h hu hs ha he hx
     | string=>injection hk with hk;subst hk;exact Ja h hu he hx
     | _=>simp at hk
 | lookup t x i ok=>
   simp only[bG] at hk
   cases hu:P.underlying t with
   | none=>rw[hu] at hk;cases hk
   | some d=>
     rw[hu] at hk
     cases d with
     | map k e=>
       simp only at hk
       cases hky:lg P k with
       | none=>rw[hky] at hk;cases hk
       | some ky=>
         rw[hky] at hk
         cases hz:fk P e with
         | none=>simp[hz] at hk
         | some z=>simp[hz] at hk;subst hk;exact I6 h hu hky hz he hx
     | _=>simp at hk
 | mapUpdate t m k x=>
   simp only[bG] at hk
   cases hu:P.underlying t with
   | none=>rw[hu] at hk;cases hk
   | some d=>
     rw[hu] at hk
     cases d with
     | map kt e=>
       simp only at hk
       cases hky:lg P kt with
       | none=>rw[hky] at hk;cases hk
       | some ky=>rw[hky] at hk;injection hk with hk;subst hk;exact(A7 h hu hky he hx).1
     | _=>simp at hk
 | mapEntry t m k=>
   simp only[bG] at hk
   cases hu:P.underlying t with
   | none=>rw[hu] at hk;cases hk
   | some d=>
     rw[hu] at hk
     cases d with
     | map kt e=>
       simp only at hk
       cases hky:lg P kt with
       | none=>rw[hky] at hk;cases hk
       | some ky=>
         rw[hky] at hk
         cases hz:fk P e with
         | none=>simp[hz] at hk
         | some z=>simp[hz] at hk;subst hk;exact Dk h hu hky hz he hx
     | _=>simp at hk
 | entryStore t m s x=>injection hk with hk;subst hk;exact zt h he hx
 | range t x=>
   simp only[bG] at hk
   cases hu:P.underlying t with
   | none=>rw[hu] at hk;cases hk
   | some d=>
     rw[hu] at hk
     cases d with
     | map kt e=>injection hk with hk;subst hk;exact I4 h hu he hx
     | _=>simp at hk
 | next x s=>
   cases s with
   | true=>simp[bG] at hk
   | false=>injection hk with hk;subst hk;exact MH h he hx
 | entry x=>injection hk with hk;subst hk;exact Jd h he hx
 | extract t i=>injection hk with hk;subst hk;exact Gc h he hx
 | call c=>
   obtain⟨callee,args,ts⟩:=c
   cases callee with
   | value f=>injection hk with hk;subst hk;simp[ev1] at he
   | invoke r m=>simp[bG] at hk
   | builtin b=>
     have hops:(Op.call ⟨.builtin b,args,ts⟩).operands.toList.map ρ=args.toList.map ρ:=by simp[Op.operands,Call.operands]
     rw[hops] at hx;simp only[bG] at hk;have hts1:∀t,ts.toList=[t]→ts=#[t]:=fun t ht=>by apply Array.ext';simpa using ht
     have hts2:∀t u,ts.toList=[t,u]→ts=#[t,u]:=fun t u ht=>by apply Array.ext';simpa using ht
     have hts0:∀t l,ts.toList=t::l→ts[0]? =some t:=fun t l ht=>by rw[←Array.getElem?_toList,ht];rfl
     cases b with
     | len=>
       cases hl:ts.toList with
       | nil=>rw[hl] at hk;simp[aH] at hk
       | cons t l=>
         rw[hl] at hk
         cases l with
         | cons=>simp[aH] at hk
         | nil=>
           simp only[aH] at hk
           cases hu:P.underlying t with
           | none=>rw[hu] at hk;cases hk
           | some d=>
             rw[hu] at hk
             cases d with
             | slice e=>injection hk with hk;subst hk;exact MK h (hts1 t hl) hu he hx
             | string=>injection hk with hk;subst hk;exact I7 h (hts1 t hl) hu he hx
             | array n e=>injection hk with hk;subst hk;exact I9 h (hts1 t hl) hu he hx
             | map k e=>injection hk with hk;subst hk;exact I8 h (hts1 t hl) hu he hx
             | _=>simp at hk
     | cap=>
       cases hl:ts.toList with
       | nil=>rw[hl] at hk;simp[aH] at hk
       | cons t l=>
         rw[hl] at hk
         cases l with
         | cons=>simp[aH] at hk
         | nil=>
           simp only[aH] at hk
           cases hu:P.underlying t with
           | none=>rw[hu] at hk;cases hk
           | some d=>
             rw[hu] at hk
             cases d with
             | slice e=>injection hk with hk;subst hk;exact R9 h (hts1 t hl) hu he hx
             | _=>simp at hk
     | append=>
       cases hl:ts.toList with
       | nil=>rw[hl] at hk;simp[aH] at hk
       | cons t l=>
         rw[hl] at hk
         cases l with
         | nil=>simp[aH] at hk
         | cons u l=>
           cases l with
           | cons=>simp[aH] at hk
           | nil=>
             simp only[aH] at hk
             cases hu:P.underlying t with
             | none=>rw[hu] at hk;simp at hk
             | some d=>
               cases d with
               | slice e=>
                 cases hu2:P.underlying u with
                 | none=>rw[hu,hu2] at hk;cases hk
                 | some d2=>
                   rw[hu,hu2] at hk
                   cases d2 with
                   | slice e2=>
                     simp only at hk
                     cases hz:gF P e with
                     | none=>rw[hz] at hk;cases hk
                     | some z=>
                       rw[hz] at hk
                       cases hb:hZ P e with
                       | none=>simp[hb] at hk
                       | some bt=>simp[hb] at hk;subst hk;exact Ba h (hts2 t u hl) hu (.inl ⟨e2,hu2⟩) hz hb he hx
                   | string=>
                     simp only at hk
                     cases hz:gF P e with
                     | none=>rw[hz] at hk;cases hk
                     | some z=>
                       rw[hz] at hk
                       cases hb:hZ P e with
                       | none=>simp[hb] at hk
                       | some bt=>simp[hb] at hk;subst hk;exact Ba h (hts2 t u hl) hu (.inr hu2) hz hb he hx
                   | int q=>
                     simp only at hk
                     cases hz:gF P e with
                     | none=>rw[hz] at hk;cases hk
                     | some z=>
                       rw[hz] at hk
                       cases hb:hZ P e with
                       | none=>simp[hb] at hk
                       | some bt=>simp[hb] at hk;subst hk;exact Ge h (hts2 t u hl) hu hu2 hz hb he hx
                   | _=>simp at hk
               | _=>rw[hu] at hk;simp at hk
     | copy=>
       cases hl:ts.toList with
       | nil=>rw[hl] at hk;simp[aH] at hk
       | cons t l=>
         rw[hl] at hk;simp only[aH] at hk
         cases hu:P.underlying t with
         | none=>rw[hu] at hk;cases hk
         | some d=>
           rw[hu] at hk
           cases d with
           | slice e=>
             simp only at hk
             cases hs:aJ P e with
             | none=>rw[hs] at hk;cases hk
             | some n=>rw[hs] at hk;injection hk with hk;subst hk;exact Qg h (hts0 t l hl) hu hs he hx
           | _=>simp at hk
     | delete=>
       cases hl:ts.toList with
       | nil=>rw[hl] at hk;simp[aH] at hk
       | cons t l=>
         rw[hl] at hk;simp only[aH] at hk
         cases hu:P.underlying t with
         | none=>rw[hu] at hk;cases hk
         | some d=>
           rw[hu] at hk
           cases d with
           | map k e=>
             simp only at hk
             cases hky:lg P k with
             | none=>rw[hky] at hk;cases hk
             | some ky=>rw[hky] at hk;injection hk with hk;subst hk;exact Je h (hts0 t l hl) hu hky he hx
           | _=>simp at hk
     | clear=>
       cases hl:ts.toList with
       | nil=>rw[hl] at hk;simp[aH] at hk
       | cons t l=>
         rw[hl] at hk;simp only[aH] at hk
         cases hu:P.underlying t with
         | none=>rw[hu] at hk;cases hk
         | some d=>
           rw[hu] at hk
           cases d with
           | slice e=>
             simp only at hk
             cases hz:gF P e with
             | none=>rw[hz] at hk;cases hk
             | some z=>rw[hz] at hk;injection hk with hk;subst hk;exact MO h (hts0 t l hl) hu hz he hx
           | _=>simp at hk
     | min=>simp only[aH] at hk;injection hk with hk;subst hk;exact R7 h he hx
     | max=>simp only[aH] at hk;injection hk with hk;subst hk;exact R8 h he hx
     | _=>simp[aH] at hk
 | _=>simp[bG] at hk
end
end Go.Iso
