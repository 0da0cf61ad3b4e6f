/- A part of the proof of a statement of this seat: the machine on which the program is read, and what it computes; for every input. -/
import Derived.Test.YtkmaeondbkpajaaGreatDoorG03
import Derived.Test.YtkmaeondbkpajaaGreatDoorG01
import Derived.WalkKit
import Derived.Lib.Builder
import Derived.Lib.Bytealg
import Derived.Lib.IndexEntry
import Derived.Laws.Externs
import Derived.ChangeArms
set_option linter.all false
namespace Go.Am
open Go Go.Proofs
variable [ZZ]
set_option maxRecDepth 100000
theorem aaB (t:TypeId):U.BU t=(!Tryz.prog.eqGuardType Tryz.prog.depth t&&!Tryz.prog.stoodInHeld t):=by unfold U;rfl
theorem aaC (t:TypeId):U.spec t=Nat.beq t 150:=by unfold U;rfl
theorem adS {f:FuncId}{fn:Func}(h:U.fn f=some fn):fn∈Tryz.prog.funcs.toList/\f≠36:=by
 rw[adG] at h
 cases hb:Nat.beq f 36
 ·rw[hb] at h;rw[cond_false,<-ajK] at h;exact⟨aj1 h,by rintro rfl;cases hb⟩
 ·rw[hb] at h;cases h
theorem nr {t:TypeId}(h:Stat.spec t=true):t=150:=Nat.eq_of_beq_eq_true h
theorem adT:Wb U Tryz.prog:=by
 refine⟨fun t d h=>?_,fun t d h=>?_,fun t d h=>?_,fun t h=>?_,fun t h=>?_,fun t h=>?_⟩
 ·rw[adE] at h;exact h
 ·rw[adF] at h;exact h
 ·rw[adG] at h
  cases hb:Nat.beq t 36
  ·rw[hb] at h;exact h
  ·rw[hb] at h;cases h
 ·rw[aaB] at h;rw[adm,aj3,aj3] at h;exact h
 ·rw[aaC];exact h
 ·have:=nr h;subst this;have hk:(match U.Zj 150 with|some (.int .u8)=>true|_=>false)=false:=by kernel_rfl
  intro e;rw[e] at hk;cases hk
theorem adU {us:Array Value}{a b:Value}(h:us.toList=[a,b]):us=#[a,b]:=by
 cases us;simp at h;subst h;rfl
theorem agT {us:Array Value}{a:Value}(h:us.toList=[a]):us=#[a]:=by
 cases us;simp at h;subst h;rfl
theorem aaD:nq U Tryz.prog 256 QC:=by
 intro args s v s' σ w us h H F G hv;unfold QC at h
 split at h
 ·rename_i l c
  cases h
  obtain⟨v1,y1,e1,⟨bs,rfl,vr⟩,v2,y2,e2,rfl,e3⟩:=hv;subst e2;rw[e3] at e1;have:=adU e1;subst this;rw[run_callFunc_extern Tryz.func256 (by kernel_rfl) (by kernel_rfl) (by kernel_rfl) (e:=Extern.BytealgIndexByte.indexByte) (by kernel_rfl),Lib.run_indexByteString];refine⟨σ,?_,Good.refl H⟩;rw[vr];rfl
 ·cases h
theorem ED (c:UInt8)(m:List UInt8):∀l:List UInt8,l.contains c=false->Lib.index l (c::m) = -1
 |[],_=>rfl
 |b::l,h=>by
  simp only[List.contains_cons,ajJ] at h;have ih:=ED c m l h.2;have hp:(c::m).isPrefixOf (b::l)=false:=by
   simp only[List.isPrefixOf,h.1,ajZ]
  unfold Lib.index;rw[hp,ih];rfl
theorem aaE {σ:Sg}{s:St}{w:World}(H:HR σ s w)(G:WR U σ):w.cell? ⟨0,0,none⟩=some (.int .i64 ZZ.val):=by
 obtain⟨n,h1,h2⟩:=G 0 (by rw[IW];omega);obtain⟨_,o,h4,h5⟩:=h2 (.cells [.int .i64 ZZ.val] 3 true 0 0) (by rw[M_];rfl);have h6:=(H.fz 0 o h4).1
 cases o with
 |cells cc e fz =>
  obtain⟨_,_,_,h7,_⟩:=h5;obtain⟨v,h8,h9⟩:=h7 0 (.int .i64 ZZ.val) rfl;have h9:v=.int .i64 ZZ.val:=h9;subst h9;simp only[World.cell?,h6]
  simpa using h8
 |map=>exact h5.elim
 |stringIter=>exact h5.elim
 |loop=>exact h5.elim
 |_=>exact h5.elim
theorem aaF:nq U Tryz.prog 223 Pd:=by
 intro args s v s' σ w us h H F G hv;unfold Pd at h
 split at h
 ·rename_i l c m
  split at h
  ·rename_i hc
   cases h
   simp only[adm,aj3,decide_eq_true_eq] at hc;obtain⟨⟨⟨h1,h2⟩,h3⟩,h4⟩:=hc;obtain⟨v1,y1,e1,⟨bs,rfl,vr⟩,v2,y2,e2,⟨bt,rfl,hbt⟩,e3⟩:=hv;subst e2;rw[e3] at e1;have:=adU e1;subst this;have hm:=aaE H G;have s1:bs.size=l.length:=by rw[<-vr];exact (ajx ..).symm
   have s2:bt.size=m.length+1:=by
    have:bt.size=bt.data.toList.length:=(ajx ..).symm;rw[this,hbt];rfl
   rw[run_callFunc_extern Tryz.func223 (by kernel_rfl) (by kernel_rfl) (by kernel_rfl) (e:=Extern.BytealgIndex.index) (by kernel_rfl),Lib.run_indexString bs bt w 0 ZZ.val (by kernel_rfl) hm (by omega) (by omega) (by omega)];refine⟨σ,?_,Good.refl H⟩;rw[vr,hbt,ED c m l h1];rfl
  ·cases h
 ·cases h
set_option maxHeartbeats 2000000 in
theorem xD (b:Nat)(w:World)(h0:w.cell? ⟨b,0,none⟩=some (.pointer none))(SF:w.shape? b=some (150,2))(NA:w.frozen? ⟨b,0,none⟩=false) :
  Calls Tryz.prog 147 #[.pointer (some ⟨b,0,none⟩)] w fun e w'=>e=.returned (.tuple #[])/\w'=w.setCell ⟨b,0,none⟩ (.pointer (some ⟨b,0,none⟩)):=by
 obtain⟨j,hj,hjs⟩:∃j,Tryz.prog.info? 150=some j/\j.size=2:=by
  have h:(Tryz.prog.info? 150).map (·.size)=some 2:=by kernel_rfl
  exact aj6.1 h
 go_enter Tryz.func147,Tryz.ntmps147
 go_wp2
 rw[Lib.run_to_unsafe w ⟨b,0,none⟩ Tryz.underlying147 Tryz.underlying268 hj (by rw[hjs];decide) SF (Nat.zero_lt_succ 1)];simp only[Result.andThen];rw[Oper.upon_value]
 go_wp2
 rw[run_callFunc_extern Tryz.func196 (by kernel_rfl) (by kernel_rfl) (by kernel_rfl) (e:=Extern.AbiNoEscape.same) (by kernel_rfl)];rw[Lib.run_noEscape];simp only[Result.andThen];rw[Oper.upon_value]
 go_wp2
 rw[Lib.run_from_unsafe w ⟨b,0,none⟩ Tryz.underlying268 Tryz.underlying147 hj SF (by kernel_rfl)];simp only[Result.andThen];rw[Oper.upon_value]
 go_wp2
 go_end0
 exact⟨rfl,rfl⟩
set_option maxHeartbeats 2000000 in
theorem rQ (b:Nat)(w:World)(h0:w.cell? ⟨b,0,none⟩=some (.pointer (some ⟨b,0,none⟩))) :
  Calls Tryz.prog 147 #[.pointer (some ⟨b,0,none⟩)] w fun e w'=>e=.returned (.tuple #[])/\w'=w:=by
 obtain⟨j,hj,hjs⟩:∃j,Tryz.prog.info? 150=some j/\j.size=2:=by
  have h:(Tryz.prog.info? 150).map (·.size)=some 2:=by kernel_rfl
  exact aj6.1 h
 go_enter Tryz.func147,Tryz.ntmps147
 go_wp2
 rw[Lib.run_neq_ptr_same w _ Tryz.underlying147 hj]
 go_wp2
 go_end0
 exact⟨rfl,rfl⟩
theorem rP {P:Program}{f:FuncId}{fn:Func}{c:Code}(hf:P.funcs[f]? = some fn)(adV:(fn.name == "runtime.NumGoroutine")=false)(hb:fn.body=some c)(args:Array Value)(w:World):(callFunc f args).run P w=.ok (.enter f args) w:=by
 have h1:fn.name ≠ "runtime.NumGoroutine":=by simpa using adV
 simp[callFunc,hf,h1,hb]
theorem xC (args:Array Value)(w:World):(callFunc 147 args).run Tryz.prog w=.ok (.enter 147 args) w:=rP Tryz.func147 (by kernel_rfl) rfl args w
theorem aaG:nq U Tryz.prog 147 Ot:=by
 intro args s v s' σ w us h H F G hv;unfold Ot at h
 split at h
 ·rename_i b
  split at h
  ·rename_i p buf t hg
   split at h
   ·rename_i ht;subst ht;obtain⟨v1,y1,e1,⟨pl,Tz,rfl⟩,e2⟩:=hv;rw[e2] at e1;have:=agT e1;subst this;have hl:s.look b=some (.cells [p,buf] 150 false 0 0):=St.X_ hg (by simp);obtain⟨cc,fz,h1,h2,h3,h4,h5⟩:=H.cells Tz hl;obtain⟨q1,q2⟩:=H.spec Tz hl rfl;have Wh:cc.size=2:=by rw[h2,q2];rfl
    obtain⟨c0,Dk,hr0⟩:=h4 0 p rfl;rw[q1] at Dk;have Pc:w.cell? ⟨pl.b,0,none⟩=some c0:=by rw[XZ h1];simpa using Dk
    have aaH:pl.sh+0=0:=by omega
    rw[aaH,xC];show Calls _ _ _ _ _
    split at h
    ·cases h
     have hr0:c0=.pointer none:=hr0;subst hr0;have SF:w.shape? pl.b=some (150,2):=by simp only[World.shape?,h1,Wh]
     have hnf:=h5 rfl 0;have SA:w.frozen? ⟨pl.b,0,none⟩=false:=by
      obtain⟨PQ,QO⟩:=fz;simp only[World.frozen?,h1];rw[Bool.eq_false_iff];intro hh;simp only[adm,decide_eq_true_eq] at hh;have:=hnf (by simp only;omega) (by simp only;omega) (by omega);omega
     obtain⟨w',hw,uT⟩:=SM (P:=Tryz.prog) (s':=s.put b (.cells [.ptr b 0,buf] 150 false 0 0)) (o:=0) (xs:=[.ptr b 0]) (us:=[.pointer (some ⟨pl.b,pl.sh+0,none⟩)]) H Tz ⟨_,_,rfl,⟨pl,Tz,rfl⟩,rfl⟩ (by simp[Xo,hg,Zx,lay]);rw[aaH] at hw;have X':(storeCells ⟨pl.b,0,none⟩ [.pointer (some ⟨pl.b,0,none⟩)]).run Tryz.prog w=.ok () (w.setCell ⟨pl.b,0,none⟩ (.pointer (some ⟨pl.b,0,none⟩))):=by
      have ha:(⟨pl.b,0,none⟩:Addr).add 0=⟨pl.b,0,none⟩:=rfl;simp only[storeCells,Sem.run_bind,ha];rw[run_store Tryz.prog w _ _ .plain rfl];simp only[Pc,SA,ajn,if_false,Result.andThen_ok];rfl
     rw[X'] at hw
     cases hw
     refine (xD pl.b w Pc SF SA).mono ?_;rintro e w' ⟨rfl,rfl⟩;exact⟨_,rfl,σ,⟨#[],rfl,rfl⟩,uT⟩
    ·rename_i b'
     split at h
     ·rename_i hb;subst hb
      cases h
      obtain⟨pl',adW,rfl⟩:=hr0;rw[Tz] at adW
      cases adW
      rw[aaH] at Pc;refine (rQ pl.b w Pc).mono ?_;rintro e w' ⟨rfl,rfl⟩;exact⟨_,rfl,σ,⟨#[],rfl,rfl⟩,Good.refl H⟩
     ·cases h
    ·cases h
   ·cases h
  ·cases h
 ·cases h
theorem adX {f:FuncId}{fn:Func}{c:Code}(hf:U.fn f=some fn)(hb:fn.body=some c):JC U fn.ntmps c=true:=by
 obtain⟨hm,Zv⟩:=adS hf;have h:=ajq.1 agU fn hm;rw[adY,hb,akj] at h;rcases h with h|h
 ·exfalso;apply Zv;have hu:(Tryz.prog.funcs.toList.zipIdx.all fun x=>!(x.1.name==Tryz.f36.name)||Nat.beq x.2 36)=true:=by kernel_rfl
  have EC:=adT.fn f fn hf;rw[<-ajK] at EC;have hz:(fn,f)∈Tryz.prog.funcs.toList.zipIdx:=by
   rw[List.mem_iff_getElem?];exact⟨f,by rw[List.getElem?_zipIdx,EC];simp⟩
  have:=ajq.1 hu _ hz;simp only[h,ajT,ajU] at this;exact Nat.eq_of_beq_eq_true this
 ·exact h
theorem aaI:Full U Tryz.prog:=by
 refine⟨adT,fun _ _=>Iff.rfl,fun f fn c hf hb=>adX hf hb,fun f fn hf=>?_,fun f g h=>?_,gn,fun i b h=>?_⟩
 ·have h:=ajq.1 agV fn (adS hf).1;rw[aj3] at h;exact h
 ·rw[AP] at h;unfold nM at h
  split at h
  ·cases h;exact aaG
  ·cases h;exact aaF
  ·cases h;exact aaD
  ·cases h
 ·rw[M_] at h;unfold dL at h
  split at h
  ·cases h;simp
  ·cases h
end Go.Am
namespace Go.Am
open Go
theorem vj {A:Type}{Q:Nat->A->Prop}:∀n:Nat,(∀i,i<n->∃y,Q i y)->∃l:List A,l.length=n/\∀i y,l[i]? = some y->Q i y
 |0,_=>⟨[],rfl,fun i y h=>by simp at h⟩
 |n+1,h=>by
  obtain⟨l,h1,h2⟩:=vj n fun i hi=>h i (by omega)
  obtain⟨y,hy⟩:=h n (by omega);refine⟨l++[y],by simp[h1],fun i z hz=>?_⟩;by_cases hi:i<l.length
  ·rw[ajM hi] at hz;exact h2 i z hz
  ·rw[akc (by omega)] at hz;have:i=n:=by
    rcases Nat.lt_or_ge (i-l.length) 1 with h|h
    ·omega
    ·rw[akb (by simp;omega)] at hz;cases hz
   subst this;rw[h1,Nat.sub_self] at hz
   cases hz;exact hy
theorem vi {k:Nat}{f:Nat->Option Value}:∀(us:List Value) (off:Nat),(∀u∈us,u.cells.size=k)->(∀q u,us[q]? = some u->∀r x,u.cells.toList[r]? = some x->f (off+q*k+r)=some x) ->
  ∀i v,(us.flatMap fun u=>u.cells.toList)[i]? = some v->f (off+i)=some v
 |[],off,_,_,i,v,h=>by simp at h
 |u::us,off,hs,hq,i,v,h=>by
  rw[ajL] at h;have hk:u.cells.toList.length=k:=by rw[ajx];exact hs u (aba ..)
  by_cases hi:i<k
  ·rw[ajM (by omega)] at h;have:=hq 0 u rfl i v h
   rwa [Nat.zero_mul,Nat.add_zero] at this
  ·rw[akc (by omega),hk] at h;have:=vi us (off+k) (fun u hu=>hs u (aab _ hu)) (fun q u' hu r x hx=>by
    have:=hq (q+1) u' (by simpa using hu) r x hx;rw[Nat.succ_mul] at this;rw[show off+k+q*k+r=off+(q*k+k)+r from by omega];exact this) (i-k) v h
   rwa [show off+k+(i-k)=off+i from by omega] at this
theorem Bz {σ:Sg}{A:Type}(enc:A->AV):∀(l:List A) (us:List Value),l.length=us.length->(∀(i:Nat) (a:A) (u:Value),l[i]? = some a->us[i]? = some u->ZT σ (enc a) u)->ZU σ (l.map enc) us
 |[],[],_,_=>rfl
 |a::l,u::us,h,H=>by
  rw[aju,ZU];exact⟨u,us,rfl,H 0 a u rfl rfl,Bz enc l us (by simpa using h) fun i a' u' h1 h2=>H (i+1) a' u' (by simpa using h1) (by simpa using h2)⟩
 |[],_::_,h,_=>by simp at h
 |_::_,[],h,_=>by simp at h
theorem JY {f:Nat->Option Value}{n:Nat}{l:List Value}(h:(List.range n).mapM f=some l):l.length=n/\∀i,i<n->f i=l[i]? := by
 have key:∀(m:List Nat) (l:List Value),m.mapM f=some l->l.length=m.length/\∀i (hi:i<m.length),f m[i]=l[i]? := by
  intro m
  induction m with
  |nil=>intro l h;simp at h;subst h;exact⟨rfl,fun i hi=>by simp at hi⟩
  |cons a m ih =>
   intro l h;rw[List.mapM_cons] at h
   cases ha:f a with
   |none=>rw[ha] at h;cases h
   |some x =>
    rw[ha] at h
    cases hm:m.mapM f with
    |none=>rw[hm] at h;cases h
    |some l' =>
     rw[hm] at h
     cases h
     obtain⟨h1,h2⟩:=ih l' hm;refine⟨by simp[h1],fun i hi=>?_⟩
     cases i with
     |zero=>exact ha
     |succ i=>simpa using h2 i (by simpa using hi)
 obtain⟨h1,h2⟩:=key _ _ h;rw[List.length_range] at h1;refine⟨h1,fun i hi=>?_⟩;have:=h2 i (by rw[List.length_range];exact hi)
 rwa [List.getElem_range] at this
theorem yn {w:World}{base:Nat}{a:Addr}{n:Nat}{cs:List Value}(h:w.cells? base a n=some cs):cs.length=n/\∀i,i<n->w.cell? (a.add i)=cs[i]? := by
 unfold World.cells? at h
 split at h
 ·exact JY h
 ·cases h
theorem Ld {w:World}{a:Addr}{v:Value}(h:w.cell? a=some v):a.spot=none/\∃cc e fz,w.heap[a.block]? = some (.cells cc e fz)/\cc[a.off]? = some v:=by
 unfold World.cell? at h
 split at h
 ·rename_i c e fz hc
  split at h
  ·cases h
  ·rename_i hs;refine⟨?_,c,e,fz,hc,h⟩
   cases Lu:a.spot with
   |none=>rfl
   |some x=>rw[Lu] at hs;simp at hs
 ·cases h
theorem OF (a:Addr)(n:Nat):(a.add n).block=a.block:=by unfold Addr.add;split <;> rfl
theorem vh (a:Addr)(n:Nat):(a.add n).off=a.off+n:=by
 unfold Addr.add;split
 ·rename_i h;subst h;rfl
 ·rfl
variable {H:Type}{enc:TypeId×Value->H}{P:Program}{w:World}{σ:Sg}
def oH (nl:Bool)(l:List AV):AV:=match nl,l with
 |true,[]=>.ZM
 |_,l=>.fz l
theorem open_row (hz:∀b o,w.heap[b]? = some o->σ.fz b=some o){A:Type}(en:A->AV){k:Nat}(hk:k≠0){e t:TypeId}(ht:P.underlying t=some (.slice e))(hc:P.cellsOf e=k){base:Nat}{spare:Nat->Bool}{held:Bool}{fuel:Nat}{cs:List Value}{x:DataW H×List MemPlace}
  (h:DataW.trod enc P w base spare held fuel t cs=some x)(HE:∀m cs x,m<fuel->DataW.trod enc P w base spare held m e cs=some x->∃(y:A) (u:Value),ZT σ.bare (en y) u/\u.cells.toList=cs) :
  ∃(nl:Bool) (l:List A) (v:Value),cs=[v]/\ZT σ.bare (oH nl (l.map en)) v/\l.length<=maxLen:=by
 rcases DataW.trod_slice ht h with⟨rfl,_⟩|⟨a,len,cap,elems,rest,n,hn,rfl,_,_,h1,h2,h3,h4,_,_⟩
 ·exact⟨true,[],_,rfl,rfl,aji _⟩
 ·have hex:∀i,i<len->∃yu:A×Value,ZT σ.bare (en yu.1) yu.2/\yu.2.cells.size=k/\∀r v,yu.2.cells.toList[r]? = some v->w.cell? ((a.add (i*k)).add r)=some v:=by
   intro i hi;have:=h4 i hi;rw[hc] at this;have hs:∃z,elems[i]? = some z:=⟨elems[i]'(by omega),aaa _⟩;obtain⟨z,jE⟩:=hs;rw[jE] at this
   cases Fm:w.cells? base (a.add (i*k)) k with
   |none=>rw[Fm] at this;cases this
   |some c =>
    rw[Fm] at this;obtain⟨y,u,hu,NB⟩:=HE n c z (by omega) this;obtain⟨g1,g2⟩:=yn Fm;refine⟨(y,u),hu,?_,fun r v hr=>?_⟩
    ·rw[<-ajx,NB,g1]
    ·rw[NB] at hr;rw[g2 r (by
      rcases Nat.lt_or_ge r c.length with h|h
      ·omega
      ·rw[akb h] at hr;cases hr)]
     exact hr
  obtain⟨l,hl,LB⟩:=vj len hex;have NP:∀q u,(l.map Prod.snd)[q]? = some u->∃yu:A×Value,l[q]? = some yu/\yu.2=u:=fun q u hq=>by
   rw[ajv] at hq;obtain⟨yu,h7,h8⟩:=aj6.1 hq;exact⟨yu,h7,h8⟩
  refine⟨false,l.map Prod.fst,_,rfl,?_,by rw[aje];omega⟩;have NA:oH false ((l.map Prod.fst).map en)=.fz ((l.map Prod.fst).map en):=by
   cases (l.map Prod.fst).map en <;> rfl
  rw[NA,ZT];refine⟨a,cap,l.map Prod.snd,by rw[aje,aje,hl],by rw[aje,aje,hl];exact h1,?_,?_⟩
  ·refine Bz en _ _ (by simp) fun i y u h5 h6=>?_
   obtain⟨yu,h7,rfl⟩:=NP i u h6;rw[ajv,h7] at h5
   cases h5
   exact (LB i yu h7).1
  ·cases l with
   |nil=>exact .inl rfl
   |cons yu l =>
    right
    obtain⟨g1,g2,g3⟩:=LB 0 yu rfl;have Dk:∃v,yu.2.cells.toList[0]? = some v:=⟨yu.2.cells.toList[0]'(by rw[ajx];omega),aaa _⟩;obtain⟨v0,Cy⟩:=Dk;obtain⟨s1,cc,e',fz,s2,s3⟩:=Ld (g3 0 v0 Cy);have Lu:a.spot=none:=by
     have h8:=g3 0 v0 Cy;rw[Nat.zero_mul] at h8;exact (Ld (a:=a) (by simpa[Addr.add] using h8)).1
    rw[OF,OF] at s2;refine⟨Lu,cc,e',fz,k,hz _ _ s2,hk,fun u hu=>?_,?_⟩
    ·obtain⟨q,hq⟩:=List.mem_iff_getElem?.1 hu;obtain⟨yu',h7,rfl⟩:=NP q u hq;exact (LB q yu' h7).2.1
    ·refine vi (k:=k) (f:=fun i=>cc[i]?) _ a.off (fun u hu=>?_) fun q u hq r x hx=>?_
     ·obtain⟨q,hq⟩:=List.mem_iff_getElem?.1 hu;obtain⟨yu',h7,rfl⟩:=NP q u hq;exact (LB q yu' h7).2.1
     ·obtain⟨yu',h7,rfl⟩:=NP q u hq;obtain⟨_,dx,e'',fz',s4,s5⟩:=Ld ((LB q yu' h7).2.2 r x hx);rw[OF,OF,s2] at s4
      cases s4
      rw[vh,vh] at s5;exact s5
end Go.Am
