/- A part of the proof of a statement of this seat: the machine on which the program is read, and what it computes; for every input. -/
import Derived.Test.YtikiipfbkfgmbaaGreatDoorM04
import Derived.Test.YtikiipfbkfgmbaaGreatDoorM01
import Derived.Test.YtikiipfbkfgmbaaGreatDoorM02
import Derived.WalkKit
import Derived.Lib.Builder
import Derived.Lib.Bytealg
import Derived.Lib.IndexEntry
import Derived.Laws.Externs
import Derived.ChangeArms
import Derived.Test.YtikiipfbkfgmbaaGreatDoorTie
import Derived.Test.YtikiipfbkfgmbaaGreatDoorCards
import Derived.ProofKit
import Derived.OpenShut
import Derived.LaidMore
import Derived.LaidLaws
import Derived.Lay
import Derived.Below
import Derived.Shelf.Vars
import Derived.SevenTiedAt
import Derived.Stop.Joined
set_option linter.all false
namespace Go.Am
open Go Go.Proofs
variable [Z4]
set_option maxRecDepth 100000
theorem abJ (t:TypeId):U.Ay t=(!Tryz.prog.eqGuardType Tryz.prog.depth t&&!Tryz.prog.stoodInHeld t):=by unfold U;rfl
theorem abK (t:TypeId):U.spec t=Nat.beq t 207:=by unfold U;rfl
theorem afb {f:FuncId}{fn:Func}(h:U.fn f=some fn):fn∈Tryz.prog.funcs.toList/\f≠75:=by
 rw[aeZ] at h
 cases hb:Nat.beq f 75
 ·rw[hb] at h;rw[cond_false,<-al1] at h;exact⟨amu h,by rintro rfl;cases hb⟩
 ·rw[hb] at h;cases h
theorem kI {t:TypeId}(h:Stat.spec t=true):t=207:=Nat.eq_of_beq_eq_true h
theorem afc:VI U Tryz.prog:=by
 refine⟨fun t d h=>?_,fun t d h=>?_,fun t d h=>?_,fun t h=>?_,fun t h=>?_,fun t h=>?_⟩
 ·rw[aeX] at h;exact h
 ·rw[aeY] at h;exact h
 ·rw[aeZ] at h
  cases hb:Nat.beq t 75
  ·rw[hb] at h;exact h
  ·rw[hb] at h;cases h
 ·rw[abJ] at h;rw[agw,ams,ams] at h;exact h
 ·rw[abK];exact h
 ·have:=kI h;subst this;have hk:(match U.Zd 207 with|some (.int .u8)=>true|_=>false)=false:=by kernel_rfl
  intro e;rw[e] at hk;cases hk
theorem afd {us:Array Value}{a b:Value}(h:us.toList=[a,b]):us=#[a,b]:=by
 cases us;simp at h;subst h;rfl
theorem aiZ {us:Array Value}{a:Value}(h:us.toList=[a]):us=#[a]:=by
 cases us;simp at h;subst h;rfl
theorem abL:kH U Tryz.prog 272 Pr:=by
 intro args s v s' σ w us h H F G hv;unfold Pr at h
 split at h
 ·rename_i l c
  cases h
  obtain⟨v1,y1,e1,⟨bs,rfl,LQ⟩,v2,y2,e2,rfl,e3⟩:=hv;subst e2;rw[e3] at e1;have:=afd e1;subst this;rw[run_callFunc_extern Tryz.func272 (by kernel_rfl) (by kernel_rfl) (by kernel_rfl) (e:=Extern.BytealgIndexByte.indexByte) (by kernel_rfl),Lib.run_indexByteString];refine⟨σ,?_,Good.refl H⟩;rw[LQ];rfl
 ·cases h
theorem Dq (c:UInt8)(m:List UInt8):∀l:List UInt8,l.contains c=false->Lib.index l (c::m) = -1
 |[],_=>rfl
 |b::l,h=>by
  simp only[List.contains_cons,ame] at h;have ih:=Dq c m l h.2;have hp:(c::m).isPrefixOf (b::l)=false:=by
   simp only[List.isPrefixOf,h.1,amq]
  unfold Lib.index;rw[hp,ih];rfl
theorem abM {σ:Sg}{s:St}{w:World}(H:HR σ s w)(G:WD U σ):w.cell? ⟨0,0,none⟩=some (.int .i64 Z4.val):=by
 obtain⟨n,h1,h2⟩:=G 0 (by rw[He];omega);obtain⟨_,o,h4,h5⟩:=h2 (.cells [.int .i64 Z4.val] 3 true 0 0) (by rw[LJ];rfl);have h6:=(H.fz 0 o h4).1
 cases o with
 |cells cc e fz =>
  obtain⟨_,_,_,h7,_⟩:=h5;obtain⟨v,h8,h9⟩:=h7 0 (.int .i64 Z4.val) rfl;have h9:v=.int .i64 Z4.val:=h9;subst h9;simp only[World.cell?,h6]
  simpa using h8
 |map=>exact h5.elim
 |stringIter=>exact h5.elim
 |loop=>exact h5.elim
 |_=>exact h5.elim
theorem abN:kH U Tryz.prog 250 Ob:=by
 intro args s v s' σ w us h H F G hv;unfold Ob at h
 split at h
 ·rename_i l c m
  split at h
  ·rename_i hc
   cases h
   simp only[agw,ams,decide_eq_true_eq] at hc;obtain⟨⟨⟨h1,h2⟩,h3⟩,h4⟩:=hc;obtain⟨v1,y1,e1,⟨bs,rfl,LQ⟩,v2,y2,e2,⟨bt,rfl,hbt⟩,e3⟩:=hv;subst e2;rw[e3] at e1;have:=afd e1;subst this;have hm:=abM H G;have s1:bs.size=l.length:=by rw[<-LQ];exact (alR ..).symm
   have s2:bt.size=m.length+1:=by
    have:bt.size=bt.data.toList.length:=(alR ..).symm;rw[this,hbt];rfl
   rw[run_callFunc_extern Tryz.func250 (by kernel_rfl) (by kernel_rfl) (by kernel_rfl) (e:=Extern.BytealgIndex.index) (by kernel_rfl),Lib.run_indexString bs bt w 0 Z4.val (by kernel_rfl) hm (by omega) (by omega) (by omega)];refine⟨σ,?_,Good.refl H⟩;rw[LQ,hbt,Dq c m l h1];rfl
  ·cases h
 ·cases h
set_option maxHeartbeats 2000000 in
theorem vD (b:Nat)(w:World)(h0:w.cell? ⟨b,0,none⟩=some (.pointer none))(QC:w.shape? b=some (207,2))(Rk:w.frozen? ⟨b,0,none⟩=false) :
  Calls Tryz.prog 182 #[.pointer (some ⟨b,0,none⟩)] w fun e w'=>e=.returned (.tuple #[])/\w'=w.setCell ⟨b,0,none⟩ (.pointer (some ⟨b,0,none⟩)):=by
 obtain⟨j,hj,hjs⟩:∃j,Tryz.prog.info? 207=some j/\j.size=2:=by
  have h:(Tryz.prog.info? 207).map (·.size)=some 2:=by kernel_rfl
  exact amB.1 h
 go_enter Tryz.func182,Tryz.ntmps182
 go_wp2
 rw[Lib.run_to_unsafe w ⟨b,0,none⟩ Tryz.underlying204 Tryz.underlying289 hj (by rw[hjs];decide) QC (Nat.zero_lt_succ 1)];simp only[Result.andThen];rw[Oper.upon_value]
 go_wp2
 rw[run_callFunc_extern Tryz.func221 (by kernel_rfl) (by kernel_rfl) (by kernel_rfl) (e:=Extern.AbiNoEscape.same) (by kernel_rfl)];rw[Lib.run_noEscape];simp only[Result.andThen];rw[Oper.upon_value]
 go_wp2
 rw[Lib.run_from_unsafe w ⟨b,0,none⟩ Tryz.underlying289 Tryz.underlying204 hj QC (by kernel_rfl)];simp only[Result.andThen];rw[Oper.upon_value]
 go_wp2
 go_end0
 exact⟨rfl,rfl⟩
set_option maxHeartbeats 2000000 in
theorem qh (b:Nat)(w:World)(h0:w.cell? ⟨b,0,none⟩=some (.pointer (some ⟨b,0,none⟩))) :
  Calls Tryz.prog 182 #[.pointer (some ⟨b,0,none⟩)] w fun e w'=>e=.returned (.tuple #[])/\w'=w:=by
 obtain⟨j,hj,hjs⟩:∃j,Tryz.prog.info? 207=some j/\j.size=2:=by
  have h:(Tryz.prog.info? 207).map (·.size)=some 2:=by kernel_rfl
  exact amB.1 h
 go_enter Tryz.func182,Tryz.ntmps182
 go_wp2
 rw[Lib.run_neq_ptr_same w _ Tryz.underlying204 hj]
 go_wp2
 go_end0
 exact⟨rfl,rfl⟩
theorem qg {P:Program}{f:FuncId}{fn:Func}{c:Code}(hf:P.funcs[f]? = some fn)(afe:(fn.name == "runtime.NumGoroutine")=false)(hb:fn.body=some c)(args:Array Value)(w:World):(callFunc f args).run P w=.ok (.enter f args) w:=by
 have h1:fn.name ≠ "runtime.NumGoroutine":=by simpa using afe
 simp[callFunc,hf,h1,hb]
theorem vC (args:Array Value)(w:World):(callFunc 182 args).run Tryz.prog w=.ok (.enter 182 args) w:=qg Tryz.func182 (by kernel_rfl) rfl args w
theorem abO:kH U Tryz.prog 182 Nq:=by
 intro args s v s' σ w us h H F G hv;unfold Nq at h
 split at h
 ·rename_i b
  split at h
  ·rename_i p buf t hg
   split at h
   ·rename_i ht;subst ht;obtain⟨v1,y1,e1,⟨pl,Mw,rfl⟩,e2⟩:=hv;rw[e2] at e1;have:=aiZ e1;subst this;have hl:s.look b=some (.cells [p,buf] 207 false 0 0):=St.X4 hg (by simp);obtain⟨cc,fz,h1,h2,h3,h4,h5⟩:=H.cells Mw hl;obtain⟨q1,q2⟩:=H.spec Mw hl rfl;have VY:cc.size=2:=by rw[h2,q2];rfl
    obtain⟨c0,hc0,hr0⟩:=h4 0 p rfl;rw[q1] at hc0;have Oa:w.cell? ⟨pl.b,0,none⟩=some c0:=by rw[XT h1];simpa using hc0
    have abP:pl.sh+0=0:=by omega
    rw[abP,vC];show Calls _ _ _ _ _
    split at h
    ·cases h
     have hr0:c0=.pointer none:=hr0;subst hr0;have QC:w.shape? pl.b=some (207,2):=by simp only[World.shape?,h1,VY]
     have hnf:=h5 rfl 0;have PX:w.frozen? ⟨pl.b,0,none⟩=false:=by
      obtain⟨OM,PF⟩:=fz;simp only[World.frozen?,h1];rw[Bool.eq_false_iff];intro hh;simp only[agw,decide_eq_true_eq] at hh;have:=hnf (by simp only;omega) (by simp only;omega) (by omega);omega
     obtain⟨w',hw,aff⟩:=Rv (P:=Tryz.prog) (s':=s.put b (.cells [.ptr b 0,buf] 207 false 0 0)) (o:=0) (xs:=[.ptr b 0]) (us:=[.pointer (some ⟨pl.b,pl.sh+0,none⟩)]) H Mw ⟨_,_,rfl,⟨pl,Mw,rfl⟩,rfl⟩ (by simp[Xi,hg,Zz,lay]);rw[abP] at hw;have YA:(storeCells ⟨pl.b,0,none⟩ [.pointer (some ⟨pl.b,0,none⟩)]).run Tryz.prog w=.ok () (w.setCell ⟨pl.b,0,none⟩ (.pointer (some ⟨pl.b,0,none⟩))):=by
      have ha:(⟨pl.b,0,none⟩:Addr).add 0=⟨pl.b,0,none⟩:=rfl;simp only[storeCells,Sem.run_bind,ha];rw[run_store Tryz.prog w _ _ .plain rfl];simp only[Oa,PX,ali,if_false,Result.andThen_ok];rfl
     rw[YA] at hw
     cases hw
     refine (vD pl.b w Oa QC PX).mono ?_;rintro e w' ⟨rfl,rfl⟩;exact⟨_,rfl,σ,⟨#[],rfl,rfl⟩,aff⟩
    ·rename_i b'
     split at h
     ·rename_i hb;subst hb
      cases h
      obtain⟨pl',afg,rfl⟩:=hr0;rw[Mw] at afg
      cases afg
      rw[abP] at Oa;refine (qh pl.b w Oa).mono ?_;rintro e w' ⟨rfl,rfl⟩;exact⟨_,rfl,σ,⟨#[],rfl,rfl⟩,Good.refl H⟩
     ·cases h
    ·cases h
   ·cases h
  ·cases h
 ·cases h
theorem afh {f:FuncId}{fn:Func}{c:Code}(hf:U.fn f=some fn)(hb:fn.body=some c):HK U fn.ntmps c=true:=by
 obtain⟨hm,ZC⟩:=afb hf;have h:=alK.1 ai0 fn hm;rw[afi,hb,amE] at h;rcases h with h|h
 ·exfalso;apply ZC;have hu:(Tryz.prog.funcs.toList.zipIdx.all fun x=>!(x.1.name==Tryz.f75.name)||Nat.beq x.2 75)=true:=by kernel_rfl
  have Dp:=afc.fn f fn hf;rw[<-al1] at Dp;have hz:(fn,f)∈Tryz.prog.funcs.toList.zipIdx:=by
   rw[List.mem_iff_getElem?];exact⟨f,by rw[List.getElem?_zipIdx,Dp];simp⟩
  have:=alK.1 hu _ hz;simp only[h,ama,amf] at this;exact Nat.eq_of_beq_eq_true this
 ·exact h
theorem abQ:Full U Tryz.prog:=by
 refine⟨afc,fun _ _=>Iff.rfl,fun f fn c hf hb=>afh hf hb,fun f fn hf=>?_,fun f g h=>?_,dP,fun i b h=>?_⟩
 ·have h:=alK.1 ai1 fn (afb hf).1;rw[ams] at h;exact h
 ·rw[zq] at h;unfold lg at h
  split at h
  ·cases h;exact abO
  ·cases h;exact abN
  ·cases h;exact abL
  ·cases h
 ·rw[LJ] at h;unfold aJ at h
  split at h
  ·cases h;simp
  ·cases h
end Go.Am
namespace Go.Am
open Go
theorem tp {A:Type}{Q:Nat->A->Prop}:∀n:Nat,(∀i,i<n->∃y,Q i y)->∃l:List A,l.length=n/\∀i y,l[i]? = some y->Q i y
 |0,_=>⟨[],rfl,fun i y h=>by simp at h⟩
 |n+1,h=>by
  obtain⟨l,h1,h2⟩:=tp n fun i hi=>h i (by omega)
  obtain⟨y,hy⟩:=h n (by omega);refine⟨l++[y],by simp[h1],fun i z hz=>?_⟩;by_cases hi:i<l.length
  ·rw[al0 hi] at hz;exact h2 i z hz
  ·rw[amI (by omega)] at hz;have:i=n:=by
    rcases Nat.lt_or_ge (i-l.length) 1 with h|h
    ·omega
    ·rw[amm (by simp;omega)] at hz;cases hz
   subst this;rw[h1,Nat.sub_self] at hz
   cases hz;exact hy
theorem tn {k:Nat}{f:Nat->Option Value}:∀(us:List Value) (off:Nat),(∀u∈us,u.cells.size=k)->(∀q u,us[q]? = some u->∀r x,u.cells.toList[r]? = some x->f (off+q*k+r)=some x) ->
  ∀i v,(us.flatMap fun u=>u.cells.toList)[i]? = some v->f (off+i)=some v
 |[],off,_,_,i,v,h=>by simp at h
 |u::us,off,hs,hq,i,v,h=>by
  rw[al7] at h;have hk:u.cells.toList.length=k:=by rw[alR];exact hs u (aba ..)
  by_cases hi:i<k
  ·rw[al0 (by omega)] at h;have:=hq 0 u rfl i v h
   rwa [Nat.zero_mul,Nat.add_zero] at this
  ·rw[amI (by omega),hk] at h;have:=tn us (off+k) (fun u hu=>hs u (aab _ hu)) (fun q u' hu r x hx=>by
    have:=hq (q+1) u' (by simpa using hu) r x hx;rw[Nat.succ_mul] at this;rw[show off+k+q*k+r=off+(q*k+k)+r from by omega];exact this) (i-k) v h
   rwa [show off+k+(i-k)=off+i from by omega] at this
theorem Aa {σ:Sg}{A:Type}(enc:A->AV):∀(l:List A) (us:List Value),l.length=us.length->(∀(i:Nat) (a:A) (u:Value),l[i]? = some a->us[i]? = some u->ZY σ (enc a) u)->ZZ σ (l.map enc) us
 |[],[],_,_=>rfl
 |a::l,u::us,h,H=>by
  rw[alT,ZZ];exact⟨u,us,rfl,H 0 a u rfl rfl,Aa enc l us (by simpa using h) fun i a' u' h1 h2=>H (i+1) a' u' (by simpa using h1) (by simpa using h2)⟩
 |[],_::_,h,_=>by simp at h
 |_::_,[],h,_=>by simp at h
theorem Is {f:Nat->Option Value}{n:Nat}{l:List Value}(h:(List.range n).mapM f=some l):l.length=n/\∀i,i<n->f i=l[i]? := by
 have key:∀(m:List Nat) (l:List Value),m.mapM f=some l->l.length=m.length/\∀i (hi:i<m.length),f m[i]=l[i]? := by
  intro m
  induction m with
  |nil=>intro l h;simp at h;subst h;exact⟨rfl,fun i hi=>by simp at hi⟩
  |cons a m ih =>
   intro l h;rw[List.mapM_cons] at h
   cases ha:f a with
   |none=>rw[ha] at h;cases h
   |some x =>
    rw[ha] at h
    cases hm:m.mapM f with
    |none=>rw[hm] at h;cases h
    |some l' =>
     rw[hm] at h
     cases h
     obtain⟨h1,h2⟩:=ih l' hm;refine⟨by simp[h1],fun i hi=>?_⟩
     cases i with
     |zero=>exact ha
     |succ i=>simpa using h2 i (by simpa using hi)
 obtain⟨h1,h2⟩:=key _ _ h;rw[List.length_range] at h1;refine⟨h1,fun i hi=>?_⟩;have:=h2 i (by rw[List.length_range];exact hi)
 rwa [List.getElem_range] at this
theorem wO {w:World}{base:Nat}{a:Addr}{n:Nat}{cs:List Value}(h:w.cells? base a n=some cs):cs.length=n/\∀i,i<n->w.cell? (a.add i)=cs[i]? := by
 unfold World.cells? at h
 split at h
 ·exact Is h
 ·cases h
theorem NC {w:World}{a:Addr}{v:Value}(h:w.cell? a=some v):a.spot=none/\∃cc e fz,w.heap[a.block]? = some (.cells cc e fz)/\cc[a.off]? = some v:=by
 unfold World.cell? at h
 split at h
 ·rename_i c e fz hc
  split at h
  ·cases h
  ·rename_i hs;refine⟨?_,c,e,fz,hc,h⟩
   cases Kf:a.spot with
   |none=>rfl
   |some x=>rw[Kf] at hs;simp at hs
 ·cases h
theorem NB (a:Addr)(n:Nat):(a.add n).block=a.block:=by unfold Addr.add;split <;> rfl
theorem tk (a:Addr)(n:Nat):(a.add n).off=a.off+n:=by
 unfold Addr.add;split
 ·rename_i h;subst h;rfl
 ·rfl
variable {H:Type}{enc:TypeId×Value->H}{P:Program}{w:World}{σ:Sg}
def mo (nl:Bool)(l:List AV):AV:=match nl,l with
 |true,[]=>.ZW
 |_,l=>.fz l
theorem open_row (hz:∀b o,w.heap[b]? = some o->σ.fz b=some o){A:Type}(en:A->AV){k:Nat}(hk:k≠0){e t:TypeId}(ht:P.underlying t=some (.slice e))(hc:P.cellsOf e=k){base:Nat}{spare:Nat->Bool}{held:Bool}{fuel:Nat}{cs:List Value}{x:DataW H×List MemPlace}
  (h:DataW.trod enc P w base spare held fuel t cs=some x)(HE:∀m cs x,m<fuel->DataW.trod enc P w base spare held m e cs=some x->∃(y:A) (u:Value),ZY σ.bare (en y) u/\u.cells.toList=cs) :
  ∃(nl:Bool) (l:List A) (v:Value),cs=[v]/\ZY σ.bare (mo nl (l.map en)) v/\l.length<=maxLen:=by
 rcases DataW.trod_slice ht h with⟨rfl,_⟩|⟨a,len,cap,elems,rest,n,hn,rfl,_,_,h1,h2,h3,h4,_,_⟩
 ·exact⟨true,[],_,rfl,rfl,aic _⟩
 ·have hex:∀i,i<len->∃yu:A×Value,ZY σ.bare (en yu.1) yu.2/\yu.2.cells.size=k/\∀r v,yu.2.cells.toList[r]? = some v->w.cell? ((a.add (i*k)).add r)=some v:=by
   intro i hi;have:=h4 i hi;rw[hc] at this;have hs:∃z,elems[i]? = some z:=⟨elems[i]'(by omega),aaa _⟩;obtain⟨z,f_⟩:=hs;rw[f_] at this
   cases MT:w.cells? base (a.add (i*k)) k with
   |none=>rw[MT] at this;cases this
   |some c =>
    rw[MT] at this;obtain⟨y,u,hu,OC⟩:=HE n c z (by omega) this;obtain⟨g1,g2⟩:=wO MT;refine⟨(y,u),hu,?_,fun r v hr=>?_⟩
    ·rw[<-alR,OC,g1]
    ·rw[OC] at hr;rw[g2 r (by
      rcases Nat.lt_or_ge r c.length with h|h
      ·omega
      ·rw[amm h] at hr;cases hr)]
     exact hr
  obtain⟨l,hl,B_⟩:=tp len hex;have MC:∀q u,(l.map Prod.snd)[q]? = some u->∃yu:A×Value,l[q]? = some yu/\yu.2=u:=fun q u hq=>by
   rw[alV] at hq;obtain⟨yu,h7,h8⟩:=amB.1 hq;exact⟨yu,h7,h8⟩
  refine⟨false,l.map Prod.fst,_,rfl,?_,by rw[agC];omega⟩;have Rk:mo false ((l.map Prod.fst).map en)=.fz ((l.map Prod.fst).map en):=by
   cases (l.map Prod.fst).map en <;> rfl
  rw[Rk,ZY];refine⟨a,cap,l.map Prod.snd,by rw[agC,agC,hl],by rw[agC,agC,hl];exact h1,?_,?_⟩
  ·refine Aa en _ _ (by simp) fun i y u h5 h6=>?_
   obtain⟨yu,h7,rfl⟩:=MC i u h6;rw[alV,h7] at h5
   cases h5
   exact (B_ i yu h7).1
  ·cases l with
   |nil=>exact .inl rfl
   |cons yu l =>
    right
    obtain⟨g1,g2,g3⟩:=B_ 0 yu rfl;have hc0:∃v,yu.2.cells.toList[0]? = some v:=⟨yu.2.cells.toList[0]'(by rw[alR];omega),aaa _⟩;obtain⟨v0,rB⟩:=hc0;obtain⟨s1,cc,e',fz,s2,s3⟩:=NC (g3 0 v0 rB);have Kf:a.spot=none:=by
     have h8:=g3 0 v0 rB;rw[Nat.zero_mul] at h8;exact (NC (a:=a) (by simpa[Addr.add] using h8)).1
    rw[NB,NB] at s2;refine⟨Kf,cc,e',fz,k,hz _ _ s2,hk,fun u hu=>?_,?_⟩
    ·obtain⟨q,hq⟩:=List.mem_iff_getElem?.1 hu;obtain⟨yu',h7,rfl⟩:=MC q u hq;exact (B_ q yu' h7).2.1
    ·refine tn (k:=k) (f:=fun i=>cc[i]?) _ a.off (fun u hu=>?_) fun q u hq r x hx=>?_
     ·obtain⟨q,hq⟩:=List.mem_iff_getElem?.1 hu;obtain⟨yu',h7,rfl⟩:=MC q u hq;exact (B_ q yu' h7).2.1
     ·obtain⟨yu',h7,rfl⟩:=MC q u hq;obtain⟨_,ai,e'',fz',s4,s5⟩:=NC ((B_ q yu' h7).2.2 r x hx);rw[NB,NB,s2] at s4
      cases s4
      rw[tk,tk] at s5;exact s5
end Go.Am
namespace Go.Am
open Go Go.Proofs
set_option maxRecDepth 100000
variable {H:Type}{enc:TypeId×Value->H}{w:World}{σ:Sg}
theorem zi (nl:Bool)(l:List AV):mo nl l=ZG nl l:=by cases nl <;> cases l <;> rfl
theorem abv:Tryz.prog.cellsOf 9=1:=by kernel_rfl
theorem kO:Tryz.prog.cellsOf 39=7:=by kernel_rfl
theorem aal:Tryz.prog.cellsOf 90=9:=by kernel_rfl
theorem ae8:Tryz.prog.cellsOf 31=2:=by kernel_rfl
theorem Uw {α:Type}{l:List α}{i:Nat}(h:i<l.length):∃x,l[i]? = some x:=⟨l[i],aaa h⟩
theorem Dr {σ:Sg}:∀(a b:List AV) (x y:List Value),ZZ σ a x->ZZ σ b y->ZZ σ (a++b) (x++y)
 |[],b,x,y,h1,h2=>by
  have h1:x=[]:=h1;subst h1;exact h2
 |a::l,b,x,y,h1,h2=>by
  obtain⟨v,z,rfl,h3,h4⟩:=h1;exact⟨v,z++y,rfl,h3,Dr l b z y h4 h2⟩
theorem dT (hz:∀b o,w.heap[b]? = some o->σ.fz b=some o){base:Nat}{spare:Nat->Bool}{held:Bool}:∀(fuel:Nat) (cs:List Value) (x:DataW H×List MemPlace),DataW.trod enc Tryz.prog w base spare held fuel 39 cs=some x ->
  ∃(c:Z5) (u:Value),ZY σ.bare (Zw c) u/\u.cells.toList=cs:=by
 intro fuel
 induction fuel using Nat.strongRecOn with
 |ind fuel ih =>
 intro cs x h;obtain⟨xs,n,hn,_,hlen,VY,Ew⟩:=DataW.trod_struct Tryz.underlying39 h;rw[kO] at hlen
 match cs,hlen with
 |[v0,v1,v2,v3,v4,v5,v6],_ =>
  have hx7:xs.length=7:=VY;have h0:=Ew 0 _ rfl;have h1:=Ew 1 _ rfl;have h2:=Ew 2 _ rfl;have h3:=Ew 3 _ rfl;have h4:=Ew 4 _ rfl;have h5:=Ew 5 _ rfl;have h6:=Ew 6 _ rfl
  try simp only[abv,amd,List.drop_succ_cons,List.take_succ_cons,amF] at h0 h1 h2 h3 h4 h5 h6
  obtain⟨x0,e0⟩:=Uw (l:=xs) (i:=0) (by omega);obtain⟨x1,e1⟩:=Uw (l:=xs) (i:=1) (by omega);obtain⟨x2,e2⟩:=Uw (l:=xs) (i:=2) (by omega);obtain⟨x3,e3⟩:=Uw (l:=xs) (i:=3) (by omega);obtain⟨x4,e4⟩:=Uw (l:=xs) (i:=4) (by omega);obtain⟨x5,e5⟩:=Uw (l:=xs) (i:=5) (by omega);obtain⟨x6,e6⟩:=Uw (l:=xs) (i:=6) (by omega);rw[e0] at h0;rw[e1] at h1;rw[e2] at h2;rw[e3] at h3;rw[e4] at h4;rw[e5] at h5;rw[e6] at h6;obtain⟨s0,f0,_,_⟩:=DataW.trod_string Tryz.underlying9 h0;obtain⟨n1,f1,_,_⟩:=DataW.trod_int Tryz.underlying3 h1;obtain⟨n2,f2,_,_⟩:=DataW.trod_int Tryz.underlying3 h2;obtain⟨n3,f3,_,_⟩:=DataW.trod_int Tryz.underlying3 h3;obtain⟨n4,f4,_,_⟩:=DataW.trod_int Tryz.underlying3 h4;obtain⟨s5,f5,_,_⟩:=DataW.trod_string Tryz.underlying9 h5;obtain⟨nl,kids,u6,f6,hr6,_⟩:=open_row hz Zw (k:=7) (by omega) Tryz.underlying37 kO h6 fun m cs x hm hx=>ih m (by omega) cs x hx
  cases f0;cases f1;cases f2;cases f3;cases f4;cases f5;cases f6
  rw[zi,<-Oc] at hr6;refine⟨.mk s0.data.toList n1 n2 n3 n4 s5.data.toList nl kids,.agg #[.string s0,.int .i64 n1,.int .i64 n2,.int .i64 n3,.int .i64 n4,.string s5,v6],?_,rfl⟩;rw[Zw];exact⟨_,rfl,_,_,rfl,⟨s0,rfl,rfl⟩,_,_,rfl,rfl,_,_,rfl,rfl,_,_,rfl,rfl,_,_,rfl,rfl,_,_,rfl,⟨s5,rfl,rfl⟩,_,_,rfl,hr6,rfl⟩
theorem dS (hz:∀b o,w.heap[b]? = some o->σ.fz b=some o){base:Nat}{spare:Nat->Bool}{held:Bool}(fuel:Nat)(cs:List Value)(x:DataW H×List MemPlace)(h:DataW.trod enc Tryz.prog w base spare held fuel 90 cs=some x) :
  ∃(c:Step) (u:Value),ZY σ.bare (YL c) u/\u.cells.toList=cs:=by
 obtain⟨xs,n,hn,_,hlen,VY,Ew⟩:=DataW.trod_struct Tryz.underlying90 h;rw[aal] at hlen
 match cs,hlen with
 |[v0,v1,v2,v3,v4,v5,v6,v7,v8],_ =>
  have hx7:xs.length=3:=VY;have h0:=Ew 0 _ rfl;have h1:=Ew 1 _ rfl;have h2:=Ew 2 _ rfl
  try simp only[kO,amd,List.drop_succ_cons,List.take_succ_cons,amF] at h0 h1 h2
  obtain⟨x0,e0⟩:=Uw (l:=xs) (i:=0) (by omega);obtain⟨x1,e1⟩:=Uw (l:=xs) (i:=1) (by omega);obtain⟨x2,e2⟩:=Uw (l:=xs) (i:=2) (by omega);rw[e0] at h0;rw[e1] at h1;rw[e2] at h2;obtain⟨c,u,hu,OC⟩:=dT hz _ _ _ h0;obtain⟨n1,f1,_,_⟩:=DataW.trod_int Tryz.underlying3 h1;obtain⟨n2,f2,_,_⟩:=DataW.trod_int Tryz.underlying3 h2
  cases f1;cases f2
  rw[ZV] at hu;obtain⟨vs,rfl,SI⟩:=hu;have aiT:vs.toList=[v0,v1,v2,v3,v4,v5,v6]:=OC;rw[aiT] at SI;refine⟨⟨c,n1,n2⟩,.agg #[v0,v1,v2,v3,v4,v5,v6,.int .i64 n1,.int .i64 n2],?_,rfl⟩;have:=Dr c.cells [.int .i64 n1,.int .i64 n2] [v0,v1,v2,v3,v4,v5,v6] [.int .i64 n1,.int .i64 n2] SI ⟨_,_,rfl,rfl,_,_,rfl,rfl,rfl⟩;exact⟨_,rfl,this⟩
theorem dR (hz:∀b o,w.heap[b]? = some o->σ.fz b=some o){base:Nat}{spare:Nat->Bool}{held:Bool}{fuel:Nat}{cs:List Value}{x:DataW H×List MemPlace}(h:DataW.trod enc Tryz.prog w base spare held fuel 31 cs=some x) :
  ∃(p:Prog) (u:Value),ZY σ.bare (Vw p) u/\u.cells.toList=cs:=by
 obtain⟨xs,n,hn,_,hlen,VY,Ew⟩:=DataW.trod_struct Tryz.underlying31 h;rw[ae8] at hlen
 match cs,hlen with
 |[v0,v1],_ =>
  have hx7:xs.length=2:=VY;have h0:=Ew 0 _ rfl;have h1:=Ew 1 _ rfl
  try simp only[amd,List.drop_succ_cons,List.take_succ_cons,amF] at h0 h1
  obtain⟨x0,e0⟩:=Uw (l:=xs) (i:=0) (by omega);obtain⟨x1,e1⟩:=Uw (l:=xs) (i:=1) (by omega);rw[e0] at h0;rw[e1] at h1;obtain⟨n0,f0,_,_⟩:=DataW.trod_int Tryz.underlying3 h0;obtain⟨nl,steps,u1,f1,AK,_⟩:=open_row hz YL (k:=9) (by omega) Tryz.underlying29 aal h1 fun m cs x hm hx=>dS hz m cs x hx
  cases f0;cases f1
  rw[zi] at AK;exact⟨⟨n0,nl,steps⟩,.agg #[.int .i64 n0,v1],⟨_,rfl,_,_,rfl,rfl,_,_,rfl,AK,rfl⟩,rfl⟩
end Go.Am
namespace Go.Am
open Go Go.Proofs Go.Proofs.YtikiipfbkfgmbaaGreatDoor Go.RowKit
set_option maxRecDepth 100000
def zN:List (String×DataW Unit):=Rows.triggerProgramsRow.laid
def wa:List Int:=[1,10,100,1000,10000,100000,1000000,10000000,100000000,1000000000,10000000000,100000000000,1000000000000,10000000000000,100000000000000,1000000000000000,10000000000000000,100000000000000000,1000000000000000000,10000000000000000000]
structure DA (W:World)(m:Int):Prop where
 g0:W.heap[0]? = some (.cells #[.int .i64 m] 3)
 g1:∃cs:Array Value,W.heap[1]? = some (.cells cs 332)/\cs.toList=wa.map (.int .u64 ·)
 g2:∃a s,W.heap[2]? = some (.cells #[.iface 347 (.pointer (some a))] 210)/\W.cell? a=some (.string s)/\s.data.toList=[105,110,118,97,108,105,100,32,115,121,110,116,97,120]
 g3:∃a s,W.heap[3]? = some (.cells #[.iface 347 (.pointer (some a))] 210)/\W.cell? a=some (.string s)/\s.data.toList=[118,97,108,117,101,32,111,117,116,32,111,102,32,114,97,110,103,101]
 size:8<=W.heap.size
theorem zM {W:World}(QC:W.ShapedOpen Tryz.prog){g t n:Nat}(hg:g<Tryz.prog.globals.size)(h0:(((begin Tryz.prog (fun _ _=>0) default).world.heap[g]?).bind Obj.row?).map (fun x=>(x.1.size,x.2))=some (n,t)):∃cs,W.heap[g]? = some (.cells cs t)/\cs.size=n:=by
 obtain⟨⟨z,t'⟩,h1,h2⟩:=amB.1 h0
 cases h2
 obtain⟨cs,h3,h4,_⟩:=QC.1 g z _ hg h1;exact⟨cs,h3,h4⟩
noncomputable def aep:String:=(Tryz.prog.typeName? 2 349).getD default
theorem lY (nm:String)(h0:Tryz.prog.typeName? 3 347=some nm)(u:TypeId)(h:Tryz.prog.typeName? 3 u=some nm):u=347:=by
 refine typeName_ptr_named (P:=Tryz.prog) (nm:=aep) (by kernel_rfl) (by kernel_rfl) (by decide +kernel) u ?_;rw[h,<-h0]
 kernel_rfl
theorem Gt {n:String}{g k:Nat}(h:Tryz.prog.globalNamed n=some g)(h':Tryz.prog.globalNamed n=some k):k=g:=Option.some.inj (h'.symm.trans h)
theorem lX:Tryz.prog.cellsOf 349=1:=by kernel_rfl
theorem abr:Tryz.prog.cellsOf 301=1:=by kernel_rfl
theorem abt:Tryz.prog.cellsOf 332=20:=by kernel_rfl
theorem abu {H:Type}{enc:TypeId×Value->H}{W:World}{base:Nat}{sp:Nat->Bool}{held:Bool}{fuel:Nat}{cs:List Value}{zs:List Int}{p:List MemPlace}
  (h:DataW.trod enc Tryz.prog W base sp held fuel 332 cs=some (.agg (zs.map fun z=>.lit (.int .u64 z)),p)):cs=zs.map (.int .u64 ·):=by
 obtain⟨xs,m,_,ex,hlen,hl,Ew⟩:=DataW.trod_array Tryz.underlying332 h;rw[abt] at hlen;have e1:(zs.map fun z=>(DataW.lit (.int .u64 z):DataW H))=xs.map (·.1):=DataW.agg.inj (Prod.mk.inj ex).1;have hzl:zs.length=xs.length:=by have:=congrArg List.length e1;simpa using this
 refine List.ext_getElem? fun i=>?_
 by_cases hi:i<20
 ·have hE:=Ew i hi;rw[abr,ah1,aaa (by omega)] at hE;obtain⟨z,e2,e3,_⟩:=DataW.trod_int Tryz.underlying301 hE;have e4:(zs.map fun z=>(DataW.lit (.int .u64 z):DataW H))[i]? = (xs.map (·.1))[i]? := by rw[e1]
  rw[alV,alV,aaa (by omega:i<xs.length),e3] at e4;obtain⟨z',f_,hzz⟩:=amB.1 e4
  cases hzz
  rw[alV,f_];have h0:((cs.drop i).take 1)[0]? = some (.int .u64 z):=by rw[e2];rfl
  simpa using h0
 ·rw[amm (by omega),amm (by rw[agC,hzl];have:xs.length=20:=hl;omega)]
theorem lW {W:World}(hL:laidMetH Tryz.prog zN W)(QC:W.ShapedOpen Tryz.prog):∃m,DA W m:=by
 rw[MakeChecks.laidMetH_plain _ _ _ (by kernel_rfl)] at hL;obtain⟨ps,⟨_,_,_,_,_,_,_,_,_,_,⟨g7,_,cs7,_,_,_,hg7,_,hv7,_,⟨g1,t1,cs1,f1,p1,q1,lV,ht1,Pd,hd1,⟨_,_,_,_,_,_,_,_,_,_,⟨g3,t3,cs3,f3,p3,q3,hg3,ht3,eX,hd3,⟨g2,t2,cs2,f2,p2,q2,fQ,ht2,Mv,tR,_,e2⟩,e3⟩,e4⟩,e1⟩,e5⟩,e6⟩,_,X5⟩:=hL;obtain rfl:=Gt lV (k:=1) (by kernel_rfl);obtain rfl:=Gt hg3 (k:=3) (by kernel_rfl);obtain rfl:=Gt fQ (k:=2) (by kernel_rfl);obtain rfl:=Option.some.inj ((show (Tryz.prog.globals[1]?).map (·.type)=some 332 by kernel_rfl).symm.trans ht1);obtain rfl:=Option.some.inj ((show (Tryz.prog.globals[3]?).map (·.type)=some 210 by kernel_rfl).symm.trans ht3);obtain rfl:=Option.some.inj ((show (Tryz.prog.globals[2]?).map (·.type)=some 210 by kernel_rfl).symm.trans ht2);obtain⟨c0,k0,z0⟩:=zM (g:=0) (t:=3) (n:=1) QC (of_decide_eq_true (by kernel_rfl)) (by kernel_rfl);obtain⟨c1,k1,z1⟩:=zM (g:=1) (t:=332) (n:=20) QC (of_decide_eq_true (by kernel_rfl)) (by kernel_rfl);obtain⟨c2,k2,z2⟩:=zM (g:=2) (t:=210) (n:=1) QC (of_decide_eq_true (by kernel_rfl)) (by kernel_rfl);obtain⟨c3,k3,z3⟩:=zM (g:=3) (t:=210) (n:=1) QC (of_decide_eq_true (by kernel_rfl)) (by kernel_rfl);obtain⟨c7,k7,z7⟩:=zM (g:=7) (t:=355) (n:=64) QC (of_decide_eq_true (by kernel_rfl)) (by kernel_rfl);obtain⟨m,hm⟩:=cell_of_shapedOpen_int (P:=Tryz.prog) (g:=0) (t:=3) (zero:=#[.int .i64 0]) QC (of_decide_eq_true (by kernel_rfl)) (by kernel_rfl) rfl (by kernel_rfl) (by kernel_rfl) Tryz.underlying3;have same:∀{g:Nat} {c cs:Array Value} {t:TypeId},W.heap[g]? = some (.cells c t)->(∀i,W.cell? ⟨g,i,none⟩=cs[i]?)->c=cs:=fun {g c cs t} hk hc=>by
  refine Array.ext_getElem? fun i=>?_
  rw[<-hc i];simp[World.cell?,hk]
 refine⟨m,?_,⟨c1,k1,?_⟩,?_,?_,?_⟩
 ·have:c0=#[.int .i64 m]:=by
   have h0:c0[0]? = some (.int .i64 m):=by rw[<-hm];simp[World.cell?,k0]
   match c0,z0,h0 with
   |⟨[x]⟩,_,h0=>simp at h0;rw[h0]
  rw[k0,this]
 ·have:=same k1 (World.var?_cell lV Pd);subst this;exact abu (zs:=wa) hd1
 ·have:=same k2 (World.var?_cell fQ Mv);subst this;obtain⟨a,s,MT,zL,hs,_,_⟩:=errorString_of_trod Tryz.underlying210 (lY _ (by kernel_rfl)) Tryz.underlying347 Tryz.underlying349 rfl rfl Tryz.underlying9 lX abv tR (fun u v he=>by
   refine (X5 2 0 ?_).2 u v ?_
   ·rw[e6,e5,e1,e4,e3,e2];have SY:MemPlace.cell 2 0∈MemPlace.row ⟨2,0,none⟩ c2.size:=by
     rw[z2];exact alN.2 ⟨0,by simp,rfl⟩
    simp only[amb];simp[SY]
   ·have:c2[0]? = some (.iface u v):=by
     rw[<-al1,he];rfl
    simpa[World.cell?,k2] using this)
  have:c2=#[.iface 347 (.pointer (some a))]:=Array.eq_one_of_toList MT;subst this;exact⟨a,s,k2,zL,hs⟩
 ·have:=same k3 (World.var?_cell hg3 eX);subst this;obtain⟨a,s,MT,zL,hs,_,_⟩:=errorString_of_trod Tryz.underlying210 (lY _ (by kernel_rfl)) Tryz.underlying347 Tryz.underlying349 rfl rfl Tryz.underlying9 lX abv hd3 (fun u v he=>by
   refine (X5 3 0 ?_).2 u v ?_
   ·rw[e6,e5,e1,e4,e3];have SY:MemPlace.cell 3 0∈MemPlace.row ⟨3,0,none⟩ c3.size:=by
     rw[z3];exact alN.2 ⟨0,by simp,rfl⟩
    simp only[amb];simp[SY]
   ·have:c3[0]? = some (.iface u v):=by
     rw[<-al1,he];rfl
    simpa[World.cell?,k3] using this)
  have:c3=#[.iface 347 (.pointer (some a))]:=Array.eq_one_of_toList MT;subst this;exact⟨a,s,k3,zL,hs⟩
 ·have:=(agz.1 k7).1;omega
end Go.Am
namespace Go.Am
open Go Go.Proofs Go.Proofs.YtikiipfbkfgmbaaGreatDoor Go.RowKit
set_option maxRecDepth 100000
def bsize (W:World)(i:Nat):Nat:=match W.heap[i]? with
 |some (.cells cc _ _)=>cc.size
 |_=>0
def Uo (W:World):Sg:={ m:=fun i=>if i<8 then some ⟨i,0,bsize W i⟩ else none,fz:=fun b=>W.heap[b]? }
theorem rM [Stat] {σ:Sg}{W:World}{i:Nat}{c:List AV}{cc:Array Value}{t:TypeId}(hr:ZZ σ c cc.toList)(hk:W.heap[i]? = some (.cells cc t)):BR σ ⟨i,0,bsize W i⟩ (.cells c t true 0 0) (.cells cc t):=by
 have hs:bsize W i=cc.size:=by unfold bsize;rw[hk]
 have hl:c.length=cc.size:=by rw[hr.length];exact alR
 refine⟨by simp only[hs],by simp only[hs,hl];omega,rfl,fun j a ha=>?_,fun h=>(by cases h),fun _=>⟨rfl,by simp only[hs,hl]⟩⟩;obtain⟨v,h1,h2⟩:=hr.get j a ha;refine⟨v,?_,h2⟩;rw[ald,<-al1];exact h1
theorem E7 {σ:Sg}{k:IntKind}:∀zs:List Int,ZZ σ (zs.map (AV.int k ·)) (zs.map (Value.int k ·))
 |[]=>rfl
 |z::zs=>⟨_,_,rfl,rfl,E7 zs⟩
theorem xN {W:World}{a:Addr}{s:ByteArray}{l:List UInt8}(h:W.cell? a=some (.string s))(hs:s.data.toList=l):ZY (Uo W).bare (.iface 347 (.fp [.str l] 0)) (.iface 347 (.pointer (some a))):=by
 obtain⟨h1,cc,e,fz,h2,h3⟩:=NC h;refine⟨_,rfl,a.block,a.off,[.string s],cc,e,fz,?_,h2,⟨_,_,rfl,⟨s,rfl,hs⟩,rfl⟩,fun i u hu=>?_⟩
 ·cases a;simp only at h1;subst h1;rfl
 ·cases i with
  |zero=>cases hu;exact h3
  |succ i=>simp at hu
variable [Z4]
theorem xM (i:Nat):(X8 U).look i=aJ i:=by
 have:(X8 U).get i=aJ i:=by rw[CJ,LJ]
 unfold St.look;rw[this];unfold aJ
 cases nE i <;> rfl
theorem tY {W:World}(G:DA W Z4.val){i:Nat}{b:Uy}(h:aJ i=some b):i<4/\b.own=false/\∃o,W.heap[i]? = some o/\BR (Uo W).bare ⟨i,0,bsize W i⟩ b o:=by
 match i,h with
 |0,h=>cases h;exact⟨by omega,rfl,_,G.g0,rM ⟨_,_,rfl,rfl,rfl⟩ G.g0⟩
 |1,h =>
  cases h
  obtain⟨cs,h1,h2⟩:=G.g1;exact⟨by omega,rfl,_,h1,rM (by rw[h2];exact E7 wa) h1⟩
 |2,h =>
  cases h
  obtain⟨a,s,h1,h2,h3⟩:=G.g2;exact⟨by omega,rfl,_,h1,rM ⟨_,_,rfl,xN h2 h3,rfl⟩ h1⟩
 |3,h =>
  cases h
  obtain⟨a,s,h1,h2,h3⟩:=G.g3;exact⟨by omega,rfl,_,h1,rM ⟨_,_,rfl,xN h2 h3,rfl⟩ h1⟩
 |n+4,h=>cases h
theorem Hn {W:World}{i:Nat}{p:Pl}(h:Uo W i=some p):i<8/\p=⟨i,0,bsize W i⟩:=by
 have h:(if i<8 then some (⟨i,0,bsize W i⟩:Pl) else none)=some p:=h
 split at h
 ·rename_i hi
  cases h;exact⟨hi,rfl⟩
 ·cases h
theorem rL {W:World}(G:DA W Z4.val)(c:Nat):¬Qr (Uo W) (X8 U) c:=by
 rintro⟨i,p,b,_,h2,h3,_⟩;rw[xM] at h2;rw[(tY G h2).2.1] at h3
 cases h3
theorem hr0 {W:World}(G:DA W Z4.val):HR (Uo W) (X8 U) W where
 lt i p h:=by
  obtain⟨hi,rfl⟩:=Hn h;have:=G.size;show i<_;omega
 E1 i p b h hb:=by
  obtain⟨hi,rfl⟩:=Hn h;rw[xM] at hb;obtain⟨_,_,o,h1,h2⟩:=tY G hb;exact⟨o,h1,h2.mono (Sg.T7 _)⟩
 inj i j p q b c h1 h2 _ _ h5:=by
  obtain⟨_,rfl⟩:=Hn h1;obtain⟨_,rfl⟩:=Hn h2;exact h5
 fz c o h:=⟨h,rL G c⟩
theorem ado {W:World}:Tn (Uo W) (X8 U):=fun i hi=>by
 rw[Hf,He] at hi;show (if i<8 then _ else none)=none;rw[if_neg (by omega)]
theorem ahk {W:World}(G:DA W Z4.val):WD U (Uo W):=fun g hg=>by
 rw[He] at hg;refine⟨bsize W g,if_pos hg,fun b hb=>?_⟩;rw[LJ] at hb;obtain⟨_,h1,o,h2,h3⟩:=tY G hb;exact⟨h1,o,h2,h3⟩
theorem g_ {W:World}(G:DA W Z4.val){f:FuncId}(Lx:U.ext f=none){args:List AV}{us:Array Value}{v:AV}(hv:ZZ (Uo W).bare args us.toList)(h:ZE U f args=some v) :
  Calls Tryz.prog f us W fun e W'=>∃u Yx,e=.returned u/\ZY Yx v u/\Below W.heap.size W W':=by
 have h1:=B4 h (X8 U);obtain⟨n,h2⟩:=oQ h1;refine (aa2 abQ Lx h2 (hr0 G) ado (ahk G) (hv.mono (Sg.T7 _) _ _)).mono ?_;rintro e W' ⟨u,Yx,he,hr,hg⟩;exact⟨u,Yx,he,hr,hg.ext.os,hg.ext.tape,hg.ext.output,hg.ext.size,fun k hk=>hg.ext.keep k hk (rL G k)⟩
end Go.Am
namespace Go.Am
open Go Go.Proofs Go.Proofs.YtikiipfbkfgmbaaGreatDoor Go.RowKit
set_option maxRecDepth 100000
set_option maxHeartbeats 10000000
theorem ja:Tryz.pinned.checked.prog.funcNamed Rows.triggerCompilesRow.func=some 6:=by kernel_rfl
theorem inst6:Tryz.f6.isInstance Tryz.pinned.checked.prog Rows.triggerCompilesRow.origin Rows.triggerCompilesRow.targs:=of_decide_eq_true (by kernel_rfl)
theorem af0:Tryz.f6.isWrapper Tryz.pinned.checked.prog Rows.triggerCompilesRow.wrapper Rows.triggerCompilesRow.mainSum:=by unfold Func.isWrapper;first|(rw[if_pos (by decide +kernel)];kernel_rfl)|(rw[if_neg (by decide +kernel)];exact⟨rfl,rfl⟩)
theorem cj:joinedFacts Tryz.pinned.checked.prog 6 Tryz.f6 Rows.triggerCompilesSpec Rows.triggerCompilesRow=true:=by
 unfold joinedFacts
 repeat' (with_reducible refine Bool.and_eq_true_iff.2 ⟨?_,?_⟩)
 all_goals as_aux_lemma=>kernel_rfl
end Go.Am
namespace Go.Am
open Go Go.Proofs Go.Proofs.YtikiipfbkfgmbaaGreatDoor Go.RowKit
open Go.ChangeShapes Go.WideShapes Go.ChangeAt
set_option maxRecDepth 100000
theorem akG:ownKnob Tryz.prog.godebug=none:=by kernel_rfl
theorem hJ:laidOutB Tryz.prog=true:=by kernel_rfl
theorem ac3:Tryz.prog.readableRec 31=true:=by kernel_rfl
theorem ag1:31<Tryz.prog.types.size:=of_decide_eq_true (by kernel_rfl)
theorem ac4 {v u:Value}{vs:Array Value}(hu:u=.agg vs)(h:v.cells.toList=u.cells.toList)(h2:vs.size=2):v=u:=by
 subst hu;have hc:∀x:Value,([x]:List Value)=vs.toList->False:=fun x hx=>by
  have:=congrArg List.length hx;have h3:vs.toList.length=vs.size:=alR;rw[h3,h2] at this
  cases this
 cases v <;> first
  |(exfalso;exact hc _ h)
  |skip
 rename_i cs;have h:cs.toList=vs.toList:=h;rw[Array.toList_inj.1 h]
theorem Kq {H:Type}(enc:TypeId×Value->H)(law:∀[Z4] (p:Prog),ZE U 6 [Vw p]=some (.bool true))(W:World)(args:Array Value)(ds gs:List (DataW H))(before:List MemPlace)
  (hW:DataW.Whole enc Tryz.prog Tryz.f6.params.toList Rows.triggerCompilesSpec.vars false W args.toList ds gs before)(hL:laidMetH Tryz.prog zN W)(QC:W.ShapedOpen Tryz.prog) :
  Calls Tryz.prog 6 args W fun e W'=>∃v,e=.returned v/\Rows.triggerCompilesSpec.post enc Tryz.prog Tryz.f6 false true false false W args v W':=by
 have rE:=hW;have Yh:=hW.lt;obtain⟨p,q,hA0,hV,rfl,Rk,EG⟩:=hW;have hA:DataW.TrodAll enc Tryz.prog W 0 (fun _=>true) true Tryz.f6.params.toList args.toList ds p:=hA0;rw[Tryz.params6] at hA;obtain⟨v0,d0,rfl,rfl,h0⟩:=trodAll_one hA;obtain⟨rfl,rfl⟩:=trodVars_none hV;obtain⟨fuel,hf⟩:=id h0;obtain⟨m,G⟩:=lW hL QC
 letI:Z4:=⟨m⟩
 obtain⟨pr,u,hu,OC⟩:=dR (σ:=Uo W) (fun b o h=>h) hf;obtain⟨vs,SI,hr⟩:=id hu;have nQ:v0=u:=ac4 SI OC.symm (by rw[<-alR,<-hr.length];rfl);subst nQ;refine (g_ (W:=W) G (f:=6) (by rw[zq];rfl) (args:=[Vw pr]) (us:=#[v0]) ⟨_,_,rfl,hu,rfl⟩ (law pr)).mono ?_;rintro e W' ⟨u',Yx,rfl,Ur,hB⟩;have Ur:u'=.bool true:=Ur;subst Ur;refine⟨_,rfl,[d0],[],p++[],[],p,[],rE,trodAll_mk1 (shut_bool Tryz.underlying4 _),trodAll_mk1 (Below.trod hJ ac3 ag1 h0 hB fun x hx=>Yh x (by simpa using hx)),rfl,hB.frame _,fun h=>by cases h⟩
theorem Ie (law:∀[Z4] (p:Prog),ZE U 6 [Vw p]=some (.bool true))(os:Os)(started:os.Started)(H:Type)(enc:TypeId×Value->H) :
  ReturnsInHanded {} Tryz.checked os 6 .any (fun w args=>(Rows.triggerCompilesSpec.pre enc Tryz.prog Tryz.f6 [] false w args/\laidMetH Tryz.prog zN w)/\sizedMet enc Tryz.prog Tryz.f6 (OpenSpec.ofChange Rows.triggerCompilesSpec) false w args)
   (Rows.triggerCompilesSpec.post enc Tryz.prog Tryz.f6 false true false false):=by
 refine returnsInHanded_of_calls akG started (by kernel_rfl)
  (ChangeSpec.witness_shaped (enc:=enc) (C:=Tryz.checked) (os:=os) (X:=fun w _=>laidMetH Tryz.prog zN w) false (World.laidAll Tryz.prog os zN) #[.agg #[.int .i64 0,.slice none 0 0]] 8 (World.laidAll_os _ _ _)
   (World.shaped_of_ZipB (by kernel_rfl) (by kernel_rfl)) (by kernel_rfl) (by kernel_rfl) (by kernel_rfl)
   (by rw[MakeChecks.laidMetH_plain _ _ _ (by kernel_rfl)];exact laidMet_laidAll _ (by kernel_rfl) (by kernel_rfl))) ?_
 intro w tape i _ QC _ X5 vu akH;obtain⟨⟨⟨ds,gs,before,hw,hc⟩,hx⟩,hz⟩:=vu;have LS:=DataW.Whole.of_heap (w':=w.forCall tape i) (by rfl) hw;refine (Kq enc law (w.forCall tape i) i.args ds gs before LS (hx.of_heap (by rfl)) QC).mono ?_;rintro e W' ⟨v,rfl,hp⟩;exact ChangeSpec.post_blind hp
theorem Fk (law:∀[Z4] (p:Prog),ZE U 6 [Vw p]=some (.bool true)):Rows.TriggerCompilesSaid :=
 OpenClaim.holds_of_wide 6 Tryz.f6 rfl rfl rfl rfl rfl rfl rfl ⟨rfl,rfl,rfl,rfl,rfl⟩ rfl rfl rfl rfl rfl ja Tryz.func6 cj inst6 af0 (fun os started H enc _=>Ie law os started H enc)
theorem wf6:Rows.triggerCompilesRow.wfByText (OpenSpec.ofChange Rows.triggerCompilesSpec)=true:=by kernel_rfl
theorem ac5:true=Tryz.prog.looks []:=by kernel_rfl
theorem ac6:(#[31].toList.all fun u=>!Tryz.prog.wantsStandIn u)=true:=by kernel_rfl
theorem ag2:Tryz.pinned.checked.prog.mainIs=some (Rows.triggerCompilesCard.stood.harness.1,Rows.triggerCompilesCard.stood.harness.2.toList):=by kernel_rfl
theorem ag3:false=Rows.triggerCompilesRow.goesBy Tryz.pinned.checked.prog:=by kernel_rfl
theorem Ev (law:∀[Z4] (p:Prog),ZE U 6 [Vw p]=some (.bool true)):Rows.TriggerCompilesCardSaid :=
 Claim7.holds_tied_plain_at .later [] [.data,.data,.data,.data,.sentinel,.sentinel,.pinned] true Rows.triggerCompilesCard.stood.harness true (Fk law) (fun _ h=>by cases h) wf6 (fun _ h=>by cases h) triggerCompiles_row_tie rfl ⟨rfl,rfl⟩ ag2 rfl
  (fun f fn hf dG=>by
   obtain rfl:f=6:=Option.some.inj (ja.symm.trans hf) |>.symm;obtain rfl:fn=Tryz.f6:=(Option.some.inj (Tryz.func6.symm.trans dG)).symm;refine⟨ac5,fun j t ht=>?_⟩;rw[Tryz.params6] at ht;have hm:t∈#[31].toList:=by rw[<-al1] at ht;exact amu ht
   have:=alK.1 ac6 t hm;rw[ams] at this;exact this)
  ag3
end Go.Am
