/- A part of the proof. -/
import Derived.Test.YtkmaeondbkpajaaGreatDoorE04
import Derived.WalkKit
import Derived.Lib.Builder
import Derived.Lib.IndexEntry
import Derived.Laws.Externs
import Derived.ChangeArms
set_option linter.all false
set_option maxRecDepth 100000
namespace Go.Am
open Go Go.Proofs
variable [Z8]
variable {f:FuncId}
def aeO (t:TypeId):U.AN t=(!Tryz.prog.eqGuardType Tryz.prog.depth t&&!Tryz.prog.stoodInHeld t):=by unfold U;rfl
def aeP (t:TypeId):U.spec t=Nat.beq t 150:=by unfold U;rfl
def aiH {fn:Func}(h:U.fn f=some fn):fn∈Tryz.prog.funcs.toList/\f≠36:=by
 rw[ait] at h
 cases hb:Nat.beq f 36
 ·rw[hb] at h;rw[cond_false,<-aqq] at h;exact⟨aqn h,by rintro rfl;cases hb⟩
 ·rw[hb] at h;cases h
def ek {t:TypeId}(h:Stat.spec t=true):t=150:=Nat.eq_of_beq_eq_true h
def aiI:Vm U Tryz.prog:=by
 refine⟨λt d h=>?_,λt d h=>?_,λt d h=>?_,λt h=>?_,λt h=>?_,λt h=>?_⟩
 ·rw[air] at h;exact h
 ·rw[ais] at h;exact h
 ·rw[ait] at h
  cases hb:Nat.beq t 36
  ·rw[hb] at h;exact h
  ·rw[hb] at h;cases h
 ·rw[aeO] at h;rw[ahe,aqS,aqS] at h;exact h
 ·rw[aeP];exact h
 ·have:=ek h;subst this;have hk:(match U.Zd 150 with|some (.int .u8)=>true|_=>false)=false:=It;intro e;rw[e] at hk;cases hk
def aiJ {us:Array Value}{a b:Value}(h:us.toList=[a,b]):us=#[a,b]:=by
 cases us;simp at h;subst h;rfl
def amU {us:Array Value}{a:Value}(h:us.toList=[a]):us=#[a]:=by
 cases us;simp at h;subst h;rfl
def aeQ:ej U Tryz.prog 256 OX:=by
 intro args s v s' σ w us h H F G hv;unfold OX at h
 split at h
 ·rename_i l c
  cases h
  obtain⟨v1,y1,e1,⟨bs,rfl,pM⟩,v2,y2,e2,rfl,e3⟩:=hv;subst e2;rw[e3] at e1;have:=aiJ e1;subst this;rw[run_callFunc_extern Tryz.func256 It It It (e:=Extern.BytealgIndexByte.indexByte) It,Lib.run_indexByteString];refine⟨σ,?_,Good.refl H⟩;rw[pM];rfl
 ·cases h
def BQ (c:UInt8)(m:List UInt8):∀l:List UInt8,l.contains c=false->Lib.index l (c::m) = -1
 |[],_=>rfl
 |b::l,h=>by
  simp only[List.contains_cons,aqx] at h;have ih:=BQ c m l h.2;have hp:(c::m).isPrefixOf (b::l)=false:=by
   simp only[List.isPrefixOf,h.1,aqK]
  unfold Lib.index;rw[hp,ih];rfl
def aeR {σ:Sg}{s:St}{w:World}(H:HR σ s w)(G:Wp U σ):w.cell? ⟨0,0,none⟩=some (.int .i64 Z8.val):=by
 obtain⟨n,h1,h2⟩:=G 0 (by rw[Ge];omega);obtain⟨_,o,h4,h5⟩:=h2 (.cells [.int .i64 Z8.val] 3 true 0 0) (by rw[KZ];rfl);have h6:=(H.fz 0 o h4).1
 cases o with
 |cells cc e fz =>
  obtain⟨_,_,_,h7,_⟩:=h5;obtain⟨v,h8,h9⟩:=h7 0 (.int .i64 Z8.val) rfl;have h9:v=.int .i64 Z8.val:=h9;subst h9;simp only[World.cell?,h6]
  simpa using h8
 |map=>exact h5.elim
 |stringIter=>exact h5.elim
 |loop=>exact h5.elim
 |_=>exact h5.elim
def aeS:ej U Tryz.prog 223 Ns:=by
 intro args s v s' σ w us h H F G hv;unfold Ns at h
 split at h
 ·rename_i l c m
  split at h
  ·rename_i hc
   cases h
   simp only[ahe,aqS,decide_eq_true_eq] at hc;obtain⟨⟨⟨h1,h2⟩,h3⟩,h4⟩:=hc;obtain⟨v1,y1,e1,⟨bs,rfl,pM⟩,v2,y2,e2,⟨bt,rfl,hbt⟩,e3⟩:=hv;subst e2;rw[e3] at e1;have:=aiJ e1;subst this;have hm:=aeR H G;have s1:bs.size=l.length:=by rw[<-pM];exact (aqj ..).symm
   have s2:bt.size=m.length+1:=by
    have:bt.size=bt.data.toList.length:=(aqj ..).symm;rw[this,hbt];rfl
   rw[run_callFunc_extern Tryz.func223 It It It (e:=Extern.BytealgIndex.index) It,Lib.run_indexString bs bt w 0 Z8.val It hm J J J];refine⟨σ,?_,Good.refl H⟩;rw[pM,hbt,BQ c m l h1];rfl
  ·cases h
 ·cases h
set_option maxHeartbeats 2000000 in
def sk (b:Nat)(w:World)(h0:w.cell? ⟨b,0,none⟩=some (.pointer none))(SI:w.shape? b=some (150,2))(L9:w.frozen? ⟨b,0,none⟩=false) :
  Calls Tryz.prog 147 #[.pointer (some ⟨b,0,none⟩)] w λe w'=>e=.returned (.tuple #[])/\w'=w.setCell ⟨b,0,none⟩ (.pointer (some ⟨b,0,none⟩)):=by
 obtain⟨j,hj,hjs⟩:∃j,Tryz.prog.info? 150=some j/\j.size=2:=by
  have h:(Tryz.prog.info? 150).map (·.size)=some 2:=It;exact aqU.1 h
 go_enter Tryz.func147,Tryz.ntmps147
 go_wp2
 rw[Lib.run_to_unsafe w ⟨b,0,none⟩ Tryz.underlying147 Tryz.underlying268 hj (by rw[hjs];decide) SI (Nat.zero_lt_succ 1)];simp only[Result.andThen];rw[Oper.upon_value]
 go_wp2
 rw[run_callFunc_extern Tryz.func196 It It It (e:=Extern.AbiNoEscape.same) It];rw[Lib.run_noEscape];simp only[Result.andThen];rw[Oper.upon_value]
 go_wp2
 rw[Lib.run_from_unsafe w ⟨b,0,none⟩ Tryz.underlying268 Tryz.underlying147 hj SI It];simp only[Result.andThen];rw[Oper.upon_value]
 go_wp2
 go_end0
 exact⟨rfl,rfl⟩
set_option maxHeartbeats 2000000 in
def lC (b:Nat)(w:World)(h0:w.cell? ⟨b,0,none⟩=some (.pointer (some ⟨b,0,none⟩))) :
  Calls Tryz.prog 147 #[.pointer (some ⟨b,0,none⟩)] w λe w'=>e=.returned (.tuple #[])/\w'=w:=by
 obtain⟨j,hj,hjs⟩:∃j,Tryz.prog.info? 150=some j/\j.size=2:=by
  have h:(Tryz.prog.info? 150).map (·.size)=some 2:=It;exact aqU.1 h
 go_enter Tryz.func147,Tryz.ntmps147
 go_wp2
 rw[Lib.run_neq_ptr_same w _ Tryz.underlying147 hj]
 go_wp2
 go_end0
 exact⟨rfl,rfl⟩
def lz {P:Program}{fn:Func}{c:Code}(hf:P.funcs[f]? = some fn)(aiK:(fn.name == "runtime.NumGoroutine")=false)(hb:fn.body=some c)(args:Array Value)(w:World):(callFunc f args).run P w=.ok (.enter f args) w:=by
 have h1:fn.name ≠ "runtime.NumGoroutine":=by simpa using aiK
 simp[callFunc,hf,h1,hb]
def sj (args:Array Value)(w:World):(callFunc 147 args).run Tryz.prog w=.ok (.enter 147 args) w:=lz Tryz.func147 It rfl args w
def aeT:ej U Tryz.prog 147 MG:=by
 intro args s v s' σ w us h H F G hv;unfold MG at h
 split at h
 ·rename_i b
  split at h
  ·rename_i p buf t hg
   split at h
   ·rename_i ht;subst ht;obtain⟨v1,y1,e1,⟨pl,Tp,rfl⟩,e2⟩:=hv;rw[e2] at e1;have:=amU e1;subst this;have hl:s.look b=some (.cells [p,buf] 150 false 0 0):=St.XO hg No;obtain⟨cc,fz,h1,h2,h3,h4,h5⟩:=H.cells Tp hl;obtain⟨q1,q2⟩:=H.spec Tp hl rfl;have Vt:cc.size=2:=by rw[h2,q2];rfl
    obtain⟨c0,hc0,hr0⟩:=h4 0 p rfl;rw[q1] at hc0;have Rv:w.cell? ⟨pl.b,0,none⟩=some c0:=by rw[XH h1];simpa using hc0
    have aeU:pl.sh+0=0:=J;rw[aeU,sj];show Calls _ _ _ _ _
    split at h
    ·cases h
     have hr0:c0=.pointer none:=hr0;subst hr0;have SI:w.shape? pl.b=some (150,2):=by simp only[World.shape?,h1,Vt]
     have hnf:=h5 rfl 0;have Qs:w.frozen? ⟨pl.b,0,none⟩=false:=by
      obtain⟨N3,O_⟩:=fz;simp only[World.frozen?,h1];rw[Bool.eq_false_iff];intro hh;simp only[ahe,decide_eq_true_eq] at hh;have:=hnf (by simp only;omega) (by simp only;omega) J;omega
     obtain⟨w',hw,B_⟩:=Rf (P:=Tryz.prog) (s':=s.put b (.cells [.ptr b 0,buf] 150 false 0 0)) (o:=0) (xs:=[.ptr b 0]) (us:=[.pointer (some ⟨pl.b,pl.sh+0,none⟩)]) H Tp ⟨_,_,rfl,⟨pl,Tp,rfl⟩,rfl⟩ (by simp[WX,hg,Zu,lay]);rw[aeU] at hw;have Yf:(storeCells ⟨pl.b,0,none⟩ [.pointer (some ⟨pl.b,0,none⟩)]).run Tryz.prog w=.ok () (w.setCell ⟨pl.b,0,none⟩ (.pointer (some ⟨pl.b,0,none⟩))):=by
      have ha:(⟨pl.b,0,none⟩:Addr).add 0=⟨pl.b,0,none⟩:=rfl;simp only[storeCells,amz,ha];rw[run_store Tryz.prog w _ _ .plain rfl];simp only[Rv,Qs,aqa,if_false,abc];rfl
     rw[Yf] at hw
     cases hw
     refine (sk pl.b w Rv SI Qs).mono ?_;rintro e w' ⟨rfl,rfl⟩;exact⟨_,rfl,σ,⟨#[],rfl,rfl⟩,B_⟩
    ·rename_i b'
     split at h
     ·rename_i hb;subst hb
      cases h
      obtain⟨pl',aiL,rfl⟩:=hr0;rw[Tp] at aiL
      cases aiL
      rw[aeU] at Rv;refine (lC pl.b w Rv).mono ?_;rintro e w' ⟨rfl,rfl⟩;exact⟨_,rfl,σ,⟨#[],rfl,rfl⟩,Good.refl H⟩
     ·cases h
    ·cases h
   ·cases h
  ·cases h
 ·cases h
def aiM {fn:Func}{c:Code}(hf:U.fn f=some fn)(hb:fn.body=some c):GQ U fn.ntmps c=true:=by
 obtain⟨hm,ZB⟩:=aiH hf;have h:=ap8.1 amV fn hm;rw[aiN,hb,aq0] at h;rcases h with h|h
 ·exfalso;apply ZB;have hu:(Tryz.prog.funcs.toList.zipIdx.all λx=>!(x.1.name==Tryz.f36.name)||Nat.beq x.2 36)=true:=It;have EL:=aiI.fn f fn hf;rw[<-aqq] at EL;have hz:(fn,f)∈Tryz.prog.funcs.toList.zipIdx:=by
   rw[List.mem_iff_getElem?];exact⟨f,by rw[List.getElem?_zipIdx,EL];simp⟩
  have:=ap8.1 hu _ hz;simp only[h,aqB,aqE] at this;exact Nat.eq_of_beq_eq_true this
 ·exact h
def aeV:Full U Tryz.prog:=by
 refine⟨aiI,λ_ _=>Iff.rfl,λf fn c hf hb=>aiM hf hb,λf fn hf=>?_,λf g h=>?_,abo,λi b h=>?_⟩
 ·have h:=ap8.1 amW fn (aiH hf).1;rw[aqS] at h;exact h
 ·rw[wW] at h;unfold eN at h
  split at h
  ·cases h;exact aeT
  ·cases h;exact aeS
  ·cases h;exact aeQ
  ·cases h
 ·rw[KZ] at h;unfold gbU at h
  split at h
  ·cases h;simp
  ·cases h
end Go.Am
namespace Go.Am
open Go
variable {w:World}{n:Nat}
def pH {A:Type}{Q:Nat->A->Prop}:∀n:Nat,(∀i,i<n->∃y,Q i y)->∃l:List A,l.length=n/\∀i y,l[i]? = some y->Q i y
 |0,_=>⟨[],rfl,λi y h=>by simp at h⟩
 |n+1,h=>by
  obtain⟨l,h1,h2⟩:=pH n λi hi=>h i J
  obtain⟨y,hy⟩:=h n J;refine⟨l++[y],by simp[h1],λi z hz=>?_⟩;by_cases hi:i<l.length
  ·rw[aql hi] at hz;exact h2 i z hz
  ·rw[aqZ J] at hz;have:i=n:=by
    rcases Nat.lt_or_ge (i-l.length) 1 with h|h
    ·omega
    ·rw[aqA F_] at hz;cases hz
   subst this;rw[h1,Nat.sub_self] at hz
   cases hz;exact hy
def pG {k:Nat}{f:Nat->Option Value}:∀(us:List Value) (off:Nat),(∀u∈us,u.cells.size=k)->(∀q u,us[q]? = some u->∀r x,u.cells.toList[r]? = some x->f (off+q*k+r)=some x) ->
  ∀i v,(us.flatMap λu=>u.cells.toList)[i]? = some v->f (off+i)=some v
 |[],off,_,_,i,v,h=>by simp at h
 |u::us,off,hs,hq,i,v,h=>by
  rw[aqp] at h;have hk:u.cells.toList.length=k:=by rw[aqj];exact hs u (aba ..)
  by_cases hi:i<k
  ·rw[aql J] at h;have:=hq 0 u rfl i v h
   rwa [Nat.zero_mul,Nat.add_zero] at this
  ·rw[aqZ J,hk] at h;have:=pG us (off+k) (λu hu=>hs u (aab _ hu)) (λq u' hu r x hx=>by
    have:=hq (q+1) u' (by simpa using hu) r x hx;rw[Nat.succ_mul] at this;rw[show off+k+q*k+r=off+(q*k+k)+r from by omega];exact this) (i-k) v h
   rwa [show off+k+(i-k)=off+i from by omega] at this
def yc {σ:Sg}{A:Type}(enc:A->AV):∀(l:List A) (us:List Value),l.length=us.length->(∀(i:Nat) (a:A) (u:Value),l[i]? = some a->us[i]? = some u->ZY σ (enc a) u)->ZZ σ (l.map enc) us
 |[],[],_,_=>rfl
 |a::l,u::us,h,H=>by
  rw[aqe,ZZ];exact⟨u,us,rfl,H 0 a u rfl rfl,yc enc l us (by simpa using h) λi a' u' h1 h2=>H (i+1) a' u' (by simpa using h1) (by simpa using h2)⟩
 |[],_::_,h,_=>by simp at h
 |_::_,[],h,_=>by simp at h
def Hf {f:Nat->Option Value}{l:List Value}(h:(List.range n).mapM f=some l):l.length=n/\∀i,i<n->f i=l[i]? := by
 have key:∀(m:List Nat) (l:List Value),m.mapM f=some l->l.length=m.length/\∀i (hi:i<m.length),f m[i]=l[i]? := by
  intro m
  induction m with
  |nil=>intro l h;simp at h;subst h;exact⟨rfl,λi hi=>by simp at hi⟩
  |cons a m ih =>
   intro l h;rw[List.mapM_cons] at h
   cases ha:f a with
   |none=>rw[ha] at h;cases h
   |some x =>
    rw[ha] at h
    cases hm:m.mapM f with
    |none=>rw[hm] at h;cases h
    |some l' =>
     rw[hm] at h
     cases h
     obtain⟨h1,h2⟩:=ih l' hm;refine⟨by simp[h1],λi hi=>?_⟩
     cases i with
     |zero=>exact ha
     |succ i=>simpa using h2 i (by simpa using hi)
 obtain⟨h1,h2⟩:=key _ _ h;rw[aqR] at h1;refine⟨h1,λi hi=>?_⟩;have:=h2 i (by rw[aqR];exact hi)
 rwa [List.getElem_range] at this
def tn {base:Nat}{a:Addr}{cs:List Value}(h:w.cells? base a n=some cs):cs.length=n/\∀i,i<n->w.cell? (a.add i)=cs[i]? := by
 unfold World.cells? at h
 split at h
 ·exact Hf h
 ·cases h
def MV {a:Addr}{v:Value}(h:w.cell? a=some v):a.spot=none/\∃cc e fz,w.heap[a.block]? = some (.cells cc e fz)/\cc[a.off]? = some v:=by
 unfold World.cell? at h
 split at h
 ·rename_i c e fz hc
  split at h
  ·cases h
  ·rename_i hs;refine⟨?_,c,e,fz,hc,h⟩
   cases Jk:a.spot with
   |none=>rfl
   |some x=>rw[Jk] at hs;simp at hs
 ·cases h
def MU (a:Addr)(n:Nat):(a.add n).block=a.block:=by unfold Addr.add;split <;> rfl
def pF (a:Addr)(n:Nat):(a.add n).off=a.off+n:=by
 unfold Addr.add;split
 ·rename_i h;subst h;rfl
 ·rfl
variable {H:Type}{enc:TypeId×Value->H}{P:Program}{w:World}{σ:Sg}
def fQ (nl:Bool)(l:List AV):AV:=match nl,l with
 |true,[]=>.ZQ
 |_,l=>.fz l
def open_row (hz:∀b o,w.heap[b]? = some o->σ.fz b=some o){A:Type}(en:A->AV){k:Nat}(hk:k≠0){e t:TypeId}(ht:P.underlying t=some (.slice e))(hc:P.cellsOf e=k){base:Nat}{spare:Nat->Bool}{held:Bool}{fuel:Nat}{cs:List Value}{x:DataW H×List MemPlace}
  (h:DataW.trod enc P w base spare held fuel t cs=some x)(HE:∀m cs x,m<fuel->DataW.trod enc P w base spare held m e cs=some x->∃(y:A) (u:Value),ZY σ.bare (en y) u/\u.cells.toList=cs) :
  ∃(nl:Bool) (l:List A) (v:Value),cs=[v]/\ZY σ.bare (fQ nl (l.map en)) v/\l.length<=maxLen:=by
 rcases DataW.trod_slice ht h with⟨rfl,_⟩|⟨a,len,cap,elems,rest,n,hn,rfl,_,_,h1,h2,h3,h4,_,_⟩
 ·exact⟨true,[],_,rfl,rfl,apW _⟩
 ·have hex:∀i,i<len->∃yu:A×Value,ZY σ.bare (en yu.1) yu.2/\yu.2.cells.size=k/\∀r v,yu.2.cells.toList[r]? = some v->w.cell? ((a.add (i*k)).add r)=some v:=by
   intro i hi;have:=h4 i hi;rw[hc] at this;have hs:∃z,elems[i]? = some z:=⟨elems[i]'J,aaa _⟩;obtain⟨z,uJ⟩:=hs;rw[uJ] at this
   cases FO:w.cells? base (a.add (i*k)) k with
   |none=>rw[FO] at this;cases this
   |some c =>
    rw[FO] at this;obtain⟨y,u,hu,LB⟩:=HE n c z J this;obtain⟨g1,g2⟩:=tn FO;refine⟨(y,u),hu,?_,λr v hr=>?_⟩
    ·rw[<-aqj,LB,g1]
    ·rw[LB] at hr;rw[g2 r (by
      rcases Nat.lt_or_ge r c.length with h|h
      ·omega
      ·rw[aqA h] at hr;cases hr)]
     exact hr
  obtain⟨l,hl,IY⟩:=pH len hex;have LU:∀q u,(l.map Prod.snd)[q]? = some u->∃yu:A×Value,l[q]? = some yu/\yu.2=u:=λq u hq=>by
   rw[aqc] at hq;obtain⟨yu,h7,h8⟩:=aqU.1 hq;exact⟨yu,h7,h8⟩
  refine⟨false,l.map Prod.fst,_,rfl,?_,by rw[ala];omega⟩;have L9:fQ false ((l.map Prod.fst).map en)=.fz ((l.map Prod.fst).map en):=by
   cases (l.map Prod.fst).map en <;> rfl
  rw[L9,ZY];refine⟨a,cap,l.map Prod.snd,by rw[ala,ala,hl],by rw[ala,ala,hl];exact h1,?_,?_⟩
  ·refine yc en _ _ No λi y u h5 h6=>?_
   obtain⟨yu,h7,rfl⟩:=LU i u h6;rw[aqc,h7] at h5
   cases h5
   exact (IY i yu h7).1
  ·cases l with
   |nil=>exact .inl rfl
   |cons yu l =>
    right
    obtain⟨g1,g2,g3⟩:=IY 0 yu rfl;have hc0:∃v,yu.2.cells.toList[0]? = some v:=⟨yu.2.cells.toList[0]'(by rw[aqj];omega),aaa _⟩;obtain⟨v0,D0⟩:=hc0;obtain⟨s1,cc,e',fz,s2,s3⟩:=MV (g3 0 v0 D0);have Jk:a.spot=none:=by
     have h8:=g3 0 v0 D0;rw[Nat.zero_mul] at h8;exact (MV (a:=a) (by simpa[Addr.add] using h8)).1
    rw[MU,MU] at s2;refine⟨Jk,cc,e',fz,k,hz _ _ s2,hk,λu hu=>?_,?_⟩
    ·obtain⟨q,hq⟩:=List.mem_iff_getElem?.1 hu;obtain⟨yu',h7,rfl⟩:=LU q u hq;exact (IY q yu' h7).2.1
    ·refine pG (k:=k) (f:=λi=>cc[i]?) _ a.off (λu hu=>?_) λq u hq r x hx=>?_
     ·obtain⟨q,hq⟩:=List.mem_iff_getElem?.1 hu;obtain⟨yu',h7,rfl⟩:=LU q u hq;exact (IY q yu' h7).2.1
     ·obtain⟨yu',h7,rfl⟩:=LU q u hq;obtain⟨_,cc',e'',fz',s4,s5⟩:=MV ((IY q yu' h7).2.2 r x hx);rw[MU,MU,s2] at s4
      cases s4
      rw[pF,pF] at s5;exact s5
end Go.Am
