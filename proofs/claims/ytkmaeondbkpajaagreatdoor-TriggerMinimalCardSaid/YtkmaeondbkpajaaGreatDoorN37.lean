/- A part of the proof of a statement of this seat: the machine on which the program is read, and what it computes; for every input. -/
import Derived.Test.YtkmaeondbkpajaaGreatDoorN33
set_option linter.all false
namespace Go.Am
open Go Go.Proofs
set_option maxRecDepth 100000
theorem BD {A:Type}{Q:Nat->A->Prop}:∀n:Nat,(∀i,i<n->∃y,Q i y)->∃l:List A,l.length=n/\∀i y,l[i]? = some y->Q i y
 |0,_=>⟨[],rfl,fun i y h=>by simp at h⟩
 |n+1,h=>by
  obtain⟨l,h1,h2⟩:=BD n fun i hi=>h i (by omega)
  obtain⟨y,hy⟩:=h n (by omega);refine⟨l++[y],by simp[h1],fun i z hz=>?_⟩;by_cases hi:i<l.length
  ·rw[afo hi] at hz;exact h2 i z hz
  ·rw[afO (by omega)] at hz;have:i=n:=by
    rcases Nat.lt_or_ge (i-l.length) 1 with h|h
    ·omega
    ·rw[afz (by simp;omega)] at hz;cases hz
   subst this;rw[h1,Nat.sub_self] at hz
   cases hz;exact hy
theorem BB {k:Nat}{f:Nat->Option Value}:∀(us:List Value) (off:Nat),(∀u∈us,u.cells.size=k)->(∀q u,us[q]? = some u->∀r x,u.cells.toList[r]? = some x->f (off+q*k+r)=some x) ->
  ∀i v,(us.flatMap fun u=>u.cells.toList)[i]? = some v->f (off+i)=some v
 |[],off,_,_,i,v,h=>by simp at h
 |u::us,off,hs,hq,i,v,h=>by
  rw[afn] at h;have hk:u.cells.toList.length=k:=by rw[afd];exact hs u (aeZ ..)
  by_cases hi:i<k
  ·rw[afo (by omega)] at h;have:=hq 0 u rfl i v h
   rwa [Nat.zero_mul,afD] at this
  ·rw[afO (by omega),hk] at h;have:=BB us (off+k) (fun u hu=>hs u (abc _ hu)) (fun q u' hu r x hx=>by
    have:=hq (q+1) u' (by simpa using hu) r x hx;rw[Nat.succ_mul] at this;rw[show off+k+q*k+r=off+(q*k+k)+r from by omega];exact this) (i-k) v h
   rwa [show off+k+(i-k)=off+i from by omega] at this
theorem FZ {σ:Sg}{A:Type}(enc:A->AV):∀(l:List A) (us:List Value),l.length=us.length->(∀(i:Nat) (a:A) (u:Value),l[i]? = some a->us[i]? = some u->Z6 σ (enc a) u)->Z5 σ (l.map enc) us
 |[],[],_,_=>rfl
 |a::l,u::us,h,H=>by
  rw[afm,Z5];exact⟨u,us,rfl,H 0 a u rfl rfl,FZ enc l us (by simpa using h) fun i a' u' h1 h2=>H (i+1) a' u' (by simpa using h1) (by simpa using h2)⟩
 |[],_::_,h,_=>by simp at h
 |_::_,[],h,_=>by simp at h
theorem LZ {f:Nat->Option Value}{n:Nat}{l:List Value}(h:(List.range n).mapM f=some l):l.length=n/\∀i,i<n->f i=l[i]? := by
 have key:∀(m:List Nat) (l:List Value),m.mapM f=some l->l.length=m.length/\∀i (hi:i<m.length),f m[i]=l[i]? := by
  intro m
  induction m with
  |nil=>intro l h;simp at h;subst h;exact⟨rfl,fun i hi=>by simp at hi⟩
  |cons a m ih =>
   intro l h;rw[List.mapM_cons] at h
   cases ha:f a with
   |none=>rw[ha] at h;cases h
   |some x =>
    rw[ha] at h
    cases hm:m.mapM f with
    |none=>rw[hm] at h;cases h
    |some l' =>
     rw[hm] at h
     cases h
     obtain⟨h1,h2⟩:=ih l' hm;refine⟨by simp[h1],fun i hi=>?_⟩
     cases i with
     |zero=>exact ha
     |succ i=>simpa using h2 i (by simpa using hi)
 obtain⟨h1,h2⟩:=key _ _ h;rw[afN] at h1;refine⟨h1,fun i hi=>?_⟩;have:=h2 i (by rw[afN];exact hi)
 rwa [List.getElem_range] at this
theorem DG {w:World}{base:Nat}{a:Addr}{n:Nat}{cs:List Value}(h:w.cells? base a n=some cs):cs.length=n/\∀i,i<n->w.cell? (a.add i)=cs[i]? := by
 unfold World.cells? at h
 split at h
 ·exact LZ h
 ·cases h
theorem QC (a:Addr)(n:Nat):(a.add n).block=a.block:=by unfold Addr.add;split <;> rfl
theorem BA (a:Addr)(n:Nat):(a.add n).off=a.off+n:=by
 unfold Addr.add;split
 ·rename_i h;subst h;rfl
 ·rfl
variable {H:Type}{enc:TypeId×Value->H}{P:Program}{w:World}{σ:Sg}
def Bz (nl:Bool)(l:List AV):AV:=match nl,l with
 |true,[]=>.ZR
 |_,l=>.fz l
theorem open_row (hz:∀b o,w.heap[b]? = some o->σ.fz b=some o){A:Type}(en:A->AV){k:Nat}(hk:k≠0){e t:TypeId}(ht:P.underlying t=some (.slice e))(hc:P.cellsOf e=k){base:Nat}{spare:Nat->Bool}{held:Bool}{fuel:Nat}{cs:List Value}{x:DataW H×List MemPlace}
  (h:DataW.trod enc P w base spare held fuel t cs=some x)(HE:∀m cs x,m<fuel->DataW.trod enc P w base spare held m e cs=some x->∃(y:A) (u:Value),Z6 σ.bare (en y) u/\u.cells.toList=cs) :
  ∃(nl:Bool) (l:List A) (v:Value),cs=[v]/\Z6 σ.bare (Bz nl (l.map en)) v/\l.length<=maxLen:=by
 rcases DataW.trod_slice ht h with⟨rfl,_⟩|⟨a,len,cap,elems,rest,n,hn,rfl,_,_,h1,h2,h3,h4,_,_⟩
 ·exact⟨true,[],_,rfl,rfl,ae5 _⟩
 ·have hex:∀i,i<len->∃yu:A×Value,Z6 σ.bare (en yu.1) yu.2/\yu.2.cells.size=k/\∀r v,yu.2.cells.toList[r]? = some v->w.cell? ((a.add (i*k)).add r)=some v:=by
   intro i hi;have:=h4 i hi;rw[hc] at this;have hs:∃z,elems[i]? = some z:=⟨elems[i]'(by omega),aaa _⟩;obtain⟨z,nP⟩:=hs;rw[nP] at this
   cases Mx:w.cells? base (a.add (i*k)) k with
   |none=>rw[Mx] at this;cases this
   |some c =>
    rw[Mx] at this;obtain⟨y,u,hu,OX⟩:=HE n c z (by omega) this;obtain⟨g1,g2⟩:=DG Mx;refine⟨(y,u),hu,?_,fun r v hr=>?_⟩
    ·rw[<-afd,OX,g1]
    ·rw[OX] at hr;rw[g2 r (by
      rcases Nat.lt_or_ge r c.length with h|h
      ·omega
      ·rw[afz h] at hr;cases hr)]
     exact hr
  obtain⟨l,hl,FY⟩:=BD len hex;have PS:∀q u,(l.map Prod.snd)[q]? = some u->∃yu:A×Value,l[q]? = some yu/\yu.2=u:=fun q u hq=>by
   rw[afs] at hq;obtain⟨yu,h7,h8⟩:=afL.1 hq;exact⟨yu,h7,h8⟩
  refine⟨false,l.map Prod.fst,_,rfl,?_,by rw[ae7];omega⟩;have LY:Bz false ((l.map Prod.fst).map en)=.fz ((l.map Prod.fst).map en):=by
   cases (l.map Prod.fst).map en <;> rfl
  rw[LY,Z6];refine⟨a,cap,l.map Prod.snd,by rw[ae7,ae7,hl],by rw[ae7,ae7,hl];exact h1,?_,?_⟩
  ·refine FZ en _ _ (by simp) fun i y u h5 h6=>?_
   obtain⟨yu,h7,rfl⟩:=PS i u h6;rw[afs,h7] at h5
   cases h5
   exact (FY i yu h7).1
  ·cases l with
   |nil=>exact .inl rfl
   |cons yu l =>
    right
    obtain⟨g1,g2,g3⟩:=FY 0 yu rfl;have hc0:∃v,yu.2.cells.toList[0]? = some v:=⟨yu.2.cells.toList[0]'(by rw[afd];omega),aaa _⟩;obtain⟨v0,gf⟩:=hc0;obtain⟨s1,cc,e',fz,s2,s3⟩:=QB (g3 0 v0 gf);have MD:a.spot=none:=by
     have h8:=g3 0 v0 gf;rw[Nat.zero_mul] at h8;exact (QB (a:=a) (by simpa[Addr.add] using h8)).1
    rw[QC,QC] at s2;refine⟨MD,cc,e',fz,k,hz _ _ s2,hk,fun u hu=>?_,?_⟩
    ·obtain⟨q,hq⟩:=List.mem_iff_getElem?.1 hu;obtain⟨ey,h7,rfl⟩:=PS q u hq;exact (FY q ey h7).2.1
    ·refine BB (k:=k) (f:=fun i=>cc[i]?) _ a.off (fun u hu=>?_) fun q u hq r x hx=>?_
     ·obtain⟨q,hq⟩:=List.mem_iff_getElem?.1 hu;obtain⟨ey,h7,rfl⟩:=PS q u hq;exact (FY q ey h7).2.1
     ·obtain⟨ey,h7,rfl⟩:=PS q u hq;obtain⟨_,nI,e'',fz',s4,s5⟩:=QB ((FY q ey h7).2.2 r x hx);rw[QC,QC,s2] at s4
      cases s4
      rw[BA,BA] at s5;exact s5
theorem OW (nl:Bool)(l:List AV):Bz nl l=ZP nl l:=by cases nl <;> cases l <;> rfl
theorem ew:Tryz.prog.cellsOf 3=1:=by kernel_rfl
theorem Hn {α:Type}{l:List α}{i:Nat}(h:i<l.length):∃x,l[i]? = some x:=⟨l[i],aaa h⟩
end Go.Am
