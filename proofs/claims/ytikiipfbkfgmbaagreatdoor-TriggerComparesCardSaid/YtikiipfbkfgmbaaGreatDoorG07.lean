/- A part of the proof of a statement of this seat: the machine on which the program is read, and what it computes; for every input. -/
import Derived.Test.YtikiipfbkfgmbaaGreatDoorG04
import Derived.Test.YtikiipfbkfgmbaaGreatDoorG01
import Derived.Test.YtikiipfbkfgmbaaGreatDoorG02
import Derived.WalkKit
import Derived.Lib.Builder
import Derived.Lib.Bytealg
import Derived.Lib.IndexEntry
import Derived.Laws.Externs
import Derived.ChangeArms
import Derived.Test.YtikiipfbkfgmbaaGreatDoorTie
import Derived.Test.YtikiipfbkfgmbaaGreatDoorCards
import Derived.ProofKit
import Derived.OpenShut
import Derived.LaidMore
import Derived.LaidLaws
import Derived.Lay
import Derived.Below
import Derived.Shelf.Vars
import Derived.SevenTiedAt
import Derived.Stop.Joined
set_option linter.all false
namespace Go.Am
open Go Go.Proofs
variable [MaxLen]
set_option maxRecDepth 100000
theorem U_eqOk (t:TypeId):U.eqOk t=(!Tryz.prog.eqGuardType Tryz.prog.depth t&&!Tryz.prog.stoodInHeld t):=by unfold U;rfl
theorem U_spec (t:TypeId):U.spec t=Nat.beq t 207:=by unfold U;rfl
theorem U_in {f:FuncId}{fn:Func}(h:U.fn f=some fn):fn∈Tryz.prog.funcs.toList∧f≠75:=by
 rw[U_fn] at h
 cases hb:Nat.beq f 75
 ·rw[hb] at h
  rw[cond_false,←Array.getElem?_toList] at h
  exact⟨List.mem_of_getElem? h,by rintro rfl;cases hb⟩
 ·rw[hb] at h;cases h
theorem spec_207 {t:TypeId}(h:Stat.spec t=true):t=207:=Nat.eq_of_beq_eq_true h
theorem U_cx:CxOk U Tryz.prog:=by
 refine⟨fun t d h=>?_,fun t d h=>?_,fun t d h=>?_,fun t h=>?_,fun t h=>?_,fun t h=>?_⟩
 ·rw[U_und] at h;exact h
 ·rw[U_inf] at h;exact h
 ·rw[U_fn] at h
  cases hb:Nat.beq t 75
  ·rw[hb] at h;exact h
  ·rw[hb] at h;cases h
 ·rw[U_eqOk] at h
  rw[Bool.and_eq_true,Bool.not_eq_true',Bool.not_eq_true'] at h
  exact h
 ·rw[U_spec];exact h
 ·have:=spec_207 h;subst this
  have hk:(match U.und 207 with|some (.int .u8)=>true|_=>false)=false:=by kernel_rfl
  intro e
  rw[e] at hk;cases hk
theorem arr2 {us:Array Value}{a b:Value}(h:us.toList=[a,b]):us=#[a,b]:=by
 cases us;simp at h;subst h;rfl
theorem arr1 {us:Array Value}{a:Value}(h:us.toList=[a]):us=#[a]:=by
 cases us;simp at h;subst h;rfl
theorem ok_272:FnOk U Tryz.prog 272 extIndexByte:=by
 intro args s v s' σ w us h H F G hv
 unfold extIndexByte at h
 split at h
 ·rename_i l c
  cases h
  obtain⟨v1,y1,e1,⟨bs,rfl,hbs⟩,v2,y2,e2,rfl,e3⟩:=hv
  subst e2;rw[e3] at e1
  have:=arr2 e1;subst this
  rw[run_callFunc_extern Tryz.func272 (by kernel_rfl) (by kernel_rfl) (by kernel_rfl) (e:=Extern.BytealgIndexByte.indexByte) (by kernel_rfl),Lib.run_indexByteString]
  refine⟨σ,?_,Good.refl H⟩
  rw[hbs];rfl
 ·cases h
theorem index_not (c:UInt8)(m:List UInt8):∀l:List UInt8,l.contains c=false→Lib.index l (c::m) = -1
 |[],_=>rfl
 |b::l,h=>by
  simp only[List.contains_cons,Bool.or_eq_false_iff] at h
  have ih:=index_not c m l h.2
  have hp:(c::m).isPrefixOf (b::l)=false:=by
   simp only[List.isPrefixOf,h.1,Bool.false_and]
  unfold Lib.index
  rw[hp,ih];rfl
theorem glob_0 {σ:Sg}{s:St}{w:World}(H:HR σ s w)(G:GlobOk U σ):w.cell? ⟨0,0,none⟩=some (.int .i64 MaxLen.val):=by
 obtain⟨n,h1,h2⟩:=G 0 (by rw[U_glob];omega)
 obtain⟨_,o,h4,h5⟩:=h2 (.cells [.int .i64 MaxLen.val] 3 true 0 0) (by rw[U_gbase];rfl)
 have h6:=(H.fz 0 o h4).1
 cases o with
 |cells cc e fz =>
  obtain⟨_,_,_,h7,_⟩:=h5
  obtain⟨v,h8,h9⟩:=h7 0 (.int .i64 MaxLen.val) rfl
  have h9:v=.int .i64 MaxLen.val:=h9
  subst h9
  simp only[World.cell?,h6]
  simpa using h8
 |map=>exact h5.elim
 |stringIter=>exact h5.elim
 |loop=>exact h5.elim
 |_=>exact h5.elim
theorem ok_250:FnOk U Tryz.prog 250 extIndexStr:=by
 intro args s v s' σ w us h H F G hv
 unfold extIndexStr at h
 split at h
 ·rename_i l c m
  split at h
  ·rename_i hc
   cases h
   simp only[Bool.and_eq_true,Bool.not_eq_true',decide_eq_true_eq] at hc
   obtain⟨⟨⟨h1,h2⟩,h3⟩,h4⟩:=hc
   obtain⟨v1,y1,e1,⟨bs,rfl,hbs⟩,v2,y2,e2,⟨bt,rfl,hbt⟩,e3⟩:=hv
   subst e2;rw[e3] at e1
   have:=arr2 e1;subst this
   have hm:=glob_0 H G
   have s1:bs.size=l.length:=by rw[←hbs];exact (Array.length_toList ..).symm
   have s2:bt.size=m.length+1:=by
    have:bt.size=bt.data.toList.length:=(Array.length_toList ..).symm
    rw[this,hbt];rfl
   rw[run_callFunc_extern Tryz.func250 (by kernel_rfl) (by kernel_rfl) (by kernel_rfl) (e:=Extern.BytealgIndex.index) (by kernel_rfl),Lib.run_indexString bs bt w 0 MaxLen.val (by kernel_rfl) hm (by omega) (by omega) (by omega)]
   refine⟨σ,?_,Good.refl H⟩
   rw[hbs,hbt,index_not c m l h1];rfl
  ·cases h
 ·cases h
set_option maxHeartbeats 2000000 in
theorem copy_fresh (b:Nat)(w:World)(h0:w.cell? ⟨b,0,none⟩=some (.pointer none))(hsh:w.shape? b=some (207,2))(hfz:w.frozen? ⟨b,0,none⟩=false) :
  Calls Tryz.prog 182 #[.pointer (some ⟨b,0,none⟩)] w fun e w'=>e=.returned (.tuple #[])∧w'=w.setCell ⟨b,0,none⟩ (.pointer (some ⟨b,0,none⟩)):=by
 obtain⟨j,hj,hjs⟩:∃j,Tryz.prog.info? 207=some j∧j.size=2:=by
  have h:(Tryz.prog.info? 207).map (·.size)=some 2:=by kernel_rfl
  exact Option.map_eq_some_iff.1 h
 go_enter Tryz.func182,Tryz.ntmps182
 go_wp2
 rw[Lib.run_to_unsafe w ⟨b,0,none⟩ Tryz.underlying204 Tryz.underlying289 hj (by rw[hjs];decide) hsh (Nat.zero_lt_succ 1)]
 simp only[Result.andThen]
 rw[Oper.upon_value]
 go_wp2
 rw[run_callFunc_extern Tryz.func221 (by kernel_rfl) (by kernel_rfl) (by kernel_rfl) (e:=Extern.AbiNoEscape.same) (by kernel_rfl)]
 rw[Lib.run_noEscape]
 simp only[Result.andThen]
 rw[Oper.upon_value]
 go_wp2
 rw[Lib.run_from_unsafe w ⟨b,0,none⟩ Tryz.underlying289 Tryz.underlying204 hj hsh (by kernel_rfl)]
 simp only[Result.andThen]
 rw[Oper.upon_value]
 go_wp2
 go_end0
 exact⟨rfl,rfl⟩
set_option maxHeartbeats 2000000 in
theorem copy_used (b:Nat)(w:World)(h0:w.cell? ⟨b,0,none⟩=some (.pointer (some ⟨b,0,none⟩))) :
  Calls Tryz.prog 182 #[.pointer (some ⟨b,0,none⟩)] w fun e w'=>e=.returned (.tuple #[])∧w'=w:=by
 obtain⟨j,hj,hjs⟩:∃j,Tryz.prog.info? 207=some j∧j.size=2:=by
  have h:(Tryz.prog.info? 207).map (·.size)=some 2:=by kernel_rfl
  exact Option.map_eq_some_iff.1 h
 go_enter Tryz.func182,Tryz.ntmps182
 go_wp2
 rw[Lib.run_neq_ptr_same w _ Tryz.underlying204 hj]
 go_wp2
 go_end0
 exact⟨rfl,rfl⟩
theorem enters_by {P:Program}{f:FuncId}{fn:Func}{c:Code}(hf:P.funcs[f]? = some fn)(hname:(fn.name == "runtime.NumGoroutine")=false)(hb:fn.body=some c)(args:Array Value)(w:World):(callFunc f args).run P w=.ok (.enter f args) w:=by
 have h1:fn.name ≠ "runtime.NumGoroutine":=by simpa using hname
 simp[callFunc,hf,h1,hb]
theorem enters_182 (args:Array Value)(w:World):(callFunc 182 args).run Tryz.prog w=.ok (.enter 182 args) w:=enters_by Tryz.func182 (by kernel_rfl) rfl args w
theorem ok_182:FnOk U Tryz.prog 182 extCopy:=by
 intro args s v s' σ w us h H F G hv
 unfold extCopy at h
 split at h
 ·rename_i b
  split at h
  ·rename_i p buf t hg
   split at h
   ·rename_i ht
    subst ht
    obtain⟨v1,y1,e1,⟨pl,hpl,rfl⟩,e2⟩:=hv
    rw[e2] at e1
    have:=arr1 e1;subst this
    have hl:s.look b=some (.cells [p,buf] 207 false 0 0):=St.look_some hg (by simp)
    obtain⟨cc,fz,h1,h2,h3,h4,h5⟩:=H.cells hpl hl
    obtain⟨q1,q2⟩:=H.spec hpl hl rfl
    have hsz:cc.size=2:=by rw[h2,q2];rfl
    obtain⟨c0,hc0,hr0⟩:=h4 0 p rfl
    rw[q1] at hc0
    have hcell:w.cell? ⟨pl.b,0,none⟩=some c0:=by rw[cell_of_block h1];simpa using hc0
    have hpl0:pl.sh+0=0:=by omega
    rw[hpl0,enters_182]
    show Calls _ _ _ _ _
    split at h
    ·cases h
     have hr0:c0=.pointer none:=hr0
     subst hr0
     have hsh:w.shape? pl.b=some (207,2):=by simp only[World.shape?,h1,hsz]
     have hnf:=h5 rfl 0
     have hfr:w.frozen? ⟨pl.b,0,none⟩=false:=by
      obtain⟨flo,fhi⟩:=fz
      simp only[World.frozen?,h1]
      rw[Bool.eq_false_iff]
      intro hh
      simp only[Bool.and_eq_true,decide_eq_true_eq] at hh
      have:=hnf (by simp only;omega) (by simp only;omega) (by omega)
      omega
     obtain⟨w',hw,hgood⟩:=writeCells_run (P:=Tryz.prog) (s':=s.put b (.cells [.ptr b 0,buf] 207 false 0 0)) (o:=0) (xs:=[.ptr b 0]) (us:=[.pointer (some ⟨pl.b,pl.sh+0,none⟩)]) H hpl ⟨_,_,rfl,⟨pl,hpl,rfl⟩,rfl⟩ (by simp[writeCells,hg,noAgg,lay])
     rw[hpl0] at hw
     have hrun:(storeCells ⟨pl.b,0,none⟩ [.pointer (some ⟨pl.b,0,none⟩)]).run Tryz.prog w=.ok () (w.setCell ⟨pl.b,0,none⟩ (.pointer (some ⟨pl.b,0,none⟩))):=by
      have ha:(⟨pl.b,0,none⟩:Addr).add 0=⟨pl.b,0,none⟩:=rfl
      simp only[storeCells,Sem.run_bind,ha]
      rw[run_store Tryz.prog w _ _ .plain rfl]
      simp only[hcell,hfr,Bool.false_eq_true,if_false,Result.andThen_ok]
      rfl
     rw[hrun] at hw
     cases hw
     refine (copy_fresh pl.b w hcell hsh hfr).mono ?_
     rintro e w' ⟨rfl,rfl⟩
     exact⟨_,rfl,σ,⟨#[],rfl,rfl⟩,hgood⟩
    ·rename_i b'
     split at h
     ·rename_i hb
      subst hb
      cases h
      obtain⟨pl',hpl',rfl⟩:=hr0
      rw[hpl] at hpl'
      cases hpl'
      rw[hpl0] at hcell
      refine (copy_used pl.b w hcell).mono ?_
      rintro e w' ⟨rfl,rfl⟩
      exact⟨_,rfl,σ,⟨#[],rfl,rfl⟩,Good.refl H⟩
     ·cases h
    ·cases h
   ·cases h
  ·cases h
 ·cases h
theorem U_ok' {f:FuncId}{fn:Func}{c:Code}(hf:U.fn f=some fn)(hb:fn.body=some c):okC U fn.ntmps c=true:=by
 obtain⟨hm,hne⟩:=U_in hf
 have h:=List.all_eq_true.1 U_ok fn hm
 rw[okAt,hb,Bool.or_eq_true] at h
 rcases h with h|h
 ·exfalso
  apply hne
  have hu:(Tryz.prog.funcs.toList.zipIdx.all fun x=>!(x.1.name==Tryz.f75.name)||Nat.beq x.2 75)=true:=by kernel_rfl
  have hf':=U_cx.fn f fn hf
  rw[←Array.getElem?_toList] at hf'
  have hz:(fn,f)∈Tryz.prog.funcs.toList.zipIdx:=by
   rw[List.mem_iff_getElem?]
   exact⟨f,by rw[List.getElem?_zipIdx,hf'];simp⟩
  have:=List.all_eq_true.1 hu _ hz
  simp only[h,Bool.not_true,Bool.false_or] at this
  exact Nat.eq_of_beq_eq_true this
 ·exact h
theorem U_full:Full U Tryz.prog:=by
 refine⟨U_cx,fun _ _=>Iff.rfl,fun f fn c hf hb=>U_ok' hf hb,fun f fn hf=>?_,fun f g h=>?_,U_mixed,fun i b h=>?_⟩
 ·have h:=List.all_eq_true.1 U_nm fn (U_in hf).1
  rw[Bool.not_eq_true'] at h
  exact h
 ·rw[U_ext] at h
  unfold extU at h
  split at h
  ·cases h;exact ok_182
  ·cases h;exact ok_250
  ·cases h;exact ok_272
  ·cases h
 ·rw[U_gbase] at h
  unfold gbU at h
  split at h
  ·cases h;simp
  ·cases h
end Go.Am
namespace Go.Am
open Go
theorem list_of {A:Type}{Q:Nat→A→Prop}:∀n:Nat,(∀i,i<n→∃y,Q i y)→∃l:List A,l.length=n∧∀i y,l[i]? = some y→Q i y
 |0,_=>⟨[],rfl,fun i y h=>by simp at h⟩
 |n+1,h=>by
  obtain⟨l,h1,h2⟩:=list_of n fun i hi=>h i (by omega)
  obtain⟨y,hy⟩:=h n (by omega)
  refine⟨l++[y],by simp[h1],fun i z hz=>?_⟩
  by_cases hi:i<l.length
  ·rw[List.getElem?_append_left hi] at hz
   exact h2 i z hz
  ·rw[List.getElem?_append_right (by omega)] at hz
   have:i=n:=by
    rcases Nat.lt_or_ge (i-l.length) 1 with h|h
    ·omega
    ·rw[List.getElem?_eq_none (by simp;omega)] at hz;cases hz
   subst this
   rw[h1,Nat.sub_self] at hz
   cases hz;exact hy
theorem flat_at {k:Nat}{f:Nat→Option Value}:∀(us:List Value) (off:Nat),(∀u∈us,u.cells.size=k)→(∀q u,us[q]? = some u→∀r x,u.cells.toList[r]? = some x→f (off+q*k+r)=some x) →
  ∀i v,(us.flatMap fun u=>u.cells.toList)[i]? = some v→f (off+i)=some v
 |[],off,_,_,i,v,h=>by simp at h
 |u::us,off,hs,hq,i,v,h=>by
  rw[List.flatMap_cons] at h
  have hk:u.cells.toList.length=k:=by rw[Array.length_toList];exact hs u (List.mem_cons_self ..)
  by_cases hi:i<k
  ·rw[List.getElem?_append_left (by omega)] at h
   have:=hq 0 u rfl i v h
   rwa [Nat.zero_mul,Nat.add_zero] at this
  ·rw[List.getElem?_append_right (by omega),hk] at h
   have:=flat_at us (off+k) (fun u hu=>hs u (List.mem_cons_of_mem _ hu)) (fun q u' hu r x hx=>by
    have:=hq (q+1) u' (by simpa using hu) r x hx
    rw[Nat.succ_mul] at this
    rw[show off+k+q*k+r=off+(q*k+k)+r from by omega];exact this) (i-k) v h
   rwa [show off+k+(i-k)=off+i from by omega] at this
theorem vrels_of {σ:Sg}{A:Type}(enc:A→AV):∀(l:List A) (us:List Value),l.length=us.length→(∀(i:Nat) (a:A) (u:Value),l[i]? = some a→us[i]? = some u→vrel σ (enc a) u)→vrels σ (l.map enc) us
 |[],[],_,_=>rfl
 |a::l,u::us,h,H=>by
  rw[List.map_cons,vrels]
  exact⟨u,us,rfl,H 0 a u rfl rfl,vrels_of enc l us (by simpa using h) fun i a' u' h1 h2=>H (i+1) a' u' (by simpa using h1) (by simpa using h2)⟩
 |[],_::_,h,_=>by simp at h
 |_::_,[],h,_=>by simp at h
theorem mapM_range_some {f:Nat→Option Value}{n:Nat}{l:List Value}(h:(List.range n).mapM f=some l):l.length=n∧∀i,i<n→f i=l[i]? := by
 have key:∀(m:List Nat) (l:List Value),m.mapM f=some l→l.length=m.length∧∀i (hi:i<m.length),f m[i]=l[i]? := by
  intro m
  induction m with
  |nil=>intro l h;simp at h;subst h;exact⟨rfl,fun i hi=>by simp at hi⟩
  |cons a m ih =>
   intro l h
   rw[List.mapM_cons] at h
   cases ha:f a with
   |none=>rw[ha] at h;cases h
   |some x =>
    rw[ha] at h
    cases hm:m.mapM f with
    |none=>rw[hm] at h;cases h
    |some l' =>
     rw[hm] at h
     cases h
     obtain⟨h1,h2⟩:=ih l' hm
     refine⟨by simp[h1],fun i hi=>?_⟩
     cases i with
     |zero=>exact ha
     |succ i=>simpa using h2 i (by simpa using hi)
 obtain⟨h1,h2⟩:=key _ _ h
 rw[List.length_range] at h1
 refine⟨h1,fun i hi=>?_⟩
 have:=h2 i (by rw[List.length_range];exact hi)
 rwa [List.getElem_range] at this
theorem cells_some {w:World}{base:Nat}{a:Addr}{n:Nat}{cs:List Value}(h:w.cells? base a n=some cs):cs.length=n∧∀i,i<n→w.cell? (a.add i)=cs[i]? := by
 unfold World.cells? at h
 split at h
 ·exact mapM_range_some h
 ·cases h
theorem cell_some {w:World}{a:Addr}{v:Value}(h:w.cell? a=some v):a.spot=none∧∃cc e fz,w.heap[a.block]? = some (.cells cc e fz)∧cc[a.off]? = some v:=by
 unfold World.cell? at h
 split at h
 ·rename_i c e fz hc
  split at h
  ·cases h
  ·rename_i hs
   refine⟨?_,c,e,fz,hc,h⟩
   cases hsp:a.spot with
   |none=>rfl
   |some x=>rw[hsp] at hs;simp at hs
 ·cases h
theorem add_block (a:Addr)(n:Nat):(a.add n).block=a.block:=by unfold Addr.add;split <;> rfl
theorem add_off (a:Addr)(n:Nat):(a.add n).off=a.off+n:=by
 unfold Addr.add;split
 ·rename_i h;subst h;rfl
 ·rfl
variable {H:Type}{enc:TypeId×Value→H}{P:Program}{w:World}{σ:Sg}
def encS' (nl:Bool)(l:List AV):AV:=match nl,l with
 |true,[]=>.nils
 |_,l=>.fz l
theorem open_row (hz:∀b o,w.heap[b]? = some o→σ.fz b=some o){A:Type}(en:A→AV){k:Nat}(hk:k≠0){e t:TypeId}(ht:P.underlying t=some (.slice e))(hc:P.cellsOf e=k){base:Nat}{spare:Nat→Bool}{held:Bool}{fuel:Nat}{cs:List Value}{x:DataW H×List MemPlace}
  (h:DataW.trod enc P w base spare held fuel t cs=some x)(HE:∀m cs x,m<fuel→DataW.trod enc P w base spare held m e cs=some x→∃(y:A) (u:Value),vrel σ.bare (en y) u∧u.cells.toList=cs) :
  ∃(nl:Bool) (l:List A) (v:Value),cs=[v]∧vrel σ.bare (encS' nl (l.map en)) v∧l.length≤maxLen:=by
 rcases DataW.trod_slice ht h with⟨rfl,_⟩|⟨a,len,cap,elems,rest,n,hn,rfl,_,_,h1,h2,h3,h4,_,_⟩
 ·exact⟨true,[],_,rfl,rfl,Nat.zero_le _⟩
 ·have hex:∀i,i<len→∃yu:A×Value,vrel σ.bare (en yu.1) yu.2∧yu.2.cells.size=k∧∀r v,yu.2.cells.toList[r]? = some v→w.cell? ((a.add (i*k)).add r)=some v:=by
   intro i hi
   have:=h4 i hi
   rw[hc] at this
   have hs:∃z,elems[i]? = some z:=⟨elems[i]'(by omega),List.getElem?_eq_getElem _⟩
   obtain⟨z,hz'⟩:=hs
   rw[hz'] at this
   cases hcs:w.cells? base (a.add (i*k)) k with
   |none=>rw[hcs] at this;cases this
   |some c =>
    rw[hcs] at this
    obtain⟨y,u,hu,hu2⟩:=HE n c z (by omega) this
    obtain⟨g1,g2⟩:=cells_some hcs
    refine⟨(y,u),hu,?_,fun r v hr=>?_⟩
    ·rw[←Array.length_toList,hu2,g1]
    ·rw[hu2] at hr
     rw[g2 r (by
      rcases Nat.lt_or_ge r c.length with h|h
      ·omega
      ·rw[List.getElem?_eq_none h] at hr;cases hr)]
     exact hr
  obtain⟨l,hl,hl2⟩:=list_of len hex
  have hus:∀q u,(l.map Prod.snd)[q]? = some u→∃yu:A×Value,l[q]? = some yu∧yu.2=u:=fun q u hq=>by
   rw[List.getElem?_map] at hq
   obtain⟨yu,h7,h8⟩:=Option.map_eq_some_iff.1 hq
   exact⟨yu,h7,h8⟩
  refine⟨false,l.map Prod.fst,_,rfl,?_,by rw[List.length_map];omega⟩
  have hfz:encS' false ((l.map Prod.fst).map en)=.fz ((l.map Prod.fst).map en):=by
   cases (l.map Prod.fst).map en <;> rfl
  rw[hfz,vrel]
  refine⟨a,cap,l.map Prod.snd,by rw[List.length_map,List.length_map,hl],by rw[List.length_map,List.length_map,hl];exact h1,?_,?_⟩
  ·refine vrels_of en _ _ (by simp) fun i y u h5 h6=>?_
   obtain⟨yu,h7,rfl⟩:=hus i u h6
   rw[List.getElem?_map,h7] at h5
   cases h5
   exact (hl2 i yu h7).1
  ·cases l with
   |nil=>exact .inl rfl
   |cons yu l =>
    right
    obtain⟨g1,g2,g3⟩:=hl2 0 yu rfl
    have hc0:∃v,yu.2.cells.toList[0]? = some v:=⟨yu.2.cells.toList[0]'(by rw[Array.length_toList];omega),List.getElem?_eq_getElem _⟩
    obtain⟨v0,hv0⟩:=hc0
    obtain⟨s1,cc,e',fz,s2,s3⟩:=cell_some (g3 0 v0 hv0)
    have hsp:a.spot=none:=by
     have h8:=g3 0 v0 hv0
     rw[Nat.zero_mul] at h8
     exact (cell_some (a:=a) (by simpa[Addr.add] using h8)).1
    rw[add_block,add_block] at s2
    refine⟨hsp,cc,e',fz,k,hz _ _ s2,hk,fun u hu=>?_,?_⟩
    ·obtain⟨q,hq⟩:=List.mem_iff_getElem?.1 hu
     obtain⟨yu',h7,rfl⟩:=hus q u hq
     exact (hl2 q yu' h7).2.1
    ·refine flat_at (k:=k) (f:=fun i=>cc[i]?) _ a.off (fun u hu=>?_) fun q u hq r x hx=>?_
     ·obtain⟨q,hq⟩:=List.mem_iff_getElem?.1 hu
      obtain⟨yu',h7,rfl⟩:=hus q u hq
      exact (hl2 q yu' h7).2.1
     ·obtain⟨yu',h7,rfl⟩:=hus q u hq
      obtain⟨_,cc',e'',fz',s4,s5⟩:=cell_some ((hl2 q yu' h7).2.2 r x hx)
      rw[add_block,add_block,s2] at s4
      cases s4
      rw[add_off,add_off] at s5
      exact s5
end Go.Am
namespace Go.Am
open Go Go.Proofs
set_option maxRecDepth 100000
variable {H:Type}{enc:TypeId×Value→H}{w:World}{σ:Sg}
theorem encS'_eq (nl:Bool)(l:List AV):encS' nl l=encS nl l:=by cases nl <;> cases l <;> rfl
theorem cz_3:Tryz.prog.cellsOf 3=1:=by kernel_rfl
theorem cz_9:Tryz.prog.cellsOf 9=1:=by kernel_rfl
theorem some_of {α:Type}{l:List α}{i:Nat}(h:i<l.length):∃x,l[i]? = some x:=⟨l[i],List.getElem?_eq_getElem h⟩
end Go.Am
namespace Go.Am
open Go Go.Proofs Go.Proofs.YtikiipfbkfgmbaaGreatDoor Go.RowKit
set_option maxRecDepth 100000
def laid7:List (String×DataW Unit):=Rows.triggerProgramsRow.laid
def pow10L:List Int:=[1,10,100,1000,10000,100000,1000000,10000000,100000000,1000000000,10000000000,100000000000,1000000000000,10000000000000,100000000000000,1000000000000000,10000000000000000,100000000000000000,1000000000000000000,10000000000000000000]
structure GlobW (W:World)(m:Int):Prop where
 g0:W.heap[0]? = some (.cells #[.int .i64 m] 3)
 g1:∃cs:Array Value,W.heap[1]? = some (.cells cs 332)∧cs.toList=pow10L.map (.int .u64 ·)
 g2:∃a s,W.heap[2]? = some (.cells #[.iface 347 (.pointer (some a))] 210)∧W.cell? a=some (.string s)∧s.data.toList=[105,110,118,97,108,105,100,32,115,121,110,116,97,120]
 g3:∃a s,W.heap[3]? = some (.cells #[.iface 347 (.pointer (some a))] 210)∧W.cell? a=some (.string s)∧s.data.toList=[118,97,108,117,101,32,111,117,116,32,111,102,32,114,97,110,103,101]
 size:8≤W.heap.size
theorem sh_at {W:World}(hsh:W.ShapedOpen Tryz.prog){g t n:Nat}(hg:g<Tryz.prog.globals.size)(h0:(((begin Tryz.prog (fun _ _=>0) default).world.heap[g]?).bind Obj.row?).map (fun x=>(x.1.size,x.2))=some (n,t)):∃cs,W.heap[g]? = some (.cells cs t)∧cs.size=n:=by
 obtain⟨⟨z,t'⟩,h1,h2⟩:=Option.map_eq_some_iff.1 h0
 cases h2
 obtain⟨cs,h3,h4,_⟩:=hsh.1 g z _ hg h1
 exact⟨cs,h3,h4⟩
noncomputable def nm349:String:=(Tryz.prog.typeName? 2 349).getD default
theorem row347 (nm:String)(h0:Tryz.prog.typeName? 3 347=some nm)(u:TypeId)(h:Tryz.prog.typeName? 3 u=some nm):u=347:=by
 refine typeName_ptr_named (P:=Tryz.prog) (nm:=nm349) (by kernel_rfl) (by kernel_rfl) (by decide +kernel) u ?_
 rw[h,←h0]
 kernel_rfl
theorem named_eq {n:String}{g k:Nat}(h:Tryz.prog.globalNamed n=some g)(h':Tryz.prog.globalNamed n=some k):k=g:=Option.some.inj (h'.symm.trans h)
theorem cz_349:Tryz.prog.cellsOf 349=1:=by kernel_rfl
theorem cz_301:Tryz.prog.cellsOf 301=1:=by kernel_rfl
theorem cz_332:Tryz.prog.cellsOf 332=20:=by kernel_rfl
theorem tab_of {H:Type}{enc:TypeId×Value→H}{W:World}{base:Nat}{sp:Nat→Bool}{held:Bool}{fuel:Nat}{cs:List Value}{zs:List Int}{p:List MemPlace}
  (h:DataW.trod enc Tryz.prog W base sp held fuel 332 cs=some (.agg (zs.map fun z=>.lit (.int .u64 z)),p)):cs=zs.map (.int .u64 ·):=by
 obtain⟨xs,m,_,ex,hlen,hl,hel⟩:=DataW.trod_array Tryz.underlying332 h
 rw[cz_332] at hlen
 have e1:(zs.map fun z=>(DataW.lit (.int .u64 z):DataW H))=xs.map (·.1):=DataW.agg.inj (Prod.mk.inj ex).1
 have hzl:zs.length=xs.length:=by have:=congrArg List.length e1;simpa using this
 refine List.ext_getElem? fun i=>?_
 by_cases hi:i<20
 ·have hE:=hel i hi
  rw[cz_301,Nat.mul_one,List.getElem?_eq_getElem (by omega)] at hE
  obtain⟨z,e2,e3,_⟩:=DataW.trod_int Tryz.underlying301 hE
  have e4:(zs.map fun z=>(DataW.lit (.int .u64 z):DataW H))[i]? = (xs.map (·.1))[i]? := by rw[e1]
  rw[List.getElem?_map,List.getElem?_map,List.getElem?_eq_getElem (by omega:i<xs.length),e3] at e4
  obtain⟨z',hz',hzz⟩:=Option.map_eq_some_iff.1 e4
  cases hzz
  rw[List.getElem?_map,hz']
  have h0:((cs.drop i).take 1)[0]? = some (.int .u64 z):=by rw[e2];rfl
  simpa using h0
 ·rw[List.getElem?_eq_none (by omega),List.getElem?_eq_none (by rw[List.length_map,hzl];have:xs.length=20:=hl;omega)]
theorem globW_of {W:World}(hL:laidMetH Tryz.prog laid7 W)(hsh:W.ShapedOpen Tryz.prog):∃m,GlobW W m:=by
 rw[MakeChecks.laidMetH_plain _ _ _ (by kernel_rfl)] at hL
 obtain⟨ps,⟨_,_,_,_,_,_,_,_,_,_,⟨g7,_,cs7,_,_,_,hg7,_,hv7,_,⟨g1,t1,cs1,f1,p1,q1,hg1,ht1,hv1,hd1,⟨_,_,_,_,_,_,_,_,_,_,⟨g3,t3,cs3,f3,p3,q3,hg3,ht3,hv3,hd3,⟨g2,t2,cs2,f2,p2,q2,hg2,ht2,hv2,hd2,_,e2⟩,e3⟩,e4⟩,e1⟩,e5⟩,e6⟩,_,hok⟩:=hL
 obtain rfl:=named_eq hg1 (k:=1) (by kernel_rfl)
 obtain rfl:=named_eq hg3 (k:=3) (by kernel_rfl)
 obtain rfl:=named_eq hg2 (k:=2) (by kernel_rfl)
 obtain rfl:=Option.some.inj ((show (Tryz.prog.globals[1]?).map (·.type)=some 332 by kernel_rfl).symm.trans ht1)
 obtain rfl:=Option.some.inj ((show (Tryz.prog.globals[3]?).map (·.type)=some 210 by kernel_rfl).symm.trans ht3)
 obtain rfl:=Option.some.inj ((show (Tryz.prog.globals[2]?).map (·.type)=some 210 by kernel_rfl).symm.trans ht2)
 obtain⟨c0,k0,z0⟩:=sh_at (g:=0) (t:=3) (n:=1) hsh (of_decide_eq_true (by kernel_rfl)) (by kernel_rfl)
 obtain⟨c1,k1,z1⟩:=sh_at (g:=1) (t:=332) (n:=20) hsh (of_decide_eq_true (by kernel_rfl)) (by kernel_rfl)
 obtain⟨c2,k2,z2⟩:=sh_at (g:=2) (t:=210) (n:=1) hsh (of_decide_eq_true (by kernel_rfl)) (by kernel_rfl)
 obtain⟨c3,k3,z3⟩:=sh_at (g:=3) (t:=210) (n:=1) hsh (of_decide_eq_true (by kernel_rfl)) (by kernel_rfl)
 obtain⟨c7,k7,z7⟩:=sh_at (g:=7) (t:=355) (n:=64) hsh (of_decide_eq_true (by kernel_rfl)) (by kernel_rfl)
 obtain⟨m,hm⟩:=cell_of_shapedOpen_int (P:=Tryz.prog) (g:=0) (t:=3) (zero:=#[.int .i64 0]) hsh (of_decide_eq_true (by kernel_rfl)) (by kernel_rfl) rfl (by kernel_rfl) (by kernel_rfl) Tryz.underlying3
 have same:∀{g:Nat} {c cs:Array Value} {t:TypeId},W.heap[g]? = some (.cells c t)→(∀i,W.cell? ⟨g,i,none⟩=cs[i]?)→c=cs:=fun {g c cs t} hk hc=>by
  refine Array.ext_getElem? fun i=>?_
  rw[←hc i];simp[World.cell?,hk]
 refine⟨m,?_,⟨c1,k1,?_⟩,?_,?_,?_⟩
 ·have:c0=#[.int .i64 m]:=by
   have h0:c0[0]? = some (.int .i64 m):=by rw[←hm];simp[World.cell?,k0]
   match c0,z0,h0 with
   |⟨[x]⟩,_,h0=>simp at h0;rw[h0]
  rw[k0,this]
 ·have:=same k1 (World.var?_cell hg1 hv1)
  subst this
  exact tab_of (zs:=pow10L) hd1
 ·have:=same k2 (World.var?_cell hg2 hv2)
  subst this
  obtain⟨a,s,hcs,hca,hs,_,_⟩:=errorString_of_trod Tryz.underlying210 (row347 _ (by kernel_rfl)) Tryz.underlying347 Tryz.underlying349 rfl rfl Tryz.underlying9 cz_349 cz_9 hd2 (fun u v he=>by
   refine (hok 2 0 ?_).2 u v ?_
   ·rw[e6,e5,e1,e4,e3,e2]
    have hmem:MemPlace.cell 2 0∈MemPlace.row ⟨2,0,none⟩ c2.size:=by
     rw[z2];exact List.mem_map.2 ⟨0,by simp,rfl⟩
    simp only[List.mem_append]
    simp[hmem]
   ·have:c2[0]? = some (.iface u v):=by
     rw[←Array.getElem?_toList,he];rfl
    simpa[World.cell?,k2] using this)
  have:c2=#[.iface 347 (.pointer (some a))]:=Array.eq_one_of_toList hcs
  subst this
  exact⟨a,s,k2,hca,hs⟩
 ·have:=same k3 (World.var?_cell hg3 hv3)
  subst this
  obtain⟨a,s,hcs,hca,hs,_,_⟩:=errorString_of_trod Tryz.underlying210 (row347 _ (by kernel_rfl)) Tryz.underlying347 Tryz.underlying349 rfl rfl Tryz.underlying9 cz_349 cz_9 hd3 (fun u v he=>by
   refine (hok 3 0 ?_).2 u v ?_
   ·rw[e6,e5,e1,e4,e3]
    have hmem:MemPlace.cell 3 0∈MemPlace.row ⟨3,0,none⟩ c3.size:=by
     rw[z3];exact List.mem_map.2 ⟨0,by simp,rfl⟩
    simp only[List.mem_append]
    simp[hmem]
   ·have:c3[0]? = some (.iface u v):=by
     rw[←Array.getElem?_toList,he];rfl
    simpa[World.cell?,k3] using this)
  have:c3=#[.iface 347 (.pointer (some a))]:=Array.eq_one_of_toList hcs
  subst this
  exact⟨a,s,k3,hca,hs⟩
 ·have:=(Array.getElem?_eq_some_iff.1 k7).1
  omega
end Go.Am
namespace Go.Am
open Go Go.Proofs Go.Proofs.YtikiipfbkfgmbaaGreatDoor Go.RowKit
set_option maxRecDepth 100000
def bsize (W:World)(i:Nat):Nat:=match W.heap[i]? with
 |some (.cells cc _ _)=>cc.size
 |_=>0
def σ0 (W:World):Sg:={ m:=fun i=>if i<8 then some ⟨i,0,bsize W i⟩ else none,fz:=fun b=>W.heap[b]? }
theorem br_of [Stat] {σ:Sg}{W:World}{i:Nat}{c:List AV}{cc:Array Value}{t:TypeId}(hr:vrels σ c cc.toList)(hk:W.heap[i]? = some (.cells cc t)):BR σ ⟨i,0,bsize W i⟩ (.cells c t true 0 0) (.cells cc t):=by
 have hs:bsize W i=cc.size:=by unfold bsize;rw[hk]
 have hl:c.length=cc.size:=by rw[hr.length];exact Array.length_toList
 refine⟨by simp only[hs],by simp only[hs,hl];omega,rfl,fun j a ha=>?_,fun h=>(by cases h),fun _=>⟨rfl,by simp only[hs,hl]⟩⟩
 obtain⟨v,h1,h2⟩:=hr.get j a ha
 refine⟨v,?_,h2⟩
 rw[Nat.zero_add,←Array.getElem?_toList]
 exact h1
theorem vrels_ints {σ:Sg}{k:IntKind}:∀zs:List Int,vrels σ (zs.map (AV.int k ·)) (zs.map (Value.int k ·))
 |[]=>rfl
 |z::zs=>⟨_,_,rfl,rfl,vrels_ints zs⟩
theorem vrel_err {W:World}{a:Addr}{s:ByteArray}{l:List UInt8}(h:W.cell? a=some (.string s))(hs:s.data.toList=l):vrel (σ0 W).bare (.iface 347 (.fp [.str l] 0)) (.iface 347 (.pointer (some a))):=by
 obtain⟨h1,cc,e,fz,h2,h3⟩:=cell_some h
 refine⟨_,rfl,a.block,a.off,[.string s],cc,e,fz,?_,h2,⟨_,_,rfl,⟨s,rfl,hs⟩,rfl⟩,fun i u hu=>?_⟩
 ·cases a;simp only at h1;subst h1;rfl
 ·cases i with
  |zero=>cases hu;exact h3
  |succ i=>simp at hu
variable [MaxLen]
theorem own_look (i:Nat):(ownSt U).look i=gbU i:=by
 have:(ownSt U).get i=gbU i:=by rw[own_get,U_gbase]
 unfold St.look
 rw[this]
 unfold gbU
 cases gcell i <;> rfl
theorem gb_rel {W:World}(G:GlobW W MaxLen.val){i:Nat}{b:Blk}(h:gbU i=some b):i<4∧b.own=false∧∃o,W.heap[i]? = some o∧BR (σ0 W).bare ⟨i,0,bsize W i⟩ b o:=by
 match i,h with
 |0,h=>cases h;exact⟨by omega,rfl,_,G.g0,br_of ⟨_,_,rfl,rfl,rfl⟩ G.g0⟩
 |1,h =>
  cases h
  obtain⟨cs,h1,h2⟩:=G.g1
  exact⟨by omega,rfl,_,h1,br_of (by rw[h2];exact vrels_ints pow10L) h1⟩
 |2,h =>
  cases h
  obtain⟨a,s,h1,h2,h3⟩:=G.g2
  exact⟨by omega,rfl,_,h1,br_of ⟨_,_,rfl,vrel_err h2 h3,rfl⟩ h1⟩
 |3,h =>
  cases h
  obtain⟨a,s,h1,h2,h3⟩:=G.g3
  exact⟨by omega,rfl,_,h1,br_of ⟨_,_,rfl,vrel_err h2 h3,rfl⟩ h1⟩
 |n+4,h=>cases h
theorem s0_some {W:World}{i:Nat}{p:Pl}(h:σ0 W i=some p):i<8∧p=⟨i,0,bsize W i⟩:=by
 have h:(if i<8 then some (⟨i,0,bsize W i⟩:Pl) else none)=some p:=h
 split at h
 ·rename_i hi
  cases h;exact⟨hi,rfl⟩
 ·cases h
theorem no_owns {W:World}(G:GlobW W MaxLen.val)(c:Nat):¬Owns (σ0 W) (ownSt U) c:=by
 rintro⟨i,p,b,_,h2,h3,_⟩
 rw[own_look] at h2
 rw[(gb_rel G h2).2.1] at h3
 cases h3
theorem hr0 {W:World}(G:GlobW W MaxLen.val):HR (σ0 W) (ownSt U) W where
 lt i p h:=by
  obtain⟨hi,rfl⟩:=s0_some h
  have:=G.size
  show i<_
  omega
 blk i p b h hb:=by
  obtain⟨hi,rfl⟩:=s0_some h
  rw[own_look] at hb
  obtain⟨_,_,o,h1,h2⟩:=gb_rel G hb
  exact⟨o,h1,h2.mono (Sg.bare_le _)⟩
 inj i j p q b c h1 h2 _ _ h5:=by
  obtain⟨_,rfl⟩:=s0_some h1
  obtain⟨_,rfl⟩:=s0_some h2
  exact h5
 fz c o h:=⟨h,no_owns G c⟩
theorem fresh0 {W:World}:Fresh (σ0 W) (ownSt U):=fun i hi=>by
 rw[own_next,U_glob] at hi
 show (if i<8 then _ else none)=none
 rw[if_neg (by omega)]
theorem glob0 {W:World}(G:GlobW W MaxLen.val):GlobOk U (σ0 W):=fun g hg=>by
 rw[U_glob] at hg
 refine⟨bsize W g,if_pos hg,fun b hb=>?_⟩
 rw[U_gbase] at hb
 obtain⟨_,h1,o,h2,h3⟩:=gb_rel G hb
 exact⟨h1,o,h2,h3⟩
theorem enter_ok {W:World}(G:GlobW W MaxLen.val){f:FuncId}(hext:U.ext f=none){args:List AV}{us:Array Value}{v:AV}(hv:vrels (σ0 W).bare args us.toList)(h:calV U f args=some v) :
  Calls Tryz.prog f us W fun e W'=>∃u σ',e=.returned u∧vrel σ' v u∧Below W.heap.size W W':=by
 have h1:=calV_eq h (ownSt U)
 obtain⟨n,h2⟩:=callL_run h1
 refine (run_ok U_full hext h2 (hr0 G) fresh0 (glob0 G) (hv.mono (Sg.bare_le _) _ _)).mono ?_
 rintro e W' ⟨u,σ',he,hr,hg⟩
 exact⟨u,σ',he,hr,hg.ext.os,hg.ext.tape,hg.ext.output,hg.ext.size,fun k hk=>hg.ext.keep k hk (no_owns G k)⟩
end Go.Am
