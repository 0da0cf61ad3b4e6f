/- A part of the proof of a statement of this seat: the machine on which the program is read, and what it computes; for every input. -/
import Derived.Test.YtikiipfbkfgmbaaGreatDoorG07
import Derived.Test.YtikiipfbkfgmbaaGreatDoorG09
import Derived.Test.YtikiipfbkfgmbaaGreatDoorG05
set_option linter.all false
namespace Go.Am
open Go Go.Proofs Go.Proofs.YtikiipfbkfgmbaaGreatDoor Go.RowKit
set_option maxRecDepth 100000
set_option maxHeartbeats 10000000
theorem named13:Tryz.pinned.checked.prog.funcNamed Rows.triggerComparesRow.func=some 13:=by kernel_rfl
theorem inst13:Tryz.f13.isInstance Tryz.pinned.checked.prog Rows.triggerComparesRow.origin Rows.triggerComparesRow.targs:=of_decide_eq_true (by kernel_rfl)
theorem wrap13:Tryz.f13.isWrapper Tryz.pinned.checked.prog Rows.triggerComparesRow.wrapper Rows.triggerComparesRow.mainSum:=by unfold Func.isWrapper;first|(rw[if_pos (by decide +kernel)];kernel_rfl)|(rw[if_neg (by decide +kernel)];exact⟨rfl,rfl⟩)
theorem closed13:joinedFacts Tryz.pinned.checked.prog 13 Tryz.f13 Rows.triggerComparesSpec Rows.triggerComparesRow=true:=by
 unfold joinedFacts
 repeat' (with_reducible refine Bool.and_eq_true_iff.2 ⟨?_,?_⟩)
 all_goals as_aux_lemma=>kernel_rfl
end Go.Am
namespace Go.Am
open Go Go.Proofs Go.Proofs.YtikiipfbkfgmbaaGreatDoor Go.RowKit
open Go.ChangeShapes Go.WideShapes Go.ChangeAt
set_option maxRecDepth 100000
theorem cz_116K:Tryz.prog.cellsOf 116=2:=by kernel_rfl
theorem read108K:Tryz.prog.readableRec 108=true:=by kernel_rfl
theorem row108K:108<Tryz.prog.types.size:=of_decide_eq_true (by kernel_rfl)
theorem pairI_of {H:Type}{enc:TypeId×Value→H}{w:World}{σ:Sg}{base:Nat}{spare:Nat→Bool}{held:Bool}(fuel:Nat)(cs:List Value)(x:DataW H×List MemPlace)(h:DataW.trod enc Tryz.prog w base spare held fuel 116 cs=some x) :
  ∃(y:Pr) (u:Value),vrel σ.bare (encQ y) u∧u.cells.toList=cs:=by
 obtain⟨xs,n,hn,_,hlen,hsz,hel⟩:=DataW.trod_array Tryz.underlying116 h
 rw[cz_116K] at hlen
 match cs,hlen with
 |[v0,v1],_ =>
  have h0:=hel 0 (by omega)
  have h1:=hel 1 (by omega)
  simp only[cz_3,Nat.zero_mul,Nat.one_mul,List.drop_zero,List.drop_succ_cons,List.take_succ_cons,List.take_zero] at h0 h1
  obtain⟨x0,e0⟩:=some_of (l:=xs) (i:=0) (by omega)
  obtain⟨x1,e1⟩:=some_of (l:=xs) (i:=1) (by omega)
  rw[e0] at h0;rw[e1] at h1
  obtain⟨n0,f0,_,_⟩:=DataW.trod_int Tryz.underlying3 h0
  obtain⟨n1,f1,_,_⟩:=DataW.trod_int Tryz.underlying3 h1
  cases f0;cases f1
  exact⟨(n0,n1),.agg #[.int .i64 n0,.int .i64 n1],⟨_,rfl,_,_,rfl,rfl,_,_,rfl,rfl,rfl⟩,rfl⟩
theorem compares_contract {H:Type}(enc:TypeId×Value→H)(law:∀[MaxLen] (p q:Auto) (nl:Bool) (l:List Pr),calV U 13 [encA p,encA q,encS nl (l.map encQ)]=some (.bool true))(W:World)(args:Array Value)(ds gs:List (DataW H))(before:List MemPlace)
  (hW:DataW.Whole enc Tryz.prog Tryz.f13.params.toList Rows.triggerComparesSpec.vars false W args.toList ds gs before)(hL:laidMetH Tryz.prog laid7 W)(hsh:W.ShapedOpen Tryz.prog){b0:Nat}
  (hok:∀(j:Nat) t v,Tryz.f13.params[j]? = some t→args[j]? = some v→Value.okWide Tryz.prog W .any b0 t v) :
  Calls Tryz.prog 13 args W fun e W'=>∃v,e=.returned v∧Rows.triggerComparesSpec.post enc Tryz.prog Tryz.f13 false true false false W args v W':=by
 have hW':=hW
 have hlt:=hW.lt
 obtain⟨p,q,hA0,hV,rfl,hfz,hnd⟩:=hW
 have hA:DataW.TrodAll enc Tryz.prog W 0 (fun _=>true) true Tryz.f13.params.toList args.toList ds p:=hA0
 rw[Tryz.params13] at hA
 obtain⟨v0,v1,v2,d0,d1,d2,p0,p1,p2,rfl,rfl,rfl,h0,h1,h2⟩:=trodAll_three hA
 obtain⟨rfl,rfl⟩:=trodVars_none hV
 have k1:=hok 2 108 v2 (by rw[Tryz.params13];rfl) rfl
 obtain⟨a2,len2,cap2,rfl⟩:=okWide_slice Tryz.underlying108 k1
 obtain⟨fuel3,hf3⟩:=id h2
 obtain⟨fuel1,hf1⟩:=id h0
 obtain⟨fuel2,hf2⟩:=id h1
 obtain⟨m,G⟩:=globW_of hL hsh
 letI:MaxLen:=⟨m⟩
 obtain⟨pr,u,hu,hu2⟩:=auto_of (σ:=σ0 W) (fun b o h=>h) hf1
 have huv:v0=u:=by
  obtain⟨vs,hvs,hr⟩:=id hu
  exact agg3_ofU hvs hu2.symm (by rw[←Array.length_toList,←hr.length];rfl)
 subst huv
 obtain⟨qr,w,hw,hw2⟩:=auto_of (σ:=σ0 W) (fun b o h=>h) hf2
 have hwv:v1=w:=by
  obtain⟨vs,hvs,hr⟩:=id hw
  exact agg3_ofU hvs hw2.symm (by rw[←Array.length_toList,←hr.length];rfl)
 subst hwv
 obtain⟨nl,l,w2,hcs,hrow,_⟩:=open_row (σ:=σ0 W) (fun b o h=>h) encQ (k:=2) (by omega) Tryz.underlying108 cz_116K hf3 fun m cs x hm hx=>pairI_of m cs x hx
 have hw2:w2=.slice a2 len2 cap2:=by
  have:([Value.slice a2 len2 cap2]:List Value)=[w2]:=hcs
  exact (List.cons.inj this).1.symm
 subst hw2
 rw[encS'_eq] at hrow
 refine (enter_ok (W:=W) G (f:=13) (by rw[U_ext];rfl) (args:=[encA pr,encA qr,encS nl (l.map encQ)]) (us:=#[v0,v1,.slice a2 len2 cap2]) ⟨_,_,rfl,hu,_,_,rfl,hw,_,_,rfl,hrow,rfl⟩ (law pr qr nl l)).mono ?_
 rintro e W' ⟨u',σ',rfl,hr',hB⟩
 have hr':u'=.bool true:=hr'
 subst hr'
 refine⟨_,rfl,[d0,d1,d2],[],_,[],_,[],hW',trodAll_mk1 (shut_bool Tryz.underlying4 _),trodAll_mk3 (Below.trod laidOut8U read72U row72U h0 hB fun x hx=>hlt x (by simp[hx])) (Below.trod laidOut8U read72U row72U h1 hB fun x hx=>hlt x (by simp[hx])) (Below.trod laidOut8U read108K row108K h2 hB fun x hx=>hlt x (by simp[hx])),rfl,hB.frame _,fun h=>by cases h⟩
theorem compares_lifted (law:∀[MaxLen] (p q:Auto) (nl:Bool) (l:List Pr),calV U 13 [encA p,encA q,encS nl (l.map encQ)]=some (.bool true))(os:Os)(started:os.Started)(H:Type)(enc:TypeId×Value→H) :
  ReturnsInHanded {} Tryz.checked os 13 .any (fun w args=>(Rows.triggerComparesSpec.pre enc Tryz.prog Tryz.f13 [] false w args∧laidMetH Tryz.prog laid7 w)∧sizedMet enc Tryz.prog Tryz.f13 (OpenSpec.ofChange Rows.triggerComparesSpec) false w args)
   (Rows.triggerComparesSpec.post enc Tryz.prog Tryz.f13 false true false false):=by
 refine returnsInHanded_of_calls own8U started (by kernel_rfl)
  (ChangeSpec.witness_shaped (enc:=enc) (C:=Tryz.checked) (os:=os) (X:=fun w _=>laidMetH Tryz.prog laid7 w) false (World.laidAll Tryz.prog os laid7) #[.agg #[.int .i64 0,.slice none 0 0,.slice none 0 0],.agg #[.int .i64 0,.slice none 0 0,.slice none 0 0],.slice none 0 0] 8 (World.laidAll_os _ _ _)
   (World.shaped_of_ZipB (by kernel_rfl) (by kernel_rfl)) (by kernel_rfl) (by kernel_rfl) (by kernel_rfl)
   (by rw[MakeChecks.laidMetH_plain _ _ _ (by kernel_rfl)];exact laidMet_laidAll _ (by kernel_rfl) (by kernel_rfl))) ?_
 intro w tape i _ hsh _ hok hpre hholds
 obtain⟨⟨⟨ds,gs,before,hw,hc⟩,hx⟩,hz⟩:=hpre
 have hw':=DataW.Whole.of_heap (w':=w.forCall tape i) (by rfl) hw
 obtain⟨_,_,_,fn,hfn,_,_,_,_,hargs⟩:=hok
 obtain rfl:fn=Tryz.f13:=(Option.some.inj (Tryz.func13.symm.trans hfn)).symm
 refine (compares_contract enc law (w.forCall tape i) i.args ds gs before hw' (hx.of_heap (by rfl)) hsh hargs).mono ?_
 rintro e W' ⟨v,rfl,hp⟩
 exact ChangeSpec.post_blind hp
theorem compares_holds (law:∀[MaxLen] (p q:Auto) (nl:Bool) (l:List Pr),calV U 13 [encA p,encA q,encS nl (l.map encQ)]=some (.bool true)):Rows.TriggerComparesSaid :=
 OpenClaim.holds_of_wide 13 Tryz.f13 rfl rfl rfl rfl rfl rfl rfl ⟨rfl,rfl,rfl,rfl,rfl⟩ rfl rfl rfl rfl rfl named13 Tryz.func13 closed13 inst13 wrap13 (fun os started H enc _=>compares_lifted law os started H enc)
theorem wf13l:Rows.triggerComparesRow.wfByText (OpenSpec.ofChange Rows.triggerComparesSpec)=true:=by kernel_rfl
theorem looks13l:true=Tryz.prog.looks []:=by kernel_rfl
theorem stand13l:(#[72,72,108].toList.all fun u=>!Tryz.prog.wantsStandIn u)=true:=by kernel_rfl
theorem main13l:Tryz.pinned.checked.prog.mainIs=some (Rows.triggerComparesCard.stood.harness.1,Rows.triggerComparesCard.stood.harness.2.toList):=by kernel_rfl
theorem goes13l:false=Rows.triggerComparesRow.goesBy Tryz.pinned.checked.prog:=by kernel_rfl
theorem compares_card (law:∀[MaxLen] (p q:Auto) (nl:Bool) (l:List Pr),calV U 13 [encA p,encA q,encS nl (l.map encQ)]=some (.bool true)):Rows.TriggerComparesCardSaid :=
 Claim7.holds_tied_plain_at .later [] [.data,.data,.data,.data,.sentinel,.sentinel,.pinned] true Rows.triggerComparesCard.stood.harness true (compares_holds law) (fun _ h=>by cases h) wf13l (fun _ h=>by cases h) triggerCompares_row_tie rfl ⟨rfl,rfl⟩ main13l rfl
  (fun f fn hf hfn=>by
   obtain rfl:f=13:=Option.some.inj (named13.symm.trans hf) |>.symm
   obtain rfl:fn=Tryz.f13:=(Option.some.inj (Tryz.func13.symm.trans hfn)).symm
   refine⟨looks13l,fun j t ht=>?_⟩
   rw[Tryz.params13] at ht
   have hm:t∈#[72,72,108].toList:=by rw[←Array.getElem?_toList] at ht;exact List.mem_of_getElem? ht
   have:=List.all_eq_true.1 stand13l t hm
   rw[Bool.not_eq_true'] at this
   exact this)
  goes13l
end Go.Am
