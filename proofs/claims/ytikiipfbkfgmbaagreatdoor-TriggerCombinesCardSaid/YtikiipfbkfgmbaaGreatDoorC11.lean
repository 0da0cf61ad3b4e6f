/- A part of the proof of a statement of this seat: the machine on which the program is read, and what it computes; for every input. -/
import Derived.Test.YtikiipfbkfgmbaaGreatDoorC08
import Derived.Test.YtikiipfbkfgmbaaGreatDoorC10
set_option linter.all false
namespace Go.Am
open Go Go.Proofs Go.Proofs.YtikiipfbkfgmbaaGreatDoor Go.RowKit
set_option maxRecDepth 100000
set_option maxHeartbeats 10000000
theorem named7:Tryz.pinned.checked.prog.funcNamed Rows.triggerCombinesRow.func=some 7:=by kernel_rfl
theorem inst7:Tryz.f7.isInstance Tryz.pinned.checked.prog Rows.triggerCombinesRow.origin Rows.triggerCombinesRow.targs:=of_decide_eq_true (by kernel_rfl)
theorem wrap7:Tryz.f7.isWrapper Tryz.pinned.checked.prog Rows.triggerCombinesRow.wrapper Rows.triggerCombinesRow.mainSum:=by unfold Func.isWrapper;first|(rw[if_pos (by decide +kernel)];kernel_rfl)|(rw[if_neg (by decide +kernel)];exact⟨rfl,rfl⟩)
theorem closed7:joinedFacts Tryz.pinned.checked.prog 7 Tryz.f7 Rows.triggerCombinesSpec Rows.triggerCombinesRow=true:=by
 unfold joinedFacts
 repeat' (with_reducible refine Bool.and_eq_true_iff.2 ⟨?_,?_⟩)
 all_goals as_aux_lemma=>kernel_rfl
end Go.Am
namespace Go.Am
open Go Go.Proofs Go.Proofs.YtikiipfbkfgmbaaGreatDoor Go.RowKit
open Go.ChangeShapes Go.WideShapes Go.ChangeAt
set_option maxRecDepth 100000
theorem combines_contract {H:Type}(enc:TypeId×Value→H)(law:∀[MaxLen] (p q:Auto),calV U 7 [encA p,encA q]=some (.bool true))(W:World)(args:Array Value)(ds gs:List (DataW H))(before:List MemPlace)
  (hW:DataW.Whole enc Tryz.prog Tryz.f7.params.toList Rows.triggerCombinesSpec.vars false W args.toList ds gs before)(hL:laidMetH Tryz.prog laid7 W)(hsh:W.ShapedOpen Tryz.prog){b0:Nat}
  (hok:∀(j:Nat) t v,Tryz.f7.params[j]? = some t→args[j]? = some v→Value.okWide Tryz.prog W .any b0 t v) :
  Calls Tryz.prog 7 args W fun e W'=>∃v,e=.returned v∧Rows.triggerCombinesSpec.post enc Tryz.prog Tryz.f7 false true false false W args v W':=by
 have hW':=hW
 have hlt:=hW.lt
 obtain⟨p,q,hA0,hV,rfl,hfz,hnd⟩:=hW
 have hA:DataW.TrodAll enc Tryz.prog W 0 (fun _=>true) true Tryz.f7.params.toList args.toList ds p:=hA0
 rw[Tryz.params7] at hA
 obtain⟨v0,v1,d0,d1,p0,p1,rfl,rfl,rfl,h0,h1⟩:=trodAll_two hA
 obtain⟨rfl,rfl⟩:=trodVars_none hV
 obtain⟨fuel1,hf1⟩:=id h0
 obtain⟨fuel2,hf2⟩:=id h1
 obtain⟨m,G⟩:=globW_of hL hsh
 letI:MaxLen:=⟨m⟩
 obtain⟨pr,u,hu,hu2⟩:=auto_of (σ:=σ0 W) (fun b o h=>h) hf1
 have huv:v0=u:=by
  obtain⟨vs,hvs,hr⟩:=id hu
  exact agg3_ofU hvs hu2.symm (by rw[←Array.length_toList,←hr.length];rfl)
 subst huv
 obtain⟨qr,w,hw,hw2⟩:=auto_of (σ:=σ0 W) (fun b o h=>h) hf2
 have hwv:v1=w:=by
  obtain⟨vs,hvs,hr⟩:=id hw
  exact agg3_ofU hvs hw2.symm (by rw[←Array.length_toList,←hr.length];rfl)
 subst hwv
 refine (enter_ok (W:=W) G (f:=7) (by rw[U_ext];rfl) (args:=[encA pr,encA qr]) (us:=#[v0,v1]) ⟨_,_,rfl,hu,_,_,rfl,hw,rfl⟩ (law pr qr)).mono ?_
 rintro e W' ⟨u',σ',rfl,hr',hB⟩
 have hr':u'=.bool true:=hr'
 subst hr'
 refine⟨_,rfl,[d0,d1],[],_,[],_,[],hW',trodAll_mk1 (shut_bool Tryz.underlying4 _),trodAll_mk2 (Below.trod laidOut8U read72U row72U h0 hB fun x hx=>hlt x (by simp[hx])) (Below.trod laidOut8U read72U row72U h1 hB fun x hx=>hlt x (by simp[hx])),rfl,hB.frame _,fun h=>by cases h⟩
theorem combines_lifted (law:∀[MaxLen] (p q:Auto),calV U 7 [encA p,encA q]=some (.bool true))(os:Os)(started:os.Started)(H:Type)(enc:TypeId×Value→H) :
  ReturnsInHanded {} Tryz.checked os 7 .any (fun w args=>(Rows.triggerCombinesSpec.pre enc Tryz.prog Tryz.f7 [] false w args∧laidMetH Tryz.prog laid7 w)∧sizedMet enc Tryz.prog Tryz.f7 (OpenSpec.ofChange Rows.triggerCombinesSpec) false w args)
   (Rows.triggerCombinesSpec.post enc Tryz.prog Tryz.f7 false true false false):=by
 refine returnsInHanded_of_calls own8U started (by kernel_rfl)
  (ChangeSpec.witness_shaped (enc:=enc) (C:=Tryz.checked) (os:=os) (X:=fun w _=>laidMetH Tryz.prog laid7 w) false (World.laidAll Tryz.prog os laid7) #[.agg #[.int .i64 0,.slice none 0 0,.slice none 0 0],.agg #[.int .i64 0,.slice none 0 0,.slice none 0 0]] 8 (World.laidAll_os _ _ _)
   (World.shaped_of_ZipB (by kernel_rfl) (by kernel_rfl)) (by kernel_rfl) (by kernel_rfl) (by kernel_rfl)
   (by rw[MakeChecks.laidMetH_plain _ _ _ (by kernel_rfl)];exact laidMet_laidAll _ (by kernel_rfl) (by kernel_rfl))) ?_
 intro w tape i _ hsh _ hok hpre hholds
 obtain⟨⟨⟨ds,gs,before,hw,hc⟩,hx⟩,hz⟩:=hpre
 have hw':=DataW.Whole.of_heap (w':=w.forCall tape i) (by rfl) hw
 obtain⟨_,_,_,fn,hfn,_,_,_,_,hargs⟩:=hok
 obtain rfl:fn=Tryz.f7:=(Option.some.inj (Tryz.func7.symm.trans hfn)).symm
 refine (combines_contract enc law (w.forCall tape i) i.args ds gs before hw' (hx.of_heap (by rfl)) hsh hargs).mono ?_
 rintro e W' ⟨v,rfl,hp⟩
 exact ChangeSpec.post_blind hp
theorem combines_holds (law:∀[MaxLen] (p q:Auto),calV U 7 [encA p,encA q]=some (.bool true)):Rows.TriggerCombinesSaid :=
 OpenClaim.holds_of_wide 7 Tryz.f7 rfl rfl rfl rfl rfl rfl rfl ⟨rfl,rfl,rfl,rfl,rfl⟩ rfl rfl rfl rfl rfl named7 Tryz.func7 closed7 inst7 wrap7 (fun os started H enc _=>combines_lifted law os started H enc)
theorem wf7c:Rows.triggerCombinesRow.wfByText (OpenSpec.ofChange Rows.triggerCombinesSpec)=true:=by kernel_rfl
theorem looks7c:true=Tryz.prog.looks []:=by kernel_rfl
theorem stand7c:(#[72,72].toList.all fun u=>!Tryz.prog.wantsStandIn u)=true:=by kernel_rfl
theorem main7c:Tryz.pinned.checked.prog.mainIs=some (Rows.triggerCombinesCard.stood.harness.1,Rows.triggerCombinesCard.stood.harness.2.toList):=by kernel_rfl
theorem goes7c:false=Rows.triggerCombinesRow.goesBy Tryz.pinned.checked.prog:=by kernel_rfl
theorem combines_card (law:∀[MaxLen] (p q:Auto),calV U 7 [encA p,encA q]=some (.bool true)):Rows.TriggerCombinesCardSaid :=
 Claim7.holds_tied_plain_at .later [] [.data,.data,.data,.data,.sentinel,.sentinel,.pinned] true Rows.triggerCombinesCard.stood.harness true (combines_holds law) (fun _ h=>by cases h) wf7c (fun _ h=>by cases h) triggerCombines_row_tie rfl ⟨rfl,rfl⟩ main7c rfl
  (fun f fn hf hfn=>by
   obtain rfl:f=7:=Option.some.inj (named7.symm.trans hf) |>.symm
   obtain rfl:fn=Tryz.f7:=(Option.some.inj (Tryz.func7.symm.trans hfn)).symm
   refine⟨looks7c,fun j t ht=>?_⟩
   rw[Tryz.params7] at ht
   have hm:t∈#[72,72].toList:=by rw[←Array.getElem?_toList] at ht;exact List.mem_of_getElem? ht
   have:=List.all_eq_true.1 stand7c t hm
   rw[Bool.not_eq_true'] at this
   exact this)
  goes7c
end Go.Am
