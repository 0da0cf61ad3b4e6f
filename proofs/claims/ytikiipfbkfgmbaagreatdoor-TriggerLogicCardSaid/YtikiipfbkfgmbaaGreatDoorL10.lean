/- A part of the proof of a statement of this seat: the machine on which the program is read, and what it computes; for every input. -/
import Derived.Test.YtikiipfbkfgmbaaGreatDoorL07
import Derived.Test.YtikiipfbkfgmbaaGreatDoorL09
set_option linter.all false
namespace Go.Am
open Go Go.Proofs Go.Proofs.YtikiipfbkfgmbaaGreatDoor Go.RowKit
set_option maxRecDepth 100000
set_option maxHeartbeats 10000000
theorem named9:Tryz.pinned.checked.prog.funcNamed Rows.triggerLogicRow.func=some 9:=by kernel_rfl
theorem inst9:Tryz.f9.isInstance Tryz.pinned.checked.prog Rows.triggerLogicRow.origin Rows.triggerLogicRow.targs:=of_decide_eq_true (by kernel_rfl)
theorem wrap9:Tryz.f9.isWrapper Tryz.pinned.checked.prog Rows.triggerLogicRow.wrapper Rows.triggerLogicRow.mainSum:=by unfold Func.isWrapper;first|(rw[if_pos (by decide +kernel)];kernel_rfl)|(rw[if_neg (by decide +kernel)];exact⟨rfl,rfl⟩)
theorem closed9:joinedFacts Tryz.pinned.checked.prog 9 Tryz.f9 Rows.triggerLogicSpec Rows.triggerLogicRow=true:=by
 unfold joinedFacts
 repeat' (with_reducible refine Bool.and_eq_true_iff.2 ⟨?_,?_⟩)
 all_goals as_aux_lemma=>kernel_rfl
end Go.Am
namespace Go.Am
open Go Go.Proofs Go.Proofs.YtikiipfbkfgmbaaGreatDoor Go.RowKit
open Go.ChangeShapes Go.WideShapes Go.ChangeAt
set_option maxRecDepth 100000
theorem logic_contract {H:Type}(enc:TypeId×Value→H)(law:∀[MaxLen] (p q:Auto) (nl:Bool) (l:List Int),calV U 9 [encA p,encA q,encS nl (ints l)]=some (.bool true))(W:World)(args:Array Value)(ds gs:List (DataW H))(before:List MemPlace)
  (hW:DataW.Whole enc Tryz.prog Tryz.f9.params.toList Rows.triggerLogicSpec.vars false W args.toList ds gs before)(hL:laidMetH Tryz.prog laid7 W)(hsh:W.ShapedOpen Tryz.prog){b0:Nat}
  (hok:∀(j:Nat) t v,Tryz.f9.params[j]? = some t→args[j]? = some v→Value.okWide Tryz.prog W .any b0 t v) :
  Calls Tryz.prog 9 args W fun e W'=>∃v,e=.returned v∧Rows.triggerLogicSpec.post enc Tryz.prog Tryz.f9 false true false false W args v W':=by
 have hW':=hW
 have hlt:=hW.lt
 obtain⟨p,q,hA0,hV,rfl,hfz,hnd⟩:=hW
 have hA:DataW.TrodAll enc Tryz.prog W 0 (fun _=>true) true Tryz.f9.params.toList args.toList ds p:=hA0
 rw[Tryz.params9] at hA
 obtain⟨v0,v1,v2,d0,d1,d2,p0,p1,p2,rfl,rfl,rfl,h0,h1,h2⟩:=trodAll_three hA
 obtain⟨rfl,rfl⟩:=trodVars_none hV
 have k1:=hok 2 40 v2 (by rw[Tryz.params9];rfl) rfl
 obtain⟨a2,len2,cap2,rfl⟩:=okWide_slice Tryz.underlying40 k1
 obtain⟨fuel3,hf3⟩:=id h2
 obtain⟨fuel1,hf1⟩:=id h0
 obtain⟨fuel2,hf2⟩:=id h1
 obtain⟨m,G⟩:=globW_of hL hsh
 letI:MaxLen:=⟨m⟩
 obtain⟨pr,u,hu,hu2⟩:=auto_of (σ:=σ0 W) (fun b o h=>h) hf1
 have huv:v0=u:=by
  obtain⟨vs,hvs,hr⟩:=id hu
  exact agg3_ofU hvs hu2.symm (by rw[←Array.length_toList,←hr.length];rfl)
 subst huv
 obtain⟨qr,w,hw,hw2⟩:=auto_of (σ:=σ0 W) (fun b o h=>h) hf2
 have hwv:v1=w:=by
  obtain⟨vs,hvs,hr⟩:=id hw
  exact agg3_ofU hvs hw2.symm (by rw[←Array.length_toList,←hr.length];rfl)
 subst hwv
 obtain⟨nl,l,w2,hcs,hrow,_⟩:=open_row (σ:=σ0 W) (fun b o h=>h) (fun x:Int=>AV.int .i64 x) (k:=1) (by omega) Tryz.underlying40 cz_3 hf3 fun m cs x hm hx=>by
  obtain⟨z,f,_,_⟩:=DataW.trod_int Tryz.underlying3 hx
  exact⟨z,.int .i64 z,rfl,f.symm⟩
 have hw2:w2=.slice a2 len2 cap2:=by
  have:([Value.slice a2 len2 cap2]:List Value)=[w2]:=hcs
  exact (List.cons.inj this).1.symm
 subst hw2
 rw[encS'_eq] at hrow
 refine (enter_ok (W:=W) G (f:=9) (by rw[U_ext];rfl) (args:=[encA pr,encA qr,encS nl (ints l)]) (us:=#[v0,v1,.slice a2 len2 cap2]) ⟨_,_,rfl,hu,_,_,rfl,hw,_,_,rfl,hrow,rfl⟩ (law pr qr nl l)).mono ?_
 rintro e W' ⟨u',σ',rfl,hr',hB⟩
 have hr':u'=.bool true:=hr'
 subst hr'
 refine⟨_,rfl,[d0,d1,d2],[],_,[],_,[],hW',trodAll_mk1 (shut_bool Tryz.underlying4 _),trodAll_mk3 (Below.trod laidOut8U read72U row72U h0 hB fun x hx=>hlt x (by simp[hx])) (Below.trod laidOut8U read72U row72U h1 hB fun x hx=>hlt x (by simp[hx])) (Below.trod laidOut8U read40U row40U h2 hB fun x hx=>hlt x (by simp[hx])),rfl,hB.frame _,fun h=>by cases h⟩
theorem logic_lifted (law:∀[MaxLen] (p q:Auto) (nl:Bool) (l:List Int),calV U 9 [encA p,encA q,encS nl (ints l)]=some (.bool true))(os:Os)(started:os.Started)(H:Type)(enc:TypeId×Value→H) :
  ReturnsInHanded {} Tryz.checked os 9 .any (fun w args=>(Rows.triggerLogicSpec.pre enc Tryz.prog Tryz.f9 [] false w args∧laidMetH Tryz.prog laid7 w)∧sizedMet enc Tryz.prog Tryz.f9 (OpenSpec.ofChange Rows.triggerLogicSpec) false w args)
   (Rows.triggerLogicSpec.post enc Tryz.prog Tryz.f9 false true false false):=by
 refine returnsInHanded_of_calls own8U started (by kernel_rfl)
  (ChangeSpec.witness_shaped (enc:=enc) (C:=Tryz.checked) (os:=os) (X:=fun w _=>laidMetH Tryz.prog laid7 w) false (World.laidAll Tryz.prog os laid7) #[.agg #[.int .i64 0,.slice none 0 0,.slice none 0 0],.agg #[.int .i64 0,.slice none 0 0,.slice none 0 0],.slice none 0 0] 8 (World.laidAll_os _ _ _)
   (World.shaped_of_ZipB (by kernel_rfl) (by kernel_rfl)) (by kernel_rfl) (by kernel_rfl) (by kernel_rfl)
   (by rw[MakeChecks.laidMetH_plain _ _ _ (by kernel_rfl)];exact laidMet_laidAll _ (by kernel_rfl) (by kernel_rfl))) ?_
 intro w tape i _ hsh _ hok hpre hholds
 obtain⟨⟨⟨ds,gs,before,hw,hc⟩,hx⟩,hz⟩:=hpre
 have hw':=DataW.Whole.of_heap (w':=w.forCall tape i) (by rfl) hw
 obtain⟨_,_,_,fn,hfn,_,_,_,_,hargs⟩:=hok
 obtain rfl:fn=Tryz.f9:=(Option.some.inj (Tryz.func9.symm.trans hfn)).symm
 refine (logic_contract enc law (w.forCall tape i) i.args ds gs before hw' (hx.of_heap (by rfl)) hsh hargs).mono ?_
 rintro e W' ⟨v,rfl,hp⟩
 exact ChangeSpec.post_blind hp
theorem logic_holds (law:∀[MaxLen] (p q:Auto) (nl:Bool) (l:List Int),calV U 9 [encA p,encA q,encS nl (ints l)]=some (.bool true)):Rows.TriggerLogicSaid :=
 OpenClaim.holds_of_wide 9 Tryz.f9 rfl rfl rfl rfl rfl rfl rfl ⟨rfl,rfl,rfl,rfl,rfl⟩ rfl rfl rfl rfl rfl named9 Tryz.func9 closed9 inst9 wrap9 (fun os started H enc _=>logic_lifted law os started H enc)
theorem wf9l:Rows.triggerLogicRow.wfByText (OpenSpec.ofChange Rows.triggerLogicSpec)=true:=by kernel_rfl
theorem looks9l:true=Tryz.prog.looks []:=by kernel_rfl
theorem stand9l:(#[72,72,40].toList.all fun u=>!Tryz.prog.wantsStandIn u)=true:=by kernel_rfl
theorem main9l:Tryz.pinned.checked.prog.mainIs=some (Rows.triggerLogicCard.stood.harness.1,Rows.triggerLogicCard.stood.harness.2.toList):=by kernel_rfl
theorem goes9l:false=Rows.triggerLogicRow.goesBy Tryz.pinned.checked.prog:=by kernel_rfl
theorem logic_card (law:∀[MaxLen] (p q:Auto) (nl:Bool) (l:List Int),calV U 9 [encA p,encA q,encS nl (ints l)]=some (.bool true)):Rows.TriggerLogicCardSaid :=
 Claim7.holds_tied_plain_at .later [] [.data,.data,.data,.data,.sentinel,.sentinel,.pinned] true Rows.triggerLogicCard.stood.harness true (logic_holds law) (fun _ h=>by cases h) wf9l (fun _ h=>by cases h) triggerLogic_row_tie rfl ⟨rfl,rfl⟩ main9l rfl
  (fun f fn hf hfn=>by
   obtain rfl:f=9:=Option.some.inj (named9.symm.trans hf) |>.symm
   obtain rfl:fn=Tryz.f9:=(Option.some.inj (Tryz.func9.symm.trans hfn)).symm
   refine⟨looks9l,fun j t ht=>?_⟩
   rw[Tryz.params9] at ht
   have hm:t∈#[72,72,40].toList:=by rw[←Array.getElem?_toList] at ht;exact List.mem_of_getElem? ht
   have:=List.all_eq_true.1 stand9l t hm
   rw[Bool.not_eq_true'] at this
   exact this)
  goes9l
end Go.Am
