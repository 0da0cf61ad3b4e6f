/- A part of the proof. -/
import Derived.Test.YtkmaeondbkpajaaGreatDoorE39
set_option linter.all false
set_option maxRecDepth 100000
namespace Go.Am
open Go Go.Proofs Go.Proofs.YtkmaeondbkpajaaGreatDoor Go.RowKit
open Go.ChangeShapes Go.WideShapes Go.ChangeAt
def am0:ownKnob Tryz.prog.godebug=none:=It
def wN:laidOutB Tryz.prog=true:=It
def oC:Tryz.prog.readableRec 31=true:=It
def ea:31<Tryz.prog.types.size:=of_decide_eq_true It
def wM {v u:Value}{vs:Array Value}(hu:u=.agg vs)(h:v.cells.toList=u.cells.toList)(h2:vs.size=2):v=u:=by
 subst hu;have hc:∀x:Value,([x]:List Value)=vs.toList->False:=λx hx=>by
  have:=congrArg List.length hx;have h3:vs.toList.length=vs.size:=aqj;rw[h3,h2] at this
  cases this
 cases v <;> first
  |(exfalso;exact hc _ h)
  |skip
 rename_i cs;have h:cs.toList=vs.toList:=h;rw[Array.toList_inj.1 h]
def EI {H:Type}(enc:TypeId×Value->H)(law:∀[Z8] (p o:Prog),ZE U 6 [XU p,XU o]=some (.bool true))(W:World)(args:Array Value)(ds gs:List (DataW H))(before:List MemPlace)
  (hW:DataW.Whole enc Tryz.prog Tryz.f6.params.toList Rows.triggerEqualSpec.vars false W args.toList ds gs before)(hL:laidMetH Tryz.prog xC W)(SI:W.ShapedOpen Tryz.prog){b0:Nat}
  (XP:∀(j:Nat) t v,Tryz.f6.params[j]? = some t->args[j]? = some v->Value.okWide Tryz.prog W .any b0 t v) :
  Calls Tryz.prog 6 args W λe W'=>∃v,e=.returned v/\Rows.triggerEqualSpec.post enc Tryz.prog Tryz.f6 false true false false W args v W':=by
 have nt:=hW;have YA:=hW.lt;obtain⟨p,q,hA0,hV,rfl,L9,Ax⟩:=hW;have hA:DataW.TrodAll enc Tryz.prog W 0 (λ_=>true) true Tryz.f6.params.toList args.toList ds p:=hA0;rw[Tryz.params6] at hA;obtain⟨v0,v1,d0,d1,p0,p1,rfl,rfl,rfl,h0,h1⟩:=trodAll_two hA;obtain⟨rfl,rfl⟩:=trodVars_none hV;obtain⟨apq,hf1⟩:=id h0;obtain⟨apr,hf2⟩:=id h1;obtain⟨m,G⟩:=fB hL SI
 letI:Z8:=⟨m⟩
 obtain⟨pr,u,hu,LB⟩:=oH (σ:=Ub W) (λb o h=>h) hf1;have ny:v0=u:=by
  obtain⟨vs,SH,hr⟩:=id hu;exact wM SH LB.symm (by rw[<-aqj,<-hr.length];rfl)
 subst ny;obtain⟨qr,w,hw,LO⟩:=oH (σ:=Ub W) (λb o h=>h) hf2;have hwv:v1=w:=by
  obtain⟨vs,SH,hr⟩:=id hw;exact wM SH LO.symm (by rw[<-aqj,<-hr.length];rfl)
 subst hwv;refine (d_ (W:=W) G (f:=6) (by rw[wW];rfl) (args:=[XU pr,XU qr]) (us:=#[v0,v1]) ⟨_,_,rfl,hu,_,_,rfl,hw,rfl⟩ (law pr qr)).mono ?_;rintro e W' ⟨u',Yj,rfl,T8,hB⟩;have T8:u'=.bool true:=T8;subst T8;refine⟨_,rfl,[d0,d1],[],_,[],_,[],nt,trodAll_mk1 (shut_bool Tryz.underlying4 _),trodAll_mk2 (Below.trod wN oC ea h0 hB λx hx=>YA x (by simp[hx])) (Below.trod wN oC ea h1 hB λx hx=>YA x (by simp[hx])),rfl,hB.frame _,λh=>by cases h⟩
def zW (law:∀[Z8] (p o:Prog),ZE U 6 [XU p,XU o]=some (.bool true))(os:Os)(started:os.Started)(H:Type)(enc:TypeId×Value->H) :
  ReturnsInHanded {} Tryz.checked os 6 .any (λw args=>(Rows.triggerEqualSpec.pre enc Tryz.prog Tryz.f6 [] false w args/\laidMetH Tryz.prog xC w)/\sizedMet enc Tryz.prog Tryz.f6 (OpenSpec.ofChange Rows.triggerEqualSpec) false w args)
   (Rows.triggerEqualSpec.post enc Tryz.prog Tryz.f6 false true false false):=by
 refine returnsInHanded_of_calls am0 started It
  (ChangeSpec.witness_shaped (enc:=enc) (C:=Tryz.checked) (os:=os) (X:=λw _=>laidMetH Tryz.prog xC w) false (World.laidAll Tryz.prog os xC) #[.agg #[.int .i64 0,.slice none 0 0],.agg #[.int .i64 0,.slice none 0 0]] 8 (World.laidAll_os _ _ _)
   (World.shaped_of_ZipB It It) It It It
   (by rw[MakeChecks.laidMetH_plain _ _ _ It];exact laidMet_laidAll _ It It)) ?_
 intro w tape i _ SI _ XP Di am1;obtain⟨⟨⟨ds,gs,before,hw,hc⟩,hx⟩,hz⟩:=Di;have Lb:=DataW.Whole.of_heap (w':=w.forCall tape i) (by rfl) hw;obtain⟨_,_,_,fn,iW,_,_,_,_,Nr⟩:=XP;obtain rfl:fn=Tryz.f6:=(aqb (Tryz.func6.symm.trans iW)).symm;refine (EI enc law (w.forCall tape i) i.args ds gs before Lb (hx.of_heap (by rfl)) SI Nr).mono ?_;rintro e W' ⟨v,rfl,hp⟩;exact ChangeSpec.post_blind hp
def wL (law:∀[Z8] (p o:Prog),ZE U 6 [XU p,XU o]=some (.bool true)):Rows.TriggerEqualSaid :=
 OpenClaim.holds_of_wide 6 Tryz.f6 rfl rfl rfl rfl rfl rfl rfl ⟨rfl,rfl,rfl,rfl,rfl⟩ rfl rfl rfl rfl rfl dZ Tryz.func6 abr aiT aiU (λos started H enc _=>zW law os started H enc)
def wfQ:Rows.triggerEqualRow.wfByText (OpenSpec.ofChange Rows.triggerEqualSpec)=true:=It
def aeW:true=Tryz.prog.looks []:=It
def aeX:(#[31,31].toList.all λu=>!Tryz.prog.wantsStandIn u)=true:=It
def aiV:Tryz.pinned.checked.prog.mainIs=some (Rows.triggerEqualCard.stood.harness.1,Rows.triggerEqualCard.stood.harness.2.toList):=It
def aiW:false=Rows.triggerEqualRow.goesBy Tryz.pinned.checked.prog:=It
def r9 (law:∀[Z8] (p o:Prog),ZE U 6 [XU p,XU o]=some (.bool true)):Rows.TriggerEqualCardSaid :=
 Claim7.holds_tied_plain_at .later [] [.data,.data,.data,.data,.sentinel,.sentinel,.pinned] true Rows.triggerEqualCard.stood.harness true (wL law) (λ_ h=>by cases h) wfQ (λ_ h=>by cases h) triggerEqual_row_tie rfl ⟨rfl,rfl⟩ aiV rfl
  (λf fn hf iW=>by
   obtain rfl:f=6:=aqb (dZ.symm.trans hf) |>.symm;obtain rfl:fn=Tryz.f6:=(aqb (Tryz.func6.symm.trans iW)).symm;refine⟨aeW,λj t ht=>?_⟩;rw[Tryz.params6] at ht;have hm:t∈#[31,31].toList:=by rw[<-aqq] at ht;exact aqn ht
   have:=ap8.1 aeX t hm;rw[aqS] at this;exact this)
  aiW
end Go.Am
