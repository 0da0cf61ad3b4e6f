/- A part of the proof of a statement of this seat: the machine on which the program is read, and what it computes; for every input. -/
import Derived.Test.YtkmaeondbkpajaaGreatDoorN35
import Derived.Test.YtkmaeondbkpajaaGreatDoorN36
import Derived.Test.YtkmaeondbkpajaaGreatDoorN37
set_option linter.all false
namespace Go.Am
open Go Go.Proofs Go.Proofs.YtkmaeondbkpajaaGreatDoor Go.RowKit
open Go.ChangeShapes Go.WideShapes Go.ChangeAt
set_option maxRecDepth 100000
theorem dV:ownKnob Tryz.prog.godebug=none:=by kernel_rfl
theorem zT:laidOutB Tryz.prog=true:=by kernel_rfl
theorem lF:Tryz.prog.cellsOf 48=1:=by kernel_rfl
theorem rn:Tryz.prog.readableRec 46=true:=by kernel_rfl
theorem lE:46<Tryz.prog.types.size:=of_decide_eq_true (by kernel_rfl)
theorem wX {v u:Value}{vs:Array Value}(hu:u=.agg vs)(h:v.cells.toList=u.cells.toList)(h2:vs.size=3):v=u:=by
 subst hu;have hc:∀x:Value,([x]:List Value)=vs.toList->False:=fun x hx=>by
  have:=congrArg List.length hx;have h3:vs.toList.length=vs.size:=afd;rw[h3,h2] at this
  cases this
 cases v <;> first
  |(exfalso;exact hc _ h)
  |skip
 rename_i cs;have h:cs.toList=vs.toList:=h;rw[Array.toList_inj.1 h]
theorem lD:Tryz.prog.cellsOf 46=3:=by kernel_rfl
theorem lC:Tryz.prog.cellsOf 72=1:=by kernel_rfl
theorem dU:Tryz.prog.cellsOf 4=1:=by kernel_rfl
section
variable {H:Type}{enc:TypeId×Value->H}{w:World}{σ:Sg}
theorem FM {nl:Bool}{l:List AV}{v:Value}(h:Z6 σ.bare (ZP nl l) v):v.cells.toList=[v]:=by
 rw[<-OW] at h;unfold Bz at h
 split at h
 ·have h:v=.slice none 0 0:=h;subst h;rfl
 ·obtain⟨a,c,us,rfl,_⟩:=h;rfl
theorem rm (hz:∀b o,w.heap[b]? = some o->σ.fz b=some o){base:Nat}{spare:Nat->Bool}{held:Bool}(fuel:Nat)(cs:List Value)(x:DataW H×List MemPlace)(h:DataW.trod enc Tryz.prog w base spare held fuel 48 cs=some x) :
  ∃(y:Bool×List Int) (u:Value),Z6 σ.bare (ZX y) u/\u.cells.toList=cs:=by
 obtain⟨nl,l,v,rfl,hr,_⟩:=open_row (σ:=σ) hz (fun x:Int=>AV.int .i64 x) (k:=1) (by omega) Tryz.underlying48 ew h fun m cs x hm hx=>by
  obtain⟨z,f,_,_⟩:=DataW.trod_int Tryz.underlying3 hx;exact⟨z,.int .i64 z,rfl,f.symm⟩
 rw[OW] at hr;exact⟨(nl,l),v,hr,FM hr⟩
theorem rl (hz:∀b o,w.heap[b]? = some o->σ.fz b=some o){base:Nat}{spare:Nat->Bool}{held:Bool}(fuel:Nat)(cs:List Value)(x:DataW H×List MemPlace)(h:DataW.trod enc Tryz.prog w base spare held fuel 72 cs=some x) :
  ∃(y:Bool×List Bool) (u:Value),Z6 σ.bare (ZY y) u/\u.cells.toList=cs:=by
 obtain⟨nl,l,v,rfl,hr,_⟩:=open_row (σ:=σ) hz (fun x:Bool=>AV.bool x) (k:=1) (by omega) Tryz.underlying72 dU h fun m cs x hm hx=>by
  obtain⟨z,f,_⟩:=DataW.trod_bool Tryz.underlying4 hx;exact⟨z,.bool z,rfl,f.symm⟩
 rw[OW] at hr;exact⟨(nl,l),v,hr,FM hr⟩
theorem rk (hz:∀b o,w.heap[b]? = some o->σ.fz b=some o){base:Nat}{spare:Nat->Bool}{held:Bool}{fuel:Nat}{cs:List Value}{x:DataW H×List MemPlace}(h:DataW.trod enc Tryz.prog w base spare held fuel 46 cs=some x) :
  ∃(a:ZN) (u:Value),Z6 σ.bare (YP a) u/\u.cells.toList=cs:=by
 obtain⟨xs,n,hn,_,hlen,WU,sf⟩:=DataW.trod_struct Tryz.underlying46 h;rw[lD] at hlen
 match cs,hlen with
 |[v0,v1,v2],_ =>
  have hx7:xs.length=3:=WU;have h0:=sf 0 _ rfl;have h1:=sf 1 _ rfl;have h2:=sf 2 _ rfl
  try simp only[ew,afJ,List.drop_succ_cons,List.take_succ_cons,List.take_zero] at h0 h1 h2
  obtain⟨x0,e0⟩:=Hn (l:=xs) (i:=0) (by omega);obtain⟨x1,e1⟩:=Hn (l:=xs) (i:=1) (by omega);obtain⟨x2,e2⟩:=Hn (l:=xs) (i:=2) (by omega);rw[e0] at h0;rw[e1] at h1;rw[e2] at h2;obtain⟨n0,f0,_,_⟩:=DataW.trod_int Tryz.underlying3 h0;obtain⟨nN,rows,u1,f1,xQ,_⟩:=open_row hz ZX (k:=1) (by omega) Tryz.underlying39 lF h1 fun m cs x hm hx=>rm hz m cs x hx
  obtain⟨nF,Z4,u2,f2,sy,_⟩:=open_row hz ZY (k:=1) (by omega) Tryz.underlying40 lC h2 fun m cs x hm hx=>rl hz m cs x hx
  cases f0;cases f1;cases f2
  rw[OW] at xQ sy;exact⟨⟨n0,nN,rows,nF,Z4⟩,.agg #[.int .i64 n0,v1,v2],⟨_,rfl,_,_,rfl,rfl,_,_,rfl,xQ,_,_,rfl,sy,rfl⟩,rfl⟩
end
theorem Nl {H:Type}(enc:TypeId×Value->H)(law:∀[Z3] (p:ZN),Zv U 7 [YP p]=some (.bool true))(W:World)(args:Array Value)(ds gs:List (DataW H))(before:List MemPlace)
  (hW:DataW.Whole enc Tryz.prog Tryz.f7.params.toList Rows.triggerMinimalSpec.vars false W args.toList ds gs before)(hL:laidMetH Tryz.prog FL W)(Qy:W.ShapedOpen Tryz.prog){b0:Nat}
  (Yv:∀(j:Nat) t v,Tryz.f7.params[j]? = some t->args[j]? = some v->Value.okWide Tryz.prog W .any b0 t v) :
  Calls Tryz.prog 7 args W fun e W'=>∃v,e=.returned v/\Rows.triggerMinimalSpec.post enc Tryz.prog Tryz.f7 false true false false W args v W':=by
 have Aa:=hW;have Zm:=hW.lt;obtain⟨p,q,hA0,hV,rfl,LY,LX⟩:=hW;have hA:DataW.TrodAll enc Tryz.prog W 0 (fun _=>true) true Tryz.f7.params.toList args.toList ds p:=hA0;rw[Tryz.params7] at hA;obtain⟨v0,d0,rfl,rfl,h0⟩:=trodAll_one hA;obtain⟨rfl,rfl⟩:=trodVars_none hV;obtain⟨aeo,hf1⟩:=id h0;obtain⟨m,G⟩:=wW hL Qy
 letI:Z3:=⟨m⟩
 obtain⟨pr,u,hu,OX⟩:=rk (σ:=Wg W) (fun b o h=>h) hf1;have xC:v0=u:=by
  obtain⟨vs,Uy,hr⟩:=id hu;exact wX Uy OX.symm (by rw[<-afd,<-hr.length];rfl)
 subst xC;refine (wV (W:=W) G (f:=7) (by rw[FK];rfl) (args:=[YP pr]) (us:=#[v0]) ⟨_,_,rfl,hu,rfl⟩ (law pr)).mono ?_;rintro e W' ⟨u',Y',rfl,VX,hB⟩;have VX:u'=.bool true:=VX;subst VX;refine⟨_,rfl,[d0],[],p++[],[],p,[],Aa,trodAll_mk1 (shut_bool Tryz.underlying4 _),trodAll_mk1 (Below.trod zT rn lE h0 hB fun x hx=>Zm x (by simpa using hx)),rfl,hB.frame _,fun h=>by cases h⟩
theorem KK (law:∀[Z3] (p:ZN),Zv U 7 [YP p]=some (.bool true))(os:Os)(started:os.Started)(H:Type)(enc:TypeId×Value->H) :
  ReturnsInHanded {} Tryz.checked os 7 .any (fun w args=>(Rows.triggerMinimalSpec.pre enc Tryz.prog Tryz.f7 [] false w args/\laidMetH Tryz.prog FL w)/\sizedMet enc Tryz.prog Tryz.f7 (OpenSpec.ofChange Rows.triggerMinimalSpec) false w args)
   (Rows.triggerMinimalSpec.post enc Tryz.prog Tryz.f7 false true false false):=by
 refine returnsInHanded_of_calls dV started (by kernel_rfl)
  (ChangeSpec.witness_shaped (enc:=enc) (C:=Tryz.checked) (os:=os) (X:=fun w _=>laidMetH Tryz.prog FL w) false (World.laidAll Tryz.prog os FL) #[.agg #[.int .i64 0,.slice none 0 0,.slice none 0 0]] 8 (World.laidAll_os _ _ _)
   (World.shaped_of_ZipB (by kernel_rfl) (by kernel_rfl)) (by kernel_rfl) (by kernel_rfl) (by kernel_rfl)
   (by rw[MakeChecks.laidMetH_plain _ _ _ (by kernel_rfl)];exact laidMet_laidAll _ (by kernel_rfl) (by kernel_rfl))) ?_
 intro w tape i _ Qy _ Yv FJ abD;obtain⟨⟨⟨ds,gs,before,hw,hc⟩,hx⟩,hz⟩:=FJ;have L5:=DataW.Whole.of_heap (w':=w.forCall tape i) (by rfl) hw;obtain⟨_,_,_,fn,wU,_,_,_,_,Rt⟩:=Yv;obtain rfl:fn=Tryz.f7:=(Option.some.inj (Tryz.func7.symm.trans wU)).symm;refine (Nl enc law (w.forCall tape i) i.args ds gs before L5 (hx.of_heap (by rfl)) Qy Rt).mono ?_;rintro e W' ⟨v,rfl,hp⟩;exact ChangeSpec.post_blind hp
theorem Jp (law:∀[Z3] (p:ZN),Zv U 7 [YP p]=some (.bool true)):Rows.TriggerMinimalSaid :=
 OpenClaim.holds_of_wide 7 Tryz.f7 rfl rfl rfl rfl rfl rfl rfl ⟨rfl,rfl,rfl,rfl,rfl⟩ rfl rfl rfl rfl rfl Br Tryz.func7 wT lB lz (fun os started H enc _=>KK law os started H enc)
theorem abE:Rows.triggerMinimalRow.wfByText (OpenSpec.ofChange Rows.triggerMinimalSpec)=true:=by kernel_rfl
theorem rh:true=Tryz.prog.looks []:=by kernel_rfl
theorem rf:(#[46].toList.all fun u=>!Tryz.prog.wantsStandIn u)=true:=by kernel_rfl
theorem ly:Tryz.pinned.checked.prog.mainIs=some (Rows.triggerMinimalCard.stood.harness.1,Rows.triggerMinimalCard.stood.harness.2.toList):=by kernel_rfl
theorem lx:false=Rows.triggerMinimalRow.goesBy Tryz.pinned.checked.prog:=by kernel_rfl
theorem Hh (law:∀[Z3] (p:ZN),Zv U 7 [YP p]=some (.bool true)):Rows.TriggerMinimalCardSaid :=
 Claim7.holds_tied_plain_at .later [] [.data,.data,.data,.data,.sentinel,.sentinel,.pinned] true Rows.triggerMinimalCard.stood.harness true (Jp law) (fun _ h=>by cases h) abE (fun _ h=>by cases h) triggerMinimal_row_tie rfl ⟨rfl,rfl⟩ ly rfl
  (fun f fn hf wU=>by
   obtain rfl:f=7:=Option.some.inj (Br.symm.trans hf) |>.symm;obtain rfl:fn=Tryz.f7:=(Option.some.inj (Tryz.func7.symm.trans wU)).symm;refine⟨rh,fun j t ht=>?_⟩;rw[Tryz.params7] at ht;have hm:t∈#[46].toList:=by rw[<-afj] at ht;exact afl ht
   have:=ae9.1 rf t hm;rw[afw] at this;exact this)
  lx
end Go.Am
