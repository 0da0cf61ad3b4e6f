/- A part of the proof of a statement of this seat: the machine on which the program is read, and what it computes; for every input. -/
import Derived.Test.YtkmaeondbkpajaaGreatDoorN04
import Derived.Test.YtkmaeondbkpajaaGreatDoorN01
import Derived.WalkKit
import Derived.Lib.Builder
import Derived.Lib.Bytealg
import Derived.Lib.IndexEntry
import Derived.Laws.Externs
import Derived.ChangeArms
set_option linter.all false
namespace Go.Am
open Go Go.Proofs
variable [Z3]
set_option maxRecDepth 100000
theorem j6 (t:TypeId):U.Ho t=(!Tryz.prog.eqGuardType Tryz.prog.depth t&&!Tryz.prog.stoodInHeld t):=by unfold U;rfl
theorem j5 (t:TypeId):U.spec t=Nat.beq t 150:=by unfold U;rfl
theorem a8 {f:FuncId}{fn:Func}(h:U.fn f=some fn):fn∈Tryz.prog.funcs.toList:=by
 rw[bD,<-afj] at h;exact afl h
theorem vA {t:TypeId}(h:Stat.spec t=true):t=150:=Nat.eq_of_beq_eq_true h
theorem acH:Xp U Tryz.prog:=by
 refine⟨fun t d h=>?_,fun t d h=>?_,fun t d h=>?_,fun t h=>?_,fun t h=>?_,fun t h=>?_⟩
 ·rw[bG] at h;exact h
 ·rw[bE] at h;exact h
 ·rw[bD] at h;exact h
 ·rw[j6] at h;rw[aab,afw,afw] at h;exact h
 ·rw[j5];exact h
 ·have:=vA h;subst this;have hk:(match U.Zt 150 with|some (.int .u8)=>true|_=>false)=false:=by kernel_rfl
  intro e;rw[e] at hk;cases hk
theorem aZ {us:Array Value}{a b:Value}(h:us.toList=[a,b]):us=#[a,b]:=by
 cases us;simp at h;subst h;rfl
theorem acI {us:Array Value}{a:Value}(h:us.toList=[a]):us=#[a]:=by
 cases us;simp at h;subst h;rfl
theorem j0:vz U Tryz.prog 256 Sj:=by
 intro args s v s' σ w us h H F G hv;unfold Sj at h
 split at h
 ·rename_i l c
  cases h
  obtain⟨v1,y1,e1,⟨bs,rfl,Bu⟩,v2,y2,e2,rfl,e3⟩:=hv;subst e2;rw[e3] at e1;have:=aZ e1;subst this;rw[run_callFunc_extern Tryz.func256 (by kernel_rfl) (by kernel_rfl) (by kernel_rfl) (e:=Extern.BytealgIndexByte.indexByte) (by kernel_rfl),Lib.run_indexByteString];refine⟨σ,?_,Good.refl H⟩;rw[Bu];rfl
 ·cases h
theorem Im (c:UInt8)(m:List UInt8):∀l:List UInt8,l.contains c=false->Lib.index l (c::m) = -1
 |[],_=>rfl
 |b::l,h=>by
  simp only[List.contains_cons,Bool.or_eq_false_iff] at h;have ih:=Im c m l h.2;have hp:(c::m).isPrefixOf (b::l)=false:=by
   simp only[List.isPrefixOf,h.1,Bool.false_and]
  unfold Lib.index;rw[hp,ih];rfl
theorem jZ {σ:Sg}{s:St}{w:World}(H:HR σ s w)(G:XX U σ):w.cell? ⟨0,0,none⟩=some (.int .i64 Z3.val):=by
 obtain⟨n,h1,h2⟩:=G 0 (by rw[K5];omega);obtain⟨_,o,h4,h5⟩:=h2 (.cells [.int .i64 Z3.val] 3 true 0 0) (by rw[O9];rfl);have h6:=(H.fz 0 o h4).1
 cases o with
 |cells cc e fz =>
  obtain⟨_,_,_,h7,_⟩:=h5;obtain⟨v,h8,h9⟩:=h7 0 (.int .i64 Z3.val) rfl;have h9:v=.int .i64 Z3.val:=h9;subst h9;simp only[World.cell?,h6]
  simpa using h8
 |map=>exact h5.elim
 |stringIter=>exact h5.elim
 |loop=>exact h5.elim
 |_=>exact h5.elim
theorem jY:vz U Tryz.prog 223 Q_:=by
 intro args s v s' σ w us h H F G hv;unfold Q_ at h
 split at h
 ·rename_i l c m
  split at h
  ·rename_i hc
   cases h
   simp only[aab,afw,decide_eq_true_eq] at hc;obtain⟨⟨⟨h1,h2⟩,h3⟩,h4⟩:=hc;obtain⟨v1,y1,e1,⟨bs,rfl,Bu⟩,v2,y2,e2,⟨bt,rfl,hbt⟩,e3⟩:=hv;subst e2;rw[e3] at e1;have:=aZ e1;subst this;have hm:=jZ H G;have s1:bs.size=l.length:=by rw[<-Bu];exact (afd ..).symm
   have s2:bt.size=m.length+1:=by
    have:bt.size=bt.data.toList.length:=(afd ..).symm;rw[this,hbt];rfl
   rw[run_callFunc_extern Tryz.func223 (by kernel_rfl) (by kernel_rfl) (by kernel_rfl) (e:=Extern.BytealgIndex.index) (by kernel_rfl),Lib.run_indexString bs bt w 0 Z3.val (by kernel_rfl) hm (by omega) (by omega) (by omega)];refine⟨σ,?_,Good.refl H⟩;rw[Bu,hbt,Im c m l h1];rfl
  ·cases h
 ·cases h
set_option maxHeartbeats 2000000 in
theorem CY (b:Nat)(w:World)(h0:w.cell? ⟨b,0,none⟩=some (.pointer none))(Qy:w.shape? b=some (150,2))(LY:w.frozen? ⟨b,0,none⟩=false) :
  Calls Tryz.prog 147 #[.pointer (some ⟨b,0,none⟩)] w fun e w'=>e=.returned (.tuple #[])/\w'=w.setCell ⟨b,0,none⟩ (.pointer (some ⟨b,0,none⟩)):=by
 obtain⟨j,hj,hjs⟩:∃j,Tryz.prog.info? 150=some j/\j.size=2:=by
  have h:(Tryz.prog.info? 150).map (·.size)=some 2:=by kernel_rfl
  exact afL.1 h
 go_enter Tryz.func147,Tryz.ntmps147
 go_wp2
 rw[Lib.run_to_unsafe w ⟨b,0,none⟩ Tryz.underlying147 Tryz.underlying268 hj (by rw[hjs];decide) Qy (Nat.zero_lt_succ 1)];simp only[Result.andThen];rw[Oper.upon_value]
 go_wp2
 rw[run_callFunc_extern Tryz.func196 (by kernel_rfl) (by kernel_rfl) (by kernel_rfl) (e:=Extern.AbiNoEscape.same) (by kernel_rfl)];rw[Lib.run_noEscape];simp only[Result.andThen];rw[Oper.upon_value]
 go_wp2
 rw[Lib.run_from_unsafe w ⟨b,0,none⟩ Tryz.underlying268 Tryz.underlying147 hj Qy (by kernel_rfl)];simp only[Result.andThen];rw[Oper.upon_value]
 go_wp2
 go_end0
 exact⟨rfl,rfl⟩
set_option maxHeartbeats 2000000 in
theorem zo (b:Nat)(w:World)(h0:w.cell? ⟨b,0,none⟩=some (.pointer (some ⟨b,0,none⟩))) :
  Calls Tryz.prog 147 #[.pointer (some ⟨b,0,none⟩)] w fun e w'=>e=.returned (.tuple #[])/\w'=w:=by
 obtain⟨j,hj,hjs⟩:∃j,Tryz.prog.info? 150=some j/\j.size=2:=by
  have h:(Tryz.prog.info? 150).map (·.size)=some 2:=by kernel_rfl
  exact afL.1 h
 go_enter Tryz.func147,Tryz.ntmps147
 go_wp2
 rw[Lib.run_neq_ptr_same w _ Tryz.underlying147 hj]
 go_wp2
 go_end0
 exact⟨rfl,rfl⟩
theorem zn {P:Program}{f:FuncId}{fn:Func}{c:Code}(hf:P.funcs[f]? = some fn)(aY:(fn.name == "runtime.NumGoroutine")=false)(hb:fn.body=some c)(args:Array Value)(w:World):(callFunc f args).run P w=.ok (.enter f args) w:=by
 have h1:fn.name ≠ "runtime.NumGoroutine":=by simpa using aY
 simp[callFunc,hf,h1,hb]
theorem CX (args:Array Value)(w:World):(callFunc 147 args).run Tryz.prog w=.ok (.enter 147 args) w:=zn Tryz.func147 (by kernel_rfl) rfl args w
theorem jX:vz U Tryz.prog 147 Qo:=by
 intro args s v s' σ w us h H F G hv;unfold Qo at h
 split at h
 ·rename_i b
  split at h
  ·rename_i p buf t hg
   split at h
   ·rename_i ht;subst ht;obtain⟨v1,y1,e1,⟨pl,OI,rfl⟩,e2⟩:=hv;rw[e2] at e1;have:=acI e1;subst this;have hl:s.look b=some (.cells [p,buf] 150 false 0 0):=St.YO hg (by simp);obtain⟨cc,fz,h1,h2,h3,h4,h5⟩:=H.cells OI hl;obtain⟨q1,q2⟩:=H.spec OI hl rfl;have WU:cc.size=2:=by rw[h2,q2];rfl
    obtain⟨c0,hc0,nh⟩:=h4 0 p rfl;rw[q1] at hc0;have T8:w.cell? ⟨pl.b,0,none⟩=some c0:=by rw[YJ h1];simpa using hc0
    have jW:pl.sh+0=0:=by omega
    rw[jW,CX];show Calls _ _ _ _ _
    split at h
    ·cases h
     have nh:c0=.pointer none:=nh;subst nh;have Qy:w.shape? pl.b=some (150,2):=by simp only[World.shape?,h1,WU]
     have aX:=h5 rfl 0;have MZ:w.frozen? ⟨pl.b,0,none⟩=false:=by
      obtain⟨RA,Ss⟩:=fz;simp only[World.frozen?,h1];rw[Bool.eq_false_iff];intro hh;simp only[aab,decide_eq_true_eq] at hh;have:=aX (by simp only;omega) (by simp only;omega) (by omega);omega
     obtain⟨w',hw,vy⟩:=TU (P:=Tryz.prog) (s':=s.put b (.cells [.ptr b 0,buf] 150 false 0 0)) (o:=0) (xs:=[.ptr b 0]) (us:=[.pointer (some ⟨pl.b,pl.sh+0,none⟩)]) H OI ⟨_,_,rfl,⟨pl,OI,rfl⟩,rfl⟩ (by simp[Yi,hg,Zw,lay]);rw[jW] at hw;have Zp:(storeCells ⟨pl.b,0,none⟩ [.pointer (some ⟨pl.b,0,none⟩)]).run Tryz.prog w=.ok () (w.setCell ⟨pl.b,0,none⟩ (.pointer (some ⟨pl.b,0,none⟩))):=by
      have ha:(⟨pl.b,0,none⟩:Addr).add 0=⟨pl.b,0,none⟩:=rfl;simp only[storeCells,Sem.run_bind,ha];rw[run_store Tryz.prog w _ _ .plain rfl];simp only[T8,MZ,ae1,if_false,Result.andThen_ok];rfl
     rw[Zp] at hw
     cases hw
     refine (CY pl.b w T8 Qy MZ).mono ?_;rintro e w' ⟨rfl,rfl⟩;exact⟨_,rfl,σ,⟨#[],rfl,rfl⟩,vy⟩
    ·rename_i b'
     split at h
     ·rename_i hb;subst hb
      cases h
      obtain⟨pl',aW,rfl⟩:=nh;rw[OI] at aW
      cases aW
      rw[jW] at T8;refine (zo pl.b w T8).mono ?_;rintro e w' ⟨rfl,rfl⟩;exact⟨_,rfl,σ,⟨#[],rfl,rfl⟩,Good.refl H⟩
     ·cases h
    ·cases h
   ·cases h
  ·cases h
 ·cases h
theorem aV {f:FuncId}{fn:Func}{c:Code}(hf:U.fn f=some fn)(hb:fn.body=some c):Lu U fn.ntmps c=true:=by
 have h:=ae9.1 acJ fn (a8 hf);rw[aU,hb] at h;exact h
theorem jV:Full U Tryz.prog:=by
 refine⟨acH,fun _ _=>Iff.rfl,fun f fn c hf hb=>aV hf hb,fun f fn hf=>?_,fun f g h=>?_,qn,fun i b h=>?_⟩
 ·have h:=ae9.1 acK fn (a8 hf);rw[afw] at h;exact h
 ·rw[FK] at h;unfold vN at h
  split at h
  ·cases h;exact jX
  ·cases h;exact jY
  ·cases h;exact j0
  ·cases h
 ·rw[O9] at h;unfold nQ at h
  split at h
  ·cases h;simp
  ·cases h
end Go.Am
namespace Go.Am
open Go
theorem QB {w:World}{a:Addr}{v:Value}(h:w.cell? a=some v):a.spot=none/\∃cc e fz,w.heap[a.block]? = some (.cells cc e fz)/\cc[a.off]? = some v:=by
 unfold World.cell? at h
 split at h
 ·rename_i c e fz hc
  split at h
  ·cases h
  ·rename_i hs;refine⟨?_,c,e,fz,hc,h⟩
   cases MD:a.spot with
   |none=>rfl
   |some x=>rw[MD] at hs;simp at hs
 ·cases h
variable {H:Type}{enc:TypeId×Value->H}{P:Program}{w:World}{σ:Sg}
end Go.Am
