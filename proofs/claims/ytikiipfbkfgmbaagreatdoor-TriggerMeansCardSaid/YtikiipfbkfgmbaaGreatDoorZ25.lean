/- A part of the proof of a statement of this seat: the machine on which the program is read, and what it computes; for every input. -/
import Derived.Test.YtikiipfbkfgmbaaGreatDoorZ24
import Derived.Test.YtikiipfbkfgmbaaGreatDoorZ13
set_option linter.all false
namespace Go.Am
open Go
variable [Z4]
set_option maxRecDepth 100000
set_option maxHeartbeats 4000000
section
variable (l:List Int)(k:XV)(a b mi ma:Int)(p:XV)(nl:Bool)(kids:List Z5)
abbrev nwB (u:Nat):Bool:=WR (Xg l (u:Int)) a
abbrev chB (u:Nat):Bool:=nwB l a (u+1) != nwB l a u
abbrev rnB (u:Nat):Int:=((u+1-runN l a u:Nat):Int)
abbrev bgB (u:Nat):Bool:=decide (0<runN l a u)
theorem ao2 (t:Nat)(h:ZF k=.high):atR l t (.mk k a b mi ma p nl kids)=nwB l a t:=by rw[atR,h];rfl
theorem apn (t:Nat)(h:ZF k=.low):atR l t (.mk k a b mi ma p nl kids)=!nwB l a t:=by rw[atR,h];exact (PI _ _).symm
theorem am1:QS l ((0:Nat):Int)=Xg l ((0:Nat):Int):=G1 l
theorem apo (h:ZF k=.Iz):atR l 0 (.mk k a b mi ma p nl kids)=false:=by
 rw[atR,h,am1];simp only;rcases Lv (Xg l ((0:Nat):Int)) a with e|e <;> rw[e] <;> rfl
theorem apq (h:ZF k=.fall):atR l 0 (.mk k a b mi ma p nl kids)=false:=by
 rw[atR,h,am1];simp only;rcases Lv (Xg l ((0:Nat):Int)) a with e|e <;> rw[e] <;> rfl
theorem apd (h:ZF k=.Vj):atR l 0 (.mk k a b mi ma p nl kids)=false:=by rw[atR,h];rfl
theorem am2 (h:ZF k=.gap):atR l 0 (.mk k a b mi ma p nl kids)=false:=by rw[atR,h];rfl
theorem apr (h:ZF k=.Uf):atR l 0 (.mk k a b mi ma p nl kids)=false:=by rw[atR,h];rfl
theorem aps (h:ZF k=.idle):atR l 0 (.mk k a b mi ma p nl kids)=((1:Int)==mi):=by rw[atR,h];rfl
theorem ape (h:ZF k=.setup):atR l 0 (.mk k a b mi ma p nl kids)=false:=by
 rw[atR,h,am1];simp only;rcases Lv (Xg l ((0:Nat):Int)) b with e|e <;> rw[e] <;> simp
theorem bq (t:Nat)(h:ZF k=.pattern):atR l t (.mk k a b mi ma p nl kids)=yW (Xg l (t:Int)) 0 p:=by rw[atR,h]
theorem apf (h:ZF k=.enter):atR l 0 (.mk k a b mi ma p nl kids)=false:=by
 rw[atR,h,am1];simp only
 cases yW (Xg l ((0:Nat):Int)) 0 p <;> rfl
variable (u:Nat)
theorem am3 (h:ZF k=.Iz):atR l (u+1) (.mk k a b mi ma p nl kids)=(chB l a u&&nwB l a (u+1)):=by
 rw[atR,h,Lu];simp only[chB,nwB,WR];rcases Lv (Xg l ((u+1:Nat):Int)) a with e|e <;> rcases Lv (Xg l (u:Int)) a with e'|e' <;> rw[e,e'] <;> rfl
theorem am4 (h:ZF k=.fall):atR l (u+1) (.mk k a b mi ma p nl kids)=(chB l a u&&!nwB l a (u+1)):=by
 rw[atR,h,Lu];simp only[chB,nwB,WR];rcases Lv (Xg l ((u+1:Nat):Int)) a with e|e <;> rcases Lv (Xg l (u:Int)) a with e'|e' <;> rw[e,e'] <;> rfl
theorem apt:Lt l a 1 (u+1)=!(chB l a u&&!nwB l a (u+1)):=by
 unfold Lt;rw[show u+1-1=u by omega,show (((u+1:Nat):Int)==0)=false by simp;omega,amf];simp only[chB,nwB,WR];rcases Lv (Xg l ((u+1:Nat):Int)) a with e|e <;> rcases Lv (Xg l (u:Int)) a with e'|e' <;> rw[e,e'] <;> rfl
theorem ans:Lt l a 0 (u+1)=!(chB l a u&&nwB l a (u+1)):=by
 unfold Lt;rw[show u+1-1=u by omega,show (((u+1:Nat):Int)==0)=false by simp;omega,amf];simp only[chB,nwB,WR];rcases Lv (Xg l ((u+1:Nat):Int)) a with e|e <;> rcases Lv (Xg l (u:Int)) a with e'|e' <;> rw[e,e'] <;> rfl
theorem apu (Og:Int)(q:Bool)(h:Lt l a Og (u+1)=!q):(Tl l a Og (u+1)&&!outside (((u+1:Nat):Int)-(WI l a Og (u+1):Nat)) mi ma)=(q&&(bgB l a u&&(decide (mi<=rnB l a u)&&decide (rnB l a u<=ma)))):=by
 unfold Tl WI;rw[h,show u+1-1=u by omega];have hle:=NN l a u
 cases q with
 |false=>rfl
 |true =>
  simp only[ama,cond_false,al9];have e:((u+1:Nat):Int)-(runN l a u:Nat)=rnB l a u:=by unfold rnB;omega
  rw[e];unfold outside;rw[Bool.not_or,<-decide_not,<-decide_not]
  congr 2
  ·congr 1;apply propext;omega
  ·congr 1;apply propext;omega
theorem apv (h:ZF k=.Vj):atR l (u+1) (.mk k a b mi ma p nl kids)=(chB l a u&&!nwB l a (u+1)&&(bgB l a u&&(decide (mi<=rnB l a u)&&decide (rnB l a u<=ma)))):=by
 rw[atR,h];exact apu l a mi ma u 1 _ (apt l a u)
theorem ant (h:ZF k=.gap):atR l (u+1) (.mk k a b mi ma p nl kids)=(chB l a u&&nwB l a (u+1)&&(bgB l a u&&(decide (mi<=rnB l a u)&&decide (rnB l a u<=ma)))):=by
 rw[atR,h];exact apu l a mi ma u 0 _ (ans l a u)
theorem apw:chB l a u=!(Zy (Xg l (u:Int)) a==Zy (Xg l ((u+1:Nat):Int)) a):=mQ _ _ _
theorem am5 (h:ZF k=.idle):atR l (u+1) (.mk k a b mi ma p nl kids)=bif chB l a u then (mi==1) else (rnB l a u+1==mi):=by
 rw[atR,h];simp only;have hle:=NN l a u;rw[apw,ON];by_cases hb:Zy (Xg l (u:Int)) a=Zy (Xg l ((u+1:Nat):Int)) a
 ·rw[if_pos hb,hb,beq_self_eq_true,ama,cond_false]
  congr 1;unfold rnB;omega
 ·rw[if_neg hb,beq_eq_false_iff_ne.2 hb,amp,cond_true,amj];simp;omega
theorem apx (hm:1<=mi)(h:ZF k=.setup):atR l (u+1) (.mk k a b mi ma p nl kids) =
  (nwB l b (u+1)&&!nwB l b u&&(bif chB l a u then true else bgB l a u&&decide (rnB l a u+1<=mi))):=by
 rw[atR,h,Lu];simp only;rw[aoR l a hm u,apw];have e0:=PI (Xg l (u:Int)) b;simp only[nwB];rw[<-PJ,<-e0];by_cases hb:Zy (Xg l (u:Int)) a=Zy (Xg l ((u+1:Nat):Int)) a
 ·rw[hb,beq_self_eq_true,cond_true,ama,cond_false];generalize (decide (0<runN l a u)&&decide (((u+1-runN l a u:Nat):Int)+1<=mi))=z
  cases WR (Xg l ((u+1:Nat):Int)) b <;> cases WR (Xg l (u:Int)) b <;> cases z <;> rfl
 ·rw[beq_eq_false_iff_ne.2 hb,beq_eq_false_iff_ne.2 (fun e=>hb e.symm),cond_false,amp,cond_true]
  cases WR (Xg l ((u+1:Nat):Int)) b <;> cases WR (Xg l (u:Int)) b <;> rfl
theorem am6 (h:ZF k=.Uf):atR l (u+1) (.mk k a b mi ma p nl kids)=low l b (runN l a u) (u+1-runN l a u) (chB l a u&&!nwB l a (u+1)&&bgB l a u):=by
 rw[atR,h];simp only;unfold Tl WI;rw[apt,show u+1-1=u by omega]
 cases chB l a u&&!nwB l a (u+1) with
 |false=>simp only[amp,cond_true,amq,Qv]
 |true=>simp only[ama,cond_false,al9]
theorem apy (h:ZF k=.enter):atR l (u+1) (.mk k a b mi ma p nl kids)=(yW (Xg l ((u+1:Nat):Int)) 0 p&&!yW (Xg l (u:Int)) 0 p):=by rw[atR,h,Lu]
theorem amJ (t:Nat)(h:ZF k=.QG)(h1:kids.length=1):atR l t (.mk k a b mi ma p nl kids)=!kids.any (atR l t):=by
 rw[atR,h]
 cases kids with
 |nil=>simp at h1
 |cons c r =>
  cases r with
  |nil=>simp[pY]
  |cons _ _=>simp at h1
theorem amK (t:Nat)(h:ZF k=.EU):atR l t (.mk k a b mi ma p nl kids)=kids.all (atR l t):=by
 rw[atR,h];simp only[vf];simp
theorem amL (t:Nat)(h:ZF k=.OV)(h1:kids≠[]):atR l t (.mk k a b mi ma p nl kids)=kids.any (atR l t):=by
 rw[atR,h];simp only[vf,bj]
 cases kids with
 |nil=>exact absurd rfl h1
 |cons c r =>
  simp only[List.all_cons,List.any_cons]
  cases atR l t c <;> simp
end
end Go.Am
