/- A part of the proof of a statement of this seat: the machine on which the program is read, and what it computes; for every input. -/
import Derived.Test.YtkmaeondbkpajaaGreatDoorN00
set_option linter.all false
namespace Go.Am
open Go
section
variable [Stat]
variable {X:Cx}{P:Program}
theorem En (hX:Full X P)(hD:Hr X P){ex:Ex}(hE:O6 X P ex):O6 X P (Yc X ex):=by
 intro c e s out e' s' h r n0 a w σ Yv I
 cases c with
 |loop b =>
  simp only[Yc] at h;have Ch:∀a':Act,a'.tmps.size=a.tmps.size->xK X r a'.tmps.size b:=fun a' rF=>by
   obtain⟨n,h1,h2,h3⟩:=Yv;exact⟨n,by rw[rF];exact h1,by simpa[Lu] using h2,fun h=>by simpa[SK] using h3 h⟩
  have adZ:∀a':Act,a'.tmps.size=a.tmps.size->xK X r a'.tmps.size (.loop b):=fun a' rF=>by rw[rF];exact Yv
  show SA (FW r) 0 P b _ a w;refine Es ?_
  split at h
  ·rename_i e1 s1 h1;refine wpIn_mono (hE _ _ _ _ _ _ h1 r n0 a w σ (Ch a rfl) I).wpIn ?_;rintro en a1 w1 ⟨hx,LH,g1,i1,Ur⟩
   cases en <;> simp only[Tg] at hx
   have:=hE _ _ _ _ _ _ h r n0 a1 w1 LH (adZ a1 Ur) i1;have h2:SA (FW r) 0 P b (ZV X LH s1 w1 n0 a1 out e' s') a1 w1:=this;show SA (FW r) 0 P b _ a1 w1;intro b' k cs rU hb hr;obtain⟨e2,a2,w2,⟨fW,iq⟩,QP⟩:=h2 b' k cs rU hb hr;exact⟨e2,a2,w2,⟨fW,iq.trans g1 Ur⟩,QP⟩
  ·rename_i ZQ;refine wpIn_mono (hE _ _ _ _ _ _ h r n0 a w σ (Ch a rfl) I).wpIn ?_;rintro en a1 w1 ⟨hx,hA⟩
   cases out with
   |norm=>exact absurd h (ZQ _ _)
   |exit i=>cases en <;> simp only[Tg] at hx;exact⟨hx,hA⟩
   |ret=>cases en <;> simp only[Tg] at hx;exact⟨hx,hA⟩
 |skip =>
  simp only[Yc] at h;cases h;exact wpIn_skip ⟨trivial,TN.refl I⟩
 |label l =>
  simp only[Yc] at h;cases h;exact wpIn_label ⟨trivial,TN.refl I⟩
 |exit i =>
  simp only[Yc] at h;cases h;exact wpIn_exit ⟨rfl,TN.refl I⟩
 |ret =>
  simp only[Yc] at h;cases h;exact wpIn_ret ⟨trivial,TN.refl I⟩
 |region id ops d =>
  have F5:∀o∈ops.toList,MC a.tmps.size o.dst:=by
   obtain⟨n,h1,h2,_⟩:=Yv;simp only[Lu,aab,ae9] at h2;intro o ho t ht;have:=h2.1 o ho;rw[ht] at this;simp only[decide_eq_true_eq] at this;exact Nat.lt_of_lt_of_le this h1
  simp only[Yc] at h
  cases d with
  |false =>
   simp only[ae1,if_false] at h
   split at h
   ·rename_i e1 s1 h1
    cases h
    show Code.wpIn _ _ _ _ _ _ _;refine wpIn_region ?_;rw[List.range_eq_range'];exact Pv hX hE ops.size 0 e s a w σ (by omega) (by simpa using h1) F5 I fun a' w' hA=>⟨trivial,hA⟩
   ·cases h
  |true =>
   simp only[if_true] at h
   split at h
   ·rename_i e1 s1 h1
    cases h
    show Code.wpIn _ _ _ _ _ _ _;refine wpIn_region_draw fun t=>?_
    obtain⟨n,_,h2,_⟩:=Yv;simp only[Lu,aab,Bool.not_true,afV] at h2;have I':Inv X σ s { w with drawn:=w.drawn+1 } n0 e a:=⟨I.hr.of_heap rfl,I.fresh,I.glob,I.env,I.df,I.n0⟩;have ad0:Region.schedule (P.follows .mixedOrders) ops t=Region.linearise .any ops t:=by
     unfold Region.schedule;rw[hX.mixed];simp
    rw[ad0];refine hD ex hE r ops e _ s _ a _ σ n0 t _ h1 h2.2 F5 I' ?_;rintro a' w' ⟨Y',g,i',hs⟩;refine⟨trivial,Y',?_,i',hs⟩;exact Good.w_ (w:=w) g
   ·cases h
 |seq x y =>
  have aaQ:xK X r a.tmps.size x:=by
   obtain⟨n,h1,h2,h3⟩:=Yv;simp only[Lu,aab] at h2;exact⟨n,h1,h2.1,fun h=>by have:=h3 h;simp only[SK,aab] at this;exact this.1⟩
  have ad1:∀m,m=a.tmps.size->xK X r m y:=by
   rintro m rfl;obtain⟨n,h1,h2,h3⟩:=Yv;simp only[Lu,aab] at h2;exact⟨n,h1,h2.2,fun h=>by have:=h3 h;simp only[SK,aab] at this;exact this.2⟩
  simp only[Yc] at h;show Code.wpIn _ _ _ _ _ _ _;refine wpIn_seq ?_
  split at h
  ·rename_i e1 s1 h1;refine wpIn_mono (hE _ _ _ _ _ _ h1 r n0 a w σ aaQ I).wpIn ?_;rintro en a1 w1 ⟨hx,LH,g1,i1,Ur⟩
   cases en <;> simp only[Tg] at hx
   refine wpIn_mono (hE _ _ _ _ _ _ h r n0 a1 w1 LH (ad1 _ Ur) i1).wpIn ?_;rintro en2 a2 w2 ⟨fW,iq⟩;exact⟨fW,iq.trans g1 Ur⟩
  ·rename_i ZQ;refine wpIn_mono (hE _ _ _ _ _ _ h r n0 a w σ aaQ I).wpIn ?_;rintro en a1 w1 ⟨hx,hA⟩
   cases out with
   |norm=>exact absurd h (ZQ _ _)
   |exit i=>cases en <;> simp only[Tg] at hx;exact⟨hx,hA⟩
   |ret=>cases en <;> simp only[Tg] at hx;exact⟨hx,hA⟩
 |cond c x y =>
  have aaR:xK X r a.tmps.size x/\xK X r a.tmps.size y:=by
   obtain⟨n,h1,h2,h3⟩:=Yv;simp only[Lu,aab] at h2;exact⟨⟨n,h1,h2.1,fun h=>by have:=h3 h;simp only[SK,aab] at this;exact this.1⟩,
    ⟨n,h1,h2.2,fun h=>by have:=h3 h;simp only[SK,aab] at this;exact this.2⟩⟩
  simp only[Yc] at h;show Code.wpIn _ _ _ _ _ _ _
  split at h
  ·rename_i hc;have:=X7 (VO I.glob I.env hc);exact wpIn_cond_true (by rw[Vc];exact this) (hE _ _ _ _ _ _ h r n0 a w σ aaR.1 I).wpIn
  ·rename_i hc;have:=X7 (VO I.glob I.env hc);exact wpIn_cond_false (by rw[Vc];exact this) (hE _ _ _ _ _ _ h r n0 a w σ aaR.2 I).wpIn
  ·cases h
 |block id b =>
  have Ch:xK X r a.tmps.size b:=by
   obtain⟨n,h1,h2,h3⟩:=Yv;exact⟨n,h1,by simpa[Lu] using h2,fun h=>by simpa[SK] using h3 h⟩
  simp only[Yc] at h;show Code.wpIn _ _ _ _ _ _ _;refine wpIn_block ?_
  split at h
  ·rename_i i e1 s1 h1;refine wpIn_mono (hE _ _ _ _ _ _ h1 r n0 a w σ Ch I).wpIn ?_;rintro en a1 w1 ⟨hx,hA⟩
   cases en <;> simp only[Tg] at hx
   subst hx
   split at h
   ·rename_i oJ
    cases h
    simp only[Exit.inBlock,oJ,if_true];exact⟨trivial,hA⟩
   ·rename_i oJ
    cases h
    simp only[Exit.inBlock,oJ,if_false];exact⟨rfl,hA⟩
  ·rename_i ZQ;refine wpIn_mono (hE _ _ _ _ _ _ h r n0 a w σ Ch I).wpIn ?_;rintro en a1 w1 ⟨hx,hA⟩
   cases out with
   |norm=>cases en <;> simp only[Tg] at hx;exact⟨trivial,hA⟩
   |exit i=>exact absurd h (ZQ _ _ _)
   |ret=>cases en <;> simp only[Tg] at hx;exact⟨trivial,hA⟩
 |scope b =>
  have Ch:xK X r a.tmps.size b:=by
   obtain⟨n,h1,h2,h3⟩:=Yv;exact⟨n,h1,by simpa[Lu] using h2,fun h=>by simpa[SK] using h3 h⟩
  simp only[Yc] at h;show Code.wpIn _ _ _ _ _ _ _;refine Ci (wpIn_mono (hE _ _ _ _ _ _ h r n0 a w σ Ch I).wpIn ?_);rintro en a1 w1 ⟨hx,hA⟩
  cases en with
  |goto l=>cases out <;> simp only[Tg] at hx
  |_=>exact⟨hx,hA⟩
 |rangeFunc g ps assign body =>
  show Code.wpIn _ _ _ _ _ _ _
  cases r with
  |none=>exact LN hX hE h I Yv
  |some l =>
   obtain⟨n,_,_,h3⟩:=Yv;have:=h3 rfl;simp[SK] at this
 |_=>simp only[Yc] at h;cases h
theorem JO (hX:Full X P)(hD:Hr X P):∀n,O6 X P (exec X n)
 |0=>by intro c e s out e' s' h;simp[exec] at h
 |n+1=>En hX hD (JO hX hD n)
theorem zW (hX:Full X P)(hD:Hr X P){n:Nat}{f:FuncId}(OZ:X.ext f=none){args:List AV}{s s':St}{v:AV}(h:run X n f args s=some (v,s')){σ:Sg}{w:World}{us:Array Value}
  (H:HR σ s w)(F:Va σ s)(G:XX X σ)(hv:Z5 σ args us.toList):Calls P f us w fun en w'=>∃u Y',en=.returned u/\Z6 Y' v u/\Good σ s w Y' s' w' :=
 (QT hX (JO hX hD n) OZ h H F G hv).2
end
end Go.Am
namespace Go.Am
open Go
section
variable [Stat]
variable {X:Cx}
theorem Xa {v:Option AV}{r:AV}(h:v=some r)(t:St):ZA v t=some (r,t):=by subst h;rfl
def IC (X:Cx)(ex:Ex)(e:Env)(o:Op):Prop:=∀s v s',Zb X ex e o s=some (v,s')->s'=s/\∀t,Zb X ex e o t=some (v,t)
theorem Ng (f:Operand)(args:Array Operand)(Qf:Array TypeId)(k:Gn)(h1:k≠.q)(h2:k≠.w):cls X (.call { callee:=.value f,args:=args,argTypes:=Qf })≠k:=by
 intro h
 cases f <;> simp only[cls] at h <;> first
  |exact h2 h.symm
  |(split at h <;> first|exact h1 h.symm|exact h2 h.symm)
theorem IB {ex:Ex}{e:Env}{o:Op}(f:Option AV)(h:∀s,Zb X ex e o s=ZA f s):IC X ex e o:=by
 intro s v s' hs;rw[h] at hs;obtain⟨h1,rfl⟩:=ZE hs;exact⟨rfl,fun t=>by rw[h];exact Xa h1 t⟩
theorem xe {ex:Ex}{e:Env}{o:Op}(hc:cls X o=.p):IC X ex e o:=by
 cases o <;> simp only[cls] at hc <;> try (cases hc;done)
 case move x=>exact IB _ fun s=>rfl
 case assign x=>exact IB _ fun s=>rfl
 case pick c a b =>
  intro s v s' h;simp only[Zb] at h ⊢
  split at h
  ·obtain⟨h1,rfl⟩:=ZE h;exact⟨rfl,fun t=>Xa h1 t⟩
  ·obtain⟨h1,rfl⟩:=ZE h;exact⟨rfl,fun t=>Xa h1 t⟩
  ·cases h
 case build t ps =>
  intro s v s' h;simp only[Zb] at h ⊢
  split at h
  ·obtain⟨h1,rfl⟩:=ZE h;exact⟨rfl,fun t=>Xa h1 t⟩
  ·cases h
 case nilCheck x =>
  intro s v s' h;simp only[Zb] at h ⊢
  split at h <;> first|(cases h;exact⟨rfl,fun _=>rfl⟩)|cases h
 case binOp op t x y yt =>
  intro s v s' h;simp only[Zb] at h ⊢
  split at h
  ·obtain⟨h1,rfl⟩:=ZE h;exact⟨rfl,fun t=>Xa h1 t⟩
  ·cases h
 case unOp op t x =>
  intro s v s' h;simp only[Zb] at h ⊢
  split at h
  ·obtain⟨h1,rfl⟩:=ZE h;exact⟨rfl,fun t=>Xa h1 t⟩
  ·cases h
 case convert src dst x =>
  intro s v s' h;simp only[Zb] at h ⊢
  split at h
  ·rename_i a ha;unfold T9 at h ⊢
   split at h
   ·cases h;exact⟨rfl,fun _=>rfl⟩
   ·cases h;exact⟨rfl,fun _=>rfl⟩
   ·cases h;exact⟨rfl,fun _=>rfl⟩
   ·rename_i d1 e' b _ h1 h2;rw[h1,h2] at hc
    cases e' <;> cases hc
   ·rename_i e' h1 h2 _ _;rw[h1,h2] at hc
    cases hc
   ·cases h
  ·cases h
 case makeInterface t x =>
  intro s v s' h;simp only[Zb] at h ⊢
  split at h
  ·split at h
   ·cases h
   ·cases h;exact⟨rfl,fun _=>rfl⟩
   ·cases h
  ·cases h
 case makeFunc f a b =>
  intro s v s' h;simp only[Zb] at h ⊢
  split at h
  ·split at h
   ·cases h;exact⟨rfl,fun _=>rfl⟩
   ·cases h
  ·cases h
 case slice t x lo hi mx =>
  intro s v s' h;simp only[Zb] at h ⊢
  split at h
  ·obtain⟨h1,rfl⟩:=ZE h;exact⟨rfl,fun t=>Xa h1 t⟩
  ·cases h
 case fieldAddr t x f =>
  intro s v s' h;simp only[Zb] at h ⊢
  split at h
  ·obtain⟨h1,rfl⟩:=ZE h;exact⟨rfl,fun t=>Xa h1 t⟩
  ·cases h
 case field t x f =>
  intro s v s' h;simp only[Zb] at h ⊢
  split at h
  ·split at h
   ·obtain⟨h1,rfl⟩:=ZE h;exact⟨rfl,fun t=>Xa h1 t⟩
   ·cases h
  ·cases h
 case indexAddr t x i =>
  intro s v s' h;simp only[Zb] at h ⊢
  split at h
  ·obtain⟨h1,rfl⟩:=ZE h;exact⟨rfl,fun t=>Xa h1 t⟩
  ·cases h
 case index t x i =>
  intro s v s' h;simp only[Zb] at h ⊢
  split at h
  ·obtain⟨h1,rfl⟩:=ZE h;exact⟨rfl,fun t=>Xa h1 t⟩
  ·cases h
 case extract t i =>
  intro s v s' h;simp only[Zb] at h ⊢
  split at h
  ·obtain⟨h1,rfl⟩:=ZE h;exact⟨rfl,fun t=>Xa h1 t⟩
  ·cases h
 case call c =>
  obtain⟨callee,args,Qf⟩:=c
  cases callee with
  |value f=>exact absurd hc (Ng (X:=X) f args Qf .p (by simp) (by simp))
  |invoke _ _=>cases hc
  |builtin b =>
  simp only at hc;intro s v s' h;simp only[Zb] at h ⊢
  split at h
  ·rename_i vs Uy
   cases b <;> simp only at hc <;> try (cases hc;done)
   all_goals
    unfold YT at h ⊢
    split at h <;> first
     |(cases h;done)
     |(rename_i heq;cases heq;done)
     |skip
   all_goals
    split at h <;> first
     |(cases h;exact⟨rfl,fun _=>rfl⟩)
     |(cases h;done)
     |skip
  ·cases h
theorem xd {ex:Ex}{e:Env}{o:Op}(hc:cls X o=.r){s s':St}{v:AV}(h:Zb X ex e o s=some (v,s')):s'=s:=by
 cases o <;> simp only[cls] at hc <;> try (cases hc;done)
 case convert src dst x =>
  simp only[Zb] at h
  split at h
  ·rename_i a ha
   cases h1:X.Zt src with
   |none=>unfold T9 at h;rw[h1] at h;simp at h
   |some d1 =>
    cases h2:X.Zt dst with
    |none=>rw[h1,h2] at hc;cases d1 <;> simp at hc
    |some d2 =>
     rw[h1,h2] at hc;unfold T9 at h;rw[h1,h2] at h
     cases d1 <;> cases d2 <;> simp at hc
     cases a <;> (try simp only at h) <;> first
      |(cases h;rfl)
      |(split at h <;> first
        |(cases h;done)
        |(cases h;rfl)
        |(split at h <;> first
          |(cases h;done)
          |(cases h;rfl)
          |(split at h <;> first
            |(cases h;done)
            |(split at h <;> first
              |(cases h;done)
              |(cases h;rfl)))))
  ·cases h
 case load t a =>
  simp only[Zb] at h
  split at h
  ·exact (ZE h).2
  ·cases h
 case lookup t m k ok =>
  simp only[Zb] at h
  split at h
  ·exact (ZE h).2
  ·cases h
 case call c =>
  obtain⟨callee,args,Qf⟩:=c
  cases callee with
  |value f=>exact absurd hc (Ng (X:=X) f args Qf .r (by simp) (by simp))
  |invoke _ _=>cases hc
  |builtin b =>
  simp only at hc;simp only[Zb] at h
  split at h
  ·rename_i vs Uy
   cases b <;> simp only at hc <;> try (cases hc;done)
   unfold YT at h
   split at h <;> first
    |(rename_i heq;cases heq;done)
    |skip
   ·split at h
    ·split at h <;> first
      |(cases h;rfl)
      |(split at h <;> first|(cases h;rfl)|(cases h;done))
      |(cases h;done)
    ·cases h
   ·cases h
  ·cases h
theorem xh {ex:Ex}{e:Env}{o:Op}(hc:cls X o=.a){s s':St}{v:AV}(h:Zb X ex e o s=some (v,s')) :
  ∃b,b≠.gone/\s'=s.new b/\∀t:St,t.next=s.next->Zb X ex e o t=some (v,t.new b):=by
 cases o <;> simp only[cls] at hc <;> try (cases hc;done)
 case convert src dst x =>
  simp only[Zb] at h ⊢
  split at h
  ·rename_i a ha
   cases h1:X.Zt src with
   |none=>unfold T9 at h;rw[h1] at h;simp at h
   |some d1 =>
    cases h2:X.Zt dst with
    |none=>rw[h1,h2] at hc;cases d1 <;> simp at hc
    |some d2 =>
     rw[h1,h2] at hc;unfold T9 at h ⊢;rw[h1,h2] at h ⊢
     cases d2 <;> first|(cases d1 <;> simp at hc <;> done)|skip
     rename_i el
     cases a <;> first|(cases d1 <;> cases h <;> done)|skip
     rename_i b;simp only at h ⊢
     split at h
     ·cases h
      exact⟨_,by simp,rfl,fun t ht=>by rw[ht]⟩
     ·cases h
  ·cases h
 case alloc t =>
  simp only[Zb] at h ⊢
  split at h
  ·cases h
   exact⟨_,by simp,rfl,fun t ht=>by simp only[W_,ht]⟩
  ·cases h
 case box t x =>
  simp only[Zb] at h ⊢
  split at h
  ·cases h
   exact⟨_,by simp,rfl,fun t ht=>by simp only[W_,ht]⟩
  ·cases h
 case buildSlice t n ps =>
  simp only[Zb] at h ⊢
  split at h
  ·unfold Wb at h ⊢
   split at h
   ·split at h
    ·split at h
     ·rename_i kU
      split at h
      ·cases h
       exact⟨_,by simp,rfl,fun t ht=>by simp only[if_pos kU,ht]⟩
      ·cases h
     ·cases h
    ·cases h
   ·cases h
  ·cases h
 case makeMap t r =>
  simp only[Zb] at h ⊢
  split at h
  ·cases h
   exact⟨_,by simp,rfl,fun t ht=>by simp only[ht]⟩
  ·split at h
   ·cases h
    exact⟨_,by simp,rfl,fun t ht=>by simp only[ht]⟩
   ·cases h
 case makeSlice t l c =>
  simp only[Zb] at h ⊢
  split at h
  ·split at h
   ·split at h
    ·rename_i kU
     cases h
     exact⟨_,by simp,rfl,fun t ht=>by simp only[if_pos kU,ht]⟩
    ·cases h
   ·cases h
  ·cases h
 case call c =>
  obtain⟨callee,args,Qf⟩:=c
  cases callee with
  |value f=>exact absurd hc (Ng (X:=X) f args Qf .a (by simp) (by simp))
  |invoke _ _=>cases hc
  |builtin b =>
  simp only at hc
  cases b <;> simp only at hc <;> cases hc
theorem K0 {ex:Ex}{e:Env}{o:Op}(hc:cls X o=.q){s s':St}{v:AV}(h:Zb X ex e o s=some (v,s')) :
  s'=s/\∃c vs us,o=.call c/\Mu X e c=some vs/\Yb X s vs=some us/\∀t,Yb X t vs=some us->Zb X ex e o t=some (v,t):=by
 cases o <;> try (simp only[cls] at hc;done)
 case call c =>
  obtain⟨callee,args,Qf⟩:=c
  cases callee with
  |invoke _ _=>simp only[cls] at hc;cases hc
  |builtin b=>cases b <;> simp only[cls] at hc <;> cases hc
  |value f =>
   have key:∀fv vs,eval X e f=some fv->WR X e args.toList=some vs->Rn X fv=true->OE X ex fv vs s=some (v,s')->(∀t r,OE X ex fv vs t=some r->Zb X ex e (.call { callee:=.value f,args:=args,argTypes:=Qf }) t=some r) ->
     s'=s/\∃c vs us,Op.call { callee:=.value f,args:=args,argTypes:=Qf }=.call c/\Mu X e c=some vs/\Yb X s vs=some us/\∀t,Yb X t vs=some us->Zb X ex e (.call { callee:=.value f,args:=args,argTypes:=Qf }) t=some (v,t):=by
    intro fv vs hf Uy hp hv hb;unfold Rn at hp
    split at hp
    ·rename_i g first cap
     simp only[aab,afK] at hp;have hq:Mu X e { callee:=.value f,args:=args,argTypes:=Qf }=some (first++vs++cap):=by
      simp only[Mu,hf,Uy,Ha]
     simp only[OE,Wa,hp.2,hp.1,if_true] at hv hb;unfold Rm at hv
     split at hv
     ·rename_i us PS
      split at hv
      ·rename_i v1 fW
       cases hv
       refine⟨rfl,_,_,us,rfl,hq,PS,fun t ht=>hb t _ ?_⟩;simp only[Rm,ht,fW]
      ·cases hv
     ·cases hv
    ·cases hp
   cases f <;> try (simp only[cls] at hc;cases hc;done)
   ·rename_i x;simp only[cls] at hc
    split at hc
    ·rename_i hg;simp only[Zb,To,xN,hg,afU] at h
     split at h
     ·rename_i fv vs hf Uy
      split at h
      ·cases h
      ·rename_i hn;simp only[afw,Bool.not_eq_false] at hn;refine key fv vs hf Uy hn h fun t r ht=>?_
       simp only[Zb,hf,Uy,To,xN,hg,hn,Bool.not_true,Bool.and_false,ae1,if_false];exact ht
     ·cases h
    ·cases hc
   ·rename_i g;simp only[cls] at hc
    split at hc
    ·rename_i hg;simp only[Zb,To,xN,Bool.false_and,ae1,if_false] at h
     split at h
     ·rename_i fv vs hf Uy;have Fy:fv=.fn (.func g) [] []:=by cases hf;rfl
      refine key fv vs hf Uy (by rw[Fy];exact hg) h fun t r ht=>?_
      simp only[Zb,hf,Uy,To,xN,Bool.false_and,ae1,if_false];exact ht
     ·cases h
    ·cases hc
 all_goals
  exfalso;simp only[cls] at hc
  first
   |(cases hc;done)
   |(split at hc <;> cases hc)
theorem eval_congr {e e':Env}{x:Operand}(h:∀t,x=.tmp t->Env.get e t=Env.get e' t):eval X e x=eval X e' x:=by
 cases x <;> simp only[eval]
 rw[h _ rfl]
theorem U3 {e e':Env}:∀{l:List Operand},(∀t,Operand.tmp t∈l->Env.get e t=Env.get e' t)->WR X e l=WR X e' l
 |[],_=>rfl
 |x::l,h=>by
  simp only[WR];rw[eval_congr (fun t ht=>h t (by rw[ht];exact aeZ ..)),U3 (fun t ht=>h t (abc _ ht))]
theorem UN {e e':Env}:∀{l:List (Nat×Operand)},(∀t,Operand.tmp t∈l.map (·.2)->Env.get e t=Env.get e' t)->XD X e l=XD X e' l
 |[],_=>rfl
 |(i,x)::l,h=>by
  simp only[XD];rw[eval_congr (fun t ht=>h t (by rw[ht];exact aeZ ..)),UN (fun t ht=>h t (abc _ ht))]
theorem Rl {e e':Env}{x:Option Operand}(h:∀t,x=some (.tmp t)->Env.get e t=Env.get e' t):Rk X e x=Rk X e' x:=by
 cases x with
 |none=>rfl
 |some x=>simp only[Rk];rw[eval_congr (fun t ht=>h t (by rw[ht]))]
theorem zY {ex:Ex}{e e':Env}{o:Op}{s:St}(h:∀t,Operand.tmp t∈o.operands.toList->Env.get e t=Env.get e' t):Zb X ex e o s=Zb X ex e' o s:=by
 cases o <;> simp only[Zb] <;> simp only[Op.operands] at h
 case pick c a b =>
  have h1:=eval_congr (X:=X) (e:=e) (e':=e') (x:=c) (fun t ht=>h t (by simp[ht]));have h2:=eval_congr (X:=X) (e:=e) (e':=e') (x:=a) (fun t ht=>h t (by simp[ht]));have h3:=eval_congr (X:=X) (e:=e) (e':=e') (x:=b) (fun t ht=>h t (by simp[ht]));rw[h1,h2,h3]
 case build t ps =>
  have h1:=UN (X:=X) (e:=e) (e':=e') (l:=ps.toList) (fun t ht=>h t (by simpa using ht));rw[h1]
 case buildSlice t n ps =>
  have h1:=UN (X:=X) (e:=e) (e':=e') (l:=ps.toList) (fun t ht=>h t (by simpa using ht));rw[h1]
 case makeFunc f a b =>
  have h1:=U3 (X:=X) (e:=e) (e':=e') (l:=a.toList) (fun t ht=>h t (by simp;exact .inl (by simpa using ht)));have h2:=U3 (X:=X) (e:=e) (e':=e') (l:=b.toList) (fun t ht=>h t (by simp;exact .inr (by simpa using ht)));rw[h1,h2]
 case makeMap t r =>
  cases r with
  |none=>rfl
  |some x =>
   have h1:=eval_congr (X:=X) (e:=e) (e':=e') (x:=x) (fun t ht=>h t (by simp[ht]));simp only[h1]
 case slice t x lo hi mx =>
  have h1:=eval_congr (X:=X) (e:=e) (e':=e') (x:=x) (fun t ht=>h t (by simp[ht]));have h2:=Rl (X:=X) (e:=e) (e':=e') (x:=lo) (fun t ht=>h t (by simp[ht]));have h3:=Rl (X:=X) (e:=e) (e':=e') (x:=hi) (fun t ht=>h t (by simp[ht]));have h4:=Rl (X:=X) (e:=e) (e':=e') (x:=mx) (fun t ht=>h t (by simp[ht]));rw[h1,h2,h3,h4]
 case call c =>
  obtain⟨callee,args,Qf⟩:=c;simp only[Call.operands] at h
  cases callee with
  |builtin b =>
   have h1:=U3 (X:=X) (e:=e) (e':=e') (l:=args.toList) (fun t ht=>h t (by simpa using ht));simp only[h1]
  |value f =>
   have h1:=U3 (X:=X) (e:=e) (e':=e') (l:=args.toList) (fun t ht=>h t (by simp;exact .inr (by simpa using ht)));have h2:=eval_congr (X:=X) (e:=e) (e':=e') (x:=f) (fun t ht=>h t (by simp[ht]));simp only[h1,h2]
  |invoke r m=>rfl
 case next it str =>
  cases str with
  |false=>rfl
  |true =>
   have h1:=eval_congr (X:=X) (e:=e) (e':=e') (x:=it) (fun t ht=>h t (by simp[ht]));simp only[Zb,h1]
 case move x =>
  have h0:=eval_congr (X:=X) (e:=e) (e':=e') (x:=x) (fun t ht=>h t (by simp[ht]));rw[h0]
 case assign x =>
  have h0:=eval_congr (X:=X) (e:=e) (e':=e') (x:=x) (fun t ht=>h t (by simp[ht]));rw[h0]
 case box t x =>
  have h0:=eval_congr (X:=X) (e:=e) (e':=e') (x:=x) (fun t ht=>h t (by simp[ht]));rw[h0]
 case load t x =>
  have h0:=eval_congr (X:=X) (e:=e) (e':=e') (x:=x) (fun t ht=>h t (by simp[ht]));rw[h0]
 case nilCheck x =>
  have h0:=eval_congr (X:=X) (e:=e) (e':=e') (x:=x) (fun t ht=>h t (by simp[ht]));rw[h0]
 case unOp op t x =>
  have h0:=eval_congr (X:=X) (e:=e) (e':=e') (x:=x) (fun t ht=>h t (by simp[ht]));rw[h0]
 case convert a b x =>
  have h0:=eval_congr (X:=X) (e:=e) (e':=e') (x:=x) (fun t ht=>h t (by simp[ht]));rw[h0]
 case makeInterface t x =>
  have h0:=eval_congr (X:=X) (e:=e) (e':=e') (x:=x) (fun t ht=>h t (by simp[ht]));rw[h0]
 case fieldAddr t x f =>
  have h0:=eval_congr (X:=X) (e:=e) (e':=e') (x:=x) (fun t ht=>h t (by simp[ht]));rw[h0]
 case field t x f =>
  have h0:=eval_congr (X:=X) (e:=e) (e':=e') (x:=x) (fun t ht=>h t (by simp[ht]));rw[h0]
 case range t x =>
  have h0:=eval_congr (X:=X) (e:=e) (e':=e') (x:=x) (fun t ht=>h t (by simp[ht]));rw[h0]
 case extract x i =>
  have h0:=eval_congr (X:=X) (e:=e) (e':=e') (x:=x) (fun t ht=>h t (by simp[ht]));rw[h0]
 case store t a x =>
  have h0:=eval_congr (X:=X) (e:=e) (e':=e') (x:=a) (fun t ht=>h t (by simp[ht]));have h1:=eval_congr (X:=X) (e:=e) (e':=e') (x:=x) (fun t ht=>h t (by simp[ht]));rw[h0,h1]
 case binOp op t x y yt =>
  have h0:=eval_congr (X:=X) (e:=e) (e':=e') (x:=x) (fun t ht=>h t (by simp[ht]));have h1:=eval_congr (X:=X) (e:=e) (e':=e') (x:=y) (fun t ht=>h t (by simp[ht]));rw[h0,h1]
 case makeSlice t l c =>
  have h0:=eval_congr (X:=X) (e:=e) (e':=e') (x:=l) (fun t ht=>h t (by simp[ht]));have h1:=eval_congr (X:=X) (e:=e) (e':=e') (x:=c) (fun t ht=>h t (by simp[ht]));rw[h0,h1]
 case indexAddr t x i =>
  have h0:=eval_congr (X:=X) (e:=e) (e':=e') (x:=x) (fun t ht=>h t (by simp[ht]));have h1:=eval_congr (X:=X) (e:=e) (e':=e') (x:=i) (fun t ht=>h t (by simp[ht]));rw[h0,h1]
 case index t x i =>
  have h0:=eval_congr (X:=X) (e:=e) (e':=e') (x:=x) (fun t ht=>h t (by simp[ht]));have h1:=eval_congr (X:=X) (e:=e) (e':=e') (x:=i) (fun t ht=>h t (by simp[ht]));rw[h0,h1]
 case lookup t m k ok =>
  have h0:=eval_congr (X:=X) (e:=e) (e':=e') (x:=m) (fun t ht=>h t (by simp[ht]));have h1:=eval_congr (X:=X) (e:=e) (e':=e') (x:=k) (fun t ht=>h t (by simp[ht]));rw[h0,h1]
 case mapUpdate t m k v =>
  have h0:=eval_congr (X:=X) (e:=e) (e':=e') (x:=m) (fun t ht=>h t (by simp[ht]));have h1:=eval_congr (X:=X) (e:=e) (e':=e') (x:=k) (fun t ht=>h t (by simp[ht]));have h2:=eval_congr (X:=X) (e:=e) (e':=e') (x:=v) (fun t ht=>h t (by simp[ht]));rw[h0,h1,h2]
 case insert t m k v =>
  have h0:=eval_congr (X:=X) (e:=e) (e':=e') (x:=m) (fun t ht=>h t (by simp[ht]));have h1:=eval_congr (X:=X) (e:=e) (e':=e') (x:=k) (fun t ht=>h t (by simp[ht]));have h2:=eval_congr (X:=X) (e:=e) (e':=e') (x:=v) (fun t ht=>h t (by simp[ht]));rw[h0,h1,h2]
end
end Go.Am
namespace Go.Am
open Go
section
variable [Stat]
theorem Sd (s:St)(i:Nat)(b:UK)(h:s.look i=some b):b≠.gone:=by
 unfold St.look at h
 split at h
 ·cases h
 ·rename_i ZQ;intro e;subst e;exact ZQ h
def QX (f:Nat->Option UK)(n:Nat):St:={ t:=.nil,base:=f,next:=n }
theorem QW {f:Nat->Option UK}{n i:Nat}(h:∀b,f i=some b->b≠.gone):(QX f n).look i=f i:=by
 unfold St.look St.get QX;simp only[Tr.get_nil]
 cases hf:f i with
 |none=>rfl
 |some b =>
  have:=h b hf
  cases b <;> first|rfl|exact absurd rfl this
theorem HR.sub {σ:Sg}{T R:St}{w:World}(H:HR σ T w)(h:∀i p b,σ i=some p->R.look i=some b->T.look i=some b):HR σ R w :=
 ⟨H.lt,fun i p b hp hb=>H.JA i p b hp (h i p b hp hb),fun i j p q b c hp hq hb hc he=>H.inj i j p q b c hp hq (h i p b hp hb) (h j q c hq hc) he,fun c o hc=>⟨(H.fz c o hc).1,fun ⟨i,p,b,h1,h2,h3,h4⟩=>(H.fz c o hc).2 ⟨i,p,b,h1,h i p b h1 h2,h3,h4⟩⟩⟩
structure GD (Wg:Sg)(s0:St)(w0:World)(σ:Sg)(T:St)(w:World):Prop where
 hr:HR σ T w
 ext:Ext Wg s0 w0 σ T w
 Tv:∀i,i<s0.next->σ i=Wg i
 next:s0.next<=T.next
 fresh:Va σ T
 dead:∀i,i<s0.next->s0.look i=none->T.look i=none
 news:∀i p,σ i=some p->Wg i=none->w0.heap.size<=p.b\/SO Wg s0 p.b
open Classical in
noncomputable def mix (σ:Sg)(T R R':St):St :=
 QX (fun i=>if i<R.next/\(σ i=none\/R.look i=none) then T.look i else R'.look i) R'.next
theorem J' (σ:Sg)(T R R':St):(mix σ T R R').next=R'.next:=rfl
open Classical in
theorem SC (σ:Sg)(T R R':St)(i:Nat):(mix σ T R R').look i=if i<R.next/\(σ i=none\/R.look i=none) then T.look i else R'.look i:=by
 unfold mix;rw[QW];intro b hb
 split at hb <;> exact Sd _ _ _ hb
theorem frame {Wg σ Y':Sg}{s0 T R R':St}{w0 w w':World}(g:GD Wg s0 w0 σ T w)(WH:∀i p b,σ i=some p->R.look i=some b->T.look i=some b)(hn:R.next=T.next)(k:Good σ R w Y' R' w') :
  GD Wg s0 w0 Y' (mix σ T R R') w':=by
 have PN:∀i p b,σ i=some p->T.look i=some b->R.look i=none->¬SO σ R p.b:=by
  rintro i p b hp hb hr ⟨j,q,c,hq,hc,_,he⟩;have:=g.hr.inj j i q p c b hq hp (WH j q c hq hc) hb he;subst this;rw[hr] at hc;cases hc
 have UQ:∀c,SO σ R c->SO σ T c:=fun c ⟨j,q,b,hq,hb,ho,he⟩=>⟨j,q,b,hq,WH j q b hq hb,ho,he⟩
 have MZ:∀i,σ i=none\/i<R.next:=fun i=>by
  by_cases h:i<R.next
  ·exact .inr h
  ·exact .inl (g.fresh i (by omega))
 have J_:∀i p b,Y' i=some p->(mix σ T R R').look i=some b->(σ i=some p/\T.look i=some b/\R.look i=none)\/(R'.look i=some b/\(σ i=none\/∃c,R.look i=some c)):=by
  intro i p b hp hb;rw[SC] at hb
  split at hb
  ·rename_i hc;rcases hc.2 with h|h
   ·have:=k.Tv i (.inl hc.1);rw[h] at this;rw[this] at hp;cases hp
   ·have:=k.Tv i (.inl hc.1);rw[this] at hp;exact .inl ⟨hp,hb,h⟩
  ·rename_i hc;refine .inr ⟨hb,?_⟩;rcases MZ i with h|h
   ·exact .inl h
   ·cases hr:R.look i with
    |none=>exact absurd ⟨h,.inr hr⟩ hc
    |some c=>exact .inr ⟨c,rfl⟩
 have le:∀i p,σ i=some p->Y' i=some p:=k.ext.le.p;have old:∀i p q,σ i=some p->Y' i=some q->p=q:=fun i p q h1 h2=>by rw[le i p h1] at h2;exact Option.some.inj h2
 refine⟨⟨k.hr.lt,?_,?_,?_⟩,?_,?_,?_,?_,?_,?_⟩
 ·
  intro i p b hp hb;rcases J_ i p b hp hb with⟨h1,h2,h3⟩|⟨h1,_⟩
  ·obtain⟨o,ho,D0⟩:=g.hr.JA i p b h1 h2;refine⟨o,?_,D0.mono k.ext.le⟩;rw[k.ext.keep p.b (g.hr.lt i p h1) (PN i p b h1 h2 h3)];exact ho
  ·exact k.hr.JA i p b hp h1
 ·
  intro i j p q b c hp hq hb hc he;have key:∀i j p q b c,σ i=some p->T.look i=some b->R.look i=none->Y' j=some q->(σ j=none\/∃c,R.look j=some c)->R'.look j=some c->p.b=q.b->False:=by
   intro i j p q b c h1 h2 h3 h4 h5 h6 he
   cases hj:σ j with
   |some q' =>
    have:=old j q' q hj h4;subst this;rcases h5 with h5|⟨c0,h5⟩
    ·rw[h5] at hj;cases hj
    ·have:=g.hr.inj i j p q' b c0 h1 hj h2 (WH j q' c0 hj h5) he;subst this;rw[h3] at h5;cases h5
   |none =>
    rcases k.news j q h4 hj with h7|h7
    ·have:=g.hr.lt i p h1;omega
    ·rw[<-he] at h7;exact PN i p b h1 h2 h3 h7
  rcases J_ i p b hp hb with⟨h1,h2,h3⟩|⟨h1,h2⟩ <;> rcases J_ j q c hq hc with⟨k1,k2,k3⟩|⟨k1,k2⟩
  ·exact g.hr.inj i j p q b c h1 k1 h2 k2 he
  ·exact (key i j p q b c h1 h2 h3 hq k2 k1 he).elim
  ·exact (key j i q p c b k1 k2 k3 hp h2 h1 he.symm).elim
  ·exact k.hr.inj i j p q b c hp hq h1 k1 he
 ·
  intro c o hc;refine⟨(k.hr.fz c o hc).1,?_⟩;rintro⟨i,p,b,hp,hb,ho,rfl⟩;rcases J_ i p b hp hb with⟨h1,h2,_⟩|⟨h1,_⟩
  ·rcases k.ext.By _ o hc with h3|h3
   ·exact (g.hr.fz _ o h3).2 ⟨i,p,b,h1,h2,ho,rfl⟩
   ·have:=g.hr.lt i p h1;omega
  ·exact (k.hr.fz _ o hc).2 ⟨i,p,b,hp,h1,ho,rfl⟩
 ·
  refine g.ext.trans ⟨k.ext.le,k.ext.By,k.ext.size,fun c hc TL=>k.ext.keep c hc (fun h=>TL (UQ c h)),?_,k.ext.os,k.ext.tape,k.ext.output⟩;rintro c hc ⟨i,p,b,hp,hb,ho,he⟩;rcases J_ i p b hp hb with⟨h1,h2,_⟩|⟨h1,_⟩
  ·exact⟨i,p,b,h1,h2,ho,he⟩
  ·exact UQ c (k.ext.owns c hc ⟨i,p,b,hp,h1,ho,he⟩)
 ·intro i hi;rw[k.Tv i (.inl (by have:=g.next;omega)),g.Tv i hi]
 ·rw[J'];have:=g.next;have:=k.next;omega
 ·intro i hi;rw[J'] at hi;have h1:=k.next;rw[k.Tv i (.inr hi)];exact g.fresh i (by omega)
 ·intro i hi hl;have hT:=g.dead i hi hl;rw[SC]
  split
  ·exact hT
  ·rename_i hc;have Zm:i<R.next:=by have:=g.next;omega
   cases hs:σ i with
   |none=>exact absurd ⟨Zm,.inl hs⟩ hc
   |some p =>
    cases hr:R.look i with
    |none=>exact absurd ⟨Zm,.inr hr⟩ hc
    |some b=>rw[WH i p b hs hr] at hT;cases hT
 ·intro i p hp K1
  cases hs:σ i with
  |none =>
   rcases k.news i p hp hs with h|h
   ·exact .inl (afG g.ext.size h)
   ·by_cases hb:p.b<w0.heap.size
    ·exact .inr (g.ext.owns _ hb (UQ _ h))
    ·exact .inl (by omega)
  |some q =>
   have:=old i q p hs hp;subst this;exact g.news i q hs K1
theorem GD.VI {Wg σ Y':Sg}{s0 T:St}{w0 w w':World}(g:GD Wg s0 w0 σ T w){id:Nat}{b:UK}(hb:b≠.gone)(h1:s0.next<=id)(h2:id<T.next)(k:Good σ { T with next:=id } w Y' (St.new { T with next:=id } b) w') :
  GD Wg s0 w0 Y' (QX (fun i=>if i=id then some b else T.look i) T.next) w':=by
 have hl:∀i,(St.new { T with next:=id } b).look i=(QX (fun i=>if i=id then some b else T.look i) T.next).look i:=by
  intro i;rw[St.Wx _ _ _ hb,QW]
  ·by_cases h:i=id
   ·subst h;simp
   ·rw[if_neg h,if_neg (fun e=>h e.symm)];rfl
  ·intro c hc
   split at hc
   ·cases hc;exact hb
   ·exact Sd _ _ _ hc
 have hT:∀i,St.look { T with next:=id } i=T.look i:=fun i=>rfl
 have hO:∀c,SO σ { T with next:=id } c<->SO σ T c:=fun c=>Iff.rfl
 have hk:=k.hr.congr hl;have hoe:∀c,SO Y' (QX (fun i=>if i=id then some b else T.look i) T.next) c->SO Y' (St.new { T with next:=id } b) c:=fun c ⟨i,p,d,e1,e2,e3,e4⟩=>⟨i,p,d,e1,by rw[hl];exact e2,e3,e4⟩
 have kn:(St.new { T with next:=id } b).next=id+1:=rfl;refine⟨hk,g.ext.trans ⟨k.ext.le,k.ext.By,k.ext.size,fun c hc TL=>k.ext.keep c hc TL,fun c hc ho=>k.ext.owns c hc (hoe c ho),k.ext.os,k.ext.tape,k.ext.output⟩,?_,g.next,?_,?_,?_⟩
 ·intro i hi;rw[k.Tv i (.inl (show i<id by omega)),g.Tv i hi]
 ·intro i hi;have hi:T.next<=i:=hi;rw[k.Tv i (.inr (by rw[kn];omega))];exact g.fresh i hi
 ·intro i hi kg;rw[<-hl,St.Wx _ _ _ hb,if_neg (by show ¬id=i;omega)];exact g.dead i hi kg
 ·intro i p hp K1
  cases hs:σ i with
  |none =>
   rcases k.news i p hp hs with h|h
   ·exact .inl (afG g.ext.size h)
   ·by_cases hb:p.b<w0.heap.size
    ·exact .inr (g.ext.owns _ hb h)
    ·exact .inl (by omega)
  |some q =>
   have:=k.ext.le.p i q hs;rw[hp] at this;cases this;exact g.news i _ hs K1
theorem GD.good {Wg σ:Sg}{s0 T S:St}{w0 w:World}(g:GD Wg s0 w0 σ T w)(h:∀i p,σ i=some p->T.look i=S.look i)(hd:∀i,i<s0.next->s0.look i=none->S.look i=none)(hn:S.next=T.next)(hb:S.base=s0.base)(hf:Va Wg s0):Good Wg s0 w0 σ S w where
 hr:=g.hr.sub fun i p b hp hb=>by rw[h i p hp];exact hb
 ext:=⟨g.ext.le,g.ext.By,g.ext.size,g.ext.keep,fun c hc ⟨i,p,b,h1,h2,h3,h4⟩=>g.ext.owns c hc ⟨i,p,b,h1,by rw[h i p h1];exact h2,h3,h4⟩,g.ext.os,g.ext.tape,g.ext.output⟩
 Tv:=fun i hi=>by
  rcases hi with hi|hi
  ·exact g.Tv i hi
  ·rw[g.fresh i (by omega),hf i (by have:=g.next;omega)]
 next:=by rw[hn];exact g.next
 dead:=hd
 news:=g.news
 glob:=hb
end
end Go.Am
namespace Go.Am
open Go
def QK (c:Nat->Nat)(es:List Edge)(s0:Nat):Nat:=es.foldl (fun s e=>if Region.binds .any e then s ||| 2^e.on ||| c e.on else s) s0
theorem NG (c:Nat->Nat):∀(es:List Edge) (s0 i:Nat),(QK c es s0).testBit i=true->s0.testBit i=true\/∃e∈es,Region.binds .any e=true/\(i=e.on\/(c e.on).testBit i=true)
 |[],s0,i,h=>.inl h
 |e::es,s0,i,h=>by
  unfold QK at h;rw[List.foldl_cons] at h;rcases NG c es _ i h with h1|⟨e',hm,hb,hr⟩
  ·by_cases hb:Region.binds .any e=true
   ·rw[if_pos hb] at h1;simp only[Nat.testBit_or,afY] at h1;rcases h1 with (h1|h1)|h1
    ·exact .inl h1
    ·rw[Nat.testBit_two_pow] at h1;exact .inr ⟨e,aeZ ..,hb,.inl (by simpa using h1:e.on=i).symm⟩
    ·exact .inr ⟨e,aeZ ..,hb,.inr h1⟩
   ·rw[if_neg hb] at h1;exact .inl h1
  ·exact .inr ⟨e',abc _ hm,hb,hr⟩
def Qi (acc:Array Nat)(o:Oper):Array Nat:=acc.push (QK (fun k=>acc.getD k 0) o.after.toList 0)
def NF (l:List Oper):Array Nat:=l.foldl Qi #[]
theorem xX (ops:Array Oper):Region.before ops=NF ops.toList:=by
 unfold Region.before NF;rw[<-Array.foldl_toList]
 congr 1
 funext acc o
 unfold Qi QK;rw[<-Array.foldl_toList]
theorem MH (l:List Oper)(o:Oper):NF (l++[o])=Qi (NF l) o:=by
 unfold NF;rw[List.foldl_append];rfl
theorem sK {α:Type}{p:List α->Prop}(h0:p [])(h1:∀l x,p l->p (l++[x]))(l:List α):p l:=by
 have:∀r:List α,p r.reverse:=by
  intro r
  induction r with
  |nil=>exact h0
  |cons x r ih=>rw[List.reverse_cons];exact h1 _ _ ih
 have:=this l.reverse
 rwa [List.reverse_reverse] at this
theorem HW (l:List Oper):(NF l).size=l.length:=by
 induction l using sK with
 |h0=>rfl
 |h1 l x ih=>rw[MH];simp[Qi,ih]
theorem sJ (l:List Oper):∀(j i:Nat),((NF l).getD j 0).testBit i=true->∃o,l[j]? = some o/\∃e∈o.after.toList,Region.binds .any e=true/\(i=e.on\/(e.on<j/\((NF l).getD e.on 0).testBit i=true)):=by
 induction l using sK with
 |h0=>intro j i h;simp[NF] at h
 |h1 l x ih =>
  intro j i h;have WU:=HW l;have Ue:∀k,k<l.length->(NF (l++[x])).getD k 0=(NF l).getD k 0:=by
   intro k hk;rw[MH];unfold Qi;simp only[afk];rw[afB,if_neg (by omega)]
  rcases Nat.lt_trichotomy j l.length with hj|hj|hj
  ·rw[Ue j hj] at h;obtain⟨o,h1,e,h2,h3,h4⟩:=ih j i h;refine⟨o,by rw[afo hj];exact h1,e,h2,h3,?_⟩;rcases h4 with h4|⟨h4,h5⟩
   ·exact .inl h4
   ·exact .inr ⟨h4,by rw[Ue _ (by omega)];exact h5⟩
  ·subst hj;have hv:(NF (l++[x])).getD l.length 0=QK (fun k=>(NF l).getD k 0) x.after.toList 0:=by
    rw[MH];unfold Qi;simp only[afk];rw[afB,if_pos WU.symm];rfl
   rw[hv] at h;rcases NG _ _ _ _ h with h1|⟨e,h1,h2,h3⟩
   ·simp at h1
   ·refine⟨x,by simp,e,h1,h2,?_⟩;rcases h3 with h3|h3
    ·exact .inl h3
    ·have Zm:e.on<l.length:=by
      rw[<-WU];refine Nat.lt_of_not_le fun SY=>?_
      simp only[afk] at h3;rw[Array.getElem?_eq_none SY] at h3;simp at h3
     exact .inr ⟨Zm,by rw[Ue _ Zm];exact h3⟩
  ·have:(NF (l++[x])).getD j 0=0:=by
    simp only[afk];rw[Array.getElem?_eq_none (by rw[HW];simp;omega)];rfl
   rw[this] at h;simp at h
theorem Eh {ops:Array Oper}{i j:Nat}(h:Yu ops i j=true):∃o,ops[j]? = some o/\∃e∈o.after.toList,Region.binds .any e=true/\(i=e.on\/(e.on<j/\Yu ops i e.on=true)):=by
 unfold Yu at h ⊢;rw[xX] at h ⊢;obtain⟨o,h1,h2⟩:=sJ _ _ _ h;exact⟨o,by simpa using h1,h2⟩
def DJ (ops:Array Oper)(D:Nat->Bool):Prop:=∀j o,D j=true->ops[j]? = some o->∀e∈o.after.toList,Region.binds .any e=true->D e.on=true
theorem JM {ops:Array Oper}{D:Nat->Bool}(hD:DJ ops D):∀(j i:Nat),(D j=true\/∀o,ops[j]? = some o->∀e∈o.after.toList,Region.binds .any e=true->D e.on=true)->Yu ops i j=true->D i=true:=by
 intro j
 induction j using Nat.strongRecOn with
 |_ j ih =>
  intro i hj h;obtain⟨o,ho,e,he,hb,hr⟩:=Eh h;have hde:D e.on=true:=by
   rcases hj with hj|hj
   ·exact hD j o hj ho e he hb
   ·exact hj o ho e he hb
  rcases hr with rfl|⟨h1,h2⟩
  ·exact hde
  ·exact ih _ h1 i (.inl hde) h2
def left (D:Nat->Bool):Nat->Nat
 |0=>0
 |n+1=>left D n+(if D n then 0 else 1)
theorem IU {D:Nat->Bool}:∀{n:Nat},left D n=0->∀i,i<n->D i=true
 |0,_,i,hi=>by omega
 |n+1,h,i,hi=>by
  simp only[left] at h;by_cases e:i=n
  ·subst e;by_cases hd:D i=true
   ·exact hd
   ·rw[if_neg hd] at h;omega
  ·exact IU (n:=n) (by omega) i (by omega)
theorem HU {D D':Nat->Bool}:∀{n:Nat},(∀i,i<n->D' i=D i)->left D' n=left D n
 |0,_=>rfl
 |n+1,h=>by simp only[left];rw[HU fun i hi=>h i (by omega),h n (by omega)]
theorem F3 {D D':Nat->Bool}{j:Nat}(hj:D j=false)(rX:D' j=true)(h:∀i,i≠j->D' i=D i):∀{n:Nat},j<n->left D' n+1=left D n
 |0,hn=>by omega
 |n+1,hn=>by
  simp only[left];by_cases e:j=n
  ·subst e;rw[HU fun i hi=>h i (by omega),hj,rX];simp
  ·have:=F3 hj rX h (n:=n) (by omega);rw[h n (fun e'=>e e'.symm)];omega
mutual
theorem Kk:∀{a b:AV},same a b=true->a=b
 |a,b,h=>by
  cases a <;> cases b <;> simp only[same,aab,beq_iff_eq,decide_eq_true_eq,ae1] at h <;> try (cases h;done)
  all_goals first
   |rfl
   |(subst h;rfl)
   |(obtain⟨rfl,rfl⟩:=h;rfl)
   |(obtain⟨⟨⟨⟨rfl,rfl⟩,rfl⟩,rfl⟩,rfl⟩:=h;rfl)
   |(obtain⟨⟨rfl,h1⟩,h2⟩:=h;rw[V_ h1,V_ h2])
   |(obtain⟨rfl,h1⟩:=h;rw[Kk h1])
   |(obtain⟨rfl,h1⟩:=h;rw[V_ h1])
   |(obtain⟨h1,h2⟩:=h;rw[V_ h1,V_ h2])
   |rw[V_ h]
theorem V_:∀{a b:List AV},XQ a b=true->a=b
 |[],[],_=>rfl
 |[],_::_,h=>by simp[XQ] at h
 |_::_,[],h=>by simp[XQ] at h
 |a::x,b::y,h=>by
  simp only[XQ,aab] at h;rw[Kk h.1,V_ h.2]
end
end Go.Am
namespace Go.Am
open Go
section
variable [Stat]
variable {X:Cx}{ex:Ex}{ops:Array Oper}{base:Nat}
theorem WN {i:Nat}{o:Oper}{e e':Env}{s s':St}(h:UG X ex ops base i o e s=some (e',s')) :
  (YE ops e o=false/\e'=Y8 e o.dst undef/\s'=s) \/
  (YE ops e o=true/\∃v,e'=Y8 e o.dst v/\(((cls X o.op).G8=true/\∃s1,Zb X ex e o.op { s with next:=base+i }=some (v,s1)/\s'={ s1 with next:=s.next }) \/
   ((cls X o.op).G8=false/\Zb X ex e o.op s=some (v,s')))):=by
 unfold UG at h
 split at h
 ·rename_i hw;refine .inr ⟨hw,?_⟩
  split at h
  ·rename_i hc
   split at h
   ·rename_i v s1 h1
    cases h
    exact⟨v,rfl,.inl ⟨by rw[hc];rfl,s1,h1,rfl⟩⟩
   ·cases h
  ·rename_i hc
   split at h
   ·rename_i v s1 h1
    cases h
    refine⟨v,rfl,.inr ⟨?_,h1⟩⟩
    cases hk:cls X o.op <;> first|rfl|exact absurd hk hc
   ·cases h
 ·rename_i hw
  cases h
  exact .inl ⟨by simpa using hw,rfl,rfl⟩
def kA (X:Cx)(ops:Array Oper)(i:Nat):Prop:=∃o,ops[i]? = some o/\cls X o.op=.a
def kW (X:Cx)(ops:Array Oper)(i:Nat):Prop:=∃o,ops[i]? = some o/\cls X o.op=.w/\late X ops i=false
def kS (X:Cx)(ops:Array Oper)(i:Nat):Prop:=late X ops i=true
def lb (X:Cx)(ops:Array Oper)(E:Nat->Env)(i:Nat):Option Nat:=match ops[i]? with|some o=>Vn X (E i) o.op|none=>none
theorem WS {X:Cx}{ops:Array Oper}{i:Nat}(h:kS X ops i):∃o,ops[i]? = some o/\Vm o.op=true/\o.guard=none/\cls X o.op=.w/\∀k ok,k≠i->ops[k]? = some ok->Yu ops k i=true\/late X ops k=true\/cls X ok.op=.p\/cls X ok.op=.a:=by
 unfold kS late at h;simp only[aab] at h;obtain⟨h1,h2⟩:=h
 split at h2
 ·rename_i o ho;have h3:=h1;unfold Qr at h3;simp only[aab,ae9] at h3;have hs:∀(l:List Oper) (j k:Nat) (o':Oper),l[k]? = some o'->Vm o'.op=true->j+k∈zz j l:=by
   intro l
   induction l with
   |nil=>intro j k o' hk;simp at hk
   |cons x l ih =>
    intro j k o' hk Xg;unfold zz
    cases k with
    |zero=>simp at hk;subst hk;simp[Xg]
    |succ k =>
     have:=ih (j+1) k o' (by simpa using hk) Xg;rw[show j+(k+1)=j+1+k by omega]
     split
     ·exact abc _ this
     ·exact this
  have h4:=h3.2 i (by simpa using hs ops.toList 0 i o (by simpa using ho) h2);unfold v9 at h4;rw[ho] at h4;simp only[aab,ae9,afY,beq_iff_eq,afh,afK] at h4;obtain⟨⟨_,h5⟩,h6⟩:=h4;refine⟨o,ho,h2,h5,?_,fun k ok hk Yv=>?_⟩
  ·cases D3:o.op <;> rw[D3] at h2 <;> simp only[Vm] at h2 <;> first|rfl|cases h2
  ·have:=h6 k (adm.1 Yv).1;rw[Yv] at this;rcases this with (h7|h7)|h7
   ·exact absurd h7 hk
   ·exact .inl h7
   ·rcases Bool.or_eq_true_iff.1 h7 with h8|h8
    ·refine .inr (.inl ?_);unfold late;rw[h1,Yv];simpa using h8
    ·cases hc:cls X ok.op <;> rw[hc] at h8 <;> simp at h8 <;> simp
 ·cases h2
theorem O1 {X:Cx}{ops:Array Oper}{i:Nat}(h:kW X ops i):¬kS X ops i:=fun k=>by
 obtain⟨_,_,_,h3⟩:=h;rw[show late X ops i=true from k] at h3;cases h3
theorem Cd {X:Cx}{ex:Ex}{e:Env}{o:Op}(hs:Vm o=true){b:Nat}(hb:Vn X e o=some b){s s':St}{v:AV}(h:Zb X ex e o s=some (v,s')) :
  ∃k k',s.look b=some k/\k'≠.gone/\s'=s.put b k'/\∀t:St,t.get b=s.get b->Zb X ex e o t=some (v,t.put b k'):=by
 cases o <;> simp only[Vm] at hs <;> try (cases hs;done)
 rename_i t a x;simp only[Vn] at hb
 split at hb
 ·rename_i b' o' ha
  cases hb
  simp only[Zb,ha] at h ⊢
  split at h
  ·rename_i a1 v1 h1 hv
   cases h1
   obtain⟨h2,rfl⟩:=Sc h;unfold PF at h2;simp only at h2
   split at h2
   ·rename_i n hn
    split at h2
    ·rename_i hlen;subst hlen;unfold Yi at h2
     split at h2
     ·rename_i c e RA Ss hg
      split at h2
      ·rename_i hc
       split at h2
       ·rename_i c' hl
        cases h2
        refine⟨_,.cells c' e false RA Ss,St.YO hg (by simp),by simp,rfl,fun t ht=>?_⟩;simp only[PF,hn,if_true,Yi,ht,hg,hc,hl,Ro]
       ·cases h2
      ·cases h2
     ·cases h2
    ·cases h2
   ·cases h2
  ·cases h
 ·cases hb
theorem Yl {c:Gn}:c.G8=true<->c=.a:=by cases c <;> simp[Gn.G8]
theorem Tz {c:Gn}:c.zA=true<->c=.w:=by cases c <;> simp[Gn.zA]
theorem Ei {i:Nat}{o:Oper}{e e':Env}{s s':St}(h:UG X ex ops base i o e s=some (e',s'))(hw:cls X o.op≠.w) :
  s'.next=s.next/\s'.base=s.base/\∀id,(cls X o.op=.a->id≠base+i)->s'.look id=s.look id:=by
 rcases WN h with⟨_,_,rfl⟩|⟨_,v,_,⟨hc,s1,h1,rfl⟩|⟨hc,h1⟩⟩
 ·exact⟨rfl,rfl,fun _ _=>rfl⟩
 ·have hc:=Yl.1 hc;obtain⟨b,hb,rfl,_⟩:=xh hc h1;refine⟨rfl,rfl,fun id oJ=>?_⟩;have ZQ:=oJ hc;show (St.new { s with next:=base+i } b).look id=_;rw[St.Wx _ _ _ hb,if_neg (fun e=>ZQ e.symm)];rfl
 ·cases hk:cls X o.op with
  |a=>rw[hk] at hc;cases hc
  |w=>exact absurd hk hw
  |p=>obtain⟨rfl,_⟩:=xe hk _ _ _ h1;exact⟨rfl,rfl,fun _ _=>rfl⟩
  |r=>obtain rfl:=xd hk h1;exact⟨rfl,rfl,fun _ _=>rfl⟩
  |q=>obtain⟨rfl,_⟩:=K0 hk h1;exact⟨rfl,rfl,fun _ _=>rfl⟩
theorem Na {e:Env}{d:Option Tmp}{v:AV}{t:Tmp}(h:d≠some t):Env.get (Y8 e d v) t=Env.get e t:=by
 cases d with
 |none=>rfl
 |some d =>
  show Env.get (Tr.set e d v) t=_;rw[Env.Ux,if_neg (fun e=>h (by rw[e]))]
theorem Mf {e:Env}{t:Tmp}{v:AV}:Env.get (Y8 e (some t) v) t=v:=by
 show Env.get (Tr.set e t v) t=_;rw[Env.Ux,if_pos rfl]
structure Jt (X:Cx)(ex:Ex)(ops:Array Oper)(base:Nat)(E:Nat->Env)(S:Nat->St):Prop where
 step:∀i o,ops[i]? = some o->UG X ex ops base i o (E i) (S i)=some (E (i+1),S (i+1))
variable {E:Nat->Env}{S:Nat->St}
theorem Jt.tj (h:Jt X ex ops base E S){i:Nat}{o:Oper}(ho:ops[i]? = some o):∃v,E (i+1)=Y8 (E i) o.dst v:=by
 rcases WN (h.step i o ho) with⟨_,h1,_⟩|⟨_,v,h1,_⟩
 ·exact⟨_,h1⟩
 ·exact⟨_,h1⟩
theorem Jt.Ki (h:Jt X ex ops base E S)(t:Tmp)(a:Nat):∀d,(∀i o,a<=i->i<a+d->ops[i]? = some o->o.dst≠some t)->a+d<=ops.size->Env.get (E (a+d)) t=Env.get (E a) t
 |0,_,_=>rfl
 |d+1,hn,hs=>by
  have hi:a+d<ops.size:=by omega
  obtain⟨v,hv⟩:=h.tj (afp hi);rw[show a+(d+1)=a+d+1 from rfl,hv,Na (hn _ _ (by omega) (by omega) (afp hi))];exact h.Ki t a d (fun i o h1 h2 h3=>hn i o h1 (by omega) h3) (by omega)
structure Hu (X:Cx)(ops:Array Oper)(base:Nat)(E:Nat->Env):Prop where
 some:∀i,kS X ops i->∃b,lb X ops E i=some b/\(b<base\/base+ops.size<=b)
 ne:∀i j,kS X ops i->kS X ops j->i≠j->lb X ops E i≠lb X ops E j
theorem Jt.Nt (h:Jt X ex ops base E S){i:Nat}{o:Oper}(ho:ops[i]? = some o)(hk:kS X ops i){b:Nat}(hb:lb X ops E i=some b) :
  ∃k k' v,(S i).look b=some k/\k'≠.gone/\S (i+1)=(S i).put b k'/\E (i+1)=Y8 (E i) o.dst v/\∀t:St,t.get b=(S i).get b->Zb X ex (E i) o.op t=some (v,t.put b k'):=by
 obtain⟨o',Xk,hs,hg,hc,_⟩:=WS hk;rw[ho] at Xk;cases Xk;have UF:Vn X (E i) o.op=some b:=by unfold lb at hb;rw[ho] at hb;exact hb
 rcases WN (h.step i o ho) with⟨h1,_⟩|⟨_,v,h2,⟨FX,_⟩|⟨_,h3⟩⟩
 ·simp[YE,hg] at h1
 ·rw[hc] at FX;cases FX
 ·obtain⟨k,k',h4,h5,h6,h7⟩:=Cd hs UF h3;exact⟨k,k',v,h4,h5,h6,h2,h7⟩
theorem Jt.between (h:Jt X ex ops base E S)(hL:Hu X ops base E)(m:Nat):∀d,m+d<=ops.size->(∀i,m<=i->i<m+d->¬kW X ops i) ->
  (S (m+d)).next=(S m).next/\(S (m+d)).base=(S m).base /\
   (∀id,(∀i,m<=i->i<m+d->kA X ops i->id≠base+i)->(∀i,m<=i->i<m+d->kS X ops i->lb X ops E i≠some id)->(S (m+d)).look id=(S m).look id) /\
   (∀i,m<=i->i<m+d->kA X ops i->(S (m+d)).look (base+i)=(S (i+1)).look (base+i)) /\
   ∀i b,m<=i->i<m+d->kS X ops i->lb X ops E i=some b->(S (m+d)).look b=(S (i+1)).look b
 |0,_,_=>⟨rfl,rfl,fun _ _ _=>rfl,fun i h1 h2=>by omega,fun i b h1 h2=>by omega⟩
 |d+1,hs,hw=>by
  have hi:m+d<ops.size:=by omega
  have ho:=afp hi;obtain⟨k1,k2,k3,k4,k5⟩:=h.between hL m d (by omega) (fun i a b=>hw i a (by omega));rw[show m+(d+1)=m+d+1 from rfl];by_cases hk:kS X ops (m+d)
  ·obtain⟨b,hb,GF⟩:=hL.some _ hk;obtain⟨k,k',v,g1,g2,g3,_,_⟩:=h.Nt ho hk hb;have UI:∀id,id≠b->(S (m+d+1)).look id=(S (m+d)).look id:=fun id ZQ=>by
    rw[g3,St.Ye,if_neg (fun e=>ZQ e.symm)]
   refine⟨by rw[g3,<-k1];rfl,by rw[g3,<-k2];rfl,fun id h1 h2=>?_,fun i a c ha=>?_,fun i b' a c Hc UF=>?_⟩
   ·rw[UI id (fun e=>h2 (m+d) (by omega) (by omega) hk (by rw[hb,e]))];exact k3 id (fun i a c=>h1 i a (by omega)) (fun i a c=>h2 i a (by omega))
   ·by_cases e:i=m+d
    ·subst e;rfl
    ·rw[UI _ (by omega)];exact k4 i a (by omega) ha
   ·by_cases e:i=m+d
    ·subst e;rfl
    ·rw[UI _ (fun e'=>hL.ne i (m+d) Hc hk e (by rw[UF,hb,e']))];exact k5 i b' a (by omega) Hc UF
  ·obtain⟨g1,g2,g3⟩:=Ei (h.step _ _ ho) (fun hc=>hw (m+d) (by omega) (by omega) ⟨_,ho,hc,by
    cases hl:late X ops (m+d) with
    |false=>rfl
    |true=>exact absurd hl hk⟩)
   refine⟨by rw[g1,k1],by rw[g2,k2],fun id h1 h2=>?_,fun i a c ha=>?_,fun i b' a c Hc UF=>?_⟩
   ·rw[g3 id (fun hc=>h1 _ (by omega) (by omega) ⟨_,ho,hc⟩)];exact k3 id (fun i a c=>h1 i a (by omega)) (fun i a c=>h2 i a (by omega))
   ·by_cases e:i=m+d
    ·subst e;rfl
    ·rw[g3 _ (fun _=>by omega)];exact k4 i a (by omega) ha
   ·have ZQ:i≠m+d:=fun e=>hk (e ▸ Hc)
    obtain⟨b2,TG,GF⟩:=hL.some _ Hc;rw[UF] at TG;cases TG;rw[g3 _ (fun _=>by omega)];exact k5 i b' a (by omega) Hc UF
theorem Q' {x y:Oper}(h:G7 ops x y=true) :
  (∀d,x.dst=some d->d∉P_ ops y)/\(∀d,x.dst=some d->y.dst≠some d)/\(∀d,y.dst=some d->d∉P_ ops x):=by
 refine⟨fun d hd=>?_,fun d hd=>?_,fun d hd=>?_⟩ <;> simp[G7,hd] at h
 ·exact h.1.1
 ·exact h.1.2
 ·exact h.2
structure Ok (X:Cx)(ops:Array Oper):Prop where
 edge:∀(j:Nat) o,ops[j]? = some o->∀e∈o.after.toList,Region.binds .any e=true->e.on<j
 pair:∀(i j:Nat) oi oj,i<j->ops[i]? = some oi->ops[j]? = some oj->Yu ops i j=true \/
  (G7 ops oi oj=true/\¬(kA X ops i/\kW X ops j)/\¬(kW X ops i/\kW X ops j)/\¬(kS X ops i/\kW X ops j)/\¬(kW X ops i/\kS X ops j))
theorem DH (h:nu X ops=true):Ok X ops:=by
 unfold nu at h;rw[ae9] at h;refine⟨fun j o ho e he hb=>?_,fun i j oi oj Ul hi hj=>?_⟩
 ·have Zm:=(adm.1 ho).1;have:=h j (afh.2 Zm);rw[ho] at this;simp only[aab,ae9] at this;have:=this.1.1 e he;rw[hb] at this
  simpa using this
 ·have Zm:=(adm.1 hj).1;have:=h j (afh.2 Zm);rw[hj] at this;simp only[aab,ae9] at this;have:=this.2 i (afh.2 Ul);rw[hi] at this;simp only[v7,afY,aab] at this;rcases this with h1|⟨h1,h2⟩
  ·exact .inl h1
  ·have cw:∀{k ok},ops[k]? = some ok->kW X ops k->cls X ok.op=.w/\late X ops k=false:=fun ho ⟨o',Xk,hc,hl⟩=>by rw[ho] at Xk;cases Xk;exact⟨hc,hl⟩
   have cs:∀{k ok},ops[k]? = some ok->kS X ops k->cls X ok.op=.w/\late X ops k=true:=fun ho hk=>by
    obtain⟨o',Xk,_,_,hc,_⟩:=WS hk;rw[ho] at Xk;cases Xk;exact⟨hc,hk⟩
   have ca:∀{k ok},ops[k]? = some ok->kA X ops k->cls X ok.op=.a:=fun ho ⟨o',Xk,hc⟩=>by rw[ho] at Xk;cases Xk;exact hc
   refine .inr ⟨h1,fun ⟨a,b⟩=>?_,fun ⟨a,b⟩=>?_,fun ⟨a,b⟩=>?_,fun ⟨a,b⟩=>?_⟩
   ·rw[ca hi a,(cw hj b).1] at h2;simp only[(cw hj b).2] at h2;cases h2
   ·rw[(cw hi a).1,(cw hj b).1] at h2;simp only[(cw hi a).2] at h2;cases h2
   ·rw[(cs hi a).1,(cw hj b).1] at h2;simp only[(cw hj b).2,Bool.and_false] at h2;cases h2
   ·rw[(cw hi a).1,(cs hj b).1] at h2;simp only[(cw hi a).2,Bool.false_and] at h2;cases h2
theorem Ok.Ud (h:Ok X ops):∀(j i:Nat),Yu ops i j=true->i<j:=by
 intro j
 induction j using Nat.strongRecOn with
 |_ j ih =>
  intro i hb;obtain⟨o,ho,e,he,kX,hr⟩:=Eh hb;have:=h.edge j o ho e he kX;rcases hr with rfl|⟨h1,h2⟩
  ·exact this
  ·exact Nat.lt_trans (ih _ h1 i h2) h1
structure HI (X:Cx)(ops:Array Oper)(E:Nat->Env)(S:Nat->St)(Wg:Sg)(s0:St)(w0:World)(D:Nat->Bool)(m:Nat)(σ:Sg)(T:St)(w:World):Prop where
 gd:GD Wg s0 w0 σ T w
 mN:m<=ops.size
 Jr:∀i,kW X ops i->(D i=true<->i<m)
 mw:m=0\/∃j,m=j+1/\kW X ops j
 t1:∀id,σ id≠none->(∀i,m<=i->D i=true->kA X ops i->id≠s0.next+i)->(∀i,D i=true->kS X ops i->lb X ops E i≠some id)->T.look id=(S m).look id
 t2:∀i,m<=i->D i=true->kA X ops i->σ (s0.next+i)≠none->T.look (s0.next+i)=(S (i+1)).look (s0.next+i)
 t3:T.next=(S m).next
 t4:∀i b,D i=true->kS X ops i->lb X ops E i=some b->σ b≠none->T.look b=(S (i+1)).look b
 u:∀i,kA X ops i->D i=false->σ (s0.next+i)=none
 IS:∀i,i<s0.next->s0.look i=none->(S m).look i=none
 F2:(S m).base=s0.base
 H7:s0.next+ops.size<=(S m).next
structure Ht (ops:Array Oper)(D:Nat->Bool)(j:Nat)(o:Oper):Prop where
 closed:DJ ops D
 op:ops[j]? = some o
 no:D j=false
 deps:∀e∈o.after.toList,Region.binds .any e=true->D e.on=true
theorem Ht.Yu {D:Nat->Bool}{j:Nat}{o:Oper}(h:Ht ops D j o){i:Nat}(hb:Yu ops i j=true):D i=true :=
 JM h.closed j i (.inr fun o' Xk=>by rw[h.op] at Xk;cases Xk;exact h.deps) hb
theorem Ht.Nq {D:Nat->Bool}{j:Nat}{o:Oper}(h:Ht ops D j o){i:Nat}(hi:D i=true):Am.Yu ops j i=false:=by
 cases hb:Am.Yu ops j i with
 |false=>rfl
 |true =>
  have:=JM h.closed i j (.inl hi) hb;rw[h.no] at this;cases this
variable {Wg:Sg}{s0:St}{w0:World}{D D':Nat->Bool}{m:Nat}{σ Y':Sg}{T:St}{w w':World}
def Adds (D D':Nat->Bool)(j:Nat):Prop:=D' j=true/\∀i,i≠j->D' i=D i
theorem Adds.of {D D':Nat->Bool}{j:Nat}(h:Adds D D' j){i:Nat}(hi:D' i=true):i=j\/D i=true:=by
 by_cases e:i=j
 ·exact .inl e
 ·rw[h.2 i e] at hi;exact .inr hi
theorem Adds.false {D D':Nat->Bool}{j:Nat}(h:Adds D D' j){i:Nat}(hi:D' i=false):D i=false:=by
 by_cases e:i=j
 ·subst e;rw[h.1] at hi;cases hi
 ·rw[h.2 i e] at hi;exact hi
theorem Ht.Hs {D:Nat->Bool}{j:Nat}{o:Oper}(hr:Ht ops D j o)(hp:cls X o.op≠.p)(ha:cls X o.op≠.a)(hl:late X ops j=false):∀i,D i=true->¬kS X ops i:=by
 intro i hi hk;obtain⟨oi,JB,_,_,_,h⟩:=WS hk;have ZQ:j≠i:=fun e=>by
  rw[e] at hl;rw[show late X ops i=true from hk] at hl;cases hl
 rcases h j o ZQ hr.op with hb|hb|hb|hb
 ·rw[hr.Nq hi] at hb;cases hb
 ·rw[hl] at hb;cases hb
 ·exact hp hb
 ·exact ha hb
theorem HI.keep (h:HI X ops E S Wg s0 w0 D m σ T w){j:Nat}{o:Oper}(hr:Ht ops D j o)(hD:Adds D D' j)(hk:¬kW X ops j)(hks:¬kS X ops j){R:St}(WH:∀i p b,σ i=some p->R.look i=some b->T.look i=some b)(hn:R.next=T.next)
  (k:Good σ R w Y' R w')(ha:kA X ops j->Y'=σ):HI X ops E S Wg s0 w0 D' m Y' (mix σ T R R) w':=by
 have oJ:∀id,Y' id≠none->σ id=Y' id/\(mix σ T R R).look id=T.look id:=by
  intro id ZQ;have Zm:id<R.next:=by
   refine Nat.lt_of_not_le fun SY=>ZQ ?_
   rw[k.Tv id (.inr SY)];exact h.gd.fresh id (by rw[<-hn];exact SY)
  have he:=k.Tv id (.inl Zm);refine⟨he.symm,?_⟩;rw[SC]
  split
  ·rfl
  ·rename_i hc
   cases hs:σ id with
   |none=>exact absurd ⟨Zm,.inl hs⟩ hc
   |some p =>
    cases hl:R.look id with
    |none=>exact absurd ⟨Zm,.inr hl⟩ hc
    |some b=>exact (WH id p b hs hl).symm
 have fq:∀i,kW X ops i->i≠j:=fun i hi e=>hk (e ▸ hi)
 have mF:∀i,D i=true->D' i=true:=fun i hi=>by
  by_cases e:i=j
  ·subst e;exact hD.1
  ·rw[hD.2 i e];exact hi
 refine⟨frame h.gd WH hn k,h.mN,fun i hi=>?_,h.mw,fun id ZQ X9 H6=>?_,fun i h1 h2 h3 h4=>?_,by rw[J',hn];exact h.t3,fun i b h1 h2 h3 h4=>?_,fun i h1 h2=>?_,h.IS,h.F2,h.H7⟩
 ·rw[hD.2 i (fq i hi)];exact h.Jr i hi
 ·obtain⟨e1,e2⟩:=oJ id ZQ;rw[e2];exact h.t1 id (by rw[e1];exact ZQ) (fun i h1 h2 h3=>X9 i h1 (mF i h2) h3) (fun i h1 h2=>H6 i (mF i h1) h2)
 ·obtain⟨e1,e2⟩:=oJ _ h4;rw[e2];rcases hD.of h2 with e|hd
  ·subst e;have:=h.u i h3 hr.no;rw[ha h3,this] at h4;exact absurd rfl h4
  ·exact h.t2 i h1 hd h3 (by rw[e1];exact h4)
 ·obtain⟨e1,e2⟩:=oJ _ h4;rw[e2];rcases hD.of h1 with e|hd
  ·exact absurd (e ▸ h2) hks
  ·exact h.t4 i b hd h2 h3 (by rw[e1];exact h4)
 ·have:=h.u i h1 (hD.false h2);have Zm:s0.next+i<R.next:=by
   obtain⟨o',Xk,_⟩:=h1;have:=(adm.1 Xk).1;have:=h.H7;rw[hn,h.t3];omega
  rw[k.Tv _ (.inl Zm)];exact this
theorem HI.xi (h:HI X ops E S Wg s0 w0 D m σ T w)(ht:Jt X ex ops s0.next E S)(hL:Hu X ops s0.next E)(Yv:Ok X ops)(VP:∀i,m<=i->kA X ops i->(S m).look (s0.next+i)=none){j:Nat}{o:Oper}(hr:Ht ops D j o)(hk:kW X ops j) :
  m<=j/\(S j).next=T.next/\(S j).base=s0.base/\(∀i,i<s0.next->s0.look i=none->(S j).look i=none)/\(∀i p b,σ i=some p->(S j).look i=some b->T.look i=some b) /\
   (∀i,j<i->kA X ops i->(S j).look (s0.next+i)=none)/\(∀id,σ id≠none->(S j).look id=none->(∀i,j<i->D i=true->kA X ops i->id≠s0.next+i)->T.look id=none):=by
 have Js:j<ops.size:=(adm.1 hr.op).1;have xI:cls X o.op=.w/\late X ops j=false:=by obtain⟨o',Xk,h1,h2⟩:=hk;rw[hr.op] at Xk;cases Xk;exact⟨h1,h2⟩
 have IV:∀i,D i=true->¬kS X ops i:=hr.Hs (by rw[xI.1];simp) (by rw[xI.1];simp) xI.2;have hmj:m<=j:=by
  refine Nat.le_of_not_lt fun Zm=>?_
  have:=(h.Jr j hk).2 Zm;rw[hr.no] at this;cases this
 have lS:∀i,m<=i->i<j->¬kW X ops i:=by
  intro i h1 h2 NZ;obtain⟨oi,JB,_⟩:=id NZ;have hb:Yu ops i j=true:=by
   rcases Yv.pair i j oi o h2 JB hr.op with hb|⟨_,_,ZQ,_⟩
   ·exact hb
   ·exact absurd ⟨NZ,hk⟩ ZQ
  have:=(h.Jr i NZ).1 (hr.Yu hb);omega
 have ig:∀i,i<j->¬kS X ops i:=by
  intro i Ul hs;obtain⟨oi,JB,_⟩:=WS hs;rcases Yv.pair i j oi o Ul JB hr.op with hb|⟨_,_,_,ZQ,_⟩
  ·exact IV i (hr.Yu hb) hs
  ·exact ZQ ⟨hs,hk⟩
 have haD:∀i,i<j->kA X ops i->D i=true:=by
  intro i h2 NZ;obtain⟨oi,JB,_⟩:=id NZ;rcases Yv.pair i j oi o h2 JB hr.op with hb|⟨_,ZQ,_⟩
  ·exact hr.Yu hb
  ·exact absurd ⟨NZ,hk⟩ ZQ
 obtain⟨d,rfl⟩:∃d,j=m+d:=⟨j-m,by omega⟩;obtain⟨b1,b2,b3,b4,_⟩:=ht.between hL m d (by omega) lS;have b3:∀id,(∀i,m<=i->i<m+d->kA X ops i->id≠s0.next+i)->(S (m+d)).look id=(S m).look id:=fun id h1=>b3 id h1 fun i _ h3 h4=>absurd h4 (ig i h3)
 have f_:∀id,σ id≠none->(∀i,m<=i->D i=true->kA X ops i->id≠s0.next+i)->T.look id=(S m).look id:=fun id h1 h2=>h.t1 id h1 h2 fun i h3 h4=>absurd h4 (IV i h3)
 have at_:∀id,(∃i,m<=i/\i<m+d/\kA X ops i/\id=s0.next+i)\/(S (m+d)).look id=(S m).look id:=by
  intro id;by_cases hx:∃i,m<=i/\i<m+d/\kA X ops i/\id=s0.next+i
  ·exact .inl hx
  ·exact .inr (b3 id fun i h1 h2 h3 e=>hx ⟨i,h1,h2,h3,e⟩)
 have KZ:∀i,m+d<i->kA X ops i->(S (m+d)).look (s0.next+i)=none:=by
  intro i hi ha;rw[b3 _ (fun i' h1 h2 h3 e=>by omega)];exact VP i (by omega) ha
 refine⟨hmj,by rw[b1,h.t3],by rw[b2,h.F2],fun i hi hl=>?_,fun id p b hp hb=>?_,KZ,fun id ZQ hl X9=>?_⟩
 ·rw[b3 i fun i' _ _ _ e=>by omega];exact h.IS i hi hl
 ·rcases at_ id with⟨i,h1,h2,h3,rfl⟩|he
  ·rw[h.t2 i h1 (haD i h2 h3) h3 (by rw[hp];simp),<-b4 i h1 h2 h3];exact hb
  ·rw[f_ id (by rw[hp];simp) ?_,<-he]
   ·exact hb
   ·rintro i h1 h2 h3 rfl;have:=VP i h1 h3;rw[<-he,hb] at this;cases this
 ·rcases at_ id with⟨i,h1,h2,h3,rfl⟩|he
  ·rw[h.t2 i h1 (haD i h2 h3) h3 ZQ,<-b4 i h1 h2 h3];exact hl
  ·by_cases hx:∃i,m<=i/\D i=true/\kA X ops i/\id=s0.next+i
   ·obtain⟨i,h1,h2,h3,rfl⟩:=hx;rcases Nat.lt_trichotomy i (m+d) with Zm|heq|Jy
    ·rw[h.t2 i h1 h2 h3 ZQ,<-b4 i h1 Zm h3];exact hl
    ·subst heq;rw[hr.no] at h2;cases h2
    ·exact absurd rfl (X9 i Jy h2 h3)
   ·rw[f_ id ZQ fun i h1 h2 h3 e=>hx ⟨i,h1,h2,h3,e⟩,<-he];exact hl
theorem HI.wr (h:HI X ops E S Wg s0 w0 D m σ T w)(ht:Jt X ex ops s0.next E S)(hL:Hu X ops s0.next E)(Yv:Ok X ops)(VP:∀i,m<=i->kA X ops i->(S m).look (s0.next+i)=none){j:Nat}{o:Oper}(hr:Ht ops D j o)(hD:Adds D D' j)(hk:kW X ops j)
  (k:Good σ (S j) w Y' (S (j+1)) w'):HI X ops E S Wg s0 w0 D' (j+1) Y' (mix σ T (S j) (S (j+1))) w':=by
 obtain⟨a1,a2,a3,a4,a5,a6,a7⟩:=h.xi ht hL Yv VP hr hk;have Js:j<ops.size:=(adm.1 hr.op).1;have xI:cls X o.op=.w/\late X ops j=false:=by obtain⟨o',Xk,h1,h2⟩:=hk;rw[hr.op] at Xk;cases Xk;exact⟨h1,h2⟩
 have IV:∀i,D i=true->¬kS X ops i:=hr.Hs (by rw[xI.1];simp) (by rw[xI.1];simp) xI.2;have XY:s0.next+ops.size<=(S j).next:=by rw[a2,h.t3];exact h.H7
 have ti:∀id,Y' id≠none->id<(S j).next->σ id=Y' id:=fun id _ Zm=>(k.Tv id (.inl Zm)).symm
 refine⟨frame h.gd a5 a2 k,Js,fun i hi=>?_,.inr ⟨j,rfl,hk⟩,fun id ZQ X9 _=>?_,fun i h1 h2 h3 h4=>?_,rfl,fun i b h1 h2 _ _=>?_,fun i h1 h2=>?_,fun i hi hl=>?_,by rw[k.glob,a3],?_⟩
 ·have NZ:=hi;obtain⟨oi,JB,_⟩:=hi;rcases Nat.lt_trichotomy i j with Zm|heq|Jy
  ·rw[hD.2 i (by omega)];have:D i=true:=by
    rcases Yv.pair i j oi o Zm JB hr.op with hb|⟨_,_,ZQ,_⟩
    ·exact hr.Yu hb
    ·exact absurd ⟨NZ,hk⟩ ZQ
   simp[this];omega
  ·subst heq;simp[hD.1]
  ·rw[hD.2 i (by omega)];have:D i=false:=by
    cases hd:D i with
    |false=>rfl
    |true =>
     have hb:=hr.Nq hd;rcases Yv.pair j i o oi Jy hr.op JB with UF|⟨_,_,ZQ,_⟩
     ·rw[hb] at UF;cases UF
     ·exact absurd ⟨hk,NZ⟩ ZQ
   simp[this];omega
 ·rw[SC]
  split
  ·rename_i hc;have he:=ti id ZQ hc.1;rcases hc.2 with hs|hl
   ·rw[he] at hs;exact absurd hs ZQ
   ·rw[k.dead id hc.1 hl];refine a7 id (by rw[he];exact ZQ) hl fun i hi hd ha e=>X9 i hi ?_ ha e
    rw[hD.2 i (by omega)];exact hd
  ·rfl
 ·have aaT:i<ops.size:=by obtain⟨o',Xk,_⟩:=h3;exact (adm.1 Xk).1
  have hd:D i=true:=by rw[hD.2 i (by omega)] at h2;exact h2
  have he:=ti _ h4 (by omega);rw[SC,if_pos ⟨by omega,.inr (a6 i (by omega) h3)⟩];exact h.t2 i (by omega) hd h3 (by rw[he];exact h4)
 ·rcases hD.of h1 with e|hd
  ·exact absurd (e ▸ h2) (O1 hk)
  ·exact absurd h2 (IV i hd)
 ·have aaT:i<ops.size:=by obtain⟨o',Xk,_⟩:=h1;exact (adm.1 Xk).1
  rw[k.Tv _ (.inl (by omega))];exact h.u i h1 (hD.false h2)
 ·exact k.dead i (by omega) (a4 i hi hl)
 ·have:=k.next;omega
theorem HI.al (h:HI X ops E S Wg s0 w0 D m σ T w)(hL:Hu X ops s0.next E)(Yv:Ok X ops){j:Nat}{o:Oper}(hr:Ht ops D j o)(hD:Adds D D' j)(hk:cls X o.op=.a){b:UK}(hb:b≠.gone)(hS:(S (j+1)).look (s0.next+j)=some b)
  (k:Good σ { T with next:=s0.next+j } w Y' (St.new { T with next:=s0.next+j } b) w') :
  HI X ops E S Wg s0 w0 D' m Y' (QX (fun i=>if i=s0.next+j then some b else T.look i) T.next) w':=by
 have Js:j<ops.size:=(adm.1 hr.op).1;have XY:=h.H7;have DT:kA X ops j:=⟨o,hr.op,hk⟩;have UI:∀id,(QX (fun i=>if i=s0.next+j then some b else T.look i) T.next).look id=if id=s0.next+j then some b else T.look id:=by
  intro id;rw[QW];intro c' hc
  split at hc
  ·cases hc;exact hb
  ·exact Sd _ _ _ hc
 have PD:∀id,id≠s0.next+j->Y' id=σ id:=fun id ZQ=>by
  refine k.Tv id ?_;rcases Nat.lt_trichotomy id (s0.next+j) with Zm|heq|Jy
  ·exact .inl Zm
  ·exact absurd heq ZQ
  ·exact .inr (show s0.next+j+1<=id by omega)
 have fq:∀i,kW X ops i->i≠j:=fun i ⟨o',Xk,hc,_⟩ e=>by
  subst e;rw[hr.op] at Xk;cases Xk;rw[hk] at hc;cases hc
 have hjs:¬kS X ops j:=fun hs=>by
  obtain⟨o',Xk,_,_,hc,_⟩:=WS hs;rw[hr.op] at Xk;cases Xk;rw[hk] at hc;cases hc
 have mF:∀i,D i=true->D' i=true:=fun i hi=>by
  by_cases e:i=j
  ·subst e;exact hD.1
  ·rw[hD.2 i e];exact hi
 have hmj:m<=j:=by
  rcases h.mw with e|⟨l,rfl,hl⟩
  ·omega
  ·refine Nat.le_of_not_lt fun Zm=>?_
   have hDl:D l=true:=(h.Jr l hl).2 (by omega);have hjl:j≠l:=fun e=>fq l hl e.symm
   have hb:=hr.Nq hDl;obtain⟨ol,BF,_⟩:=id hl;rcases Yv.pair j l o ol (by omega) hr.op BF with UF|⟨_,ZQ,_⟩
   ·rw[hb] at UF;cases UF
   ·exact ZQ ⟨DT,hl⟩
 refine⟨h.gd.VI hb (by omega) (by rw[h.t3];omega) k,h.mN,fun i hi=>?_,h.mw,fun id ZQ X9 H6=>?_,fun i h1 h2 h3 h4=>?_,h.t3,fun i b' h1 h2 h3 h4=>?_,fun i h1 h2=>?_,h.IS,h.F2,h.H7⟩
 ·rw[hD.2 i (fq i hi)];exact h.Jr i hi
 ·have aaU:id≠s0.next+j:=X9 j hmj hD.1 DT;rw[UI,if_neg aaU];exact h.t1 id (by rw[<-PD id aaU];exact ZQ) (fun i h1 h2 h3=>X9 i h1 (mF i h2) h3) (fun i h1 h2=>H6 i (mF i h1) h2)
 ·by_cases e:i=j
  ·subst e;rw[UI,if_pos rfl,hS]
  ·rw[UI,if_neg (by omega)];refine h.t2 i h1 ?_ h3 (by rw[<-PD _ (by omega)];exact h4);rw[hD.2 i e] at h2;exact h2
 ·have Ul:i≠j:=fun e=>hjs (e ▸ h2)
  obtain⟨b2,e2,GF⟩:=hL.some i h2;rw[h3] at e2;cases e2;rw[UI,if_neg (by omega)];exact h.t4 i b' (by rw[hD.2 i Ul] at h1;exact h1) h2 h3 (by rw[<-PD _ (by omega)];exact h4)
 ·have:i≠j:=by rintro rfl;rw[hD.1] at h2;cases h2
  rw[PD _ (by omega)];exact h.u i h1 (hD.false h2)
theorem HI.zX (h:HI X ops E S Wg s0 w0 D m σ T w)(ht:Jt X ex ops s0.next E S)(hL:Hu X ops s0.next E)(Yv:Ok X ops){j:Nat}{o:Oper}(hr:Ht ops D j o)(hk:kS X ops j){b:Nat}(hb:lb X ops E j=some b)(eK:σ b≠none):T.look b=(S j).look b:=by
 have Js:j<ops.size:=(adm.1 hr.op).1;obtain⟨b2,e2,GF⟩:=hL.some j hk;rw[hb] at e2;cases e2;obtain⟨oj,hoj,_,_,_,X9⟩:=WS hk;have hwD:∀i,kW X ops i->i<m:=by
  intro i hi;refine (h.Jr i hi).1 ?_;obtain⟨oi,JB,hc,hl⟩:=id hi;have ZQ:i≠j:=fun e=>O1 hi (e ▸ hk)
  rcases X9 i oi ZQ JB with UF|UF|UF|UF
  ·exact hr.Yu UF
  ·rw[hl] at UF;cases UF
  ·rw[hc] at UF;cases UF
  ·rw[hc] at UF;cases UF
 have hmj:m<=j:=by
  rcases h.mw with e|⟨l,rfl,hl⟩
  ·omega
  ·refine Nat.le_of_not_lt fun Zm=>?_
   have ZQ:l≠j:=fun e=>O1 hl (e ▸ hk)
   obtain⟨ol,BF,hc,IT⟩:=id hl;rcases X9 l ol ZQ BF with UF|UF|UF|UF
   ·have:=Yv.Ud j l UF;omega
   ·rw[IT] at UF;cases UF
   ·rw[hc] at UF;cases UF
   ·rw[hc] at UF;cases UF
 rw[h.t1 b eK (fun i _ _ DT e=>by
   obtain⟨o',Xk,_⟩:=DT;have:=(adm.1 Xk).1;omega) (fun i hi hs e=>by
   by_cases Ul:i=j
   ·subst Ul;rw[hr.no] at hi;cases hi
   ·exact hL.ne i j hs hk Ul (by rw[e,hb]))]
 obtain⟨d,hd⟩:∃d,j=m+d:=⟨j-m,by omega⟩;obtain⟨_,_,b3,_,_⟩:=ht.between hL m d (by omega) (fun i h1 _ hw=>by have:=hwD i hw;omega);rw[hd];refine (b3 b (fun i _ h2 DT e=>?_) (fun i _ h2 hs e=>?_)).symm
 ·obtain⟨o',Xk,_⟩:=DT;have:=(adm.1 Xk).1;omega
 ·exact hL.ne i j hs hk (by omega) (by rw[e,hb])
theorem HI.st (h:HI X ops E S Wg s0 w0 D m σ T w)(hL:Hu X ops s0.next E){j:Nat}{o:Oper}(hr:Ht ops D j o)(hD:Adds D D' j)(hk:kS X ops j){b:Nat}(hb:lb X ops E j=some b)(eK:σ b≠none){k0 k':UK}(hT:T.look b=some k0)(Hd:k'≠.gone)(hS:(S (j+1)).look b=some k')
  (k:Good σ T w Y' (T.put b k') w'):HI X ops E S Wg s0 w0 D' m Y' (mix σ T T (T.put b k')) w':=by
 have PD:∀id,Y' id=σ id:=fun id=>k.Tv id (by
  show id<T.next\/T.next<=id;omega)
 have UI:∀id,σ id≠none->(mix σ T T (T.put b k')).look id=if b=id then some k' else T.look id:=by
  intro id ZQ;have Zm:id<T.next:=Nat.lt_of_not_le fun SY=>ZQ (h.gd.fresh id SY)
  rw[SC];by_cases e:b=id
  ·subst e;rw[if_neg (fun hc=>by
    rcases hc.2 with h1|h1
    ·exact ZQ h1
    ·rw[hT] at h1;cases h1),St.Ye,if_pos rfl,if_pos rfl]
   cases k' <;> first|rfl|exact absurd rfl Hd
  ·rw[if_neg e]
   split
   ·rfl
   ·rw[St.Ye,if_neg e]
 have fq:∀i,kW X ops i->i≠j:=fun i hi e=>O1 hi (e ▸ hk)
 have hja:∀i,kA X ops i->i≠j:=fun i ⟨o',Xk,hc⟩ e=>by
  subst e;obtain⟨o2,MA,_,_,P9,_⟩:=WS hk;rw[Xk] at MA;cases MA;rw[hc] at P9;cases P9
 have mF:∀i,D i=true->D' i=true:=fun i hi=>by
  by_cases e:i=j
  ·subst e;exact hD.1
  ·rw[hD.2 i e];exact hi
 obtain⟨b2,e2,GF⟩:=hL.some j hk;rw[hb] at e2;cases e2;refine⟨frame h.gd (fun _ _ _ _ hb=>hb) rfl k,h.mN,fun i hi=>?_,h.mw,fun id ZQ X9 H6=>?_,fun i h1 h2 h3 h4=>?_,h.t3,fun i b' h1 h2 h3 h4=>?_,fun i h1 h2=>?_,h.IS,h.F2,h.H7⟩
 ·rw[hD.2 i (fq i hi)];exact h.Jr i hi
 ·have aaV:σ id≠none:=by rw[<-PD id];exact ZQ
  rw[UI id aaV,if_neg (fun e=>H6 j hD.1 hk (by rw[hb,e]))];exact h.t1 id aaV (fun i h1 h2 h3=>X9 i h1 (mF i h2) h3) (fun i h1 h2=>H6 i (mF i h1) h2)
 ·have h4':σ (s0.next+i)≠none:=by rw[<-PD];exact h4
  have aaT:i<ops.size:=by obtain⟨o',Xk,_⟩:=h3;exact (adm.1 Xk).1
  rw[UI _ h4',if_neg (by omega)];exact h.t2 i h1 (by rw[hD.2 i (hja i h3)] at h2;exact h2) h3 h4'
 ·have h4':σ b'≠none:=by rw[<-PD];exact h4
  rw[UI _ h4'];by_cases e:i=j
  ·subst e;rw[hb] at h3;cases h3;rw[if_pos rfl,hS]
  ·rw[if_neg (fun e'=>hL.ne i j h2 hk e (by rw[h3,hb,e']))];exact h.t4 i b' (by rw[hD.2 i e] at h1;exact h1) h2 h3 h4'
 ·rw[PD];exact h.u i h1 (hD.false h2)
end
end Go.Am
namespace Go.Am
open Go
section
variable [Stat]
variable {X:Cx}{ex:Ex}{ops:Array Oper}{base:Nat}
def UU (tr:List (Env×St))(i:Nat):Env:=((tr[i]?).getD (.nil,{ t:=.nil,base:=fun _=>none,next:=0 })).1
def Yo (tr:List (Env×St))(i:Nat):St:=((tr[i]?).getD (.nil,{ t:=.nil,base:=fun _=>none,next:=0 })).2
theorem SW:∀(l:List Oper) (i:Nat) (e:Env) (s:St) (tr:List (Env×St)),DV X ex ops base i l e s=some tr ->
  tr.length=l.length+1/\tr[0]? = some (e,s)/\∀(k:Nat) o,l[k]? = some o->UG X ex ops base (i+k) o (UU tr k) (Yo tr k)=some (UU tr (k+1),Yo tr (k+1))
 |[],i,e,s,tr,h=>by simp only[DV] at h;cases h;simp
 |o::l,i,e,s,tr,h=>by
  simp only[DV] at h
  split at h
  ·rename_i e1 s1 h1
   split at h
   ·rename_i r h2
    cases h
    obtain⟨k1,k2,k3⟩:=SW l (i+1) e1 s1 r h2;refine⟨by simp[k1],by simp,fun k o' hk=>?_⟩
    cases k with
    |zero =>
     simp at hk;subst hk;have:UU ((e,s)::r) (0+1)=e1/\Yo ((e,s)::r) (0+1)=s1:=by simp[UU,Yo,k2]
     rw[this.1,this.2]
     simpa[UU,Yo] using h1
    |succ k =>
     have:=k3 k o' (by simpa using hk);rw[show i+(k+1)=i+1+k by omega]
     simpa[UU,Yo] using this
   ·cases h
  ·cases h
theorem KV:∀(tr:List (Env×St)),Kv tr=tr.getLast?
 |[]=>rfl
 |[x]=>rfl
 |x::y::l=>by
  show Kv (y::l)=_;rw[KV (y::l),List.getLast?_cons_cons]
theorem SV:∀(l:List Oper) (i j:Nat),j∈ZF X ops i l<->∃k o,l[k]? = some o/\j=i+k/\((cls X o.op).zA&&!late X ops j)=true
 |[],i,j=>by simp[ZF]
 |o::l,i,j=>by
  have ih:=SV l (i+1) j;have key:(∃(k:Nat) (o':Oper),(o::l)[k]? = some o'/\j=i+k/\((cls X o'.op).zA&&!late X ops j)=true)<->(((cls X o.op).zA&&!late X ops i)=true/\j=i)\/∃(k:Nat) (o':Oper),l[k]? = some o'/\j=i+1+k/\((cls X o'.op).zA&&!late X ops j)=true:=by
   constructor
   ·rintro⟨k,o',h1,h2,h3⟩
    cases k with
    |zero =>
      simp at h1;subst h1;have e:j=i:=by omega
      exact .inl ⟨e ▸ h3,e⟩
    |succ k=>exact .inr ⟨k,o',by simpa using h1,by omega,h3⟩
   ·rintro (⟨h1,h2⟩|⟨k,o',h1,h2,h3⟩)
    ·exact⟨0,o,by simp,by omega,h2 ▸ h1⟩
    ·exact⟨k+1,o',by simpa using h1,by omega,h3⟩
  rw[key];unfold ZF
  split
  ·rename_i hc;rw[afa,ih]
   constructor
   ·rintro (h|h)
    ·exact .inl ⟨hc,h⟩
    ·exact .inr h
   ·rintro (h|h)
    ·exact .inl h.2
    ·exact .inr h
  ·rename_i hc;rw[ih]
   constructor
   ·exact .inr
   ·rintro (h|h)
    ·exact absurd h.1 hc
    ·exact h
theorem Vb:∀(l:List Oper) (i:Nat),(ZF X ops i l).Pairwise (·<·)
 |[],i=>by simp[ZF]
 |o::l,i=>by
  unfold ZF
  split
  ·refine List.pairwise_cons.2 ⟨fun j hj=>?_,Vb l (i+1)⟩;obtain⟨k,o',_,h2,_⟩:=(SV l (i+1) j).1 hj;omega
  ·exact Vb l (i+1)
theorem UA:∀(l:List Oper) (tr:List (Env×St)) (i:Nat),tr.length=l.length+1->∀k:Nat,k<l.length->late X ops (i+k)=true->∃(q:Nat) (o:Oper),l[k]? = some o/\(Vi X ops i l tr)[q]? = some (Vn X (UU tr k) o.op) /\
  ∀(k':Nat) (o':Oper),k<k'->l[k']? = some o'->late X ops (i+k')=true->∃q':Nat,q<q'/\(Vi X ops i l tr)[q']? = some (Vn X (UU tr k') o'.op)
 |[],tr,i,_,k,hk,_=>by simp at hk
 |o::l,[],i,h,k,hk,_=>by simp at h
 |o::l,(e,s)::tr,i,h,0,hk,hl=>by
  have ht:=UA l tr (i+1) (by simpa using h);unfold Vi;rw[if_pos (by simpa using hl)];refine⟨0,o,rfl,by simp[UU],fun k' o' h1 h2 h3=>?_⟩;obtain⟨k2,rfl⟩:∃k2,k'=k2+1:=⟨k'-1,by omega⟩;have h2':l[k2]? = some o':=by simpa using h2
  obtain⟨q,o2,g1,g2,_⟩:=ht k2 (ae6.1 h2').1 (by rw[show i+1+k2=i+(k2+1) by omega];exact h3);rw[h2'] at g1;cases g1;refine⟨q+1,by omega,?_⟩;rw[afr,g2];simp[UU]
 |o::l,(e,s)::tr,i,h,k+1,hk,hl=>by
  have ht:=UA l tr (i+1) (by simpa using h);have Hd:k<l.length:=by simpa using hk
  obtain⟨q,o2,g1,g2,g3⟩:=ht k Hd (by rw[show i+1+k=i+(k+1) by omega];exact hl);unfold Vi;have tre:∀n,UU ((e,s)::tr) (n+1)=UU tr n:=fun n=>by simp[UU]
  split
  ·refine⟨q+1,o2,by simpa using g1,by rw[afr,tre];exact g2,fun k' o' h1 h2 h3=>?_⟩;obtain⟨k2,rfl⟩:∃k2,k'=k2+1:=⟨k'-1,by omega⟩;obtain⟨q',e1,e2⟩:=g3 k2 o' (by omega) (by simpa using h2) (by rw[show i+1+k2=i+(k2+1) by omega];exact h3);exact⟨q'+1,by omega,by rw[afr,tre];exact e2⟩
  ·refine⟨q,o2,by simpa using g1,by rw[tre];exact g2,fun k' o' h1 h2 h3=>?_⟩;obtain⟨k2,rfl⟩:∃k2,k'=k2+1:=⟨k'-1,by omega⟩;obtain⟨q',e1,e2⟩:=g3 k2 o' (by omega) (by simpa using h2) (by rw[show i+1+k2=i+(k2+1) by omega];exact h3);exact⟨q',e1,by rw[tre];exact e2⟩
theorem Mz {n:Nat}:∀(l:List (Option Nat)),Rc base n l=true->(∀x∈l,∃b,x=some b/\(b<base\/base+n<=b))/\∀(q q':Nat) x y,q<q'->l[q]? = some x->l[q']? = some y->x≠y
 |[],_=>⟨fun x hx=>(by cases hx),fun q q' x y _ h=>by simp at h⟩
 |none::l,h=>by simp[Rc] at h
 |some b::l,h=>by
  simp only[Rc,aab,afY,decide_eq_true_eq,ae9,afw,beq_eq_false_iff_ne,ne_eq] at h;obtain⟨⟨h1,h2⟩,h3⟩:=h;obtain⟨k1,k2⟩:=Mz l h3;refine⟨fun x hx=>?_,fun q q' x y hq hx hy=>?_⟩
  ·rcases afa.1 hx with rfl|hx
   ·exact⟨b,rfl,h1⟩
   ·exact k1 x hx
  ·obtain⟨q'',rfl⟩:∃q'',q'=q''+1:=⟨q'-1,by omega⟩;rw[afr] at hy
   cases q with
   |zero =>
    simp at hx;subst hx;exact fun e=>h2 y (afl hy) e.symm
   |succ q=>exact k2 q q'' x y (by omega) (by simpa using hx) hy
theorem O4 {tr:List (Env×St)}:∀(ws:List Nat) (ss:List (Nat×St)),Ut tr ws=some ss->ss=ws.map fun j=>(j+1,Yo tr (j+1))
 |[],ss,h=>by simp only[Ut] at h;cases h;rfl
 |j::ws,ss,h=>by
  simp only[Ut] at h
  split at h
  ·rename_i e s r h1 h2
   cases h
   rw[O4 ws r h2];simp[Yo,h1]
  ·cases h
theorem My {ws as:List Nat}{ss:List (Nat×St)}{Di:List (Env×St)}:∀(l:List Oper) (tr:List (Env×St)) (i:Nat),Vt X ex ops base ws as ss Di i l tr=true->∀(k:Nat) o es,l[k]? = some o->tr[k]? = some es->YE ops es.1 o=true ->
  (cls X o.op=.r->∃v s',Zb X ex es.1 o.op es.2=some (v,s')/\X6 X ex ops base (i+k) as Di es.1 o.op v (WM ops ws ss (i+k))=true) /\
  (cls X o.op=.q->∀c vs us,o.op=.call c->Mu X es.1 c=some vs->Yb X es.2 vs=some us->ZK vs=true\/VH X ops base (i+k) as Di vs us (WM ops ws ss (i+k))=true)
 |[],tr,i,h,k,o,es,h1,h2,_=>by simp at h1
 |o::l,[],i,h,k,o',es,h1,h2,_=>by simp at h2
 |o::l,(e,s)::tr,i,h,0,o',es,h1,h2,h4=>by
  simp at h1 h2;subst h1;subst h2;simp only[Vt,aab] at h;obtain⟨h,_⟩:=h;simp only[afD];refine⟨fun hk=>?_,fun hk c vs us hc Uy PS=>?_⟩
  ·rw[hk] at h;simp only[h4,Bool.not_true,afV] at h
   split at h
   ·rename_i v s' hv;exact⟨v,s',hv,h⟩
   ·cases h
  ·rw[hk] at h;simp only[h4,hc,Uy,PS,Bool.not_true,afV,afY] at h;exact h
 |o::l,(e,s)::tr,i,h,k+1,o',es,h1,h2,h4=>by
  simp only[Vt,aab] at h;have:=My l tr (i+1) h.2 k o' es (by simpa using h1) (by simpa using h2) h4;rw[show i+(k+1)=i+1+k by omega];exact this
theorem RE {as:List Nat}{tr:List (Env×St)}{i:Nat}{e:Env}{o:Op}{v:AV}:∀(l:List (Nat×St)),X6 X ex ops base i as tr e o v l=true->∀m s,(m,s)∈l->∃s',Zb X ex e o (VI ops base i m tr as s)=some (v,s')
 |[],_,m,s,hm=>by cases hm
 |(m',s1)::l,h,m,s,hm=>by
  unfold X6 at h
  split at h
  ·rename_i u s' hu;simp only[aab] at h;rcases afa.1 hm with e|hm
   ·cases e
    have:=Kk h.1;subst this;exact⟨_,hu⟩
   ·exact RE l h.2 m s hm
  ·cases h
theorem P8 {as:List Nat}{tr:List (Env×St)}{i:Nat}{vs us:List AV}:∀(l:List (Nat×St)),VH X ops base i as tr vs us l=true->∀m s,(m,s)∈l->Yb X (VI ops base i m tr as s) vs=some us
 |[],_,m,s,hm=>by cases hm
 |(m',s1)::l,h,m,s,hm=>by
  unfold VH at h
  split at h
  ·rename_i u hu;simp only[aab] at h;rcases afa.1 hm with e|hm
   ·cases e
    have:=V_ h.1;subst this;exact hu
   ·exact P8 l h.2 m s hm
  ·cases h
theorem KX:∀(l:List Oper) (i j:Nat),j∈Ww X i l->∃k o,l[k]? = some o/\j=i+k/\cls X o.op=.a
 |[],i,j,h=>by simp[Ww] at h
 |o::l,i,j,h=>by
  have ih:=KX l (i+1) j;unfold Ww at h;have lift:(∃(k:Nat) (o':Oper),l[k]? = some o'/\j=i+1+k/\cls X o'.op=.a)->∃(k:Nat) (o':Oper),(o::l)[k]? = some o'/\j=i+k/\cls X o'.op=.a :=
   fun ⟨k,o',h1,h2,h3⟩=>⟨k+1,o',by simpa using h1,by omega,h3⟩
  split at h
  ·rename_i hc;rcases afa.1 h with rfl|h
   ·exact⟨0,o,by simp,by omega,Yl.1 hc⟩
   ·exact lift (ih h)
  ·exact lift (ih h)
theorem SU {i m:Nat}{tr:List (Env×St)}:∀(as:List Nat) (s:St),(∀j∈as,kA X ops j) ->
  (VI ops base i m tr as s).next=s.next/\∀id b,(VI ops base i m tr as s).look id=some b ->
   s.look id=some b\/∃j,m<=j/\kA X ops j/\Yu ops j i=true/\id=base+j/\(Yo tr (j+1)).look id=some b
 |[],s,_=>⟨rfl,fun id b h=>.inl h⟩
 |j::as,s,has=>by
  have qq:∀j∈as,kA X ops j:=fun j hj=>has j (abc _ hj)
  unfold VI
  split
  ·rename_i hc;simp only[aab,decide_eq_true_eq] at hc
   split
   ·rename_i e1 s1 h1;have Ur:Yo tr (j+1)=s1:=by simp[Yo,h1]
    split
    ·rename_i b0 vJ;obtain⟨k1,k2⟩:=SU as (s.put (base+j) b0) qq;refine⟨k1,fun id b hb=>?_⟩;rcases k2 id b hb with h3|h3
     ·rw[St.Ye] at h3;by_cases e:base+j=id
      ·rw[if_pos e] at h3;refine .inr ⟨j,hc.1,has j (aeZ ..),hc.2,e.symm,?_⟩;rw[Ur,<-e];unfold St.look;rw[vJ]
       cases b0 <;> simp at h3 ⊢ <;> exact h3
      ·rw[if_neg e] at h3;exact .inl h3
     ·exact .inr h3
    ·exact SU as s qq
   ·exact SU as s qq
  ·exact SU as s qq
theorem Kj {s:St}:∀(l:List Oper) (i:Nat),Kw X base s i l=true->∀(k:Nat) o,l[k]? = some o->cls X o.op=.a->s.look (base+(i+k))=none
 |[],i,_,k,o,h,_=>by simp at h
 |o::l,i,h,0,o',h1,h2=>by
  simp at h1;subst h1;simp only[Kw,aab,afY,h2] at h;have:=h.1;simp[Gn.G8] at this;unfold St.look;rw[show base+(i+0)=base+i by omega,this]
 |o::l,i,h,k+1,o',h1,h2=>by
  simp only[Kw,aab] at h;have:=Kj l (i+1) h.2 k o' (by simpa using h1) h2;rw[show i+(k+1)=i+1+k by omega];exact this
theorem O2:∀(l:List (Nat×St)),Us X ops base l=true->∀m s,(m,s)∈l->∀i,m<=i->kA X ops i->s.look (base+i)=none
 |[],_,m,s,hm=>by cases hm
 |(m',s1)::l,h,m,s,hm=>by
  simp only[Us,aab] at h;rcases afa.1 hm with e|hm
  ·cases e
   rintro i hi ⟨o,ho,hc⟩;obtain⟨k,rfl⟩:∃k,i=m'+k:=⟨i-m',by omega⟩;exact Kj _ _ h.1 k o (by rw[List.getElem?_drop];simpa using ho) hc
  ·exact O2 l h.2 m s hm
theorem Lr (W:Nat->Prop):∀j,(∀i,i<j->¬W i)\/∃i,i<j/\W i/\∀i',i<i'->i'<j->¬W i'
 |0=>.inl fun i h=>by omega
 |j+1=>by
  by_cases hj:W j
  ·exact .inr ⟨j,by omega,hj,fun i' h1 h2=>by omega⟩
  ·rcases Lr W j with h|⟨i,h1,h2,h3⟩
   ·refine .inl fun i hi=>?_
    by_cases e:i=j
    ·subst e;exact hj
    ·exact h i (by omega)
   ·refine .inr ⟨i,by omega,h2,fun i' k1 k2=>?_⟩;by_cases e:i'=j
    ·subst e;exact hj
    ·exact h3 i' k1 (by omega)
def Wr (ops:Array Oper)(t:Tmp)(i:Nat):Prop:=∃o,ops[i]? = some o/\o.dst=some t
structure KE (ops:Array Oper)(E:Nat->Env)(D:Nat->Bool)(e:Env):Prop where
 hit:∀t i,D i=true->Wr ops t i->(∀i',i<i'->D i'=true->¬Wr ops t i')->Env.get e t=Env.get (E (i+1)) t
 bu:∀t,(∀i,D i=true->¬Wr ops t i)->Env.get e t=Env.get (E 0) t
variable {E:Nat->Env}{S:Nat->St}{D D':Nat->Bool}{e:Env}
theorem KE.at (h:KE ops E D e)(ht:Jt X ex ops base E S){t:Tmp}{j:Nat}(hj:j<=ops.size)(h1:∀i,i<j->Wr ops t i->D i=true)(h2:∀i,j<=i->D i=true->¬Wr ops t i):Env.get e t=Env.get (E j) t:=by
 rcases Lr (Wr ops t) j with hn|⟨i,k1,k2,k3⟩
 ·rw[h.bu t fun i hi hw=>by
   by_cases Ul:i<j
   ·exact hn i Ul hw
   ·exact h2 i (by omega) hi hw]
  have:=ht.Ki t 0 j (fun i o _ hi ho hd=>hn i (by omega) ⟨o,ho,hd⟩) (by omega);rw[ad4] at this;exact this.symm
 ·rw[h.hit t i (h1 i k1 k2) k2 fun i' a b hw=>by
   by_cases Ul:i'<j
   ·exact k3 i' a Ul hw
   ·exact h2 i' (by omega) b hw]
  have:=ht.Ki t (i+1) (j-(i+1)) (fun i' o a b ho hd=>k3 i' (by omega) (by omega) ⟨o,ho,hd⟩) (by omega);rw[show i+1+(j-(i+1))=j by omega] at this;exact this.symm
theorem KE.look (h:KE ops E D e)(ht:Jt X ex ops base E S)(Yv:Ok X ops){j:Nat}{o:Oper}(hr:Ht ops D j o){t:Tmp}(hl:t∈P_ ops o):Env.get e t=Env.get (E j) t:=by
 have hj:=(adm.1 hr.op).1;refine h.at ht (Nat.le_of_lt hj) (fun i hi ⟨oi,JB,hd⟩=>?_) (fun i hi xb ⟨oi,JB,hd⟩=>?_)
 ·rcases Yv.pair i j oi o hi JB hr.op with hb|⟨ha,_⟩
  ·exact hr.Yu hb
  ·exact absurd hl ((Q' ha).1 t hd)
 ·by_cases e:i=j
  ·subst e;rw[hr.no] at xb;cases xb
  ·rcases Yv.pair j i o oi (by omega) hr.op JB with hb|⟨ha,_⟩
   ·rw[hr.Nq xb] at hb;cases hb
   ·exact absurd hl ((Q' ha).2.2 t hd)
theorem KE.step (h:KE ops E D e)(Yv:Ok X ops){j:Nat}{o:Oper}(hr:Ht ops D j o)(hD:Adds D D' j){v:AV}(hE:E (j+1)=Y8 (E j) o.dst v):KE ops E D' (Y8 e o.dst v):=by
 have hj:=(adm.1 hr.op).1;have wj:∀t,Wr ops t j->o.dst=some t:=fun t ⟨o',Xk,hd⟩=>by rw[hr.op] at Xk;cases Xk;exact hd
 refine⟨fun t i hi hw bh=>?_,fun t TL=>?_⟩
 ·by_cases ht:o.dst=some t
  ·
   have Ul:i=j:=by
    rcases hD.of hi with e1|xb
    ·exact e1
    ·obtain⟨oi,JB,hd⟩:=hw;rcases Nat.lt_trichotomy i j with Zm|heq|Jy
     ·exact absurd ⟨o,hr.op,ht⟩ (bh j Zm hD.1)
     ·exact heq
     ·rcases Yv.pair j i o oi Jy hr.op JB with hb|⟨ha,_⟩
      ·rw[hr.Nq xb] at hb;cases hb
      ·exact absurd hd ((Q' ha).2.1 t ht)
   subst Ul;rw[hE,ht,Mf,Mf]
  ·have Ul:i≠j:=fun e1=>ht (wj t (e1 ▸ hw))
   rw[Na ht];have xb:D i=true:=by rw[hD.2 i Ul] at hi;exact hi
   refine h.hit t i xb hw fun i' a b L5=>bh i' a ?_ L5
   by_cases e1:i'=j
   ·subst e1;exact hD.1
   ·rw[hD.2 i' e1];exact b
 ·have ht:o.dst≠some t:=fun ht=>TL j hD.1 ⟨o,hr.op,ht⟩
  rw[Na ht];refine h.bu t fun i hi hw=>TL i ?_ hw
  by_cases e1:i=j
  ·subst e1;exact hD.1
  ·rw[hD.2 i e1];exact hi
end
end Go.Am
namespace Go.Am
open Go
section
variable [Stat]
variable {X:Cx}{P:Program}{ex:Ex}{ops:Array Oper}
theorem F7 (hX:Full X P){r:Option Nat}{o:Oper}{e:Env}{s s':St}{v:AV}{a:Act}{σ:Sg}{w:World}(G:XX X σ)(H:HR σ s w)(hf:σ s.next=none)(E:UR σ e a.tmps)(hc:QE o.op=false)(h:Zb X ex e o.op s=some (v,s'))
  {TA:Act->World->Prop}{Q:Exit->Act->World->Prop}(hn:∀u w' Y',Z6 Y' v u->Good σ s w Y' s' w'->TA (a.put o.dst u) w'):o.wpIn (FW r) 0 P a w TA Q:=by
 refine⟨Sv,?_⟩;rw[Oper.semAt_eq _ _ _ (fun c hc=>by rw[hc] at h;simp[Zb] at h),Vc];obtain⟨Y',nx,u,w',h1,h2,h3,h4⟩:=I0 (P:=P) hX.toXp G H hf E hc h;rw[h1];rcases h2 with rfl|⟨rfl,rfl⟩
 ·rw[Oper.uponIn_value];exact hn _ _ _ h3 h4
 ·rw[Oper.uponIn_skip];exact hn _ _ _ h3 h4
theorem IZ {o:Op}(h:cls X o≠.w)(h':cls X o≠.q):QE o=false:=by
 cases o <;> try rfl
 rename_i c;obtain⟨callee,args,Qf⟩:=c
 cases callee <;> first
  |rfl
  |(rename_i f
    exfalso
    cases f <;> simp only[cls] at h h' <;> first
     |exact h trivial
     |(split at h <;> simp_all)
     |simp_all)
theorem WO {p q:Nat->Bool}:∀(l:List Nat),(∀x∈l,p x=true->q x=true)->Y9 p l<=Y9 q l
 |[],_=>aba _
 |x::l,h=>by
  have ih:=WO (p:=p) (q:=q) l fun y hy=>h y (abc _ hy)
  have hx:=h x (aeZ ..);simp only[Y9];by_cases hp:p x=true
  ·rw[if_pos hp,if_pos (hx hp)];omega
  ·rw[if_neg hp];split <;> omega
theorem WG {p:Nat->Bool}:∀(l:List Nat) (n:Nat),n<=l.length->(∀x∈l.take n,p x=true)->(∀x∈l.drop n,p x=false)->Y9 p l=n
 |[],n,h,_,_=>by simp at h;subst h;rfl
 |x::l,0,h,_,h2=>by
  have ih:=WG (p:=p) l 0 (by omega) (by simp) (fun y hy=>h2 y (by simpa using abc _ hy));have:=h2 x (by simp);simp only[Y9,this,ih];rfl
 |x::l,n+1,h,h1,h2=>by
  have ih:=WG (p:=p) l n (by simpa using h) (fun y hy=>h1 y (by simpa using .inr hy)) (fun y hy=>h2 y (by simpa using hy));have:=h1 x (by simp);simp only[Y9,this,if_true,ih]
theorem Hv {e e':Env}{o:Oper}(h:∀t∈P_ ops o,Env.get e t=Env.get e' t):YE ops e o=YE ops e' o:=by
 unfold YE
 cases hg:o.guard with
 |none=>rfl
 |some g =>
  obtain⟨j,b⟩:=g;simp only
  cases hj:ops[j]? with
  |none=>rfl
  |some oj =>
   simp only
   cases hd:oj.dst with
   |none=>rfl
   |some d =>
    simp only;rw[h d (by simp[P_,hg,hj,hd])]
theorem F6 {o:Oper}{t:Tmp}(h:Operand.tmp t∈o.op.operands.toList):t∈P_ ops o:=by
 unfold P_;rw[afb];exact .inl (List.mem_filterMap.2 ⟨_,h,rfl⟩)
structure DI (X:Cx)(ops:Array Oper)(E:Nat->Env)(S:Nat->St)(Wg:Sg)(s0:St)(w0:World)(n0 sz:Nat)(D:Nat->Bool)(a:Act)(w:World):Prop where
 ex:∃m σ T e,HI X ops E S Wg s0 w0 D m σ T w/\KE ops E D e/\UR σ e a.tmps/\XX X σ/\DF n0 σ w a.defers
 size:a.tmps.size=sz
variable {E:Nat->Env}{S:Nat->St}{Wg:Sg}{s0:St}{w0:World}{n0 sz:Nat}{D D':Nat->Bool}{a:Act}{w:World}
theorem DI.step (hX:Full X P)(hE:O6 X P ex)(ht:Jt X ex ops s0.next E S)(hL:Hu X ops s0.next E)(Yv:Ok X ops)(K1:n0<=w0.heap.size)(F5:∀o∈ops.toList,MC sz o.dst)
  (VP:∀m,m=0\/(∃j,m=j+1/\kW X ops j)->∀i,m<=i->kA X ops i->(S m).look (s0.next+i)=none)
  (IY:∀(D:Nat->Bool) m j o v s',Ht ops D j o->(∀i,kW X ops i->(D i=true<->i<m))->(m=0\/∃j,m=j+1/\kW X ops j)->cls X o.op=.r\/cls X o.op=.q->YE ops (E j) o=true->Zb X ex (E j) o.op (S j)=some (v,s') ->
   ∃R zZ,Zb X ex (E j) o.op R=some (v,zZ)/\R.next=(S m).next/\∀id b,R.look id=some b->(S m).look id=some b\/∃i,m<=i/\kA X ops i/\Am.Yu ops i j=true/\id=s0.next+i/\(S (i+1)).look id=some b)
  (h:DI X ops E S Wg s0 w0 n0 sz D a w){j:Nat}{o:Oper}(hr:Ht ops D j o)(hD:Adds D D' j){r:Option Nat}{TA:Act->World->Prop}{Q:Exit->Act->World->Prop}
  (XY:∀a' w',DI X ops E S Wg s0 w0 n0 sz D' a' w'->TA a' w') :
  if Region.wanted o (yielded ops a.tmps) then o.wpIn (FW r) 0 P a w TA Q else (∀f,o.about P w a.eval=some f->(FW r).fn f)/\TA (a.put o.dst Go.undef) w:=by
 obtain⟨⟨m,σ,T,e,hH,hK,xj,hG,BH⟩,WU⟩:=h;have Js:j<ops.size:=(adm.1 hr.op).1;have hdj:MC a.tmps.size o.dst:=by
  rw[WU];exact F5 o (by
   have:=(adm.1 hr.op).2;rw[<-this];simp)
 have UI:∀t∈P_ ops o,Env.get e t=Env.get (E j) t:=fun t htl=>hK.look ht Yv hr htl
 have IX:∀s,Zb X ex e o.op s=Zb X ex (E j) o.op s:=fun s=>zY fun t hto=>UI t (F6 hto)
 have BQ:=VP m hH.mw;have hwt:Region.wanted o (yielded ops a.tmps)=YE ops (E j) o:=by rw[IW xj,Hv UI]
 rw[hwt];have fin:∀{m':Nat} {Y':Sg} {T':St} {w':World} {v:AV} {u:Value},HI X ops E S Wg s0 w0 D' m' Y' T' w'->E (j+1)=Y8 (E j) o.dst v->Sg.le σ Y'->Z6 Y' v u->DF n0 Y' w' a.defers ->
   DI X ops E S Wg s0 w0 n0 sz D' (a.put o.dst u) w':=by
  intro m' Y' T' w' v u h1 h2 h3 h4 h5;refine⟨⟨m',Y',T',Y8 e o.dst v,h1,hK.step Yv hr hD h2,MB (xj.mono h3) hdj h4,hG.mono h3,by rw[put_defers];exact h5⟩,by rw[F4,WU]⟩
 rcases WN (ht.step j o hr.op) with⟨h1,h2,h3⟩|⟨h1,v,h2,⟨hc,s1,h3,h4⟩|⟨hc,h3⟩⟩
 ·
  rw[h1];simp only[ae1,if_false];refine⟨Sv,XY _ _ ?_⟩;by_cases hs:kS X ops j
  ·exfalso;obtain⟨o2,MA,_,hg,_⟩:=WS hs;rw[hr.op] at MA;cases MA;simp[YE,hg] at h1
  by_cases hw:kW X ops j
  ·obtain⟨a1,a2,a3,a4,a5,a6,a7⟩:=hH.xi ht hL Yv BQ hr hw;have hHR:HR σ (S j) w:=hH.gd.hr.sub a5;have:=hH.wr ht hL Yv BQ hr hD hw (Y':=σ) (w':=w) (by rw[h3];exact Good.refl hHR);exact fin this h2 (Sg.le_refl _) SX BH
  ·have:=hH.keep hr hD hw hs (R:=T) (fun _ _ _ _ hb=>hb) rfl (Good.refl hH.gd.hr) (fun _=>rfl);exact fin this h2 (Sg.le_refl _) SX BH
 ·
  rw[h1];simp only[if_true];have hc:=Yl.1 hc;obtain⟨b,hb,rfl,X9⟩:=xh hc h3;have h5:=X9 { T with next:=s0.next+j } rfl;rw[<-IX] at h5;have hS:(S (j+1)).look (s0.next+j)=some b:=by
   rw[h4];show (St.new { S j with next:=s0.next+j } b).look (s0.next+j)=some b;rw[St.Wx _ _ _ hb,if_pos rfl]
  refine F7 hX hG (hH.gd.hr.congr (t:={ T with next:=s0.next+j }) fun _=>rfl) (hH.u j ⟨o,hr.op,hc⟩ hr.no) xj (IZ (X:=X) (by rw[hc];simp) (by rw[hc];simp)) h5 fun u w' Y' hv g=>XY _ _ ?_
  have:=hH.al hL Yv hr hD hc hb hS g;exact fin this h2 g.ext.le hv (BH.good g)
 ·rw[h1];simp only[if_true];have lV:cls X o.op≠.w->¬kW X ops j:=fun ZQ ⟨o2,MA,P9,_⟩=>by rw[hr.op] at MA;cases MA;exact ZQ P9
  have xg:cls X o.op≠.w->¬kS X ops j:=fun ZQ hs=>by
   obtain⟨o2,MA,_,_,P9,_⟩:=WS hs;rw[hr.op] at MA;cases MA;exact ZQ P9
  have lU:cls X o.op≠.a->kA X ops j->σ=σ->False:=fun ZQ ⟨o2,MA,P9⟩ _=>by rw[hr.op] at MA;cases MA;exact ZQ P9
  cases hk:cls X o.op with
  |a=>rw[hk] at hc;cases hc
  |p =>
   obtain⟨_,X9⟩:=xe hk _ _ _ h3;have h5:=X9 T;rw[<-IX] at h5;refine F7 hX hG hH.gd.hr (hH.gd.fresh _ (aba _)) xj (IZ (X:=X) (by rw[hk];simp) (by rw[hk];simp)) h5 fun u w' Y' hv g=>XY _ _ ?_
   have:=hH.keep hr hD (lV (by rw[hk];simp)) (xg (by rw[hk];simp)) (R:=T) (fun _ _ _ _ hb=>hb) rfl g (fun e=>(lU (by rw[hk];simp) e rfl).elim);exact fin this h2 g.ext.le hv (BH.good g)
  |r =>
   have IV:∀i,D i=true->¬kS X ops i:=hr.Hs (by rw[hk];simp) (by rw[hk];simp) (by
    cases hl:late X ops j with
    |false=>rfl
    |true=>exact absurd hl (xg (by rw[hk];simp)))
   obtain⟨R,zZ,h5,h6,h7⟩:=IY D m j o v _ hr hH.Jr hH.mw (.inl hk) h1 h3;have:=xd hk h5;subst this;rw[<-IX] at h5;have WH:∀i p b,σ i=some p->zZ.look i=some b->T.look i=some b:=by
    intro i p b hp hb;rcases h7 i b hb with h8|⟨i',k1,k2,k3,rfl,k4⟩
    ·rw[hH.t1 i (by rw[hp];simp) ?_ fun i' k1 k2=>absurd k2 (IV i' k1)]
     ·exact h8
     ·rintro i' k1 k2 k3 rfl;rw[BQ i' k1 k3] at h8;cases h8
    ·rw[hH.t2 i' k1 (hr.Yu k3) k2 (by rw[hp];simp)];exact k4
   have hn:zZ.next=T.next:=by rw[h6,hH.t3]
   have I:Inv X σ zZ w n0 e a:=⟨hH.gd.hr.sub WH,fun i hi=>hH.gd.fresh i (by rw[<-hn];exact hi),hG,xj,BH,afG K1 hH.gd.ext.size⟩;refine O5 hX hE I h5 fun u w' Y' hv g=>XY _ _ ?_
   have:=hH.keep hr hD (lV (by rw[hk];simp)) (xg (by rw[hk];simp)) WH hn g (fun e=>(lU (by rw[hk];simp) e rfl).elim);exact fin this h2 g.ext.le hv (BH.good g)
  |q =>
   have IV:∀i,D i=true->¬kS X ops i:=hr.Hs (by rw[hk];simp) (by rw[hk];simp) (by
    cases hl:late X ops j with
    |false=>rfl
    |true=>exact absurd hl (xg (by rw[hk];simp)))
   obtain⟨R,zZ,h5,h6,h7⟩:=IY D m j o v _ hr hH.Jr hH.mw (.inr hk) h1 h3;have:=(K0 hk h5).1;subst this;rw[<-IX] at h5;have WH:∀i p b,σ i=some p->zZ.look i=some b->T.look i=some b:=by
    intro i p b hp hb;rcases h7 i b hb with h8|⟨i',k1,k2,k3,rfl,k4⟩
    ·rw[hH.t1 i (by rw[hp];simp) ?_ fun i' k1 k2=>absurd k2 (IV i' k1)]
     ·exact h8
     ·rintro i' k1 k2 k3 rfl;rw[BQ i' k1 k3] at h8;cases h8
    ·rw[hH.t2 i' k1 (hr.Yu k3) k2 (by rw[hp];simp)];exact k4
   have hn:zZ.next=T.next:=by rw[h6,hH.t3]
   have I:Inv X σ zZ w n0 e a:=⟨hH.gd.hr.sub WH,fun i hi=>hH.gd.fresh i (by rw[<-hn];exact hi),hG,xj,BH,afG K1 hH.gd.ext.size⟩;refine O5 hX hE I h5 fun u w' Y' hv g=>XY _ _ ?_
   have:=hH.keep hr hD (lV (by rw[hk];simp)) (xg (by rw[hk];simp)) WH hn g (fun e=>(lU (by rw[hk];simp) e rfl).elim);exact fin this h2 g.ext.le hv (BH.good g)
  |w =>
   by_cases hs:kS X ops j
   ·obtain⟨b,hb,_⟩:=hL.some j hs;obtain⟨k0,k',v',g1,g2,g3,g4,g5⟩:=ht.Nt hr.op hs hb;have LK:Vn X (E j) o.op=some b:=by unfold lb at hb;rw[hr.op] at hb;exact hb
    have eK:σ b≠none:=by
     obtain⟨o2,MA,Xg,_⟩:=WS hs;rw[hr.op] at MA;cases MA
     cases D3:o.op <;> rw[D3] at Xg <;> simp only[Vm] at Xg <;> try (cases Xg;done)
     rename_i tt aa xx;rw[D3] at LK;simp only[Vn] at LK
     split at LK
     ·rename_i b1 o1 ha
      cases LK
      have rF:eval X e aa=some (.ptr b o1):=by
       rw[<-ha];exact eval_congr fun t rE=>UI t (F6 (by rw[D3,rE];simp[Op.operands]))
      obtain⟨p,hp,_⟩:=Yf (VO hG xj rF);rw[hp];simp
     ·cases LK
    have hf:=hH.zX ht hL Yv hr hs hb eK;have hTk:T.look b=some k0:=by rw[hf];exact g1
    have Ue:T.get b=(S j).get b:=by
     have h5:=hTk;have h6:=g1;unfold St.look at h5 h6
     cases hx:T.get b with
     |none=>rw[hx] at h5;cases h5
     |some x =>
      cases hy:(S j).get b with
      |none=>rw[hy] at h6;cases h6
      |some y =>
       rw[hx] at h5;rw[hy] at h6
       cases x <;> cases y <;> simp only at h5 h6 <;> first|(cases h5;done)|(cases h6;done)|(rw[h5,h6])
    have h5:=g5 T Ue;rw[<-IX] at h5;have I:Inv X σ T w n0 e a:=⟨hH.gd.hr,hH.gd.fresh,hG,xj,BH,afG K1 hH.gd.ext.size⟩;refine O5 hX hE I h5 fun u w' Y' hv g=>XY _ _ ?_
    have:=hH.st hL hr hD hs hb eK hTk g2 (by rw[g3,St.Ye,if_pos rfl];cases k' <;> first|rfl|exact absurd rfl g2) g;exact fin this g4 g.ext.le hv (BH.good g)
   ·have hw:kW X ops j:=⟨o,hr.op,hk,by
     cases hl:late X ops j with
     |false=>rfl
     |true=>exact absurd hl hs⟩
    obtain⟨a1,a2,a3,a4,a5,a6,a7⟩:=hH.xi ht hL Yv BQ hr hw;have hHR:HR σ (S j) w:=hH.gd.hr.sub a5;rw[<-IX] at h3;have I:Inv X σ (S j) w n0 e a:=⟨hHR,fun i hi=>hH.gd.fresh i (by rw[<-a2];exact hi),hG,xj,BH,afG K1 hH.gd.ext.size⟩;refine O5 hX hE I h3 fun u w' Y' hv g=>XY _ _ ?_
    have:=hH.wr ht hL Yv BQ hr hD hw g;exact fin this h2 g.ext.le hv (BH.good g)
theorem DI.run (hX:Full X P)(hE:O6 X P ex)(ht:Jt X ex ops s0.next E S)(hL:Hu X ops s0.next E)(Yv:Ok X ops)(K1:n0<=w0.heap.size)(F5:∀o∈ops.toList,MC sz o.dst)
  (VP:∀m,m=0\/(∃j,m=j+1/\kW X ops j)->∀i,m<=i->kA X ops i->(S m).look (s0.next+i)=none)
  (IY:∀(D:Nat->Bool) m j o v s',Ht ops D j o->(∀i,kW X ops i->(D i=true<->i<m))->(m=0\/∃j,m=j+1/\kW X ops j)->cls X o.op=.r\/cls X o.op=.q->YE ops (E j) o=true->Zb X ex (E j) o.op (S j)=some (v,s') ->
   ∃R zZ,Zb X ex (E j) o.op R=some (v,zZ)/\R.next=(S m).next/\∀id b,R.look id=some b->(S m).look id=some b\/∃i,m<=i/\kA X ops i/\Am.Yu ops i j=true/\id=s0.next+i/\(S (i+1)).look id=some b)
  {r:Option Nat}{Q:Exit->Act->World->Prop}(rG:∀D a w,(∀i,i<ops.size->D i=true)->DI X ops E S Wg s0 w0 n0 sz D a w->Q .normal a w) :
  ∀(fuel t:Nat) (listed:Array Bool) (a:Act) (w:World),listed.size=ops.size->DJ ops (fun i=>listed.getD i false)->left (fun i=>listed.getD i false) ops.size<=fuel->DI X ops E S Wg s0 w0 n0 sz (fun i=>listed.getD i false) a w ->
   wpOpsIn (FW r) 0 P ops Q (Region.linearise.go .any ops fuel t listed []) a w:=by
 intro fuel
 induction fuel with
 |zero =>
  intro t listed a w hs BG hl hI;simp only[Region.linearise.go,List.reverse_nil,wpOpsIn];exact rG _ _ _ (IU (by omega)) hI
 |succ fuel ih =>
  intro t listed a w hs BG hl hI;simp only[Region.linearise.go];generalize xS:((List.range ops.size).filter fun i=>!listed.getD i true&&((ops[i]?).map (·.after.all fun e=>!Region.binds .any e||listed.getD e.on false)).getD false)=rs
  cases hi:rs[t%rs.length]? with
  |none =>
   have abn:rs=[]:=by
    cases rs with
    |nil=>rfl
    |cons x xs =>
     have Zm:t%(x::xs).length<(x::xs).length:=Nat.mod_lt _ (by simp);rw[aaa Zm] at hi;cases hi
   simp only[List.reverse_nil,wpOpsIn];refine rG _ _ _ (fun i hi=>?_) hI
   induction i using Nat.strongRecOn with
   |_ i ihi =>
    cases hD:listed.getD i false with
    |true=>rfl
    |false =>
     exfalso;have ho:=afp hi;have:i∈rs:=by
      rw[<-xS,List.mem_filter];refine⟨afh.2 hi,?_⟩;have h1:listed.getD i true=false:=by
       rw[afk,afp (by omega)] at hD ⊢
       simpa using hD
      rw[h1,ho];simp only[Bool.not_false,afU,afF,afZ];rw[<-Array.all_toList,ae9];intro e he
      cases hb:Region.binds .any e with
      |false=>rfl
      |true =>
       have Zm:=Yv.edge i _ ho e he hb;simp only[Bool.not_true,afV];exact ihi e.on Zm (by omega)
     rw[abn] at this;cases this
  |some j =>
   simp only;have hj:=afl hi;rw[<-xS,List.mem_filter] at hj;obtain⟨hj1,hj2⟩:=hj;have Js:j<ops.size:=afh.1 hj1;have ho:=afp Js;rw[ho] at hj2;simp only[aab,afw,afF,afZ] at hj2;have TL:listed.getD j false=false:=by
    have:=hj2.1;rw[afk,afp (by omega)] at this ⊢
    simpa using this
   have nK:∀e∈(ops[j]).after.toList,Region.binds .any e=true->listed.getD e.on false=true:=by
    have:=hj2.2;rw[<-Array.all_toList,ae9] at this;intro e he hb;have:=this e he;rw[hb] at this
    simpa using this
   have hr:Ht ops (fun i=>listed.getD i false) j ops[j]:=⟨BG,ho,TL,nK⟩;have Ue:∀i,(listed.setIfInBounds j true).getD i false=if i=j then true else listed.getD i false:=by
    intro i;simp only[afk,afW];by_cases e:j=i
    ·subst e;simp[hs,Js]
    ·rw[if_neg e,if_neg (fun h=>e h.symm)]
   have hD:Adds (fun i=>listed.getD i false) (fun i=>(listed.setIfInBounds j true).getD i false) j:=by
    refine⟨by simp only[Ue,if_true],fun i Ul=>by simp only[Ue,if_neg Ul]⟩
   rw[linearise_go_acc,List.reverse_singleton,List.singleton_append];simp only[wpOpsIn,ho];refine hI.step hX hE ht hL Yv K1 F5 VP IY hr hD fun a' w' eJ=>ih _ _ a' w' (by simpa using hs) ?_ ?_ eJ
   ·intro i o xb JB e he hb;rcases hD.of xb with rfl|xb
    ·rw[ho] at JB;cases JB;by_cases eI:e.on=i
     ·simp only[Ue,if_pos eI]
     ·simp only[Ue,if_neg eI];exact nK e he hb
    ·have:=BG i o xb JB e he hb;by_cases eI:e.on=j
     ·simp only[Ue,if_pos eI]
     ·simp only[Ue,if_neg eI];exact this
   ·have:=F3 (D:=fun i=>listed.getD i false) (D':=fun i=>(listed.setIfInBounds j true).getD i false) TL hD.1 (fun i Ul=>hD.2 i Ul) Js;omega
theorem lT (hX:Full X P):Hr X P:=by
 intro ex hE r ops e e' s s' a w σ n0 t Q h Yv F5 I hQ;have Yv:=DH Yv;unfold RF at h
 split at h
 ·rename_i tr eH;simp only at h
  split at h
  ·rename_i ss eG
   split at h
   ·rename_i Ns;simp only[aab] at Ns;obtain⟨⟨KZ,eF⟩,eE⟩:=Ns;have Ns:=And.intro eF eE;obtain⟨k1,k2,k3⟩:=SW _ _ _ _ _ eH;have k1:tr.length=ops.size+1:=by simpa using k1
    have ht:Jt X ex ops s.next (UU tr) (Yo tr):=⟨fun i o ho=>by
     have:=k3 i o (by simpa using ho)
     simpa using this⟩
    have KY:Yo tr 0={ s with next:=s.next+ops.size }:=by simp[Yo,k2]
    have hE0:UU tr 0=e:=by simp[UU,k2]
    have eD:=O4 _ _ eG;have PQ:∀j,j∈ZF X ops 0 ops.toList<->kW X ops j:=by
     intro j;rw[SV]
     constructor
     ·rintro⟨k,o,h1,rfl,h3⟩;simp only[aab,afw] at h3;exact⟨o,by simpa using h1,Tz.1 h3.1,h3.2⟩
     ·rintro⟨o,h1,h3,h4⟩;exact⟨j,o,by simpa using h1,by omega,by simp[Tz.2 h3,h4]⟩
    have hL:Hu X ops s.next (UU tr):=by
     obtain⟨l1,l2⟩:=Mz _ KZ;have Zm:∀i,kS X ops i->i<ops.toList.length:=fun i hi=>by
      obtain⟨o,ho,_⟩:=WS hi
      simpa using (adm.1 ho).1
     have VD:∀i o,ops.toList[i]? = some o->lb X ops (UU tr) i=Vn X (UU tr i) o.op:=fun i o ho=>by
      unfold lb;rw[show ops[i]? = some o by simpa using ho]
     refine⟨fun i hi=>?_,fun i j hi hj Ul=>?_⟩
     ·obtain⟨q,o,e1,e2,_⟩:=UA (X:=X) (ops:=ops) ops.toList tr 0 (by simpa using k1) i (Zm i hi) (by rw[ad4];exact hi);obtain⟨b,hb,hr⟩:=l1 _ (afl e2);exact⟨b,by rw[VD i o e1];exact hb,hr⟩
     ·have key:∀i j,kS X ops i->kS X ops j->i<j->lb X ops (UU tr) i≠lb X ops (UU tr) j:=by
       intro i j hi hj Ul;obtain⟨q,o,e1,e2,e3⟩:=UA (X:=X) (ops:=ops) ops.toList tr 0 (by simpa using k1) i (Zm i hi) (by rw[ad4];exact hi);have hjo:=aaa (Zm j hj);obtain⟨q',e4,e5⟩:=e3 j _ Ul hjo (by rw[ad4];exact hj);rw[VD i o e1,VD j _ hjo];exact l2 q q' _ _ e4 e2 e5
      rcases Nat.lt_trichotomy i j with h1|h1|h1
      ·exact key i j hi hj h1
      ·exact absurd h1 Ul
      ·exact fun e=>key j i hj hi h1 e.symm
    have VU:∀m,m=0\/(∃j,m=j+1/\kW X ops j)->(m,Yo tr m)∈(0,{ s with next:=s.next+ops.size })::ss:=by
     rintro m (rfl|⟨j,rfl,hj⟩)
     ·rw[KY];exact aeZ ..
     ·refine abc _ ?_;rw[eD];exact afe.2 ⟨j,(PQ j).2 hj,rfl⟩
    have IY:∀(D:Nat->Bool) m j o v s',Ht ops D j o->(∀i,kW X ops i->(D i=true<->i<m))->(m=0\/∃j,m=j+1/\kW X ops j)->cls X o.op=.r\/cls X o.op=.q->YE ops (UU tr j) o=true->Zb X ex (UU tr j) o.op (Yo tr j)=some (v,s') ->
      ∃R zZ,Zb X ex (UU tr j) o.op R=some (v,zZ)/\R.next=(Yo tr m).next/\∀id b,R.look id=some b->(Yo tr m).look id=some b\/∃i,m<=i/\kA X ops i/\Am.Yu ops i j=true/\id=s.next+i/\(Yo tr (i+1)).look id=some b:=by
     intro D m j o v s1 hr Nr hm hk hw D3;have Js:j<ops.size:=(adm.1 hr.op).1;have htj:tr[j]? = some (UU tr j,Yo tr j):=by
      rw[aaa (by omega)];simp[UU,Yo,aaa (show j<tr.length by omega)]
     obtain⟨q1,q2⟩:=My _ _ _ Ns.1 j o _ (by simpa using hr.op) htj hw;rw[ad4] at q1 q2;have R4:(m,Yo tr m)∈WM ops (ZF X ops 0 ops.toList) ((0,({ s with next:=s.next+ops.size }:St))::ss) j:=by
      have Hq:Y9 (fun i=>Am.Yu ops i j) (ZF X ops 0 ops.toList)<=Y9 D (ZF X ops 0 ops.toList):=WO _ fun x _ hb=>hr.Yu hb
      have D2:Y9 D (ZF X ops 0 ops.toList)<=Y9 (fun i=>!Am.Yu ops j i) (ZF X ops 0 ops.toList):=WO _ fun x _ hb=>by simp[hr.Nq hb]
      have D1:((0,({ s with next:=s.next+ops.size }:St))::ss)[Y9 D (ZF X ops 0 ops.toList)]? = some (m,Yo tr m):=by
       rcases hm with rfl|⟨q,rfl,hq⟩
       ·have:Y9 D (ZF X ops 0 ops.toList)=0:=WG _ 0 (ae5 _) (by simp) fun x hx=>by
         have:=Nr x ((PQ x).1 (by simpa using hx))
         cases hd:D x with
         |false=>rfl
         |true=>have:=this.1 hd;omega
        rw[this,KY];rfl
       ·obtain⟨n,hn⟩:=List.getElem?_of_mem ((PQ q).2 hq);have IV:=(ae6.1 hn).1;have UJ:=Vb (X:=X) (ops:=ops) ops.toList 0;have sw:=afS.1 UJ;have eC:=(ae6.1 hn).2;have:Y9 D (ZF X ops 0 ops.toList)=n+1:=by
         refine WG _ (n+1) IV (fun x hx=>?_) fun x hx=>?_
         ·obtain⟨i,hi,sk⟩:=ae8.1 hx;have Uz:i<n+1:=by rw[afH] at hi;omega
          rw[List.getElem_take] at sk;have hxw:=(PQ x).1 (by rw[<-sk];exact ae2 _);refine (Nr x hxw).2 ?_;by_cases e:i=n
          ·subst e;rw[eC] at sk;omega
          ·have:=sw i n (by omega) IV (by omega);rw[eC] at this;omega
         ·obtain⟨i,hi,sk⟩:=ae8.1 hx;rw[List.getElem_drop] at sk;rw[afQ] at hi;have hxw:=(PQ x).1 (by rw[<-sk];exact ae2 _);have:=sw n (n+1+i) IV (by omega) (by omega);rw[eC,sk] at this
          cases hd:D x with
          |false=>rfl
          |true=>have:=(Nr x hxw).1 hd;omega
        rw[this,afr,eD,afs,hn];rfl
      unfold WM;refine afl (i:=Y9 D (ZF X ops 0 ops.toList)-Y9 (fun i=>Am.Yu ops i j) (ZF X ops 0 ops.toList)) ?_;rw[List.getElem?_drop,show Y9 (fun i=>Am.Yu ops i j) (ZF X ops 0 ops.toList)+(Y9 D (ZF X ops 0 ops.toList)-Y9 (fun i=>Am.Yu ops i j) (ZF X ops 0 ops.toList))=Y9 D (ZF X ops 0 ops.toList) by omega,
       List.getElem?_take,if_pos (by omega)]
      exact D1
     have hR:=SU (ops:=ops) (X:=X) (base:=s.next) (i:=j) (m:=m) (tr:=tr) (Ww X 0 ops.toList) (Yo tr m) (fun i hi=>by
      obtain⟨k,o',h1,h2,h3⟩:=KX _ _ _ hi;exact⟨o',by rw[h2];simpa using h1,h3⟩)
     rcases hk with hk|hk
     ·obtain⟨v',s2,h1,h2⟩:=q1 hk;simp only at h1;rw[D3] at h1;cases h1;obtain⟨s3,h3⟩:=RE _ h2 m _ R4;exact⟨_,s3,h3,hR.1,hR.2⟩
     ·obtain⟨_,c,vs,us,hc,Uy,PS,X9⟩:=K0 hk D3;rcases q2 hk c vs us hc Uy PS with h1|h1
      ·refine⟨Yo tr m,_,X9 _ ?_,rfl,fun id b hb=>.inl hb⟩;unfold Yb at PS ⊢;rw[if_pos h1] at PS ⊢;exact PS
      ·exact⟨_,_,X9 _ (P8 _ h1 m _ R4),hR.1,hR.2⟩
    have hI0:DI X ops (UU tr) (Yo tr) σ s w n0 a.tmps.size (fun i=>(Array.replicate ops.size false).getD i false) a w:=by
     have hf:∀i,(Array.replicate ops.size false).getD i false=false:=by
      intro i;rw[afk,Array.getElem?_replicate]
      split <;> rfl
     refine⟨⟨0,σ,{ s with next:=s.next+ops.size },e,⟨⟨I.hr.congr (fun _=>rfl),?_,fun _ _=>rfl,Nat.le_add_right ..,fun i hi=>I.fresh i (afG (Nat.le_add_right ..) hi),fun _ _ h=>h,fun i p h1 h2=>(by rw[h2] at h1;cases h1)⟩,
      ae5 _,fun i _=>by simp[hf],.inl rfl,fun id _ _ _=>by rw[KY],fun i _ hd=>(by rw[hf] at hd;cases hd),by rw[KY],fun i b hd=>(by rw[hf] at hd;cases hd),fun i hk _=>?_,fun i hi hl=>by rw[KY];exact hl,by rw[KY],by rw[KY];exact aba _⟩,⟨fun t i hd=>(by rw[hf] at hd;cases hd),fun t _=>by rw[hE0]⟩,I.env,I.glob,I.df⟩,rfl⟩
     ·exact⟨Sg.le_refl _,fun _ _ h=>.inl h,aba _,fun _ _ _=>rfl,fun c _ ⟨i,p,b,h1,h2,h3,h4⟩=>⟨i,p,b,h1,h2,h3,h4⟩,rfl,rfl,rfl⟩
     ·exact I.fresh _ (Nat.le_add_right ..)
    refine DI.run (sz:=a.tmps.size) hX hE ht hL Yv I.n0 F5 (fun m hm i hi hk=>O2 _ Ns.2 m _ (VU m hm) i hi hk) IY ?_ ops.size t _ a w (by simp) ?_ ?_ hI0
    ·
     rintro D a1 w1 X9 ⟨⟨m,LH,T,e1,hH,hK,xj,hG,BH⟩,WU⟩;have KW:=KV tr;rw[h] at KW;have hn:tr.getLast? = some (UU tr ops.size,Yo tr ops.size):=by
      rw[List.getLast?_eq_getElem?,k1];simp[UU,Yo,aaa (show ops.size<tr.length by omega)]
     rw[hn] at KW;simp only[Option.some.injEq,Prod.mk.injEq] at KW;obtain⟨rfl,rfl⟩:=KW;have lS:∀i,m<=i->i<m+(ops.size-m)->¬kW X ops i:=fun i h1 h2 hk=>by
      have:=(hH.Jr i hk).1 (X9 i (by have:=hH.mN;omega));omega
     have BM:m+(ops.size-m)=ops.size:=by have:=hH.mN;omega
     obtain⟨b1,b2,b3,b4,b5⟩:=ht.between hL m (ops.size-m) (by omega) lS;rw[BM] at b1 b2 b3 b4 b5;have ltS:∀i,kS X ops i->i<ops.size:=fun i hi=>by
      obtain⟨o,ho,_⟩:=WS hi;exact (adm.1 ho).1
     have hmS:∀i,kS X ops i->m<=i:=fun i hi=>by
      rcases hH.mw with e|⟨l,rfl,hl⟩
      ·omega
      ·refine Nat.le_of_not_lt fun Zm=>?_
       have ZQ:l≠i:=fun e=>O1 hl (e ▸ hi)
       obtain⟨oi,JB,_,_,_,eB⟩:=WS hi;obtain⟨ol,BF,hc,IT⟩:=id hl;rcases eB l ol ZQ BF with hb|hb|hb|hb
       ·have:=Yv.Ud i l hb;omega
       ·rw[IT] at hb;cases hb
       ·rw[hc] at hb;cases hb
       ·rw[hc] at hb;cases hb
     have g:Good σ s w LH (Yo tr ops.size) w1:=hH.gd.good (fun i p hp=>by
      by_cases hx:∃i',m<=i'/\i'<ops.size/\kA X ops i'/\i=s.next+i'
      ·obtain⟨i',h1,h2,h3,rfl⟩:=hx;rw[hH.t2 i' h1 (X9 i' h2) h3 (by rw[hp];simp),<-b4 i' h1 h2 h3]
      ·by_cases hy:∃i',kS X ops i'/\lb X ops (UU tr) i'=some i
       ·obtain⟨i',h1,h2⟩:=hy;rw[hH.t4 i' i (X9 i' (ltS i' h1)) h1 h2 (by rw[hp];simp),b5 i' i (hmS i' h1) (ltS i' h1) h1 h2]
       ·rw[b3 i (fun i' h1 h2 h3 e=>hx ⟨i',h1,h2,h3,e⟩) (fun i' _ _ h3 e=>hy ⟨i',h3,e⟩)];exact hH.t1 i (by rw[hp];simp) (fun i' h1 h2 h3 e=>hx ⟨i',h1,by
         obtain⟨o,ho,_⟩:=h3;exact (adm.1 ho).1,h3,e⟩) (fun i' _ h3 e=>hy ⟨i',h3,e⟩))
      (fun i hi hl=>by
       by_cases hy:∃i',kS X ops i'/\lb X ops (UU tr) i'=some i
       ·exfalso;obtain⟨i',h1,h2⟩:=hy;obtain⟨o,ho,_⟩:=WS h1;obtain⟨k0,_,_,g1,_⟩:=ht.Nt ho h1 h2;have eA:=hmS i' h1;obtain⟨d,hd⟩:∃d,i'=m+d:=⟨i'-m,by omega⟩;have Uz:=ltS i' h1;obtain⟨_,_,c3,_,_⟩:=ht.between hL m d (by omega) (fun q q1 q2=>lS q q1 (by omega));rw[<-hd] at c3;rw[c3 i (fun q _ q2 _ e=>by omega) (fun q _ q2 hq e=>hL.ne q i' hq h1 (by omega) (by rw[e,h2])),hH.IS i hi hl] at g1
        cases g1
       ·rw[b3 i (fun i' _ _ _ e=>by omega) (fun i' _ _ h3 e=>hy ⟨i',h3,e⟩)];exact hH.IS i hi hl) (by rw[b1,hH.t3]) (by rw[b2,hH.F2]) I.fresh
     refine hQ _ _ ⟨LH,g,⟨g.hr,g.fresh I.fresh,hG,fun tt=>?_,BH,afG I.n0 g.ext.size⟩,WU⟩;rw[<-hK.at ht (aba _) (fun i hi _=>X9 i hi) (fun i hi _ ⟨o,ho,_⟩=>by
      have:=(adm.1 ho).1;omega)]
     exact xj tt
    ·intro j o hd;simp only at hd;rw[afk,Array.getElem?_replicate] at hd
     split at hd <;> cases hd
    ·have:∀(D:Nat->Bool) n,left D n<=n:=by
      intro D n
      induction n with
      |zero=>exact aba _
      |succ n ih=>simp only[left];split <;> omega
     exact this _ _
   ·cases h
  ·cases h
 ·cases h
theorem lR (hX:Full X P){n:Nat}{f:FuncId}(OZ:X.ext f=none){args:List AV}{s s':St}{v:AV}(h:run X n f args s=some (v,s')){σ:Sg}{w:World}{us:Array Value}
  (H:HR σ s w)(F:Va σ s)(G:XX X σ)(hv:Z5 σ args us.toList):Calls P f us w fun en w'=>∃u Y',en=.returned u/\Z6 Y' v u/\Good σ s w Y' s' w' :=
 zW hX (lT hX) OZ h H F G hv
end
end Go.Am
namespace Go.Am
open Go
section
variable (X:Cx)
noncomputable def Y0:Ex:=fun c e s =>
 open Classical in if h:∃r n,∀m,n<=m->exec X m c e s=some r then some (Classical.choose h) else none
variable {X}
theorem Qm {c:Code}{e:Env}{s:St}{r:Out×Env×St}:Y0 X c e s=some r<->∃n,∀m,n<=m->exec X m c e s=some r:=by
 unfold Y0
 constructor
 ·intro h
  split at h
  ·rename_i hx
   cases h
   exact Classical.choose_spec hx
  ·cases h
 ·rintro⟨n,hn⟩;have hx:∃r n,∀m,n<=m->exec X m c e s=some r:=⟨r,n,hn⟩;rw[dif_pos hx];obtain⟨n',yq⟩:=Classical.choose_spec hx;have h1:=hn (max n n') (Nat.le_max_left ..);have h2:=yq (max n n') (Nat.le_max_right ..);rw[h1] at h2;exact congrArg some (Option.some.inj h2).symm
def Ex.le (a b:Ex):Prop:=∀c e s r,a c e s=some r->b c e s=some r
structure ZG {α:Type}(X:Cx)(F:Ex->Option α):Prop where
 mono:∀a b,Ex.le a b->∀r,F a=some r->F b=some r
 cont:∀r,F (Y0 X)=some r->∃n,∀m,n<=m->F (exec X m)=some r
theorem ZG.const {α:Type}(v:Option α):ZG X (fun _=>v):=⟨fun _ _ _ _ h=>h,fun _ h=>⟨0,fun _ _=>h⟩⟩
theorem ZG.app (c:Code)(e:Env)(s:St):ZG X (fun ex=>ex c e s):=⟨fun a b h r hr=>h c e s r hr,fun r h=>Qm.1 h⟩
theorem ZG.bind {α β:Type}{A:Ex->Option α}{B:α->Ex->Option β}(hA:ZG X A)(hB:∀x,ZG X (B x)):ZG X (fun ex=>(A ex).bind fun x=>B x ex):=by
 refine⟨fun a b h r hr=>?_,fun r hr=>?_⟩
 ·cases ha:A a with
  |none=>simp[ha] at hr
  |some x =>
   simp only[ha,Option.bind_some] at hr;simp only[hA.mono a b h x ha,Option.bind_some];exact (hB x).mono a b h r hr
 ·cases ha:A (Y0 X) with
  |none=>simp[ha] at hr
  |some x =>
   simp only[ha,Option.bind_some] at hr;obtain⟨n,hn⟩:=hA.cont x ha;obtain⟨k,hk⟩:=(hB x).cont r hr;refine⟨max n k,fun m hm=>?_⟩;simp only[hn m (by omega),Option.bind_some];exact hk m (by omega)
theorem ZG.of {α:Type}{F G:Ex->Option α}(h:∀ex,F ex=G ex)(hG:ZG X G):ZG X F:=by
 have:F=G:=funext h;rw[this];exact hG
theorem JW (f:FuncId)(args:List AV)(s:St):ZG X (fun ex=>P7 X ex f args s):=by
 unfold P7
 split
 ·rename_i fn wU
  split
  ·rename_i c hc;refine ZG.of (G:=fun ex=>(ex c (ZM 0 args .nil) s).bind fun x=>match x with
    |(.norm,e,s')=>(match Wu X fn e s' with|some v=>some (v,s')|none=>none)
    |(.ret,e,s')=>(match Wu X fn e s' with|some v=>some (v,s')|none=>none)
    |_=>none) (fun ex=>?_) (ZG.bind (ZG.app _ _ _) fun x=>ZG.const _)
   cases ex c (ZM 0 args .nil) s with
   |none=>rfl
   |some x=>obtain⟨o,e,s'⟩:=x;cases o <;> rfl
  ·exact ZG.const _
 ·exact ZG.const _
theorem KA (f:FuncId)(args:List AV)(st:Bool):ZG X (fun ex=>YV X ex f args st):=by
 refine ZG.of (G:=fun ex=>(P7 X ex f args (YH X)).bind fun x=>if st then YG X x.2 T4 x.1 else if flat x.1 then some x.1 else Xv X x.2 T4 x.1) (fun ex=>?_) (ZG.bind (JW _ _ _) fun x=>ZG.const _);unfold YV
 cases P7 X ex f args (YH X) <;> rfl
theorem Cp (f:FuncId)(args:List AV)(s:St):ZG X (fun ex=>Rm X ex f args s):=by
 unfold Rm
 split
 ·rename_i us PS;refine ZG.of (G:=fun ex=>(YV X ex f us (ZK args)).bind fun v=>some (v,s)) (fun ex=>?_) (ZG.bind (KA _ _ _) fun x=>ZG.const _)
  cases YV X ex f us (ZK args) <;> rfl
 ·exact ZG.const _
theorem Px (f:FuncId)(args:List AV)(s:St):ZG X (fun ex=>Wa X ex f args s):=by
 unfold Wa
 split
 ·exact ZG.const _
 ·split
  ·exact Cp _ _ _
  ·exact JW _ _ _
theorem Ew (l:Nat)(args:List AV)(s:St):ZG X (fun ex=>Kx ex l args s):=by
 unfold Kx
 split
 ·rename_i p env params assign body hg
  split
  ·rename_i hlen;refine ZG.of (G:=fun ex=>(ex assign ((params.zip args).foldl (fun e (t,a)=>Tr.set e t a) env) s).bind fun x=>match x with
    |(.norm,wb,s1)=>(match s1.get l with
     |some (.loop 0 p1 e1 q1 a1 b1)=>(ex body wb (s1.put l (.loop 1 p1 e1 q1 a1 b1))).bind fun y=>(match y.2.2.get l with
      |some (.loop _ _ e2 q2 a2 b2)=>Qs l y.1 e2 q2 a2 b2 y.2.2
      |_=>none)
     |_=>none)
    |_=>none) (fun ex=>?_) (ZG.bind (ZG.app _ _ _) fun x=>?_)
   ·simp only
    cases ex assign ((params.zip args).foldl (fun e (t,a)=>Tr.set e t a) env) s with
    |none=>rfl
    |some x =>
     obtain⟨o,e1,s1⟩:=x
     cases o <;> simp only[Option.bind_some]
     split
     ·rename_i p1 e2 q1 a1 b1 h1;simp only[h1]
      cases ex body e1 (s1.put l (.loop 1 p1 e2 q1 a1 b1)) with
      |none=>rfl
      |some y=>obtain⟨o2,e3,s3⟩:=y;rfl
     ·rename_i ZQ
      split
      ·rename_i h;exact absurd h (ZQ _ _ _ _ _)
      ·rfl
   ·obtain⟨o,e1,s1⟩:=x
    cases o <;> simp only <;> try exact ZG.const _
    split
    ·exact ZG.bind (ZG.app _ _ _) fun y=>ZG.const _
    ·exact ZG.const _
  ·exact ZG.const _
 ·exact ZG.const _
theorem Co (f:AV)(args:List AV)(s:St):ZG X (fun ex=>OE X ex f args s):=by
 unfold OE
 split
 ·exact Px _ _ _
 ·exact Ew _ _ _
 ·exact ZG.const _
theorem Cn (c:Call)(f:AV)(args:List AV)(s:St):ZG X (fun ex=>To X ex c f args s):=by
 unfold To
 split
 ·exact ZG.const _
 ·exact Co _ _ _
theorem QS (e:Env)(o:Op)(s:St):ZG X (fun ex=>Zb X ex e o s):=by
 cases o <;> try exact ZG.const _
 case next it b=>cases b <;> exact ZG.const _
 case call c =>
  obtain⟨callee,args,Qf⟩:=c
  cases callee with
  |builtin b=>exact ZG.const _
  |invoke _ _=>exact ZG.const _
  |value f =>
   simp only[Zb]
   split
   ·exact Cn _ _ _ _
   ·exact ZG.const _
theorem MP (ops:Array Oper):∀(l:List Oper) (e:Env) (s:St),ZG X (fun ex=>Ow X ex ops l e s)
 |[],e,s=>ZG.const _
 |o::l,e,s=>by
  unfold Ow
  split
  ·refine ZG.of (G:=fun ex=>(Zb X ex e o.op s).bind fun x=>Ow X ex ops l (Y8 e o.dst x.1) x.2) (fun ex=>?_) (ZG.bind (QS _ _ _) fun x=>MP ops l _ _)
   cases Zb X ex e o.op s <;> rfl
  ·exact MP ops l _ _
theorem Cm (ops:Array Oper)(base i:Nat)(o:Oper)(e:Env)(s:St):ZG X (fun ex=>UG X ex ops base i o e s):=by
 unfold UG
 split
 ·split
  ·refine ZG.of (G:=fun ex=>(Zb X ex e o.op { s with next:=base+i }).bind fun x=>some (Y8 e o.dst x.1,{ x.2 with next:=s.next })) (fun ex=>?_) (ZG.bind (QS _ _ _) fun x=>ZG.const _)
   cases Zb X ex e o.op { s with next:=base+i } <;> rfl
  ·refine ZG.of (G:=fun ex=>(Zb X ex e o.op s).bind fun x=>some (Y8 e o.dst x.1,x.2)) (fun ex=>?_) (ZG.bind (QS _ _ _) fun x=>ZG.const _)
   cases Zb X ex e o.op s <;> rfl
 ·exact ZG.const _
theorem Ev (ops:Array Oper)(base:Nat):∀(l:List Oper) (i:Nat) (e:Env) (s:St),ZG X (fun ex=>DV X ex ops base i l e s)
 |[],i,e,s=>ZG.const _
 |o::l,i,e,s=>by
  refine ZG.of (G:=fun ex=>(UG X ex ops base i o e s).bind fun x=>(DV X ex ops base (i+1) l x.1 x.2).bind fun r=>some ((e,s)::r)) (fun ex=>?_)
   (ZG.bind (Cm _ _ _ _ _ _) fun x=>ZG.bind (Ev ops base l _ _ _) fun r=>ZG.const _)
  simp only[DV]
  cases UG X ex ops base i o e s with
  |none=>rfl
  |some x =>
   simp only[Option.bind_some]
   cases DV X ex ops base (i+1) l x.1 x.2 <;> rfl
def rW (b:Bool):Option Unit:=if b then some () else none
theorem Az (a b:Bool):rW (a&&b)=(rW a).bind fun _=>rW b:=by
 cases a <;> cases b <;> rfl
theorem QR (ops:Array Oper)(base i:Nat)(as:List Nat)(tr:List (Env×St))(e:Env)(o:Op)(v:AV):∀l:List (Nat×St),ZG X (fun ex=>rW (X6 X ex ops base i as tr e o v l))
 |[]=>ZG.const _
 |(m,s)::l=>by
  refine ZG.of (G:=fun ex=>(Zb X ex e o (VI ops base i m tr as s)).bind fun x=>(rW (same x.1 v)).bind fun _=>rW (X6 X ex ops base i as tr e o v l)) (fun ex=>?_)
   (ZG.bind (QS _ _ _) fun x=>ZG.bind (ZG.const _) fun _=>QR ops base i as tr e o v l)
  simp only[X6]
  cases Zb X ex e o (VI ops base i m tr as s) with
  |none=>rfl
  |some x=>simp only[Option.bind_some];rw[Az]
theorem Mc (ops:Array Oper)(base:Nat)(ws as:List Nat)(ss:List (Nat×St))(Di:List (Env×St)):∀(l:List Oper) (tr:List (Env×St)) (i:Nat),ZG X (fun ex=>rW (Vt X ex ops base ws as ss Di i l tr))
 |[],tr,i=>by cases tr <;> exact ZG.const _
 |o::l,[],i=>ZG.const _
 |o::l,(e,s)::tr,i=>by
  simp only[Vt];refine ZG.of (fun ex=>Az _ _) (ZG.bind ?_ fun _=>Mc ops base ws as ss Di l tr (i+1))
  split
  ·cases hw:YE ops e o with
   |false=>exact ZG.const _
   |true =>
    simp only[Bool.not_true,afV];refine ZG.of (G:=fun ex=>(Zb X ex e o.op s).bind fun x=>rW (X6 X ex ops base i as Di e o.op x.1 (WM ops ws ss i))) (fun ex=>?_) (ZG.bind (QS _ _ _) fun x=>QR _ _ _ _ _ _ _ _ _)
    cases Zb X ex e o.op s <;> rfl
  ·exact ZG.const _
  ·exact ZG.const _
theorem Cl (ops:Array Oper)(e:Env)(s:St):ZG X (fun ex=>RF X ex ops e s):=by
 refine ZG.of (G:=fun ex=>(DV X ex ops s.next 0 ops.toList e { s with next:=s.next+ops.size }).bind fun tr=>match Ut tr (ZF X ops 0 ops.toList) with
  |some ss=>(rW (Vt X ex ops s.next (ZF X ops 0 ops.toList) (Ww X 0 ops.toList) ((0,{ s with next:=s.next+ops.size })::ss) tr 0 ops.toList tr)).bind fun _ =>
   if Rc s.next ops.size (Vi X ops 0 ops.toList tr)&&Us X ops s.next ((0,{ s with next:=s.next+ops.size })::ss) then Kv tr else none
  |none=>none) (fun ex=>?_) (ZG.bind (Ev _ _ _ _ _ _) fun tr=>?_)
 ·unfold RF
  cases DV X ex ops s.next 0 ops.toList e { s with next:=s.next+ops.size } with
  |none=>rfl
  |some tr =>
   simp only[Option.bind_some]
   cases Ut tr (ZF X ops 0 ops.toList) with
   |none=>rfl
   |some ss =>
    simp only
    cases Vt X ex ops s.next (ZF X ops 0 ops.toList) (Ww X 0 ops.toList) ((0,{ s with next:=s.next+ops.size })::ss) tr 0 ops.toList tr <;> simp[rW]
 ·split
  ·exact ZG.bind (Mc _ _ _ _ _ _ _ _ _) fun _=>ZG.const _
  ·exact ZG.const _
theorem Pw (c:Code)(e:Env)(s:St):ZG X (fun ex=>Yc X ex c e s):=by
 cases c <;> try exact ZG.const _
 case region id ops d =>
  cases d with
  |true =>
   refine ZG.of (G:=fun ex=>(RF X ex ops e s).bind fun x=>some (.norm,x.1,x.2)) (fun ex=>?_) (ZG.bind (Cl _ _ _) fun x=>ZG.const _);simp only[Yc,if_true]
   cases RF X ex ops e s <;> rfl
  |false =>
   refine ZG.of (G:=fun ex=>(Ow X ex ops ops.toList e s).bind fun x=>some (.norm,x.1,x.2)) (fun ex=>?_) (ZG.bind (MP _ _ _ _) fun x=>ZG.const _);simp only[Yc,ae1,if_false]
   cases Ow X ex ops ops.toList e s <;> rfl
 case seq a b =>
  refine ZG.of (G:=fun ex=>(ex a e s).bind fun x=>match x with
   |(.norm,e,s)=>ex b e s
   |r=>some r) (fun ex=>?_) (ZG.bind (ZG.app _ _ _) fun x=>?_)
  ·simp only[Yc]
   cases ex a e s with
   |none=>rfl
   |some x=>obtain⟨o,e1,s1⟩:=x;cases o <;> rfl
  ·obtain⟨o,e1,s1⟩:=x
   cases o
   ·exact ZG.app _ _ _
   ·exact ZG.const _
   ·exact ZG.const _
 case cond c a b =>
  simp only[Yc]
  split
  ·exact ZG.app _ _ _
  ·exact ZG.app _ _ _
  ·exact ZG.const _
 case block id b =>
  refine ZG.of (G:=fun ex=>(ex b e s).bind fun x=>match x with
   |(.exit i,e,s)=>if i=id then some (.norm,e,s) else some (.exit i,e,s)
   |r=>some r) (fun ex=>?_) (ZG.bind (ZG.app _ _ _) fun x=>ZG.const _)
  simp only[Yc]
  cases ex b e s with
  |none=>rfl
  |some x=>obtain⟨o,e1,s1⟩:=x;cases o <;> rfl
 case loop b =>
  refine ZG.of (G:=fun ex=>(ex b e s).bind fun x=>match x with
   |(.norm,e,s)=>ex (.loop b) e s
   |r=>some r) (fun ex=>?_) (ZG.bind (ZG.app _ _ _) fun x=>?_)
  ·simp only[Yc]
   cases ex b e s with
   |none=>rfl
   |some x=>obtain⟨o,e1,s1⟩:=x;cases o <;> rfl
  ·obtain⟨o,e1,s1⟩:=x
   cases o
   ·exact ZG.app _ _ _
   ·exact ZG.const _
   ·exact ZG.const _
 case scope b=>exact ZG.app _ _ _
 case rangeFunc f params assign body =>
  simp only[Yc]
  split
  ·rename_i g first cap hf
   split
   ·refine ZG.of (G:=fun ex=>(Wa X ex g (first++[.fn (.yield s.next) [] []]++cap) (s.new (.loop 0 none e params.toList assign body))).bind fun x=>match x.2.get s.next with
     |some (.loop st p _ _ _ _)=>if st=1 then none else Ov p e (x.2.put s.next .gone)
     |_=>none) (fun ex=>?_) (ZG.bind (Px _ _ _) fun x=>ZG.const _)
    cases Wa X ex g (first++[.fn (.yield s.next) [] []]++cap) (s.new (.loop 0 none e params.toList assign body)) <;> rfl
   ·exact ZG.const _
  ·exact ZG.const _
theorem Ay:∀n,Ex.le (exec X n) (exec X (n+1))
 |0=>by intro c e s r h;simp[exec] at h
 |n+1=>fun c e s r h=>(Pw c e s).mono _ _ (Ay n) r h
theorem tK {n m:Nat}(h:n<=m):Ex.le (exec X n) (exec X m):=by
 induction h with
 |refl=>exact fun _ _ _ _ h=>h
 |step _ ih=>exact fun c e s r hr=>Ay _ c e s r (ih c e s r hr)
theorem Fq (n:Nat):Ex.le (exec X n) (Y0 X):=fun c e s r h=>Qm.2 ⟨n,fun m hm=>tK hm c e s r h⟩
theorem WY (c:Code)(e:Env)(s:St):Y0 X c e s=Yc X (Y0 X) c e s:=by
 cases h:Y0 X c e s with
 |some r =>
  obtain⟨n,hn⟩:=Qm.1 h;have:=hn (n+1) (Nat.le_succ n);exact ((Pw c e s).mono _ _ (Fq n) r this).symm
 |none =>
  cases h':Yc X (Y0 X) c e s with
  |none=>rfl
  |some r =>
   obtain⟨n,hn⟩:=(Pw c e s).cont r h';have:Y0 X c e s=some r:=Qm.2 ⟨n+1,fun m hm=>by
    obtain⟨k,rfl⟩:∃k,m=k+1:=⟨m-1,by omega⟩;exact hn k (by omega)⟩
   rw[h] at this;cases this
theorem ym {f:FuncId}{args:List AV}{s:St}{r:AV×St}(h:Wa X (Y0 X) f args s=some r):∃n,run X n f args s=some r:=by
 obtain⟨n,hn⟩:=(Px f args s).cont r h;exact⟨n,hn n (aba n)⟩
end
end Go.Am
namespace Go.Am
open Go
inductive XU where
 |t (n:Nat)
 |v (a:AV)
inductive Sk where
 |Z1 (x:XU)
 |pick (c a b:XU)
 |al (z:List AV) (t:TypeId)
 |box (t:TypeId) (x:XU)
 |Zk (x:XU)
 |UL (n:Nat) (x:XU)
 |st (n:Nat) (a x:XU)
 |fa (o:Nat) (x:XU)
 |bin (op:BinOp) (t:TypeId) (cst:Bool) (x y:XU)
 |ext (x:XU) (i:Nat)
 |call (f:FuncId) (args:List XU)
 |VW (f:XU) (args:List XU)
 |un (op:UnOp) (x:XU)
 |pS (x:XU)
 |Zf (x:XU)
 |abe (x:XU)
 |ixs (x i:XU)
 |XV (n:Nat) (x i:XU)
 |xV (len n:Nat) (x i:XU)
 |sls (x:XU) (lo hi:Option XU)
 |fK (n:Nat) (x:XU) (lo hi:Option XU)
 |fd1 (o:Nat) (x:XU)
 |fdn (o n:Nat) (x:XU)
 |JE (z:List AV) (ps:List (Nat×Nat×XU))
 |VC (t:TypeId) (n len:Nat) (z:List AV) (ps:List (Nat×Nat×XU))
 |app (t:TypeId) (n bytes:Nat) (d x:XU)
 |gg (f:FuncId) (a b:List XU)
 |raw (o:Op)
structure RO where
 d:Option Nat
 g:Option (Nat×Bool)
 at_:Option Nat
 w:Bool
 op:Sk
inductive RC where
 |ops (l:List RO)
 |Wq (n:Nat) (l:List RO)
 |seq (a b:RC)
 |cond (c:XU) (a b:RC)
 |block (id:Nat) (b:RC)
 |loop (b:RC)
 |exit (id:Nat)
 |ret
 |skip
 |raw (c:Code)
section
variable (X:Cx)
noncomputable def WW (f:FuncId)(args:List AV)(s:St):Option (AV×St):=Wa X (Y0 X) f args s
noncomputable def G4 (f:AV)(args:List AV)(s:St):Option (AV×St):=OE X (Y0 X) f args s
def Yg (e:Env):XU->AV
 |.t n=>Env.get e n
 |.v a=>a
def QZ (e:Env)(l:List XU):List AV:=l.map (Yg e)
def mk (base:Nat)(at_:Option Nat)(c:List AV)(t:TypeId)(s:St):AV×St:=match at_ with
 |none=>(.ptr s.next 0,s.new (.cells c t false 0 0))
 |some i=>(.ptr (base+i) 0,s.put (base+i) (.cells c t false 0 0))
def Zk (x:AV)(s:St):Option AV:=match x with
 |.ptr b o=>cell s b o
 |.fp c o=>c[o]?
 |_=>none
def UL (n:Nat)(x:AV)(s:St):Option AV:=match x with
 |.ptr b o=>match s.cells b with
  |some c=>match YB n o c with
   |some r=>some (.agg r)
   |none=>none
  |none=>none
 |.fp c o=>match YB n o c with
  |some r=>some (.agg r)
  |none=>none
 |_=>none
def st (n:Nat)(a v:AV)(s:St):Option St:=match a with
 |.ptr b o=>if v.cells.length=n then Yi s b o v.cells else none
 |_=>none
def fG (o:Nat)(x:AV):Option AV:=match x with
 |.ptr b o'=>some (.ptr b (o'+o))
 |.fp c o'=>some (.fp c (o'+o))
 |_=>none
def AH (c a b:AV):Option AV:=match c with
 |.bool p=>some (bif p then a else b)
 |_=>none
def pT (x:AV)(i:Nat):Option AV:=match x with
 |.X' vs=>vs[i]?
 |_=>none
def AG:AV->Option AV
 |.str l=>some (.int .i64 l.length)
 |_=>none
def U7:AV->Option AV
 |.ZR=>some (.int .i64 0)
 |.sl _ _ n _ _=>some (.int .i64 n)
 |.fz es=>some (.int .i64 es.length)
 |_=>none
def mG (s:St):AV->Option AV
 |.RD=>some (.int .i64 0)
 |.fm ks _=>some (.int .i64 ks.length)
 |.map r=>match s.get r with
  |some (.map es _)=>some (.int .i64 es.length)
  |_=>none
 |_=>none
def aaG (x i:AV):Option AV:=match x,i with
 |.str b,.int _ i=>if 0<=i then
   match b[i.toNat]? with|some c=>some (.int .u8 c.toNat)|none=>none
  else none
 |_,_=>none
def UT (n:Nat)(x i:AV):Option AV:=match x,i with
 |.sl b o len _ _,.int _ i=>if 0<=i/\i<len then some (.ptr b (o+i.toNat*n)) else none
 |.fz es,.int _ i=>if 0<=i then match es[i.toNat]? with
   |some x=>if x.cells.length=n/\n≠0 then some (.fp x.cells 0) else none
   |none=>none
  else none
 |_,_=>none
def y_ (len n:Nat)(x i:AV):Option AV:=match x,i with
 |.ptr b o,.int _ i=>if 0<=i/\i<len then some (.ptr b (o+i.toNat*n)) else none
 |.fp c o,.int _ i=>if 0<=i/\i<len then some (.fp c (o+i.toNat*n)) else none
 |_,_=>none
def MX (e:Env)(x:Option XU):Option AV:=x.map (Yg e)
def aaH (x:AV)(lo hi:Option AV):Option AV:=match x with
 |.str b=>match Y5 hi b.length b.length with
  |some h=>match Y5 lo 0 h with
   |some l=>some (.str ((b.take h).drop l))
   |none=>none
  |none=>none
 |_=>none
def EM (n:Nat)(x:AV)(lo hi:Option AV):Option AV:=match x with
 |.sl b o len cap Xo=>match Y5 hi len (cap.getD len) with
  |some h=>match Y5 lo 0 h with
   |some l=>some (.sl b (o+l*n) (h-l) (cap.map (·-l)) (if Xo=n then n else 0))
   |none=>none
  |none=>none
 |.ZR=>match Y5 hi 0 0 with
  |some h=>match Y5 lo 0 h with
   |some _=>some .ZR
   |none=>none
  |none=>none
 |.fz es=>match Y5 hi es.length es.length with
  |some h=>match Y5 lo 0 h with
   |some l=>if es.all (fun x=>x.cells.length==n) then some (.fz ((es.take h).drop l)) else none
   |none=>none
  |none=>none
 |_=>none
def aaJ (o:Nat)(x:AV):Option AV:=match x with
 |.agg cs=>cs[o]?
 |_=>none
def aaI (o n:Nat)(x:AV):Option AV:=match x with
 |.agg cs=>match YB n o cs with
  |some r=>some (.agg r)
  |none=>none
 |_=>none
def TQ (e:Env)(cells:List AV):List (Nat×Nat×XU)->Option (List AV)
 |[]=>some cells
 |(off,n,x)::rest=>if (Yg e x).cells.length=n/\off+n<=cells.length then
   match lay off (Yg e x).cells cells with
   |some c=>TQ e c rest
   |none=>none
  else none
def yY (t:TypeId)(n bytes:Nat)(d x:AV)(s:St):Option (AV×St):=match Wt n x s with
 |some (m,new) =>
  if new.length≠m*n\/(WK d+m)*bytes>2^40\/WK d+m>2^40 then none
  else if m=0 then match d with
   |.ZR=>some (d,s)
   |.sl ..=>some (d,s)
   |.fz _=>some (d,s)
   |_=>none
  else match d with
  |.ZR=>some (.sl s.next 0 m none n,s.new (.cells new t false 0 0))
  |.sl b o len cap Xo=>match s.cells b with
   |some c=>match YB (len*n) o c with
    |some old =>
     match cap with
     |some k=>if len+m<=k then
       if Xo=n then match Yi s b (o+len*n) new with
        |some s'=>some (.sl b o (len+m) (some k) n,s')
        |none=>none
       else none
      else some (.sl s.next 0 (len+m) none n,s.new (.cells (old++new) t false 0 0))
     |none=>match s.get b with
      |some (.cells _ e0 false RA Ss) =>
       if Xo=n/\Ss<=o+len*n/\e0=t/\new.all Zw=true then
        some (.sl s.next 0 (len+m) none n,(s.put b .gone).new (.cells (old++new) t false (RA-o) (Ss-o)))
       else none
      |_=>none
    |none=>none
   |none=>none
  |_=>none
 |none=>none
noncomputable def ql (base:Nat)(at_:Option Nat)(e:Env)(o:Op)(s:St):Option (AV×St):=match at_ with
 |none=>Zb X (Y0 X) e o s
 |some i=>match Zb X (Y0 X) e o { s with next:=base+i } with
  |some (v,s')=>some (v,{ s' with next:=s.next })
  |none=>none
noncomputable def Xu (base:Nat)(at_:Option Nat)(e:Env)(s:St):Sk->Option (AV×St)
 |.Z1 x=>some (Yg e x,s)
 |.pick c a b=>ZA (AH (Yg e c) (Yg e a) (Yg e b)) s
 |.al z t=>some (mk base at_ z t s)
 |.box t x=>some (mk base at_ (Yg e x).cells t s)
 |.Zk x=>ZA (Zk (Yg e x) s) s
 |.UL n x=>ZA (UL n (Yg e x) s) s
 |.st n a x=>Ro (st n (Yg e a) (Yg e x) s)
 |.fa o x=>ZA (fG o (Yg e x)) s
 |.bin op t cst x y=>ZA (X_ X op t cst (Yg e x) (Yg e y)) s
 |.ext x i=>ZA (pT (Yg e x) i) s
 |.call f args=>WW X f (QZ e args) s
 |.VW f args=>G4 X (Yg e f) (QZ e args) s
 |.un op x=>ZA (kF op (Yg e x)) s
 |.pS x=>ZA (AG (Yg e x)) s
 |.Zf x=>ZA (U7 (Yg e x)) s
 |.abe x=>ZA (mG s (Yg e x)) s
 |.ixs x i=>ZA (aaG (Yg e x) (Yg e i)) s
 |.XV n x i=>ZA (UT n (Yg e x) (Yg e i)) s
 |.xV len n x i=>ZA (y_ len n (Yg e x) (Yg e i)) s
 |.sls x lo hi=>ZA (aaH (Yg e x) (MX e lo) (MX e hi)) s
 |.fK n x lo hi=>ZA (EM n (Yg e x) (MX e lo) (MX e hi)) s
 |.fd1 o x=>ZA (aaJ o (Yg e x)) s
 |.fdn o n x=>ZA (aaI o n (Yg e x)) s
 |.JE z ps=>ZA ((TQ e z ps).map .agg) s
 |.VC t n len z ps=>match TQ e z ps with
  |some c=>match at_ with
   |none=>some (.sl s.next 0 len (some len) n,s.new (.cells c t false 0 0))
   |some i=>some (.sl (base+i) 0 len (some len) n,s.put (base+i) (.cells c t false 0 0))
  |none=>none
 |.app t n bytes d x=>yY t n bytes (Yg e d) (Yg e x) s
 |.gg f a b=>some (.fn (.func f) (QZ e a) (QZ e b),s)
 |.raw o=>ql X base at_ e o s
def TR (e:Env):Option (Nat×Bool)->Bool
 |none=>true
 |some (t,b)=>match Env.get e t with
  |.bool p=>p==b
  |_=>false
noncomputable def EV (base:Nat):List RO->Env->St->Option (Env×St)
 |[],e,s=>some (e,s)
 |o::l,e,s=>match (bif TR e o.g then Xu X base o.at_ e s o.op else some (undef,s)) with
  |some (v,s')=>EV base l (Y8 e o.d v) s'
  |none=>none
def XM (base:Nat)(s:St)(l:List RO):Bool:=l.all fun o=>match o.at_ with
 |some i=>(s.get (base+i)).isNone
 |none=>true
noncomputable def SD (base:Nat):List RO->Env->St->Option (Env×St)
 |[],e,s=>some (e,s)
 |o::l,e,s=>match (bif TR e o.g then Xu X base o.at_ e s o.op else some (undef,s)) with
  |some (v,s')=>if !o.w||XM base s' l then SD base l (Y8 e o.d v) s' else none
  |none=>none
abbrev Fl:=Option (Out×Env×St)
def UW (b:Env->St->Fl):Nat->Env->St->Fl
 |0,_,_=>none
 |n+1,e,s=>match b e s with
  |some (.norm,e,s)=>UW b n e s
  |r=>r
noncomputable def PX (b:Env->St->Fl):Env->St->Fl:=fun e s =>
 open Classical in if h:∃r n,UW b n e s=some r then some (Classical.choose h) else none
noncomputable def den:RC->Env->St->Fl
 |.ops l,e,s=>match EV X 0 l e s with
  |some (e,s)=>some (.norm,e,s)
  |none=>none
 |.Wq n l,e,s=>if XM s.next s l then match SD X s.next l e { s with next:=s.next+n } with
  |some (e,s)=>some (.norm,e,s)
  |none=>none
  else none
 |.seq a b,e,s=>match den a e s with
  |some (.norm,e,s)=>den b e s
  |r=>r
 |.cond c a b,e,s=>match Yg e c with
  |.bool p=>bif p then den a e s else den b e s
  |_=>none
 |.block id b,e,s=>match den b e s with
  |some (.exit i,e,s)=>if i=id then some (.norm,e,s) else some (.exit i,e,s)
  |r=>r
 |.loop b,e,s=>PX (den b) e s
 |.exit id,e,s=>some (.exit id,e,s)
 |.ret,e,s=>some (.ret,e,s)
 |.skip,e,s=>some (.norm,e,s)
 |.raw c,e,s=>Y0 X c e s
def RM:Operand->Option XU
 |.tmp t=>some (.t t)
 |.const v=>(sj 3 v).map .v
 |.global g=>if g<X.glob then some (.v (.ptr g 0)) else none
 |.func f=>some (.v (.fn (.func f) [] []))
def I8:List Operand->Option (List XU)
 |[]=>some []
 |x::l=>match RM X x,I8 l with
  |some a,some r=>some (a::r)
  |_,_=>none
def tu:Option Operand->Option (Option XU)
 |none=>some none
 |some x=>(RM X x).map some
def JS (place:Nat->Option (Nat×Nat)):List (Nat×Operand)->Option (List (Nat×Nat×XU))
 |[]=>some []
 |(i,x)::l=>match place i,RM X x,JS place l with
  |some (off,n),some a,some r=>some ((off,n,a)::r)
  |_,_,_=>none
def Au:Op->Option Sk
 |.move x|.assign x=>(RM X x).map .Z1
 |.pick c a b=>match RM X c,RM X a,RM X b with
  |some c,some a,some b=>some (.pick c a b)
  |_,_,_=>none
 |.alloc t=>(zero X t).map fun z=>.al z.cells t
 |.box t x=>(RM X x).map (.box t)
 |.load t x=>match YZ X t,size X t,RM X x with
  |some true,some n,some a=>some (.UL n a)
  |some false,_,some a=>some (.Zk a)
  |_,_,_=>none
 |.store t a x=>match size X t,RM X a,RM X x with
  |some n,some a,some x=>some (.st n a x)
  |_,_,_=>none
 |.fieldAddr t x f=>match X.Zt t,RM X x with
  |some (.struct fs),some a=>match fs[f]? with
   |some fd=>match size X fd.type with
    |some (_+1)=>some (.fa fd.offset a)
    |_=>none
   |none=>none
  |_,_=>none
 |.binOp op t x y _=>match RM X x,RM X y with
  |some a,some b=>some (.bin op t (VJ x||VJ y) a b)
  |_,_=>none
 |.extract x i=>(RM X x).map fun a=>.ext a i
 |.unOp op _ x=>(RM X x).map (.un op)
 |.call { callee:=.builtin .len,args,argTypes,.. }=>match args.toList,argTypes[0]? with
  |[x],some t=>match X.Zt t,RM X x with
   |some .string,some a=>some (.pS a)
   |some (.slice _),some a=>some (.Zf a)
   |some (.map _ _),some a=>some (.abe a)
   |_,_=>none
  |_,_=>none
 |.call { callee:=.builtin .append,args,argTypes,.. }=>match args.toList,argTypes[0]?,argTypes[1]? with
  |[d,x],some t,some u=>match X.Zt t,X.Zt u,RM X d,RM X x with
   |some (.slice elem),some ud,some a,some b=>match X.inf elem,size X elem,(match ud with|.slice _=>true|.string=>true|_=>false) with
    |some ei,some n,true=>if ei.bytes>2^20\/n=0\/ei.bytes=0\/Lv ei.zero n=true\/X.spec elem=true then none else some (.app elem n ei.bytes a b)
    |_,_,_=>none
   |_,_,_,_=>none
  |_,_,_=>none
 |.index t x i=>match X.Zt t,RM X x,RM X i with
  |some .string,some a,some b=>some (.ixs a b)
  |_,_,_=>none
 |.indexAddr t x i=>match X.Zt t,RM X x,RM X i with
  |some (.slice e),some a,some b=>(size X e).map fun n=>.XV n a b
  |some (.array len e),some a,some b=>(size X e).map fun n=>.xV len n a b
  |_,_,_=>none
 |.slice t x lo hi none=>match X.Zt t,RM X x,tu X lo,tu X hi with
  |some .string,some a,some l,some h=>some (.sls a l h)
  |some (.slice e),some a,some l,some h=>(size X e).map fun n=>.fK n a l h
  |_,_,_,_=>none
 |.field t x f=>match X.Zt t,RM X x with
  |some (.struct fs),some a=>match fs[f]? with
   |some fd=>match YZ X fd.type,size X fd.type with
    |some true,some n=>some (.fdn fd.offset n a)
    |some false,_=>some (.fd1 fd.offset a)
    |_,_=>none
   |none=>none
  |_,_=>none
 |.build t ps=>match zero X t,X.Zt t with
  |some (.agg z),some (.struct fs)=>match Qx X fs.toList with
   |some pl=>(JS X (fun i=>pl[i]?) ps.toList).map (.JE z)
   |none=>none
  |some (.agg z),some (.array _ elem)=>match size X elem with
   |some n=>(JS X (fun i=>some (i*n,n)) ps.toList).map (.JE z)
   |none=>none
  |_,_=>none
 |.buildSlice t len ps=>match X.Zt t with
  |some (.slice elem)=>match size X elem,zero X elem with
   |some n,some z=>if z.cells.length=n/\n≠0/\len*n<=2^24 then (JS X (fun i=>some (i*n,n)) ps.toList).map (.VC elem n len (WD len z.cells)) else none
   |_,_=>none
  |_=>none
 |.makeFunc (.func g) a b=>match I8 X a.toList,I8 X b.toList with
  |some x,some y=>some (.gg g x y)
  |_,_=>none
 |.call { callee:=.value (.func f),args,.. }=>(I8 X args.toList).map (.call f)
 |.call { callee:=.value (.tmp t),args,argTypes }=>if X.qv { callee:=.value (.tmp t),args,argTypes } then none else (I8 X args.toList).map (.VW (.t t))
 |_=>none
def NN (o:Op):Sk:=match Au X o with
 |some r=>r
 |none=>.raw o
def fu (ops:Array Oper):Option (Nat×Bool)->Option (Option (Nat×Bool))
 |none=>some none
 |some (j,b)=>match ops[j]? with
  |some o=>match o.dst with
   |some d=>some (some (d,b))
   |none=>none
  |none=>none
def WB (ops:Array Oper)(draw:Bool):Nat->List Oper->Option (List RO)
 |_,[]=>some []
 |i,o::l=>match fu ops o.guard,WB ops draw (i+1) l with
  |some g,some r=>some ({ d:=o.dst,g,at_:=if draw&&(cls X o.op).G8 then some i else none,w:=draw&&(cls X o.op).zA,op:=NN X o.op }::r)
  |_,_=>none
def sG (ops:Array Oper):Bool :=
 let ws:=ZF X ops 0 ops.toList
 let as:=Ww X 0 ops.toList
 !Qr X ops&&(List.range ops.size).all fun i=>match ops[i]? with
  |some o=>!((cls X o.op).qH||(match cls X o.op with|.q=>true|_=>false)) ||
   ((as.all fun k=>!decide (k<i)||Yu ops k i)&&(ws.all fun k=>Yu ops k i||Yu ops i k))
  |none=>true
def rc:Code->RC
 |.skip=>.skip
 |.label _=>.skip
 |.region id ops d=>if d then (if sG X ops&&nu X ops then match WB X ops true 0 ops.toList with
   |some l=>.Wq ops.size l
   |none=>.raw (.region id ops d)
   else .raw (.region id ops d))
  else match WB X ops false 0 ops.toList with
   |some l=>.ops l
   |none=>.raw (.region id ops d)
 |.seq a b=>.seq (rc a) (rc b)
 |.cond c a b=>match RM X c with
  |some x=>.cond x (rc a) (rc b)
  |none=>.raw (.cond c a b)
 |.block id b=>.block id (rc b)
 |.loop b=>.loop (rc b)
 |.scope b=>rc b
 |.exit id=>.exit id
 |.ret=>.ret
 |c=>.raw c
end
end Go.Am
namespace Go.Am
open Go
section
variable [Stat]
variable {X:Cx}
theorem Zr {x:Operand}{a:XU}(h:RM X x=some a)(e:Env):eval X e x=some (Yg e a):=by
 cases x <;> simp only[RM] at h
 ·cases h;rfl
 ·rename_i v
  cases hv:sj 3 v with
  |none=>rw[hv] at h;cases h
  |some y=>rw[hv] at h;cases h;exact hv
 ·split at h
  ·rename_i hg;cases h;simp only[eval,hg,if_true,Yg]
  ·cases h
 ·cases h;rfl
theorem Ql {l:List Operand}:∀{r:List XU},I8 X l=some r->∀e,WR X e l=some (QZ e r):=by
 induction l with
 |nil=>intro r h e;simp only[I8] at h;cases h;rfl
 |cons x l ih =>
  intro r h e;simp only[I8] at h
  split at h
  ·rename_i a r' h1 h2
   cases h
   simp only[WR,Zr h1 e,ih h2 e];rfl
  ·cases h
theorem Yp {v:Option AV}{s:St}{r:AV×St}(h:ZA v s=some r):∃x,v=some x/\r=(x,s):=by
 unfold ZA at h
 split at h
 ·cases h;exact⟨_,rfl,rfl⟩
 ·cases h
theorem tA {t:TypeId}{a v:AV}{s:St}(ht:YZ X t=some false)(h:Zk a s=some v):Vd X t a s=some v:=by
 unfold Zk at h
 split at h
 ·simp only[Vd,ht];exact h
 ·simp only[Vd,ht];exact h
 ·cases h
theorem tw {t:TypeId}{n:Nat}{a v:AV}{s:St}(ht:YZ X t=some true)(hn:size X t=some n)(h:UL n a s=some v):Vd X t a s=some v:=by
 unfold UL at h
 split at h
 ·simp only[Vd,ht,hn]
  split at h
  ·rename_i c hc;rw[hc];exact h
  ·cases h
 ·simp only[Vd,ht,hn];exact h
 ·cases h
theorem JT (e:Env):Rk X e none=some none:=rfl
theorem Qk {x:Option Operand}{a:Option XU}(h:tu X x=some a)(e:Env):Rk X e x=some (MX e a):=by
 cases x with
 |none=>simp only[tu] at h;cases h;rfl
 |some x =>
  simp only[tu] at h
  cases hx:RM X x with
  |none=>rw[hx] at h;cases h
  |some y=>rw[hx] at h;cases h;simp only[Rk,Zr hx e];rfl
theorem Sz {place:Nat->Option (Nat×Nat)}{e:Env}:∀{l:List (Nat×Operand)} {r:List (Nat×Nat×XU)},JS X place l=some r->∃vs,XD X e l=some vs/\∀z c,TQ e z r=some c->OJ place z vs=some c
 |[],r,h=>by simp only[JS] at h;cases h;exact⟨[],rfl,fun z c h=>h⟩
 |(i,x)::l,r,h=>by
  simp only[JS] at h
  split at h
  ·rename_i off n a r' h1 h2 h3
   cases h
   obtain⟨vs,k1,k2⟩:=Sz (e:=e) h3;refine⟨(i,Yg e a)::vs,by simp only[XD,Zr h2 e,k1],fun z c hz=>?_⟩;simp only[TQ] at hz;simp only[OJ,h1]
   split at hz
   ·rename_i hc;rw[if_pos hc]
    split at hz
    ·rename_i c' hl;rw[hl];exact k2 _ _ hz
    ·cases hz
   ·cases hz
  ·cases h
theorem yj {t u elem:TypeId}{ei:TypeInfo}{n:Nat}{d x r:AV}{s s':St}(hu:X.Zt t=some (.slice elem))(hi:X.inf elem=some ei)(hs:size X elem=some n)(h1:¬(ei.bytes>2^20\/n=0\/ei.bytes=0\/Lv ei.zero n=true\/X.spec elem=true))
  (h:yY elem n ei.bytes d x s=some (r,s')):Qu X t d x s=some (r,s'):=by
 unfold yY at h;unfold Qu;simp only[hu,hi,hs]
 split at h
 ·rename_i m new L6;rw[L6];simp only
  split at h
  ·cases h
  ·rename_i hc;rw[if_neg (by
    intro hx;rcases hx with hx|hx|hx|hx|hx|hx|hx|hx
    ·exact hc (.inl hx)
    ·exact hc (.inr (.inl hx))
    ·exact h1 (.inl hx)
    ·exact hc (.inr (.inr hx))
    ·exact h1 (.inr (.inl hx))
    ·exact h1 (.inr (.inr (.inl hx)))
    ·exact h1 (.inr (.inr (.inr (.inl hx))))
    ·exact h1 (.inr (.inr (.inr (.inr hx)))))]
   exact h
 ·cases h
theorem QO {base:Nat}{e:Env}{s s':St}{o:Op}{v:AV}(h:Xu X base none e s (NN X o)=some (v,s')):Zb X (Y0 X) e o s=some (v,s'):=by
 unfold NN at h
 split at h
 ·rename_i r hr;unfold Au at hr
  split at hr
  ·rename_i x
   cases hx:RM X x with
   |none=>rw[hx] at hr;cases hr
   |some a =>
    rw[hx] at hr;cases hr;simp only[Xu] at h;simp only[Zb,Zr hx e,ZA];exact h
  ·rename_i x
   cases hx:RM X x with
   |none=>rw[hx] at hr;cases hr
   |some a =>
    rw[hx] at hr;cases hr;simp only[Xu] at h;simp only[Zb,Zr hx e,ZA];exact h
  ·rename_i c a b
   split at hr
   ·rename_i c' a' b' h1 h2 h3
    cases hr
    simp only[Xu] at h;obtain⟨x,hx,VX⟩:=Yp h;simp only[Zb,Zr h1 e];unfold AH at hx
    split at hx
    ·rename_i p hp;rw[hp]
     cases p <;> simp only[Zr h2 e,Zr h3 e,ZA] <;> cases hx <;> exact congrArg some VX.symm
    ·cases hx
   ·cases hr
  ·rename_i t
   cases hz:zero X t with
   |none=>rw[hz] at hr;cases hr
   |some z =>
    rw[hz] at hr;cases hr;simp only[Xu,mk] at h;simp only[Zb,hz,W_];exact h
  ·rename_i t x
   cases hx:RM X x with
   |none=>rw[hx] at hr;cases hr
   |some a =>
    rw[hx] at hr;cases hr;simp only[Xu,mk] at h;simp only[Zb,Zr hx e,W_];exact h
  ·rename_i t x
   split at hr
   ·rename_i n a h1 h2 h3
    cases hr
    simp only[Xu] at h;obtain⟨y,hy,VX⟩:=Yp h;simp only[Zb,Zr h3 e,tw h1 h2 hy,ZA];exact congrArg some VX.symm
   ·rename_i n a h1 h3
    cases hr
    simp only[Xu] at h;obtain⟨y,hy,VX⟩:=Yp h;simp only[Zb,Zr h3 e,tA h1 hy,ZA];exact congrArg some VX.symm
   ·cases hr
  ·rename_i t a x
   split at hr
   ·rename_i n a' x' h1 h2 h3
    cases hr
    simp only[Xu] at h;simp only[Zb,Zr h2 e,Zr h3 e];have:PF X t (Yg e a') (Yg e x') s=st n (Yg e a') (Yg e x') s:=by
     unfold PF st;rw[h1]
     cases Yg e a' <;> rfl
    rw[this];exact h
   ·cases hr
  ·rename_i t x f
   split at hr
   ·rename_i fs a h1 h2
    split at hr
    ·rename_i fd hf
     split at hr
     ·rename_i n hn
      cases hr
      simp only[Xu] at h;obtain⟨y,hy,VX⟩:=Yp h;simp only[Zb,Zr h2 e];have:T0 X t (Yg e a) f=some y:=by
       unfold fG at hy;unfold T0;rw[h1]
       split at hy
       ·rename_i b o' hb;rw[hb];simp only[hf,hn];exact hy
       ·rename_i c o' hb;rw[hb];simp only[hf,hn];exact hy
       ·cases hy
      simp only[this,ZA];exact congrArg some VX.symm
     ·cases hr
    ·cases hr
   ·cases hr
  ·rename_i op t x y yt
   split at hr
   ·rename_i a b h1 h2
    cases hr
    simp only[Xu] at h;simp only[Zb,Zr h1 e,Zr h2 e];exact h
   ·cases hr
  ·rename_i x i
   cases hx:RM X x with
   |none=>rw[hx] at hr;cases hr
   |some a =>
    rw[hx] at hr;cases hr;simp only[Xu] at h;obtain⟨y,hy,VX⟩:=Yp h;simp only[Zb,Zr hx e];unfold pT at hy
    split at hy
    ·rename_i vs Uy;rw[Uy];simp only[hy,ZA];exact congrArg some VX.symm
    ·cases hy
  ·rename_i op t x
   cases hx:RM X x with
   |none=>rw[hx] at hr;cases hr
   |some a =>
    rw[hx] at hr;cases hr;simp only[Xu] at h;simp only[Zb,Zr hx e];exact h
  ·rename_i args Qf
   split at hr
   ·rename_i x t Rt D1;have hev:∀a,RM X x=some a->WR X e args.toList=some [Yg e a]:=fun a ha=>by
     rw[Rt];simp only[WR,Zr ha e]
    split at hr
    ·rename_i a hu ha
     cases hr
     simp only[Xu] at h;obtain⟨y,hy,VX⟩:=Yp h;simp only[Zb,hev a ha,YT,D1,hu];unfold AG at hy
     split at hy
     ·rename_i l hl;rw[hl];cases hy;exact congrArg some VX.symm
     ·cases hy
    ·rename_i a hu ha
     cases hr
     simp only[Xu] at h;obtain⟨y,hy,VX⟩:=Yp h;simp only[Zb,hev a ha,YT,D1,hu];unfold U7 at hy
     split at hy
     ·rename_i hl;rw[hl];cases hy;exact congrArg some VX.symm
     ·rename_i hl;rw[hl];cases hy;exact congrArg some VX.symm
     ·rename_i hl;rw[hl];cases hy;exact congrArg some VX.symm
     ·cases hy
    ·rename_i a hu ha
     cases hr
     simp only[Xu] at h;obtain⟨y,hy,VX⟩:=Yp h;simp only[Zb,hev a ha,YT,D1,hu];unfold mG at hy
     split at hy
     ·rename_i hl;rw[hl];cases hy;exact congrArg some VX.symm
     ·rename_i hl;rw[hl];cases hy;exact congrArg some VX.symm
     ·rename_i r hl;rw[hl];simp only
      split at hy
      ·rename_i es ro hg;rw[hg];cases hy;exact congrArg some VX.symm
      ·cases hy
     ·cases hy
    ·cases hr
   ·cases hr
  ·rename_i args Qf
   split at hr
   ·rename_i d x t u Rt D1 hau
    split at hr
    ·rename_i elem ud a b hu xJ ha hb;have hev:WR X e args.toList=some [Yg e a,Yg e b]:=by
      rw[Rt];simp only[WR,Zr ha e,Zr hb e]
     split at hr
     ·rename_i ei n hi hs Yv
      split at hr
      ·cases hr
      ·rename_i hc
       cases hr
       simp only[Xu] at h;simp only[Zb,hev,YT,D1,hau,xJ];have:=yj (u:=u) hu hi hs hc h
       cases ud <;> simp only[ae1] at Yv <;> first|exact this|cases Yv
     ·cases hr
    ·cases hr
   ·cases hr
  ·rename_i t x i
   split at hr
   ·rename_i a b hu ha hb
    cases hr
    simp only[Xu] at h;obtain⟨y,hy,VX⟩:=Yp h;simp only[Zb,Zr ha e,Zr hb e];have:Ky X t (Yg e a) (Yg e b)=some y:=by
     unfold aaG at hy
     split at hy
     ·rename_i l k i' hl Uz;rw[hl,Uz];simp only[Ky,hu];exact hy
     ·cases hy
    simp only[this,ZA];exact congrArg some VX.symm
   ·cases hr
  ·rename_i t x i
   split at hr
   ·rename_i el a b hu ha hb
    cases hs:size X el with
    |none=>rw[hs] at hr;cases hr
    |some n =>
     rw[hs] at hr;cases hr;simp only[Xu] at h;obtain⟨y,hy,VX⟩:=Yp h;simp only[Zb,Zr ha e,Zr hb e];have:Xl X t (Yg e a) (Yg e b)=some y:=by
      unfold UT at hy
      split at hy
      ·rename_i b' o len cap Xo k i' hl Uz;rw[hl,Uz];simp only[Xl,hu,hs];exact hy
      ·rename_i es k i' hl Uz;rw[hl,Uz];simp only[Xl,hu,hs]
       split at hy
       ·rename_i h0;rw[if_pos h0]
        split at hy
        ·rename_i x' PH;rw[PH];exact hy
        ·cases hy
       ·cases hy
      ·cases hy
     simp only[this,ZA];exact congrArg some VX.symm
   ·rename_i len el a b hu ha hb
    cases hs:size X el with
    |none=>rw[hs] at hr;cases hr
    |some n =>
     rw[hs] at hr;cases hr;simp only[Xu] at h;obtain⟨y,hy,VX⟩:=Yp h;simp only[Zb,Zr ha e,Zr hb e];have:Xl X t (Yg e a) (Yg e b)=some y:=by
      unfold y_ at hy
      split at hy
      ·rename_i b' o k i' hl Uz;rw[hl,Uz];simp only[Xl,hu,hs];exact hy
      ·rename_i c o k i' hl Uz;rw[hl,Uz];simp only[Xl,hu,hs];exact hy
      ·cases hy
     simp only[this,ZA];exact congrArg some VX.symm
   ·cases hr
  ·rename_i t x lo hi
   split at hr
   ·rename_i a l h' hu ha hl hh
    cases hr
    simp only[Xu] at h;obtain⟨y,hy,VX⟩:=Yp h;simp only[Zb,Zr ha e,Qk hl e,Qk hh e,JT];have:Sm X t (Yg e a) (MX e l) (MX e h') none=some y:=by
     unfold aaH at hy
     split at hy
     ·rename_i b hb;rw[hb];simp only[Sm,hu]
      split at hy
      ·rename_i h2 e2;rw[e2];exact hy
      ·cases hy
     ·cases hy
    simp only[this,ZA];exact congrArg some VX.symm
   ·rename_i el a l h' hu ha hl hh
    cases hs:size X el with
    |none=>rw[hs] at hr;cases hr
    |some n =>
     rw[hs] at hr;cases hr;simp only[Xu] at h;obtain⟨y,hy,VX⟩:=Yp h;simp only[Zb,Zr ha e,Qk hl e,Qk hh e,JT];have:Sm X t (Yg e a) (MX e l) (MX e h') none=some y:=by
      unfold EM at hy
      split at hy
      ·rename_i hb;rw[hb];simp only[Sm,hu,hs];exact hy
      ·rename_i hb;rw[hb];simp only[Sm,hu,hs]
       split at hy
       ·rename_i h2 e2;rw[e2];exact hy
       ·cases hy
      ·rename_i es hb;rw[hb];simp only[Sm,hu,hs]
       split at hy
       ·rename_i h2 e2;rw[e2];exact hy
       ·cases hy
      ·cases hy
     simp only[this,ZA];exact congrArg some VX.symm
   ·cases hr
  ·rename_i t x f
   split at hr
   ·rename_i fs a hu ha
    split at hr
    ·rename_i fd hf
     split at hr
     ·rename_i n Jc hs
      cases hr
      simp only[Xu] at h;obtain⟨y,hy,VX⟩:=Yp h;unfold aaI at hy
      split at hy
      ·rename_i cs Mx
       cases hg:YB n fd.offset cs with
       |none=>rw[hg] at hy;cases hy
       |some r =>
        rw[hg] at hy;cases hy;simp only[Zb,Zr ha e,Mx,hu,hf,T_,Jc,hs,hg,ZA];exact congrArg some VX.symm
      ·cases hy
     ·rename_i Jc
      cases hr
      simp only[Xu] at h;obtain⟨y,hy,VX⟩:=Yp h;unfold aaJ at hy
      split at hy
      ·rename_i cs Mx;simp only[Zb,Zr ha e,Mx,hu,hf,T_,Jc,hy,ZA];exact congrArg some VX.symm
      ·cases hy
     ·cases hr
    ·cases hr
   ·cases hr
  ·rename_i t ps
   split at hr
   ·rename_i z fs hz hu
    split at hr
    ·rename_i pl OI
     cases hp:JS X (fun i=>pl[i]?) ps.toList with
     |none=>rw[hp] at hr;cases hr
     |some r' =>
      rw[hp] at hr;cases hr;obtain⟨vs,k1,k2⟩:=Sz (e:=e) hp;simp only[Xu] at h;obtain⟨y,hy,VX⟩:=Yp h
      cases Sx:TQ e z r' with
      |none=>rw[Sx] at hy;cases hy
      |some c =>
       rw[Sx] at hy;cases hy;simp only[Zb,k1,KH,hz,hu,OI,k2 _ _ Sx,ZA];exact congrArg some VX.symm
    ·cases hr
   ·rename_i z len el hz hu
    split at hr
    ·rename_i n hs
     cases hp:JS X (fun i=>some (i*n,n)) ps.toList with
     |none=>rw[hp] at hr;cases hr
     |some r' =>
      rw[hp] at hr;cases hr;obtain⟨vs,k1,k2⟩:=Sz (e:=e) hp;simp only[Xu] at h;obtain⟨y,hy,VX⟩:=Yp h
      cases Sx:TQ e z r' with
      |none=>rw[Sx] at hy;cases hy
      |some c =>
       rw[Sx] at hy;cases hy;simp only[Zb,k1,KH,hz,hu,hs,k2 _ _ Sx,ZA];exact congrArg some VX.symm
    ·cases hr
   ·cases hr
  ·rename_i t len ps
   split at hr
   ·rename_i el hu
    split at hr
    ·rename_i n z hs hz
     split at hr
     ·rename_i hc
      cases hp:JS X (fun i=>some (i*n,n)) ps.toList with
      |none=>rw[hp] at hr;cases hr
      |some r' =>
       rw[hp] at hr;cases hr;obtain⟨vs,k1,k2⟩:=Sz (e:=e) hp;simp only[Xu] at h
       split at h
       ·rename_i c Sx;simp only[Zb,k1,Wb,hu,hs,hz,if_pos hc,k2 _ _ Sx];exact h
       ·cases h
     ·cases hr
    ·cases hr
   ·cases hr
  ·rename_i g a b
   split at hr
   ·rename_i x y hx hy
    cases hr
    simp only[Xu] at h;simp only[Zb,Ql hx e,Ql hy e];exact h
   ·cases hr
  ·rename_i f args Qf
   cases hx:I8 X args.toList with
   |none=>rw[hx] at hr;cases hr
   |some l =>
    rw[hx] at hr;cases hr;simp only[Xu,WW] at h;simp only[Zb,eval,Ql hx e,To,xN,Bool.false_and,ae1,if_false,OE,afP,List.append_nil];exact h
  ·rename_i t args Qf
   split at hr
   ·cases hr
   rename_i hq
   cases hx:I8 X args.toList with
   |none=>rw[hx] at hr;cases hr
   |some l =>
    rw[hx] at hr;cases hr;simp only[Xu,G4,Yg] at h;simp only[Zb,eval,Ql hx e,To,xN,hq,Bool.false_and,ae1,if_false];exact h
  ·cases hr
 ·simp only[Xu,ql] at h;exact h
theorem tq {base i:Nat}{e:Env}{s s':St}{o:Op}{v:AV}(hc:cls X o=.a)(h:Xu X base (some i) e s (NN X o)=some (v,s')) :
  ∃s1,Zb X (Y0 X) e o { s with next:=base+i }=some (v,s1)/\s'={ s1 with next:=s.next }:=by
 unfold NN at h
 split at h
 ·rename_i r hr;unfold Au at hr
  split at hr <;> try (simp only[cls] at hc;done)
  all_goals try (simp only[cls] at hc;cases hc;done)
  ·rename_i t
   cases hz:zero X t with
   |none=>rw[hz] at hr;cases hr
   |some z =>
    rw[hz] at hr;cases hr;simp only[Xu,mk] at h
    cases h
    refine⟨_,by simp only[Zb,hz,W_];rfl,rfl⟩
  ·rename_i t x
   cases hx:RM X x with
   |none=>rw[hx] at hr;cases hr
   |some a =>
    rw[hx] at hr;cases hr;simp only[Xu,mk] at h
    cases h
    refine⟨_,by simp only[Zb,Zr hx e,W_];rfl,rfl⟩
  ·rename_i t len ps
   split at hr
   ·rename_i el hu
    split at hr
    ·rename_i n z hs hz
     split at hr
     ·rename_i fF
      cases hp:JS X (fun i=>some (i*n,n)) ps.toList with
      |none=>rw[hp] at hr;cases hr
      |some r' =>
       rw[hp] at hr;cases hr;obtain⟨vs,k1,k2⟩:=Sz (e:=e) hp;simp only[Xu] at h
       split at h
       ·rename_i c Sx
        cases h
        refine⟨_,by simp only[Zb,k1,Wb,hu,hs,hz,if_pos fF,k2 _ _ Sx];rfl,rfl⟩
       ·cases h
     ·cases hr
    ·cases hr
   ·cases hr
  ·simp only[cls] at hc
   split at hc <;> cases hc
  ·simp only[cls] at hc
   split at hc <;> cases hc
  ·cases hr
 ·simp only[Xu,ql] at h
  split at h
  ·rename_i v1 s1 h1
   cases h
   exact⟨s1,h1,rfl⟩
  ·cases h
theorem JR {ops:Array Oper}{o:Oper}{g:Option (Nat×Bool)}(h:fu ops o.guard=some g)(e:Env):TR e g=YE ops e o:=by
 unfold YE
 cases hg:o.guard with
 |none=>rw[hg] at h;simp only[fu] at h;cases h;rfl
 |some jb =>
  obtain⟨j,b⟩:=jb;rw[hg] at h;simp only[fu] at h
  split at h
  ·rename_i oj hj
   split at h
   ·rename_i d hd
    cases h
    simp only[TR,hj,hd]
    cases Env.get e d <;> rfl
   ·cases h
  ·cases h
theorem MN {ops:Array Oper}{base:Nat}{r:Env×St}:∀(l:List Oper) (i:Nat) (l':List RO) (e:Env) (s:St),WB X ops false i l=some l'->EV X base l' e s=some r->Ow X (Y0 X) ops l e s=some r
 |[],i,l',e,s,h,hr=>by simp only[WB] at h;cases h;simpa only[EV,Ow] using hr
 |o::l,i,l',e,s,h,hr=>by
  simp only[WB] at h
  split at h
  ·rename_i g r' h1 h2
   cases h
   simp only[EV,Bool.false_and,ae1,if_false] at hr;simp only[Ow,<-JR h1 e]
   cases hw:TR e g with
   |false =>
    rw[hw] at hr;simp only[cond_false] at hr;simp only[ae1,if_false];exact MN l (i+1) r' _ _ h2 hr
   |true =>
    rw[hw] at hr;simp only[cond_true] at hr;simp only[if_true]
    split at hr
    ·rename_i v s1 hv;rw[QO hv];exact MN l (i+1) r' _ _ h2 hr
    ·cases hr
  ·cases h
mutual
theorem Sy:∀a:AV,same a a=true
 |.bool _|.int _ _|.Gt _ _|.str _|.U'|.ptr _ _|.ZR|.sl ..|.RD|.map _|.Tx|.TH=>by simp[same]
 |.fn f x y=>by simp[same,X4 x,X4 y]
 |.iface t x=>by simp[same,Sy x]
 |.agg a=>by simp[same,X4 a]
 |.X' a=>by simp[same,X4 a]
 |.fz a=>by simp[same,X4 a]
 |.fp a o=>by simp[same,X4 a]
 |.fm a b=>by simp[same,X4 a,X4 b]
theorem X4:∀a:List AV,XQ a a=true
 |[]=>by simp[XQ]
 |x::l=>by simp[XQ,Sy x,X4 l]
end
theorem JQ {ops:Array Oper}{base:Nat}{r:Env×St}:∀(l:List Oper) (i:Nat) (l':List RO) (e:Env) (s:St),WB X ops true i l=some l'->SD X base l' e s=some r ->
  ∃tr,DV X (Y0 X) ops base i l e s=some tr/\Kv tr=some r/\∀(k:Nat) o,l[k]? = some o->(cls X o.op).zA=true->∀k',k<k'->∀o',l[k']? = some o'->(cls X o'.op).G8=true->(Yo tr (k+1)).get (base+(i+k'))=none
 |[],i,l',e,s,h,hr=>by
  simp only[WB] at h;cases h;simp only[SD] at hr;cases hr;exact⟨[(e,s)],rfl,rfl,fun k o ho=>by simp at ho⟩
 |o::l,i,l',e,s,h,hr=>by
  simp only[WB] at h
  split at h
  ·rename_i g r' h1 h2
   cases h
   simp only[SD,afU] at hr;have key:∀v s1,UG X (Y0 X) ops base i o e s=some (Y8 e o.dst v,s1)->(if (!(cls X o.op).zA||XM base s1 r')=true then SD X base r' (Y8 e o.dst v) s1 else none)=some r ->
     ∃tr,DV X (Y0 X) ops base i (o::l) e s=some tr/\Kv tr=some r/\∀(k:Nat) o1,(o::l)[k]? = some o1->(cls X o1.op).zA=true->∀k',k<k'->∀o',(o::l)[k']? = some o'->(cls X o'.op).G8=true->(Yo tr (k+1)).get (base+(i+k'))=none:=by
    intro v s1 Xg re
    split at re
    ·rename_i Ns;obtain⟨tr,g1,g2,g3⟩:=JQ l (i+1) r' _ _ h2 re;obtain⟨k1,k2,_⟩:=SW _ _ _ _ _ g1;refine⟨(e,s)::tr,by simp only[DV,Xg,g1],?_,fun k o1 ho1 hw k' hk o' Xk ha=>?_⟩
     ·cases tr with
      |nil=>simp at k1
      |cons x y=>exact g2
     ·obtain⟨ft,rfl⟩:∃q,k'=q+1:=⟨k'-1,by omega⟩;have vE:∀n,Yo ((e,s)::tr) (n+1)=Yo tr n:=fun n=>by simp[Yo]
      rw[vE]
      cases k with
      |zero =>
       simp at ho1;subst ho1;have Ur:Yo tr 0=s1:=by simp[Yo,k2]
       rw[Ur];rw[hw] at Ns;simp only[Bool.not_true,afV] at Ns;have chk:∀(l:List Oper) (i:Nat) (r':List RO),WB X ops true i l=some r'->XM base s1 r'=true->∀(q:Nat) o',l[q]? = some o'->(cls X o'.op).G8=true->s1.get (base+(i+q))=none:=by
        intro l
        induction l with
        |nil=>intro i r' _ _ q o' Xk;simp at Xk
        |cons x l ih =>
         intro i r' Eo hn q o' Xk ha;simp only[WB] at Eo
         split at Eo
         ·rename_i g2 r2 e1 e2
          cases Eo
          simp only[XM,List.all_cons,aab] at hn
          cases q with
          |zero =>
           simp at Xk;subst Xk;have:=hn.1;simp only[afU,ha,if_true,afK] at this
           simpa using this
          |succ q =>
           have:=ih (i+1) r2 e2 hn.2 q o' (by simpa using Xk) ha;rw[show i+(q+1)=i+1+q by omega];exact this
         ·cases Eo
       have:=chk l (i+1) r' h2 Ns ft o' (by simpa using Xk) ha;rw[show i+(ft+1)=i+1+ft by omega];exact this
      |succ k =>
       have:=g3 k o1 (by simpa using ho1) hw ft (by omega) o' (by simpa using Xk) ha;rw[show i+(ft+1)=i+1+ft by omega];exact this
    ·cases re
   have NM:=JR h1 e
   cases hw:TR e g with
   |false =>
    rw[hw] at hr NM;simp only[cond_false] at hr;refine key undef s ?_ hr;simp only[UG,<-NM,ae1,if_false]
   |true =>
    rw[hw] at hr NM;simp only[cond_true] at hr
    split at hr
    ·rename_i v s1 hv;refine key v s1 ?_ hr;simp only[UG,<-NM,if_true];by_cases ha:(cls X o.op).G8=true
     ·rw[if_pos ha] at hv;obtain⟨s2,e1,e2⟩:=tq (Yl.1 ha) hv;rw[Yl.1 ha];simp only[e1,e2]
     ·rw[if_neg ha] at hv;have:=QO hv
      cases hk:cls X o.op <;> rw[hk] at ha <;> first|exact absurd rfl ha|simp only[this]
    ·cases hr
  ·cases h
theorem QN {ops:Array Oper}{base:Nat}{s:St}:∀(l:List Oper) (i:Nat) (r':List RO),WB X ops true i l=some r'->XM base s r'=true->∀(q:Nat) o',l[q]? = some o'->(cls X o'.op).G8=true->s.get (base+(i+q))=none
 |[],i,r',_,_,q,o',Xk,_=>by simp at Xk
 |x::l,i,r',Eo,hn,q,o',Xk,ha=>by
  simp only[WB] at Eo
  split at Eo
  ·rename_i g2 r2 e1 e2
   cases Eo
   simp only[XM,List.all_cons,aab] at hn
   cases q with
   |zero =>
    simp at Xk;subst Xk;have:=hn.1;simp only[afU,ha,if_true,afK] at this
    simpa using this
   |succ q =>
    have:=QN l (i+1) r2 e2 hn.2 q o' (by simpa using Xk) ha;rw[show i+(q+1)=i+1+q by omega];exact this
  ·cases Eo
end
end Go.Am
namespace Go.Am
open Go
section
variable [Stat]
variable {X:Cx}{ops:Array Oper}{base:Nat}
theorem Pu {tr:List (Env×St)}:∀(ws:List Nat),(∀j∈ws,j+1<tr.length)->Ut tr ws=some (ws.map fun j=>(j+1,Yo tr (j+1)))
 |[],_=>rfl
 |j::ws,h=>by
  have hj:=h j (aeZ ..);simp only[Ut,aaa hj,Pu ws fun k hk=>h k (abc _ hk),afm,Yo,afZ]
theorem QL (h:Qr X ops=false):∀(l:List Oper) (i:Nat) (tr:List (Env×St)),Vi X ops i l tr=[]
 |[],i,tr=>by cases tr <;> rfl
 |o::l,i,[]=>rfl
 |o::l,i,(e,s)::tr=>by
  have:late X ops i=false:=by simp[late,h]
  simp only[Vi,this,ae1,if_false];exact QL h l (i+1) tr
theorem MJ {ex:Ex}{ws as:List Nat}{ss:List (Nat×St)}{Di:List (Env×St)}:∀(l:List Oper) (tr:List (Env×St)) (i:Nat),
  (∀(k:Nat) o es,l[k]? = some o->tr[k]? = some es->YE ops es.1 o=true ->
   (cls X o.op=.r->∃v s',Zb X ex es.1 o.op es.2=some (v,s')/\X6 X ex ops base (i+k) as Di es.1 o.op v (WM ops ws ss (i+k))=true) /\
   (cls X o.op=.q->∃c vs us,o.op=.call c/\Mu X es.1 c=some vs/\Yb X es.2 vs=some us/\VH X ops base (i+k) as Di vs us (WM ops ws ss (i+k))=true)) ->
  Vt X ex ops base ws as ss Di i l tr=true
 |[],tr,i,_=>by cases tr <;> rfl
 |o::l,[],i,_=>rfl
 |o::l,(e,s)::tr,i,h=>by
  simp only[Vt,aab];refine⟨?_,MJ l tr (i+1) fun k o' es h1 h2 h3=>by
   have:=h (k+1) o' es (by simpa using h1) (by simpa using h2) h3;rw[show i+(k+1)=i+1+k by omega] at this;exact this⟩
  have h0:=h 0 o (e,s) rfl rfl;simp only[afD] at h0
  cases hw:YE ops e o with
  |false=>cases cls X o.op <;> simp
  |true =>
   obtain⟨q1,q2⟩:=h0 hw
   cases hk:cls X o.op with
   |p=>rfl
   |a=>rfl
   |w=>rfl
   |r =>
    obtain⟨v,s',e1,e2⟩:=q1 hk;simp only[e1,e2,Bool.or_true]
   |q =>
    obtain⟨c,vs,us,e1,e2,e3,e4⟩:=q2 hk;simp only[e1,e2,e3,e4,Bool.or_true]
theorem Ps:∀(l:List (Nat×St)),(∀m s,(m,s)∈l->∀i,m<=i->kA X ops i->s.get (base+i)=none)->Us X ops base l=true
 |[],_=>rfl
 |(m,s)::l,h=>by
  simp only[Us,aab];refine⟨?_,Ps l fun m' s' hm=>h m' s' (abc _ hm)⟩;have h0:=h m s (aeZ ..);have:∀(l:List Oper) (i:Nat),m<=i->(∀k:Nat,l[k]? = ops[i+k]?)->Kw X base s i l=true:=by
   intro l
   induction l with
   |nil=>intro i _ _;rfl
   |cons o l ih =>
    intro i hi hl;simp only[Kw,aab,afY,afw];refine⟨?_,ih (i+1) (by omega) fun k=>by
     have:=hl (k+1);rw[show i+1+k=i+(k+1) by omega,<-this];simp⟩
    cases ha:(cls X o.op).G8 with
    |false=>exact .inl rfl
    |true =>
     right
     rw[h0 i hi ⟨o,by have:=hl 0;simpa using this.symm,Yl.1 ha⟩];rfl
  refine this (ops.toList.drop m) m (aba m) fun k=>?_
  rw[List.getElem?_drop,afj]
variable {E:Nat->Env}{S:Nat->St}{ex:Ex}
theorem Jt.An (h:Jt X ex ops base E S){i:Nat}{o:Oper}(ho:ops[i]? = some o)(hw:cls X o.op≠.w) :
  (cls X o.op≠.a->S (i+1)=S i)/\(cls X o.op=.a->S (i+1)=S i\/∃b,b≠.gone/\S (i+1)=(S i).put (base+i) b):=by
 rcases WN (h.step i o ho) with⟨_,_,h3⟩|⟨_,v,_,⟨hc,s1,h3,h4⟩|⟨hc,h3⟩⟩
 ·exact⟨fun _=>h3,fun _=>.inl h3⟩
 ·have hc:=Yl.1 hc;obtain⟨b,hb,rfl,_⟩:=xh hc h3;exact⟨fun ZQ=>absurd hc ZQ,fun _=>.inr ⟨b,hb,by rw[h4];rfl⟩⟩
 ·refine⟨fun _=>?_,fun ha=>?_⟩
  ·cases hk:cls X o.op with
   |a=>rw[hk] at hc;cases hc
   |w=>exact absurd hk hw
   |p=>exact (xe hk _ _ _ h3).1
   |r=>exact xd hk h3
   |q=>exact (K0 hk h3).1
  ·rw[ha] at hc;cases hc
theorem HT (i:Nat)(o:Oper)(l:List Oper):Ww X i (o::l)=if (cls X o.op).G8 then i::Ww X (i+1) l else Ww X (i+1) l:=rfl
theorem HY {tr:List (Env×St)}(ht:Jt X ex ops base (UU tr) (Yo tr))(hlen:tr.length=ops.size+1)(Yv:Ok X ops){i m:Nat}(hi:i<ops.size)(eA:m<=i)(lS:∀k o,m<=k->k<i->ops[k]? = some o->cls X o.op≠.w)
  (ha:∀k,k<i->kA X ops k->Yu ops k i=true)(VP:∀k,m<=k->kA X ops k->(Yo tr m).get (base+k)=none) :
  VI ops base i m tr (Ww X 0 ops.toList) (Yo tr m)=Yo tr i:=by
 have skip:∀(as:List Nat) (s:St),(∀j∈as,¬(m<=j/\Yu ops j i=true))->VI ops base i m tr as s=s:=by
  intro as
  induction as with
  |nil=>intro s _;rfl
  |cons j as ih =>
   intro s h;have hj:=h j (aeZ ..);unfold VI;rw[if_neg (by simpa using hj)];exact ih s fun k hk=>h k (abc _ hk)
 have keep:∀n,m<=n->n<=i->∀k,n<=k->kA X ops k->(Yo tr n).get (base+k)=none:=by
  intro n hn
  induction hn with
  |refl=>intro _ k hk DT;exact VP k hk DT
  |step BM ih =>
   rename_i n;intro fx k hk DT;have TL:n<ops.size:=by omega
   have ho:=afp TL;obtain⟨e1,e2⟩:=ht.An ho (lS n _ BM (by omega) ho);by_cases xL:cls X (ops[n]).op=.a
   ·rcases e2 xL with e|⟨b,_,e⟩
    ·rw[e];exact ih (by omega) k (by omega) DT
    ·rw[e,St.Z7,if_neg (by omega)];exact ih (by omega) k (by omega) DT
   ·rw[e1 xL];exact ih (by omega) k (by omega) DT
 have run:∀d n,n+d=i->m<=n->VI ops base i m tr (Ww X n (ops.toList.drop n)) (Yo tr n)=Yo tr i:=by
  intro d
  induction d with
  |zero =>
   intro n hn _;have:n=i:=by omega
   subst this;refine skip _ _ fun j hj hc=>?_
   obtain⟨k,o,_,rfl,_⟩:=KX _ _ _ hj;have:=Yv.Ud n (n+k) hc.2;omega
  |succ d ih =>
   intro n hn BM;have TL:n<ops.size:=by omega
   have ho:=afp TL;have H4:ops.toList.drop n=ops[n]::ops.toList.drop (n+1):=by
    rw[aeY (by simpa using TL)];simp
   rw[H4];obtain⟨e1,e2⟩:=ht.An ho (lS n _ BM (by omega) ho);rw[HT];by_cases xL:(cls X (ops[n]).op).G8=true
   ·rw[if_pos xL];have hk:kA X ops n:=⟨_,ho,Yl.1 xL⟩;unfold VI;rw[if_pos (by simp[BM,ha n (by omega) hk])];have kr:tr[n+1]? = some (UU tr (n+1),Yo tr (n+1)):=by
     rw[aaa (by omega)];simp[UU,Yo,aaa (show n+1<tr.length by omega)]
    rw[kr];simp only;rcases e2 (Yl.1 xL) with e|⟨b,_,e⟩
    ·rw[e,keep n BM (by omega) n (aba n) hk];simp only;rw[<-e];exact ih (n+1) (by omega) (by omega)
    ·rw[e,St.Z7,if_pos rfl];simp only;rw[<-e];exact ih (n+1) (by omega) (by omega)
   ·rw[if_neg xL,<-e1 (fun h=>xL (Yl.2 h))];exact ih (n+1) (by omega) (by omega)
 have pass:∀n,n<=m->VI ops base i m tr (Ww X n (ops.toList.drop n)) (Yo tr m)=VI ops base i m tr (Ww X m (ops.toList.drop m)) (Yo tr m):=by
  intro n hn;obtain⟨d,hd⟩:∃d,n+d=m:=⟨m-n,by omega⟩;clear hn
  induction d generalizing n with
  |zero =>
    have:n=m:=by omega
    subst this;rfl
  |succ d ih =>
   have TL:n<ops.size:=by omega
   have H4:ops.toList.drop n=ops[n]::ops.toList.drop (n+1):=by
    rw[aeY (by simpa using TL)];simp
   rw[<-ih (n+1) (by omega),H4,HT]
   split
   ·conv=>lhs;unfold VI
    rw[if_neg (by simp;omega)]
   ·rfl
 have:=pass 0 (ae5 m);rw[afJ] at this;rw[this];exact run (i-m) m (by omega) (aba m)
theorem sI {l:List RO}{e:Env}{s:St}{r:Env×St}(Eo:WB X ops true 0 ops.toList=some l)(sH:sG X ops=true)(gR:nu X ops=true)(hn:XM s.next s l=true)
  (hr:SD X s.next l e { s with next:=s.next+ops.size }=some r):RF X (Y0 X) ops e s=some r:=by
 have Yv:=DH gR;unfold sG at sH;simp only[aab,afw,ae9,afh] at sH;obtain⟨ou,X9⟩:=sH;obtain⟨tr,g1,g2,g3⟩:=JQ _ _ _ _ _ Eo hr;obtain⟨k1,k2,k3⟩:=SW _ _ _ _ _ g1;have k1:tr.length=ops.size+1:=by simpa using k1
 have ht:Jt X (Y0 X) ops s.next (UU tr) (Yo tr):=⟨fun i o ho=>by
  have:=k3 i o (by simpa using ho)
  simpa using this⟩
 have KY:Yo tr 0={ s with next:=s.next+ops.size }:=by simp[Yo,k2]
 have KZ:∀i,late X ops i=false:=fun i=>by simp[late,ou]
 have PQ:∀j,j∈ZF X ops 0 ops.toList<->∃o,ops[j]? = some o/\cls X o.op=.w:=by
  intro j;rw[SV]
  constructor
  ·rintro⟨k,o,h1,rfl,h3⟩;simp only[aab] at h3;exact⟨o,by simpa using h1,Tz.1 h3.1⟩
  ·rintro⟨o,h1,h3⟩;exact⟨j,o,by simpa using h1,by omega,by simp[Tz.2 h3,KZ]⟩
 have gQ:∀j,kA X ops j->j∈Ww X 0 ops.toList:=by
  have:∀(l:List Oper) (i k:Nat) o,l[k]? = some o->cls X o.op=.a->i+k∈Ww X i l:=by
   intro l
   induction l with
   |nil=>intro i k o h;simp at h
   |cons x l ih =>
    intro i k o h hc;unfold Ww
    cases k with
    |zero=>simp at h;subst h;rw[if_pos (Yl.2 hc)];exact aeZ ..
    |succ k =>
     have:=ih (i+1) k o (by simpa using h) hc;rw[show i+(k+1)=i+1+k by omega]
     split
     ·exact abc _ this
     ·exact this
  rintro j ⟨o,ho,hc⟩;have:=this ops.toList 0 j o (by simpa using ho) hc
  simpa using this
 have gO:=Pu (tr:=tr) (ZF X ops 0 ops.toList) fun j hj=>by
  obtain⟨o,ho,_⟩:=(PQ j).1 hj;have:=(adm.1 ho).1;omega
 unfold RF;rw[g1];simp only[gO];have JL:∀m,m=0\/(∃j,m=j+1/\j∈ZF X ops 0 ops.toList)->∀i,m<=i->kA X ops i->(Yo tr m).get (s.next+i)=none:=by
  rintro m (rfl|⟨j,rfl,hj⟩) i hi ⟨o,ho,hc⟩
  ·rw[KY];have:=QN _ _ _ Eo hn i o (by simpa using ho) (Yl.2 hc);rw[ad4] at this;exact this
  ·obtain⟨oj,hoj,hcj⟩:=(PQ j).1 hj;have:=g3 j oj (by simpa using hoj) (Tz.2 hcj) i (by omega) o (by simpa using ho) (Yl.2 hc)
   simpa using this
 have eG:∀m s1,(m,s1)∈(0,({ s with next:=s.next+ops.size }:St))::((ZF X ops 0 ops.toList).map fun j=>(j+1,Yo tr (j+1)))->(m=0\/∃j,m=j+1/\j∈ZF X ops 0 ops.toList)/\s1=Yo tr m:=by
  intro m s1 hm;rcases afa.1 hm with e|hm
  ·cases e;exact⟨.inl rfl,KY.symm⟩
  ·obtain⟨j,hj,e⟩:=afe.1 hm
   cases e
   exact⟨.inr ⟨j,rfl,hj⟩,rfl⟩
 have hnA:Us X ops s.next ((0,({ s with next:=s.next+ops.size }:St))::((ZF X ops 0 ops.toList).map fun j=>(j+1,Yo tr (j+1))))=true:=Ps _ fun m s1 hm i hi hk=>by
  obtain⟨h1,rfl⟩:=eG m s1 hm;exact JL m h1 i hi hk
 have Ns:Vt X (Y0 X) ops s.next (ZF X ops 0 ops.toList) (Ww X 0 ops.toList) ((0,({ s with next:=s.next+ops.size }:St))::((ZF X ops 0 ops.toList).map fun j=>(j+1,Yo tr (j+1)))) tr 0 ops.toList tr=true:=by
  refine MJ _ _ _ fun i o es ho eH hw=>?_
  have Xk:ops[i]? = some o:=by simpa using ho
  have hi:i<ops.size:=(adm.1 Xk).1;have kj:es=(UU tr i,Yo tr i):=by simp[UU,Yo,eH]
  subst kj;simp only at hw;rw[ad4];have D3:cls X o.op≠.a->∃v,Zb X (Y0 X) (UU tr i) o.op (Yo tr i)=some (v,Yo tr (i+1)):=fun ZQ=>by
   rcases WN (ht.step i o Xk) with⟨h1,_⟩|⟨_,v,_,⟨hc,_⟩|⟨_,h3⟩⟩
   ·rw[hw] at h1;cases h1
   ·exact absurd (Yl.1 hc) ZQ
   ·exact⟨v,h3⟩
  have Ct:cls X o.op=.r\/cls X o.op=.q->∃m,WM ops (ZF X ops 0 ops.toList) ((0,({ s with next:=s.next+ops.size }:St))::((ZF X ops 0 ops.toList).map fun j=>(j+1,Yo tr (j+1)))) i=[(m,Yo tr m)] /\
    VI ops s.next i m tr (Ww X 0 ops.toList) (Yo tr m)=Yo tr i:=by
   intro hk;have Xg:=X9 i hi;rw[Xk] at Xg;simp only at Xg;have sY:(Ww X 0 ops.toList).all (fun k=>!decide (k<i)||Yu ops k i)=true/\(ZF X ops 0 ops.toList).all (fun k=>Yu ops k i||Yu ops i k)=true:=by
    rcases hk with hk|hk <;> rw[hk] at Xg <;> simpa[Gn.qH] using Xg
   obtain⟨ha,hwb⟩:=sY;rw[ae9] at ha hwb;have DZ:∀k,k<i->kA X ops k->Yu ops k i=true:=fun k NZ DT=>by
    have:=ha k (gQ k DT)
    simpa[NZ] using this
   have LO:∀k∈ZF X ops 0 ops.toList,(Yu ops k i=true<->k<i)/\(Yu ops i k=true<->i<k):=by
    intro k Cb;have:=hwb k Cb;simp only[afY] at this;rcases this with h1|h1
    ·have:=Yv.Ud i k h1;refine⟨⟨fun _=>this,fun _=>h1⟩,⟨fun h2=>?_,fun h2=>by omega⟩⟩;have:=Yv.Ud k i h2;omega
    ·have:=Yv.Ud k i h1;refine⟨⟨fun h2=>?_,fun h2=>by omega⟩,⟨fun _=>this,fun _=>h1⟩⟩;have:=Yv.Ud i k h2;omega
   have ZQ:∀k∈ZF X ops 0 ops.toList,k≠i:=fun k Cb e=>by
    obtain⟨o2,MA,P9⟩:=(PQ k).1 Cb;rw[e,Xk] at MA;cases MA;rcases hk with hk|hk <;> rw[hk] at P9 <;> cases P9
   have gN:Y9 (fun j=>!Yu ops i j) (ZF X ops 0 ops.toList)=Y9 (fun j=>Yu ops j i) (ZF X ops 0 ops.toList):=by
    refine Nat.le_antisymm (WO _ fun x hx h=>?_) (WO _ fun x hx h=>?_)
    ·have h1:Yu ops i x=false:=by simpa using h
     refine ((LO x hx).1).2 (Nat.lt_of_not_le fun hle=>?_);have:=((LO x hx).2).2 (by have:=ZQ x hx;omega);rw[h1] at this;cases this
    ·have h1:=((LO x hx).1).1 h;simp only[afw]
     cases hb:Yu ops i x with
     |false=>rfl
     |true=>have:=((LO x hx).2).1 hb;omega
   unfold WM;rw[gN];generalize hq:Y9 (fun j=>Yu ops j i) (ZF X ops 0 ops.toList)=q;have UJ:=afS.1 (Vb (X:=X) (ops:=ops) ops.toList 0);have hql:q<=(ZF X ops 0 ops.toList).length:=by
    rw[<-hq];generalize ZF X ops 0 ops.toList=L
    induction L with
    |nil=>exact aba _
    |cons x L ih=>simp only[Y9,afc];split <;> omega
   have Pq:∀n (hn:n<(ZF X ops 0 ops.toList).length),(n<q<->(ZF X ops 0 ops.toList)[n]<i):=by
    obtain⟨p,Je,Pn,Bh⟩:∃p,p<=(ZF X ops 0 ops.toList).length/\(∀n (hn:n<(ZF X ops 0 ops.toList).length),n<p->(ZF X ops 0 ops.toList)[n]<i)/\(∀n (hn:n<(ZF X ops 0 ops.toList).length),p<=n->¬(ZF X ops 0 ops.toList)[n]<i):=by
     rcases Lr (fun n=>∃hn:n<(ZF X ops 0 ops.toList).length,(ZF X ops 0 ops.toList)[n]<i) (ZF X ops 0 ops.toList).length with h|⟨n0,h1,⟨h2,h3⟩,h4⟩
     ·exact⟨0,ae5 _,fun n _ hn=>by omega,fun n hn _ Zm=>h n hn ⟨hn,Zm⟩⟩
     ·refine⟨n0+1,h1,fun n hn Zm=>?_,fun n hn hle Zm=>h4 n (by omega) hn ⟨hn,Zm⟩⟩;by_cases e:n=n0
      ·subst e;exact h3
      ·have:=UJ n n0 hn h2 (by omega);omega
    have lQ:p=q:=by
     rw[<-hq];refine (WG _ p Je (fun x hx=>?_) (fun x hx=>?_)).symm
     ·obtain⟨n,hn,rfl⟩:=ae8.1 hx;rw[List.getElem_take];have yq:n<p/\n<(ZF X ops 0 ops.toList).length:=by rw[afH] at hn;omega
      exact ((LO _ (ae2 yq.2)).1).2 (Pn n yq.2 yq.1)
     ·obtain⟨n,hn,rfl⟩:=ae8.1 hx;rw[List.getElem_drop];rw[afQ] at hn;have:=Bh (p+n) (by omega) (by omega)
      cases hb:Yu ops (ZF X ops 0 ops.toList)[p+n] i with
      |false=>rfl
      |true=>exact absurd (((LO _ (ae2 (by omega))).1).1 hb) this
    subst lQ;exact fun n hn=>⟨Pn n hn,fun Zm=>Nat.lt_of_not_le fun hle=>Bh n hn hle Zm⟩
   have fin:∀m,(m=0\/∃j,m=j+1/\j∈ZF X ops 0 ops.toList)->m<=i->(∀k∈ZF X ops 0 ops.toList,k<i->k<m) ->
     VI ops s.next i m tr (Ww X 0 ops.toList) (Yo tr m)=Yo tr i:=fun m hm eA hwm =>
    HY ht k1 Yv hi eA (fun k ok h1 h2 gL hc=>by
     have:=hwm k ((PQ k).2 ⟨ok,gL,hc⟩) h2;omega) DZ (fun k h1 h2=>JL m hm k h1 h2)
   cases q with
   |zero =>
    refine⟨0,by simp[KY],fin 0 (.inl rfl) (ae5 _) fun k Cb NZ=>?_⟩;obtain⟨n,hn,rfl⟩:=ae8.1 Cb;have:=(Pq n hn).2 NZ;omega
   |succ q =>
    have gK:q<(ZF X ops 0 ops.toList).length:=by omega
    have hqi:=(Pq q gK).1 (by omega);refine⟨(ZF X ops 0 ops.toList)[q]+1,?_,fin _ (.inr ⟨_,rfl,ae2 _⟩) (by omega) fun k Cb NZ=>?_⟩
    ·rw[List.drop_take];rw[show q+1+1-(q+1)=1 by omega,List.drop_succ_cons,aeY (by simpa using gK)];simp
    ·obtain⟨n,hn,rfl⟩:=ae8.1 Cb;have eC:=(Pq n hn).2 NZ;by_cases e:n=q
     ·subst e;omega
     ·have:=UJ n q hn gK (by omega);omega
  refine⟨fun hk=>?_,fun hk=>?_⟩
  ·obtain⟨v,hv⟩:=D3 (by rw[hk];simp);obtain⟨m,sa,oX⟩:=Ct (.inl hk);refine⟨v,_,hv,?_⟩;rw[sa];simp only[X6,oX,hv,Sy,Bool.and_self]
  ·obtain⟨v,hv⟩:=D3 (by rw[hk];simp);obtain⟨m,sa,oX⟩:=Ct (.inr hk);obtain⟨_,c,vs,us,e1,e2,e3,_⟩:=K0 hk hv;refine⟨c,vs,us,e1,e2,e3,?_⟩;rw[sa];simp only[VH,oX,e3,X4,Bool.and_self]
 rw[QL ou];simp only[Rc,Ns,hnA,Bool.and_self,if_true];exact g2
theorem Pp {b:Env->St->Fl}{r:Out×Env×St}:∀(n:Nat) (e:Env) (s:St),UW b n e s=some r->∀m,n<=m->UW b m e s=some r
 |0,e,s,h,m,_=>by simp[UW] at h
 |n+1,e,s,h,m,hm=>by
  obtain⟨k,rfl⟩:∃k,m=k+1:=⟨m-1,by omega⟩;simp only[UW] at h ⊢
  split at h
  ·exact Pp n _ _ h k (by omega)
  ·exact h
theorem V0 {b:Env->St->Fl}{e:Env}{s:St}{r:Out×Env×St}:PX b e s=some r<->∃n,UW b n e s=some r:=by
 unfold PX
 constructor
 ·intro h
  split at h
  ·rename_i hx
   cases h
   exact Classical.choose_spec hx
  ·cases h
 ·rintro⟨n,hn⟩;have hx:∃r n,UW b n e s=some r:=⟨r,n,hn⟩;rw[dif_pos hx];obtain⟨n',yq⟩:=Classical.choose_spec hx;have h1:=Pp n e s hn (max n n') (Nat.le_max_left ..);have h2:=Pp n' e s yq (max n n') (Nat.le_max_right ..);rw[h1] at h2;exact congrArg some (Option.some.inj h2).symm
theorem u7 (b:Env->St->Fl)(e:Env)(s:St):PX b e s=match b e s with
  |some (.norm,e,s)=>PX b e s
  |r=>r:=by
 cases hb:b e s with
 |none =>
  cases h:PX b e s with
  |none=>rfl
  |some r =>
   obtain⟨n,hn⟩:=V0.1 h
   cases n with
   |zero=>simp[UW] at hn
   |succ n=>simp only[UW,hb] at hn;cases hn
 |some x =>
  obtain⟨o,e1,s1⟩:=x
  cases o with
  |norm =>
   simp only
   cases h:PX b e1 s1 with
   |some r =>
    obtain⟨n,hn⟩:=V0.1 h;exact V0.2 ⟨n+1,by simp only[UW,hb];exact hn⟩
   |none =>
    cases h':PX b e s with
    |none=>rfl
    |some r =>
     obtain⟨n,hn⟩:=V0.1 h'
     cases n with
     |zero=>simp[UW] at hn
     |succ n =>
      simp only[UW,hb] at hn;rw[V0.2 ⟨n,hn⟩] at h;cases h
  |exit i=>exact V0.2 ⟨1,by simp only[UW,hb]⟩
  |ret=>exact V0.2 ⟨1,by simp only[UW,hb]⟩
theorem yD:∀(c:Code) (e:Env) (s:St) (r:Out×Env×St),den X (rc X c) e s=some r->Y0 X c e s=some r:=by
 intro c
 induction c with
 |skip=>intro e s r h;simp only[rc,den] at h;rw[WY];exact h
 |label l=>intro e s r h;simp only[rc,den] at h;rw[WY];exact h
 |exit i=>intro e s r h;simp only[rc,den] at h;rw[WY];exact h
 |ret=>intro e s r h;simp only[rc,den] at h;rw[WY];exact h
 |region id ops d =>
  intro e s r h;simp only[rc] at h
  split at h
  ·rename_i hd
   split at h
   ·rename_i hc;simp only[aab] at hc
    split at h
    ·rename_i l hl;simp only[den] at h
     split at h
     ·rename_i hn
      split at h
      ·rename_i e1 s1 h1
       cases h
       rw[WY];simp only[Yc,hd,if_true,sI hl hc.1 hc.2 hn h1]
      ·cases h
     ·cases h
    ·exact h
   ·exact h
  ·rename_i hd
   split at h
   ·rename_i l hl;simp only[den] at h
    split at h
    ·rename_i e1 s1 h1
     cases h
     rw[WY];simp only[Yc,if_neg hd,MN _ _ _ _ _ hl h1]
    ·cases h
   ·exact h
 |seq a b iha ihb =>
  intro e s r h;simp only[rc,den] at h;rw[WY];simp only[Yc]
  split at h
  ·rename_i e1 s1 h1;rw[iha _ _ _ h1];exact ihb _ _ _ h
  ·rename_i ZQ;rw[iha _ _ _ h];obtain⟨o,e1,s1⟩:=r
   cases o with
   |norm=>exact absurd h (ZQ _ _)
   |_=>rfl
 |cond c a b iha ihb =>
  intro e s r h;simp only[rc] at h
  split at h
  ·rename_i x hx;simp only[den] at h;rw[WY];simp only[Yc,Zr hx e]
   split at h
   ·rename_i p hp;rw[hp]
    cases p
    ·exact ihb _ _ _ h
    ·exact iha _ _ _ h
   ·cases h
  ·exact h
 |block id b ih =>
  intro e s r h;simp only[rc,den] at h;rw[WY];simp only[Yc]
  split at h
  ·rename_i i e1 s1 h1;rw[ih _ _ _ h1];exact h
  ·rename_i ZQ;rw[ih _ _ _ h];obtain⟨o,e1,s1⟩:=r
   cases o with
   |exit i=>exact absurd h (ZQ _ _ _)
   |_=>rfl
 |loop b ih =>
  intro e s r h;simp only[rc,den] at h;obtain⟨n,hn⟩:=V0.1 h;clear h
  induction n generalizing e s with
  |zero=>simp[UW] at hn
  |succ n ihn =>
   simp only[UW] at hn;rw[WY];simp only[Yc]
   split at hn
   ·rename_i e1 s1 h1;rw[ih _ _ _ h1];exact ihn _ _ hn
   ·rename_i ZQ;rw[ih _ _ _ hn];obtain⟨o,e1,s1⟩:=r
    cases o with
    |norm=>exact absurd hn (ZQ _ _)
    |_=>rfl
 |scope b ih =>
  intro e s r h;simp only[rc] at h;rw[WY];simp only[Yc];exact ih _ _ _ h
 |rangeFunc f ps a b _ _=>intro e s r h;simpa only[rc,den] using h
 |goto l=>intro e s r h;simpa only[rc,den] using h
 |refuse w=>intro e s r h;simpa only[rc,den] using h
end
end Go.Am
