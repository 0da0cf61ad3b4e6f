/- A part of the proof of a statement of this seat: the machine on which the program is read, and what it computes; for every input. -/
import Derived.Test.YtkmaeondbkpajaaGreatDoorG00
set_option linter.all false
namespace Go.Am
open Go
section
variable [Stat]
variable {X:Cx}{P:Program}
theorem zQ (hX:Full X P)(hD:DH X P){ex:Ex}(hE:M5 X P ex):M5 X P (Xj X ex):=by
 intro c e s out e' s' h r n0 a w σ Ya I
 cases c with
 |loop b =>
  simp only[Xj] at h;have wC:∀a':Act,a'.tmps.size=a.tmps.size->pT X r a'.tmps.size b:=fun a' iO=>by
   obtain⟨n,h1,h2,h3⟩:=Ya;exact⟨n,by rw[iO];exact h1,by simpa[JC] using h2,fun h=>by simpa[Rg] using h3 h⟩
  have ahT:∀a':Act,a'.tmps.size=a.tmps.size->pT X r a'.tmps.size (.loop b):=fun a' iO=>by rw[iO];exact Ya
  show Q9 (FW r) 0 P b _ a w;refine zW ?_
  split at h
  ·rename_i e1 s1 h1;refine wpIn_mono (hE _ _ _ _ _ _ h1 r n0 a w σ (wC a rfl) I).wpIn ?_;rintro en a1 w1 ⟨hx,JM,g1,i1,Sq⟩
   cases en <;> simp only[Sl] at hx
   have:=hE _ _ _ _ _ _ h r n0 a1 w1 JM (ahT a1 Sq) i1;have h2:Q9 (FW r) 0 P b (Zu X JM s1 w1 n0 a1 out e' s') a1 w1:=this;show Q9 (FW r) 0 P b _ a1 w1;intro b' k cs cB hb hr;obtain⟨e2,a2,w2,⟨hq1,hq2⟩,OZ⟩:=h2 b' k cs cB hb hr;exact⟨e2,a2,w2,⟨hq1,hq2.trans g1 Sq⟩,OZ⟩
  ·rename_i Zv;refine wpIn_mono (hE _ _ _ _ _ _ h r n0 a w σ (wC a rfl) I).wpIn ?_;rintro en a1 w1 ⟨hx,hA⟩
   cases out with
   |norm=>exact absurd h (Zv _ _)
   |exit i=>cases en <;> simp only[Sl] at hx;exact⟨hx,hA⟩
   |ret=>cases en <;> simp only[Sl] at hx;exact⟨hx,hA⟩
 |skip =>
  simp only[Xj] at h;cases h;exact wpIn_skip ⟨trivial,SI.refl I⟩
 |label l =>
  simp only[Xj] at h;cases h;exact wpIn_label ⟨trivial,SI.refl I⟩
 |exit i =>
  simp only[Xj] at h;cases h;exact wpIn_exit ⟨rfl,SI.refl I⟩
 |ret =>
  simp only[Xj] at h;cases h;exact wpIn_ret ⟨trivial,SI.refl I⟩
 |region id ops d =>
  have BZ:∀o∈ops.toList,KK a.tmps.size o.dst:=by
   obtain⟨n,h1,h2,_⟩:=Ya;simp only[JC,adm,ajq] at h2;intro o ho t ht;have:=h2.1 o ho;rw[ht] at this;simp only[decide_eq_true_eq] at this;exact Nat.lt_of_lt_of_le this h1
  simp only[Xj] at h
  cases d with
  |false =>
   simp only[ajn,if_false] at h
   split at h
   ·rename_i e1 s1 h1
    cases h
    show Code.wpIn _ _ _ _ _ _ _;refine wpIn_region ?_;rw[List.range_eq_range'];exact Nn hX hE ops.size 0 e s a w σ (by omega) (by simpa using h1) BZ I fun a' w' hA=>⟨trivial,hA⟩
   ·cases h
  |true =>
   simp only[if_true] at h
   split at h
   ·rename_i e1 s1 h1
    cases h
    show Code.wpIn _ _ _ _ _ _ _;refine wpIn_region_draw fun t=>?_
    obtain⟨n,_,h2,_⟩:=Ya;simp only[JC,adm,ajT,ajU] at h2;have I':Inv X σ s { w with drawn:=w.drawn+1 } n0 e a:=⟨I.hr.of_heap rfl,I.fresh,I.glob,I.env,I.df,I.n0⟩;have ahU:Region.schedule (P.follows .mixedOrders) ops t=Region.linearise .any ops t:=by
     unfold Region.schedule;rw[hX.mixed];simp
    rw[ahU];refine hD ex hE r ops e _ s _ a _ σ n0 t _ h1 h2.2 BZ I' ?_;rintro a' w' ⟨YE,g,i',hs⟩;refine⟨trivial,YE,?_,i',hs⟩;exact Good.oU (w:=w) g
   ·cases h
 |seq x y =>
  have ae8:pT X r a.tmps.size x:=by
   obtain⟨n,h1,h2,h3⟩:=Ya;simp only[JC,adm] at h2;exact⟨n,h1,h2.1,fun h=>by have:=h3 h;simp only[Rg,adm] at this;exact this.1⟩
  have ahV:∀m,m=a.tmps.size->pT X r m y:=by
   rintro m rfl;obtain⟨n,h1,h2,h3⟩:=Ya;simp only[JC,adm] at h2;exact⟨n,h1,h2.2,fun h=>by have:=h3 h;simp only[Rg,adm] at this;exact this.2⟩
  simp only[Xj] at h;show Code.wpIn _ _ _ _ _ _ _;refine wpIn_seq ?_
  split at h
  ·rename_i e1 s1 h1;refine wpIn_mono (hE _ _ _ _ _ _ h1 r n0 a w σ ae8 I).wpIn ?_;rintro en a1 w1 ⟨hx,JM,g1,i1,Sq⟩
   cases en <;> simp only[Sl] at hx
   refine wpIn_mono (hE _ _ _ _ _ _ h r n0 a1 w1 JM (ahV _ Sq) i1).wpIn ?_;rintro uu a2 w2 ⟨hq1,hq2⟩;exact⟨hq1,hq2.trans g1 Sq⟩
  ·rename_i Zv;refine wpIn_mono (hE _ _ _ _ _ _ h r n0 a w σ ae8 I).wpIn ?_;rintro en a1 w1 ⟨hx,hA⟩
   cases out with
   |norm=>exact absurd h (Zv _ _)
   |exit i=>cases en <;> simp only[Sl] at hx;exact⟨hx,hA⟩
   |ret=>cases en <;> simp only[Sl] at hx;exact⟨hx,hA⟩
 |cond c x y =>
  have ae9:pT X r a.tmps.size x/\pT X r a.tmps.size y:=by
   obtain⟨n,h1,h2,h3⟩:=Ya;simp only[JC,adm] at h2;exact⟨⟨n,h1,h2.1,fun h=>by have:=h3 h;simp only[Rg,adm] at this;exact this.1⟩,
    ⟨n,h1,h2.2,fun h=>by have:=h3 h;simp only[Rg,adm] at this;exact this.2⟩⟩
  simp only[Xj] at h;show Code.wpIn _ _ _ _ _ _ _
  split at h
  ·rename_i hc;have:=Xb (Uy I.glob I.env hc);exact wpIn_cond_true (by rw[T1];exact this) (hE _ _ _ _ _ _ h r n0 a w σ ae9.1 I).wpIn
  ·rename_i hc;have:=Xb (Uy I.glob I.env hc);exact wpIn_cond_false (by rw[T1];exact this) (hE _ _ _ _ _ _ h r n0 a w σ ae9.2 I).wpIn
  ·cases h
 |block id b =>
  have wC:pT X r a.tmps.size b:=by
   obtain⟨n,h1,h2,h3⟩:=Ya;exact⟨n,h1,by simpa[JC] using h2,fun h=>by simpa[Rg] using h3 h⟩
  simp only[Xj] at h;show Code.wpIn _ _ _ _ _ _ _;refine wpIn_block ?_
  split at h
  ·rename_i i e1 s1 h1;refine wpIn_mono (hE _ _ _ _ _ _ h1 r n0 a w σ wC I).wpIn ?_;rintro en a1 w1 ⟨hx,hA⟩
   cases en <;> simp only[Sl] at hx
   subst hx
   split at h
   ·rename_i ew
    cases h
    simp only[Exit.inBlock,ew,if_true];exact⟨trivial,hA⟩
   ·rename_i ew
    cases h
    simp only[Exit.inBlock,ew,if_false];exact⟨rfl,hA⟩
  ·rename_i Zv;refine wpIn_mono (hE _ _ _ _ _ _ h r n0 a w σ wC I).wpIn ?_;rintro en a1 w1 ⟨hx,hA⟩
   cases out with
   |norm=>cases en <;> simp only[Sl] at hx;exact⟨trivial,hA⟩
   |exit i=>exact absurd h (Zv _ _ _)
   |ret=>cases en <;> simp only[Sl] at hx;exact⟨trivial,hA⟩
 |scope b =>
  have wC:pT X r a.tmps.size b:=by
   obtain⟨n,h1,h2,h3⟩:=Ya;exact⟨n,h1,by simpa[JC] using h2,fun h=>by simpa[Rg] using h3 h⟩
  simp only[Xj] at h;show Code.wpIn _ _ _ _ _ _ _;refine wD (wpIn_mono (hE _ _ _ _ _ _ h r n0 a w σ wC I).wpIn ?_);rintro en a1 w1 ⟨hx,hA⟩
  cases en with
  |goto l=>cases out <;> simp only[Sl] at hx
  |_=>exact⟨hx,hA⟩
 |rangeFunc g ps assign body =>
  show Code.wpIn _ _ _ _ _ _ _
  cases r with
  |none=>exact JT hX hE h I Ya
  |some l =>
   obtain⟨n,_,_,h3⟩:=Ya;have:=h3 rfl;simp[Rg] at this
 |_=>simp only[Xj] at h;cases h
theorem GX (hX:Full X P)(hD:DH X P):∀n,M5 X P (exec X n)
 |0=>by intro c e s out e' s' h;simp[exec] at h
 |n+1=>zQ hX hD (GX hX hD n)
theorem s9 (hX:Full X P)(hD:DH X P){n:Nat}{f:FuncId}(MY:X.ext f=none){args:List AV}{s s':St}{v:AV}(h:run X n f args s=some (v,s')){σ:Sg}{w:World}{us:Array Value}
  (H:HR σ s w)(F:TY σ s)(G:WR X σ)(hv:ZU σ args us.toList):Calls P f us w fun en w'=>∃u YE,en=.returned u/\ZT YE v u/\Good σ s w YE s' w' :=
 (O4 hX (GX hX hD n) MY h H F G hv).2
end
end Go.Am
namespace Go.Am
open Go
section
variable [Stat]
variable {X:Cx}
theorem VT {v:Option AV}{r:AV}(h:v=some r)(t:St):Zm v t=some (r,t):=by subst h;rfl
def E7 (X:Cx)(ex:Ex)(e:Env)(o:Op):Prop:=∀s v s',YK X ex e o s=some (v,s')->s'=s/\∀t,YK X ex e o t=some (v,t)
theorem Lc (f:Operand)(args:Array Operand)(FH:Array TypeId)(k:Cn)(h1:k≠.q)(h2:k≠.w):cls X (.call { callee:=.value f,args:=args,argTypes:=FH })≠k:=by
 intro h
 cases f <;> simp only[cls] at h <;> first
  |exact h2 h.symm
  |(split at h <;> first|exact h1 h.symm|exact h2 h.symm)
theorem E6 {ex:Ex}{e:Env}{o:Op}(f:Option AV)(h:∀s,YK X ex e o s=Zm f s):E7 X ex e o:=by
 intro s v s' hs;rw[h] at hs;obtain⟨h1,rfl⟩:=Zo hs;exact⟨rfl,fun t=>by rw[h];exact VT h1 t⟩
theorem pd {ex:Ex}{e:Env}{o:Op}(hc:cls X o=.p):E7 X ex e o:=by
 cases o <;> simp only[cls] at hc <;> try (cases hc;done)
 case move x=>exact E6 _ fun s=>rfl
 case assign x=>exact E6 _ fun s=>rfl
 case pick c a b =>
  intro s v s' h;simp only[YK] at h ⊢
  split at h
  ·obtain⟨h1,rfl⟩:=Zo h;exact⟨rfl,fun t=>VT h1 t⟩
  ·obtain⟨h1,rfl⟩:=Zo h;exact⟨rfl,fun t=>VT h1 t⟩
  ·cases h
 case build t ps =>
  intro s v s' h;simp only[YK] at h ⊢
  split at h
  ·obtain⟨h1,rfl⟩:=Zo h;exact⟨rfl,fun t=>VT h1 t⟩
  ·cases h
 case nilCheck x =>
  intro s v s' h;simp only[YK] at h ⊢
  split at h <;> first|(cases h;exact⟨rfl,fun _=>rfl⟩)|cases h
 case binOp op t x y yt =>
  intro s v s' h;simp only[YK] at h ⊢
  split at h
  ·obtain⟨h1,rfl⟩:=Zo h;exact⟨rfl,fun t=>VT h1 t⟩
  ·cases h
 case unOp op t x =>
  intro s v s' h;simp only[YK] at h ⊢
  split at h
  ·obtain⟨h1,rfl⟩:=Zo h;exact⟨rfl,fun t=>VT h1 t⟩
  ·cases h
 case convert src dst x =>
  intro s v s' h;simp only[YK] at h ⊢
  split at h
  ·rename_i a ha;unfold Tv at h ⊢
   split at h
   ·cases h;exact⟨rfl,fun _=>rfl⟩
   ·cases h;exact⟨rfl,fun _=>rfl⟩
   ·cases h;exact⟨rfl,fun _=>rfl⟩
   ·rename_i d1 e' b _ h1 h2;rw[h1,h2] at hc
    cases e' <;> cases hc
   ·rename_i e' h1 h2 _ _;rw[h1,h2] at hc
    cases hc
   ·cases h
  ·cases h
 case makeInterface t x =>
  intro s v s' h;simp only[YK] at h ⊢
  split at h
  ·split at h
   ·cases h
   ·cases h;exact⟨rfl,fun _=>rfl⟩
   ·cases h
  ·cases h
 case makeFunc f a b =>
  intro s v s' h;simp only[YK] at h ⊢
  split at h
  ·split at h
   ·cases h;exact⟨rfl,fun _=>rfl⟩
   ·cases h
  ·cases h
 case slice t x lo hi mx =>
  intro s v s' h;simp only[YK] at h ⊢
  split at h
  ·obtain⟨h1,rfl⟩:=Zo h;exact⟨rfl,fun t=>VT h1 t⟩
  ·cases h
 case fieldAddr t x f =>
  intro s v s' h;simp only[YK] at h ⊢
  split at h
  ·obtain⟨h1,rfl⟩:=Zo h;exact⟨rfl,fun t=>VT h1 t⟩
  ·cases h
 case field t x f =>
  intro s v s' h;simp only[YK] at h ⊢
  split at h
  ·split at h
   ·obtain⟨h1,rfl⟩:=Zo h;exact⟨rfl,fun t=>VT h1 t⟩
   ·cases h
  ·cases h
 case indexAddr t x i =>
  intro s v s' h;simp only[YK] at h ⊢
  split at h
  ·obtain⟨h1,rfl⟩:=Zo h;exact⟨rfl,fun t=>VT h1 t⟩
  ·cases h
 case index t x i =>
  intro s v s' h;simp only[YK] at h ⊢
  split at h
  ·obtain⟨h1,rfl⟩:=Zo h;exact⟨rfl,fun t=>VT h1 t⟩
  ·cases h
 case extract t i =>
  intro s v s' h;simp only[YK] at h ⊢
  split at h
  ·obtain⟨h1,rfl⟩:=Zo h;exact⟨rfl,fun t=>VT h1 t⟩
  ·cases h
 case call c =>
  obtain⟨callee,args,FH⟩:=c
  cases callee with
  |value f=>exact absurd hc (Lc (X:=X) f args FH .p (by simp) (by simp))
  |invoke _ _=>cases hc
  |builtin b =>
  simp only at hc;intro s v s' h;simp only[YK] at h ⊢
  split at h
  ·rename_i vs TA
   cases b <;> simp only at hc <;> try (cases hc;done)
   all_goals
    unfold Yr at h ⊢
    split at h <;> first
     |(cases h;done)
     |(rename_i heq;cases heq;done)
     |skip
   all_goals
    split at h <;> first
     |(cases h;exact⟨rfl,fun _=>rfl⟩)
     |(cases h;done)
     |skip
  ·cases h
theorem pc {ex:Ex}{e:Env}{o:Op}(hc:cls X o=.r){s s':St}{v:AV}(h:YK X ex e o s=some (v,s')):s'=s:=by
 cases o <;> simp only[cls] at hc <;> try (cases hc;done)
 case convert src dst x =>
  simp only[YK] at h
  split at h
  ·rename_i a ha
   cases h1:X.Zj src with
   |none=>unfold Tv at h;rw[h1] at h;simp at h
   |some d1 =>
    cases h2:X.Zj dst with
    |none=>rw[h1,h2] at hc;cases d1 <;> simp at hc
    |some d2 =>
     rw[h1,h2] at hc;unfold Tv at h;rw[h1,h2] at h
     cases d1 <;> cases d2 <;> simp at hc
     cases a <;> (try simp only at h) <;> first
      |(cases h;rfl)
      |(split at h <;> first
        |(cases h;done)
        |(cases h;rfl)
        |(split at h <;> first
          |(cases h;done)
          |(cases h;rfl)
          |(split at h <;> first
            |(cases h;done)
            |(split at h <;> first
              |(cases h;done)
              |(cases h;rfl)))))
  ·cases h
 case load t a =>
  simp only[YK] at h
  split at h
  ·exact (Zo h).2
  ·cases h
 case lookup t m k ok =>
  simp only[YK] at h
  split at h
  ·exact (Zo h).2
  ·cases h
 case call c =>
  obtain⟨callee,args,FH⟩:=c
  cases callee with
  |value f=>exact absurd hc (Lc (X:=X) f args FH .r (by simp) (by simp))
  |invoke _ _=>cases hc
  |builtin b =>
  simp only at hc;simp only[YK] at h
  split at h
  ·rename_i vs TA
   cases b <;> simp only at hc <;> try (cases hc;done)
   unfold Yr at h
   split at h <;> first
    |(rename_i heq;cases heq;done)
    |skip
   ·split at h
    ·split at h <;> first
      |(cases h;rfl)
      |(split at h <;> first|(cases h;rfl)|(cases h;done))
      |(cases h;done)
    ·cases h
   ·cases h
  ·cases h
theorem pg {ex:Ex}{e:Env}{o:Op}(hc:cls X o=.a){s s':St}{v:AV}(h:YK X ex e o s=some (v,s')) :
  ∃b,b≠.gone/\s'=s.new b/\∀t:St,t.next=s.next->YK X ex e o t=some (v,t.new b):=by
 cases o <;> simp only[cls] at hc <;> try (cases hc;done)
 case convert src dst x =>
  simp only[YK] at h ⊢
  split at h
  ·rename_i a ha
   cases h1:X.Zj src with
   |none=>unfold Tv at h;rw[h1] at h;simp at h
   |some d1 =>
    cases h2:X.Zj dst with
    |none=>rw[h1,h2] at hc;cases d1 <;> simp at hc
    |some d2 =>
     rw[h1,h2] at hc;unfold Tv at h ⊢;rw[h1,h2] at h ⊢
     cases d2 <;> first|(cases d1 <;> simp at hc <;> done)|skip
     rename_i el
     cases a <;> first|(cases d1 <;> cases h <;> done)|skip
     rename_i b;simp only at h ⊢
     split at h
     ·cases h
      exact⟨_,by simp,rfl,fun t ht=>by rw[ht]⟩
     ·cases h
  ·cases h
 case alloc t =>
  simp only[YK] at h ⊢
  split at h
  ·cases h
   exact⟨_,by simp,rfl,fun t ht=>by simp only[VS,ht]⟩
  ·cases h
 case box t x =>
  simp only[YK] at h ⊢
  split at h
  ·cases h
   exact⟨_,by simp,rfl,fun t ht=>by simp only[VS,ht]⟩
  ·cases h
 case buildSlice t n ps =>
  simp only[YK] at h ⊢
  split at h
  ·unfold UH at h ⊢
   split at h
   ·split at h
    ·split at h
     ·rename_i ah
      split at h
      ·cases h
       exact⟨_,by simp,rfl,fun t ht=>by simp only[if_pos ah,ht]⟩
      ·cases h
     ·cases h
    ·cases h
   ·cases h
  ·cases h
 case makeMap t r =>
  simp only[YK] at h ⊢
  split at h
  ·cases h
   exact⟨_,by simp,rfl,fun t ht=>by simp only[ht]⟩
  ·split at h
   ·cases h
    exact⟨_,by simp,rfl,fun t ht=>by simp only[ht]⟩
   ·cases h
 case makeSlice t l c =>
  simp only[YK] at h ⊢
  split at h
  ·split at h
   ·split at h
    ·rename_i ah
     cases h
     exact⟨_,by simp,rfl,fun t ht=>by simp only[if_pos ah,ht]⟩
    ·cases h
   ·cases h
  ·cases h
 case call c =>
  obtain⟨callee,args,FH⟩:=c
  cases callee with
  |value f=>exact absurd hc (Lc (X:=X) f args FH .a (by simp) (by simp))
  |invoke _ _=>cases hc
  |builtin b =>
  simp only at hc
  cases b <;> simp only at hc <;> cases hc
theorem FD {ex:Ex}{e:Env}{o:Op}(hc:cls X o=.q){s s':St}{v:AV}(h:YK X ex e o s=some (v,s')) :
  s'=s/\∃c vs us,o=.call c/\Wz X e c.args.toList=some vs/\VF X s vs=some us/\∀t,VF X t vs=some us->YK X ex e o t=some (v,t):=by
 cases o <;> try (simp only[cls] at hc;done)
 case call c =>
  obtain⟨callee,args,FH⟩:=c
  cases callee with
  |invoke _ _=>simp only[cls] at hc;cases hc
  |builtin b=>cases b <;> simp only[cls] at hc <;> cases hc
  |value f =>
   cases f <;> try (simp only[cls] at hc;cases hc;done)
   rename_i g;simp only[cls] at hc
   split at hc
   ·rename_i hg;simp only[adm,akd] at hg;simp only[YK,eval] at h ⊢
    split at h
    ·rename_i f vs hf TA
     cases hf
     simp only[Ij,ajP,ajG,UG,hg.2,hg.1,if_true] at h ⊢;unfold PA at h
     split at h
     ·rename_i us NP
      split at h
      ·rename_i v1 hq
       cases h
       refine⟨rfl,_,vs,us,rfl,TA,NP,fun t ht=>?_⟩;simp only[PA,ht,hq]
      ·cases h
     ·cases h
    ·cases h
   ·cases hc
 all_goals
  exfalso;simp only[cls] at hc
  first
   |(cases hc;done)
   |(split at hc <;> cases hc)
theorem eval_congr {e e':Env}{x:Operand}(h:∀t,x=.tmp t->Env.get e t=Env.get e' t):eval X e x=eval X e' x:=by
 cases x <;> simp only[eval]
 rw[h _ rfl]
theorem TT {e e':Env}:∀{l:List Operand},(∀t,Operand.tmp t∈l->Env.get e t=Env.get e' t)->Wz X e l=Wz X e' l
 |[],_=>rfl
 |x::l,h=>by
  simp only[Wz];rw[eval_congr (fun t ht=>h t (by rw[ht];exact aba ..)),TT (fun t ht=>h t (aab _ ht))]
theorem TE {e e':Env}:∀{l:List (Nat×Operand)},(∀t,Operand.tmp t∈l.map (·.2)->Env.get e t=Env.get e' t)->Wk X e l=Wk X e' l
 |[],_=>rfl
 |(i,x)::l,h=>by
  simp only[Wk];rw[eval_congr (fun t ht=>h t (by rw[ht];exact aba ..)),TE (fun t ht=>h t (aab _ ht))]
theorem Pz {e e':Env}{x:Option Operand}(h:∀t,x=some (.tmp t)->Env.get e t=Env.get e' t):Py X e x=Py X e' x:=by
 cases x with
 |none=>rfl
 |some x=>simp only[Py];rw[eval_congr (fun t ht=>h t (by rw[ht]))]
theorem ta {ex:Ex}{e e':Env}{o:Op}{s:St}(h:∀t,Operand.tmp t∈o.operands.toList->Env.get e t=Env.get e' t):YK X ex e o s=YK X ex e' o s:=by
 cases o <;> simp only[YK] <;> simp only[Op.operands] at h
 case pick c a b =>
  have h1:=eval_congr (X:=X) (e:=e) (e':=e') (x:=c) (fun t ht=>h t (by simp[ht]));have h2:=eval_congr (X:=X) (e:=e) (e':=e') (x:=a) (fun t ht=>h t (by simp[ht]));have h3:=eval_congr (X:=X) (e:=e) (e':=e') (x:=b) (fun t ht=>h t (by simp[ht]));rw[h1,h2,h3]
 case build t ps =>
  have h1:=TE (X:=X) (e:=e) (e':=e') (l:=ps.toList) (fun t ht=>h t (by simpa using ht));rw[h1]
 case buildSlice t n ps =>
  have h1:=TE (X:=X) (e:=e) (e':=e') (l:=ps.toList) (fun t ht=>h t (by simpa using ht));rw[h1]
 case makeFunc f a b =>
  have h1:=TT (X:=X) (e:=e) (e':=e') (l:=a.toList) (fun t ht=>h t (by simp;exact .inl (by simpa using ht)));have h2:=TT (X:=X) (e:=e) (e':=e') (l:=b.toList) (fun t ht=>h t (by simp;exact .inr (by simpa using ht)));rw[h1,h2]
 case makeMap t r =>
  cases r with
  |none=>rfl
  |some x =>
   have h1:=eval_congr (X:=X) (e:=e) (e':=e') (x:=x) (fun t ht=>h t (by simp[ht]));simp only[h1]
 case slice t x lo hi mx =>
  have h1:=eval_congr (X:=X) (e:=e) (e':=e') (x:=x) (fun t ht=>h t (by simp[ht]));have h2:=Pz (X:=X) (e:=e) (e':=e') (x:=lo) (fun t ht=>h t (by simp[ht]));have h3:=Pz (X:=X) (e:=e) (e':=e') (x:=hi) (fun t ht=>h t (by simp[ht]));have h4:=Pz (X:=X) (e:=e) (e':=e') (x:=mx) (fun t ht=>h t (by simp[ht]));rw[h1,h2,h3,h4]
 case call c =>
  obtain⟨callee,args,FH⟩:=c;simp only[Call.operands] at h
  cases callee with
  |builtin b =>
   have h1:=TT (X:=X) (e:=e) (e':=e') (l:=args.toList) (fun t ht=>h t (by simpa using ht));simp only[h1]
  |value f =>
   have h1:=TT (X:=X) (e:=e) (e':=e') (l:=args.toList) (fun t ht=>h t (by simp;exact .inr (by simpa using ht)));have h2:=eval_congr (X:=X) (e:=e) (e':=e') (x:=f) (fun t ht=>h t (by simp[ht]));simp only[h1,h2]
  |invoke r m=>rfl
 case next it str =>
  cases str with
  |false=>rfl
  |true =>
   have h1:=eval_congr (X:=X) (e:=e) (e':=e') (x:=it) (fun t ht=>h t (by simp[ht]));simp only[YK,h1]
 case move x =>
  have h0:=eval_congr (X:=X) (e:=e) (e':=e') (x:=x) (fun t ht=>h t (by simp[ht]));rw[h0]
 case assign x =>
  have h0:=eval_congr (X:=X) (e:=e) (e':=e') (x:=x) (fun t ht=>h t (by simp[ht]));rw[h0]
 case box t x =>
  have h0:=eval_congr (X:=X) (e:=e) (e':=e') (x:=x) (fun t ht=>h t (by simp[ht]));rw[h0]
 case load t x =>
  have h0:=eval_congr (X:=X) (e:=e) (e':=e') (x:=x) (fun t ht=>h t (by simp[ht]));rw[h0]
 case nilCheck x =>
  have h0:=eval_congr (X:=X) (e:=e) (e':=e') (x:=x) (fun t ht=>h t (by simp[ht]));rw[h0]
 case unOp op t x =>
  have h0:=eval_congr (X:=X) (e:=e) (e':=e') (x:=x) (fun t ht=>h t (by simp[ht]));rw[h0]
 case convert a b x =>
  have h0:=eval_congr (X:=X) (e:=e) (e':=e') (x:=x) (fun t ht=>h t (by simp[ht]));rw[h0]
 case makeInterface t x =>
  have h0:=eval_congr (X:=X) (e:=e) (e':=e') (x:=x) (fun t ht=>h t (by simp[ht]));rw[h0]
 case fieldAddr t x f =>
  have h0:=eval_congr (X:=X) (e:=e) (e':=e') (x:=x) (fun t ht=>h t (by simp[ht]));rw[h0]
 case field t x f =>
  have h0:=eval_congr (X:=X) (e:=e) (e':=e') (x:=x) (fun t ht=>h t (by simp[ht]));rw[h0]
 case range t x =>
  have h0:=eval_congr (X:=X) (e:=e) (e':=e') (x:=x) (fun t ht=>h t (by simp[ht]));rw[h0]
 case extract x i =>
  have h0:=eval_congr (X:=X) (e:=e) (e':=e') (x:=x) (fun t ht=>h t (by simp[ht]));rw[h0]
 case store t a x =>
  have h0:=eval_congr (X:=X) (e:=e) (e':=e') (x:=a) (fun t ht=>h t (by simp[ht]));have h1:=eval_congr (X:=X) (e:=e) (e':=e') (x:=x) (fun t ht=>h t (by simp[ht]));rw[h0,h1]
 case binOp op t x y yt =>
  have h0:=eval_congr (X:=X) (e:=e) (e':=e') (x:=x) (fun t ht=>h t (by simp[ht]));have h1:=eval_congr (X:=X) (e:=e) (e':=e') (x:=y) (fun t ht=>h t (by simp[ht]));rw[h0,h1]
 case makeSlice t l c =>
  have h0:=eval_congr (X:=X) (e:=e) (e':=e') (x:=l) (fun t ht=>h t (by simp[ht]));have h1:=eval_congr (X:=X) (e:=e) (e':=e') (x:=c) (fun t ht=>h t (by simp[ht]));rw[h0,h1]
 case indexAddr t x i =>
  have h0:=eval_congr (X:=X) (e:=e) (e':=e') (x:=x) (fun t ht=>h t (by simp[ht]));have h1:=eval_congr (X:=X) (e:=e) (e':=e') (x:=i) (fun t ht=>h t (by simp[ht]));rw[h0,h1]
 case index t x i =>
  have h0:=eval_congr (X:=X) (e:=e) (e':=e') (x:=x) (fun t ht=>h t (by simp[ht]));have h1:=eval_congr (X:=X) (e:=e) (e':=e') (x:=i) (fun t ht=>h t (by simp[ht]));rw[h0,h1]
 case lookup t m k ok =>
  have h0:=eval_congr (X:=X) (e:=e) (e':=e') (x:=m) (fun t ht=>h t (by simp[ht]));have h1:=eval_congr (X:=X) (e:=e) (e':=e') (x:=k) (fun t ht=>h t (by simp[ht]));rw[h0,h1]
 case mapUpdate t m k v =>
  have h0:=eval_congr (X:=X) (e:=e) (e':=e') (x:=m) (fun t ht=>h t (by simp[ht]));have h1:=eval_congr (X:=X) (e:=e) (e':=e') (x:=k) (fun t ht=>h t (by simp[ht]));have h2:=eval_congr (X:=X) (e:=e) (e':=e') (x:=v) (fun t ht=>h t (by simp[ht]));rw[h0,h1,h2]
 case insert t m k v =>
  have h0:=eval_congr (X:=X) (e:=e) (e':=e') (x:=m) (fun t ht=>h t (by simp[ht]));have h1:=eval_congr (X:=X) (e:=e) (e':=e') (x:=k) (fun t ht=>h t (by simp[ht]));have h2:=eval_congr (X:=X) (e:=e) (e':=e') (x:=v) (fun t ht=>h t (by simp[ht]));rw[h0,h1,h2]
end
end Go.Am
namespace Go.Am
open Go
section
variable [Stat]
theorem QA (s:St)(i:Nat)(b:Vr)(h:s.look i=some b):b≠.gone:=by
 unfold St.look at h
 split at h
 ·cases h
 ·rename_i Zv;intro e;subst e;exact Zv h
def O7 (f:Nat->Option Vr)(n:Nat):St:={ t:=.nil,base:=f,next:=n }
theorem O6 {f:Nat->Option Vr}{n i:Nat}(h:∀b,f i=some b->b≠.gone):(O7 f n).look i=f i:=by
 unfold St.look St.get O7;simp only[Tr.get_nil]
 cases hf:f i with
 |none=>rfl
 |some b =>
  have:=h b hf
  cases b <;> first|rfl|exact absurd rfl this
theorem HR.sub {σ:Sg}{T R:St}{w:World}(H:HR σ T w)(h:∀i p b,σ i=some p->R.look i=some b->T.look i=some b):HR σ R w :=
 ⟨H.lt,fun i p b hp hb=>H.Gv i p b hp (h i p b hp hb),fun i j p q b c hp hq hb hc he=>H.inj i j p q b c hp hq (h i p b hp hb) (h j q c hq hc) he,fun c o hc=>⟨(H.fz c o hc).1,fun ⟨i,p,b,h1,h2,h3,h4⟩=>(H.fz c o hc).2 ⟨i,p,b,h1,h i p b h1 h2,h3,h4⟩⟩⟩
structure GD (UD:Sg)(s0:St)(w0:World)(σ:Sg)(T:St)(w:World):Prop where
 hr:HR σ T w
 ext:Ext UD s0 w0 σ T w
 Oc:∀i,i<s0.next->σ i=UD i
 next:s0.next<=T.next
 fresh:TY σ T
 dead:∀i,i<s0.next->s0.look i=none->T.look i=none
 news:∀i p,σ i=some p->UD i=none->w0.heap.size<=p.b\/Rv UD s0 p.b
open Classical in
noncomputable def mix (σ:Sg)(T R R':St):St :=
 O7 (fun i=>if i<R.next/\(σ i=none\/R.look i=none) then T.look i else R'.look i) R'.next
theorem Hp (σ:Sg)(T R R':St):(mix σ T R R').next=R'.next:=rfl
open Classical in
theorem Q' (σ:Sg)(T R R':St)(i:Nat):(mix σ T R R').look i=if i<R.next/\(σ i=none\/R.look i=none) then T.look i else R'.look i:=by
 unfold mix;rw[O6];intro b hb
 split at hb <;> exact QA _ _ _ hb
theorem frame {UD σ YE:Sg}{s0 T R R':St}{w0 w w':World}(g:GD UD s0 w0 σ T w)(Vq:∀i p b,σ i=some p->R.look i=some b->T.look i=some b)(hn:R.next=T.next)(k:Good σ R w YE R' w') :
  GD UD s0 w0 YE (mix σ T R R') w':=by
 have NG:∀i p b,σ i=some p->T.look i=some b->R.look i=none->¬Rv σ R p.b:=by
  rintro i p b hp hb hr ⟨j,q,c,hq,hc,_,he⟩;have:=g.hr.inj j i q p c b hq hp (Vq j q c hq hc) hb he;subst this;rw[hr] at hc;cases hc
 have TH:∀c,Rv σ R c->Rv σ T c:=fun c ⟨j,q,b,hq,hb,ho,he⟩=>⟨j,q,b,hq,Vq j q b hq hb,ho,he⟩
 have SA:∀i,σ i=none\/i<R.next:=fun i=>by
  by_cases h:i<R.next
  ·exact .inr h
  ·exact .inl (g.fresh i (by omega))
 have Ho:∀i p b,YE i=some p->(mix σ T R R').look i=some b->(σ i=some p/\T.look i=some b/\R.look i=none)\/(R'.look i=some b/\(σ i=none\/∃c,R.look i=some c)):=by
  intro i p b hp hb;rw[Q'] at hb
  split at hb
  ·rename_i hc;rcases hc.2 with h|h
   ·have:=k.Oc i (.inl hc.1);rw[h] at this;rw[this] at hp;cases hp
   ·have:=k.Oc i (.inl hc.1);rw[this] at hp;exact .inl ⟨hp,hb,h⟩
  ·rename_i hc;refine .inr ⟨hb,?_⟩;rcases SA i with h|h
   ·exact .inl h
   ·cases hr:R.look i with
    |none=>exact absurd ⟨h,.inr hr⟩ hc
    |some c=>exact .inr ⟨c,rfl⟩
 have le:∀i p,σ i=some p->YE i=some p:=k.ext.le.p;have old:∀i p q,σ i=some p->YE i=some q->p=q:=fun i p q h1 h2=>by rw[le i p h1] at h2;exact Option.some.inj h2
 refine⟨⟨k.hr.lt,?_,?_,?_⟩,?_,?_,?_,?_,?_,?_⟩
 ·
  intro i p b hp hb;rcases Ho i p b hp hb with⟨h1,h2,h3⟩|⟨h1,_⟩
  ·obtain⟨o,ho,zh⟩:=g.hr.Gv i p b h1 h2;refine⟨o,?_,zh.mono k.ext.le⟩;rw[k.ext.keep p.b (g.hr.lt i p h1) (NG i p b h1 h2 h3)];exact ho
  ·exact k.hr.Gv i p b hp h1
 ·
  intro i j p q b c hp hq hb hc he;have key:∀i j p q b c,σ i=some p->T.look i=some b->R.look i=none->YE j=some q->(σ j=none\/∃c,R.look j=some c)->R'.look j=some c->p.b=q.b->False:=by
   intro i j p q b c h1 h2 h3 h4 h5 h6 he
   cases hj:σ j with
   |some q' =>
    have:=old j q' q hj h4;subst this;rcases h5 with h5|⟨c0,h5⟩
    ·rw[h5] at hj;cases hj
    ·have:=g.hr.inj i j p q' b c0 h1 hj h2 (Vq j q' c0 hj h5) he;subst this;rw[h3] at h5;cases h5
   |none =>
    rcases k.news j q h4 hj with h7|h7
    ·have:=g.hr.lt i p h1;omega
    ·rw[<-he] at h7;exact NG i p b h1 h2 h3 h7
  rcases Ho i p b hp hb with⟨h1,h2,h3⟩|⟨h1,h2⟩ <;> rcases Ho j q c hq hc with⟨k1,k2,k3⟩|⟨k1,k2⟩
  ·exact g.hr.inj i j p q b c h1 k1 h2 k2 he
  ·exact (key i j p q b c h1 h2 h3 hq k2 k1 he).elim
  ·exact (key j i q p c b k1 k2 k3 hp h2 h1 he.symm).elim
  ·exact k.hr.inj i j p q b c hp hq h1 k1 he
 ·
  intro c o hc;refine⟨(k.hr.fz c o hc).1,?_⟩;rintro⟨i,p,b,hp,hb,ho,rfl⟩;rcases Ho i p b hp hb with⟨h1,h2,_⟩|⟨h1,_⟩
  ·rcases k.ext.vy _ o hc with h3|h3
   ·exact (g.hr.fz _ o h3).2 ⟨i,p,b,h1,h2,ho,rfl⟩
   ·have:=g.hr.lt i p h1;omega
  ·exact (k.hr.fz _ o hc).2 ⟨i,p,b,hp,h1,ho,rfl⟩
 ·
  refine g.ext.trans ⟨k.ext.le,k.ext.vy,k.ext.size,fun c hc Tb=>k.ext.keep c hc (fun h=>Tb (TH c h)),?_,k.ext.os,k.ext.tape,k.ext.output⟩;rintro c hc ⟨i,p,b,hp,hb,ho,he⟩;rcases Ho i p b hp hb with⟨h1,h2,_⟩|⟨h1,_⟩
  ·exact⟨i,p,b,h1,h2,ho,he⟩
  ·exact TH c (k.ext.owns c hc ⟨i,p,b,hp,h1,ho,he⟩)
 ·intro i hi;rw[k.Oc i (.inl (by have:=g.next;omega)),g.Oc i hi]
 ·rw[Hp];have:=g.next;have:=k.next;omega
 ·intro i hi;rw[Hp] at hi;have h1:=k.next;rw[k.Oc i (.inr hi)];exact g.fresh i (by omega)
 ·intro i hi hl;have hT:=g.dead i hi hl;rw[Q']
  split
  ·exact hT
  ·rename_i hc;have YH:i<R.next:=by have:=g.next;omega
   cases hs:σ i with
   |none=>exact absurd ⟨YH,.inl hs⟩ hc
   |some p =>
    cases hr:R.look i with
    |none=>exact absurd ⟨YH,.inr hr⟩ hc
    |some b=>rw[Vq i p b hs hr] at hT;cases hT
 ·intro i p hp DL
  cases hs:σ i with
  |none =>
   rcases k.news i p hp hs with h|h
   ·exact .inl (aka g.ext.size h)
   ·by_cases hb:p.b<w0.heap.size
    ·exact .inr (g.ext.owns _ hb (TH _ h))
    ·exact .inl (by omega)
  |some q =>
   have:=old i q p hs hp;subst this;exact g.news i q hs DL
theorem GD.Up {UD σ YE:Sg}{s0 T:St}{w0 w w':World}(g:GD UD s0 w0 σ T w){id:Nat}{b:Vr}(hb:b≠.gone)(h1:s0.next<=id)(h2:id<T.next)(k:Good σ { T with next:=id } w YE (St.new { T with next:=id } b) w') :
  GD UD s0 w0 YE (O7 (fun i=>if i=id then some b else T.look i) T.next) w':=by
 have hl:∀i,(St.new { T with next:=id } b).look i=(O7 (fun i=>if i=id then some b else T.look i) T.next).look i:=by
  intro i;rw[St.U9 _ _ _ hb,O6]
  ·by_cases h:i=id
   ·subst h;simp
   ·rw[if_neg h,if_neg (fun e=>h e.symm)];rfl
  ·intro c hc
   split at hc
   ·cases hc;exact hb
   ·exact QA _ _ _ hc
 have hT:∀i,St.look { T with next:=id } i=T.look i:=fun i=>rfl
 have hO:∀c,Rv σ { T with next:=id } c<->Rv σ T c:=fun c=>Iff.rfl
 have hk:=k.hr.congr hl;have hoe:∀c,Rv YE (O7 (fun i=>if i=id then some b else T.look i) T.next) c->Rv YE (St.new { T with next:=id } b) c:=fun c ⟨i,p,d,e1,e2,e3,e4⟩=>⟨i,p,d,e1,by rw[hl];exact e2,e3,e4⟩
 have kn:(St.new { T with next:=id } b).next=id+1:=rfl;refine⟨hk,g.ext.trans ⟨k.ext.le,k.ext.vy,k.ext.size,fun c hc Tb=>k.ext.keep c hc Tb,fun c hc ho=>k.ext.owns c hc (hoe c ho),k.ext.os,k.ext.tape,k.ext.output⟩,?_,g.next,?_,?_,?_⟩
 ·intro i hi;rw[k.Oc i (.inl (show i<id by omega)),g.Oc i hi]
 ·intro i hi;have hi:T.next<=i:=hi;rw[k.Oc i (.inr (by rw[kn];omega))];exact g.fresh i hi
 ·intro i hi gF;rw[<-hl,St.U9 _ _ _ hb,if_neg (by show ¬id=i;omega)];exact g.dead i hi gF
 ·intro i p hp DL
  cases hs:σ i with
  |none =>
   rcases k.news i p hp hs with h|h
   ·exact .inl (aka g.ext.size h)
   ·by_cases hb:p.b<w0.heap.size
    ·exact .inr (g.ext.owns _ hb h)
    ·exact .inl (by omega)
  |some q =>
   have:=k.ext.le.p i q hs;rw[hp] at this;cases this;exact g.news i _ hs DL
theorem GD.good {UD σ:Sg}{s0 T S:St}{w0 w:World}(g:GD UD s0 w0 σ T w)(h:∀i p,σ i=some p->T.look i=S.look i)(hd:∀i,i<s0.next->s0.look i=none->S.look i=none)(hn:S.next=T.next)(hb:S.base=s0.base)(hf:TY UD s0):Good UD s0 w0 σ S w where
 hr:=g.hr.sub fun i p b hp hb=>by rw[h i p hp];exact hb
 ext:=⟨g.ext.le,g.ext.vy,g.ext.size,g.ext.keep,fun c hc ⟨i,p,b,h1,h2,h3,h4⟩=>g.ext.owns c hc ⟨i,p,b,h1,by rw[h i p h1];exact h2,h3,h4⟩,g.ext.os,g.ext.tape,g.ext.output⟩
 Oc:=fun i hi=>by
  rcases hi with hi|hi
  ·exact g.Oc i hi
  ·rw[g.fresh i (by omega),hf i (by have:=g.next;omega)]
 next:=by rw[hn];exact g.next
 dead:=hd
 news:=g.news
 glob:=hb
end
end Go.Am
namespace Go.Am
open Go
def OU (c:Nat->Nat)(es:List Edge)(s0:Nat):Nat:=es.foldl (fun s e=>if Region.binds .any e then s ||| 2^e.on ||| c e.on else s) s0
theorem LI (c:Nat->Nat):∀(es:List Edge) (s0 i:Nat),(OU c es s0).testBit i=true->s0.testBit i=true\/∃e∈es,Region.binds .any e=true/\(i=e.on\/(c e.on).testBit i=true)
 |[],s0,i,h=>.inl h
 |e::es,s0,i,h=>by
  unfold OU at h;rw[List.foldl_cons] at h;rcases LI c es _ i h with h1|⟨e',hm,hb,hr⟩
  ·by_cases hb:Region.binds .any e=true
   ·rw[if_pos hb] at h1;simp only[Nat.testBit_or,akj] at h1;rcases h1 with (h1|h1)|h1
    ·exact .inl h1
    ·rw[Nat.testBit_two_pow] at h1;exact .inr ⟨e,aba ..,hb,.inl (by simpa using h1:e.on=i).symm⟩
    ·exact .inr ⟨e,aba ..,hb,.inr h1⟩
   ·rw[if_neg hb] at h1;exact .inl h1
  ·exact .inr ⟨e',aab _ hm,hb,hr⟩
def Oj (acc:Array Nat)(o:Oper):Array Nat:=acc.push (OU (fun k=>acc.getD k 0) o.after.toList 0)
def LH (l:List Oper):Array Nat:=l.foldl Oj #[]
theorem qn (ops:Array Oper):Region.before ops=LH ops.toList:=by
 unfold Region.before LH;rw[<-Array.foldl_toList]
 congr 1
 funext acc o
 unfold Oj OU;rw[<-Array.foldl_toList]
theorem KR (l:List Oper)(o:Oper):LH (l++[o])=Oj (LH l) o:=by
 unfold LH;rw[List.foldl_append];rfl
theorem jU {α:Type}{p:List α->Prop}(h0:p [])(h1:∀l x,p l->p (l++[x]))(l:List α):p l:=by
 have:∀r:List α,p r.reverse:=by
  intro r
  induction r with
  |nil=>exact h0
  |cons x r ih=>rw[List.reverse_cons];exact h1 _ _ ih
 have:=this l.reverse
 rwa [List.reverse_reverse] at this
theorem D9 (l:List Oper):(LH l).size=l.length:=by
 induction l using jU with
 |h0=>rfl
 |h1 l x ih=>rw[KR];simp[Oj,ih]
theorem jT (l:List Oper):∀(j i:Nat),((LH l).getD j 0).testBit i=true->∃o,l[j]? = some o/\∃e∈o.after.toList,Region.binds .any e=true/\(i=e.on\/(e.on<j/\((LH l).getD e.on 0).testBit i=true)):=by
 induction l using jU with
 |h0=>intro j i h;simp[LH] at h
 |h1 l x ih =>
  intro j i h;have Wh:=D9 l;have S8:∀k,k<l.length->(LH (l++[x])).getD k 0=(LH l).getD k 0:=by
   intro k hk;rw[KR];unfold Oj;simp only[ajH];rw[ajW,if_neg (by omega)]
  rcases Nat.lt_trichotomy j l.length with hj|hj|hj
  ·rw[S8 j hj] at h;obtain⟨o,h1,e,h2,h3,h4⟩:=ih j i h;refine⟨o,by rw[ajM hj];exact h1,e,h2,h3,?_⟩;rcases h4 with h4|⟨h4,h5⟩
   ·exact .inl h4
   ·exact .inr ⟨h4,by rw[S8 _ (by omega)];exact h5⟩
  ·subst hj;have hv:(LH (l++[x])).getD l.length 0=OU (fun k=>(LH l).getD k 0) x.after.toList 0:=by
    rw[KR];unfold Oj;simp only[ajH];rw[ajW,if_pos Wh.symm];rfl
   rw[hv] at h;rcases LI _ _ _ _ h with h1|⟨e,h1,h2,h3⟩
   ·simp at h1
   ·refine⟨x,by simp,e,h1,h2,?_⟩;rcases h3 with h3|h3
    ·exact .inl h3
    ·have YH:e.on<l.length:=by
      rw[<-Wh];refine Nat.lt_of_not_le fun Gu=>?_
      simp only[ajH] at h3;rw[Array.getElem?_eq_none Gu] at h3;simp at h3
     exact .inr ⟨YH,by rw[S8 _ YH];exact h3⟩
  ·have:(LH (l++[x])).getD j 0=0:=by
    simp only[ajH];rw[Array.getElem?_eq_none (by rw[D9];simp;omega)];rfl
   rw[this] at h;simp at h
theorem zH {ops:Array Oper}{i j:Nat}(h:XG ops i j=true):∃o,ops[j]? = some o/\∃e∈o.after.toList,Region.binds .any e=true/\(i=e.on\/(e.on<j/\XG ops i e.on=true)):=by
 unfold XG at h ⊢;rw[qn] at h ⊢;obtain⟨o,h1,h2⟩:=jT _ _ _ h;exact⟨o,by simpa using h1,h2⟩
def yL (ops:Array Oper)(D:Nat->Bool):Prop:=∀j o,D j=true->ops[j]? = some o->∀e∈o.after.toList,Region.binds .any e=true->D e.on=true
theorem GR {ops:Array Oper}{D:Nat->Bool}(hD:yL ops D):∀(j i:Nat),(D j=true\/∀o,ops[j]? = some o->∀e∈o.after.toList,Region.binds .any e=true->D e.on=true)->XG ops i j=true->D i=true:=by
 intro j
 induction j using Nat.strongRecOn with
 |_ j ih =>
  intro i hj h;obtain⟨o,ho,e,he,hb,hr⟩:=zH h;have hde:D e.on=true:=by
   rcases hj with hj|hj
   ·exact hD j o hj ho e he hb
   ·exact hj o ho e he hb
  rcases hr with rfl|⟨h1,h2⟩
  ·exact hde
  ·exact ih _ h1 i (.inl hde) h2
def left (D:Nat->Bool):Nat->Nat
 |0=>0
 |n+1=>left D n+(if D n then 0 else 1)
theorem FC {D:Nat->Bool}:∀{n:Nat},left D n=0->∀i,i<n->D i=true
 |0,_,i,hi=>by omega
 |n+1,h,i,hi=>by
  simp only[left] at h;by_cases e:i=n
  ·subst e;by_cases hd:D i=true
   ·exact hd
   ·rw[if_neg hd] at h;omega
  ·exact FC (n:=n) (by omega) i (by omega)
theorem D8 {D D':Nat->Bool}:∀{n:Nat},(∀i,i<n->D' i=D i)->left D' n=left D n
 |0,_=>rfl
 |n+1,h=>by simp only[left];rw[D8 fun i hi=>h i (by omega),h n (by omega)]
theorem BX {D D':Nat->Bool}{j:Nat}(hj:D j=false)(yh:D' j=true)(h:∀i,i≠j->D' i=D i):∀{n:Nat},j<n->left D' n+1=left D n
 |0,hn=>by omega
 |n+1,hn=>by
  simp only[left];by_cases e:j=n
  ·subst e;rw[D8 fun i hi=>h i (by omega),hj,yh];simp
  ·have:=BX hj yh h (n:=n) (by omega);rw[h n (fun e'=>e e'.symm)];omega
mutual
theorem HL:∀{a b:AV},same a b=true->a=b
 |a,b,h=>by
  cases a <;> cases b <;> simp only[same,adm,beq_iff_eq,decide_eq_true_eq,ajn] at h <;> try (cases h;done)
  all_goals first
   |rfl
   |(subst h;rfl)
   |(obtain⟨rfl,rfl⟩:=h;rfl)
   |(obtain⟨⟨⟨⟨rfl,rfl⟩,rfl⟩,rfl⟩,rfl⟩:=h;rfl)
   |(obtain⟨⟨rfl,h1⟩,h2⟩:=h;rw[UF h1,UF h2])
   |(obtain⟨rfl,h1⟩:=h;rw[HL h1])
   |(obtain⟨rfl,h1⟩:=h;rw[UF h1])
   |(obtain⟨h1,h2⟩:=h;rw[UF h1,UF h2])
   |rw[UF h]
theorem UF:∀{a b:List AV},Ww a b=true->a=b
 |[],[],_=>rfl
 |[],_::_,h=>by simp[Ww] at h
 |_::_,[],h=>by simp[Ww] at h
 |a::x,b::y,h=>by
  simp only[Ww,adm] at h;rw[HL h.1,UF h.2]
end
end Go.Am
namespace Go.Am
open Go
section
variable [Stat]
variable {X:Cx}{ex:Ex}{ops:Array Oper}{base:Nat}
theorem Vz {i:Nat}{o:Oper}{e e':Env}{s s':St}(h:Ts X ex ops base i o e s=some (e',s')) :
  (XY ops e o=false/\e'=YA e o.dst undef/\s'=s) \/
  (XY ops e o=true/\∃v,e'=YA e o.dst v/\(((cls X o.op).Dc=true/\∃s1,YK X ex e o.op { s with next:=base+i }=some (v,s1)/\s'={ s1 with next:=s.next }) \/
   ((cls X o.op).Dc=false/\YK X ex e o.op s=some (v,s')))):=by
 unfold Ts at h
 split at h
 ·rename_i hw;refine .inr ⟨hw,?_⟩
  split at h
  ·rename_i hc
   split at h
   ·rename_i v s1 h1
    cases h
    exact⟨v,rfl,.inl ⟨by rw[hc];rfl,s1,h1,rfl⟩⟩
   ·cases h
  ·rename_i hc
   split at h
   ·rename_i v s1 h1
    cases h
    refine⟨v,rfl,.inr ⟨?_,h1⟩⟩
    cases hk:cls X o.op <;> first|rfl|exact absurd hk hc
   ·cases h
 ·rename_i hw
  cases h
  exact .inl ⟨by simpa using hw,rfl,rfl⟩
def kA (X:Cx)(ops:Array Oper)(i:Nat):Prop:=∃o,ops[i]? = some o/\cls X o.op=.a
def kW (X:Cx)(ops:Array Oper)(i:Nat):Prop:=∃o,ops[i]? = some o/\cls X o.op=.w/\late X ops i=false
def kS (X:Cx)(ops:Array Oper)(i:Nat):Prop:=late X ops i=true
def lb (X:Cx)(ops:Array Oper)(E:Nat->Env)(i:Nat):Option Nat:=match ops[i]? with|some o=>Ua X (E i) o.op|none=>none
theorem VG {X:Cx}{ops:Array Oper}{i:Nat}(h:kS X ops i):∃o,ops[i]? = some o/\T_ o.op=true/\o.guard=none/\cls X o.op=.w/\∀k ok,k≠i->ops[k]? = some ok->XG ops k i=true\/late X ops k=true\/cls X ok.op=.p\/cls X ok.op=.a:=by
 unfold kS late at h;simp only[adm] at h;obtain⟨h1,h2⟩:=h
 split at h2
 ·rename_i o ho;have h3:=h1;unfold Oy at h3;simp only[adm,ajq] at h3;have hs:∀(l:List Oper) (j k:Nat) (o':Oper),l[k]? = some o'->T_ o'.op=true->j+k∈se j l:=by
   intro l
   induction l with
   |nil=>intro j k o' hk;simp at hk
   |cons x l ih =>
    intro j k o' hk WY;unfold se
    cases k with
    |zero=>simp at hk;subst hk;simp[WY]
    |succ k =>
     have:=ih (j+1) k o' (by simpa using hk) WY;rw[show j+(k+1)=j+1+k by omega]
     split
     ·exact aab _ this
     ·exact this
  have h4:=h3.2 i (by simpa using hs ops.toList 0 i o (by simpa using ho) h2);unfold nT at h4;rw[ho] at h4;simp only[adm,ajq,akj,beq_iff_eq,ajE,akd] at h4;obtain⟨⟨_,h5⟩,h6⟩:=h4;refine⟨o,ho,h2,h5,?_,fun k ok hk Ya=>?_⟩
  ·cases zk:o.op <;> rw[zk] at h2 <;> simp only[T_] at h2 <;> first|rfl|cases h2
  ·have:=h6 k (ajd.1 Ya).1;rw[Ya] at this;rcases this with (h7|h7)|h7
   ·exact absurd h7 hk
   ·exact .inl h7
   ·rcases Bool.or_eq_true_iff.1 h7 with h8|h8
    ·refine .inr (.inl ?_);unfold late;rw[h1,Ya];simpa using h8
    ·cases hc:cls X ok.op <;> rw[hc] at h8 <;> simp at h8 <;> simp
 ·cases h2
theorem MZ {X:Cx}{ops:Array Oper}{i:Nat}(h:kW X ops i):¬kS X ops i:=fun k=>by
 obtain⟨_,_,_,h3⟩:=h;rw[show late X ops i=true from k] at h3;cases h3
theorem wy {X:Cx}{ex:Ex}{e:Env}{o:Op}(hs:T_ o=true){b:Nat}(hb:Ua X e o=some b){s s':St}{v:AV}(h:YK X ex e o s=some (v,s')) :
  ∃k k',s.look b=some k/\k'≠.gone/\s'=s.put b k'/\∀t:St,t.get b=s.get b->YK X ex e o t=some (v,t.put b k'):=by
 cases o <;> simp only[T_] at hs <;> try (cases hs;done)
 rename_i t a x;simp only[Ua] at hb
 split at hb
 ·rename_i b' o' ha
  cases hb
  simp only[YK,ha] at h ⊢
  split at h
  ·rename_i a1 v1 h1 hv
   cases h1
   obtain⟨h2,rfl⟩:=Qy h;unfold Nw at h2;simp only at h2
   split at h2
   ·rename_i n hn
    split at h2
    ·rename_i hlen;subst hlen;unfold Xo at h2
     split at h2
     ·rename_i c e PQ QO hg
      split at h2
      ·rename_i hc
       split at h2
       ·rename_i c' hl
        cases h2
        refine⟨_,.cells c' e false PQ QO,St.X_ hg (by simp),by simp,rfl,fun t ht=>?_⟩;simp only[Nw,hn,if_true,Xo,ht,hg,hc,hl,PE]
       ·cases h2
      ·cases h2
     ·cases h2
    ·cases h2
   ·cases h2
  ·cases h
 ·cases hb
theorem Xu {c:Cn}:c.Dc=true<->c=.a:=by cases c <;> simp[Cn.Dc]
theorem Sy {c:Cn}:c.si=true<->c=.w:=by cases c <;> simp[Cn.si]
theorem zI {i:Nat}{o:Oper}{e e':Env}{s s':St}(h:Ts X ex ops base i o e s=some (e',s'))(hw:cls X o.op≠.w) :
  s'.next=s.next/\s'.base=s.base/\∀id,(cls X o.op=.a->id≠base+i)->s'.look id=s.look id:=by
 rcases Vz h with⟨_,_,rfl⟩|⟨_,v,_,⟨hc,s1,h1,rfl⟩|⟨hc,h1⟩⟩
 ·exact⟨rfl,rfl,fun _ _=>rfl⟩
 ·have hc:=Xu.1 hc;obtain⟨b,hb,rfl,_⟩:=pg hc h1;refine⟨rfl,rfl,fun id ew=>?_⟩;have Zv:=ew hc;show (St.new { s with next:=base+i } b).look id=_;rw[St.U9 _ _ _ hb,if_neg (fun e=>Zv e.symm)];rfl
 ·cases hk:cls X o.op with
  |a=>rw[hk] at hc;cases hc
  |w=>exact absurd hk hw
  |p=>obtain⟨rfl,_⟩:=pd hk _ _ _ h1;exact⟨rfl,rfl,fun _ _=>rfl⟩
  |r=>obtain rfl:=pc hk h1;exact⟨rfl,rfl,fun _ _=>rfl⟩
  |q=>obtain⟨rfl,_⟩:=FD hk h1;exact⟨rfl,rfl,fun _ _=>rfl⟩
theorem K7 {e:Env}{d:Option Tmp}{v:AV}{t:Tmp}(h:d≠some t):Env.get (YA e d v) t=Env.get e t:=by
 cases d with
 |none=>rfl
 |some d =>
  show Env.get (Tr.set e d v) t=_;rw[Env.Tl,if_neg (fun e=>h (by rw[e]))]
theorem Kr {e:Env}{t:Tmp}{v:AV}:Env.get (YA e (some t) v) t=v:=by
 show Env.get (Tr.set e t v) t=_;rw[Env.Tl,if_pos rfl]
structure Gi (X:Cx)(ex:Ex)(ops:Array Oper)(base:Nat)(E:Nat->Env)(S:Nat->St):Prop where
 step:∀i o,ops[i]? = some o->Ts X ex ops base i o (E i) (S i)=some (E (i+1),S (i+1))
variable {E:Nat->Env}{S:Nat->St}
theorem Gi.ky (h:Gi X ex ops base E S){i:Nat}{o:Oper}(ho:ops[i]? = some o):∃v,E (i+1)=YA (E i) o.dst v:=by
 rcases Vz (h.step i o ho) with⟨_,h1,_⟩|⟨_,v,h1,_⟩
 ·exact⟨_,h1⟩
 ·exact⟨_,h1⟩
theorem Gi.HJ (h:Gi X ex ops base E S)(t:Tmp)(a:Nat):∀d,(∀i o,a<=i->i<a+d->ops[i]? = some o->o.dst≠some t)->a+d<=ops.size->Env.get (E (a+d)) t=Env.get (E a) t
 |0,_,_=>rfl
 |d+1,hn,hs=>by
  have hi:a+d<ops.size:=by omega
  obtain⟨v,hv⟩:=h.ky (ajN hi);rw[show a+(d+1)=a+d+1 from rfl,hv,K7 (hn _ _ (by omega) (by omega) (ajN hi))];exact h.HJ t a d (fun i o h1 h2 h3=>hn i o h1 (by omega) h3) (by omega)
structure DM (X:Cx)(ops:Array Oper)(base:Nat)(E:Nat->Env):Prop where
 some:∀i,kS X ops i->∃b,lb X ops E i=some b/\(b<base\/base+ops.size<=b)
 ne:∀i j,kS X ops i->kS X ops j->i≠j->lb X ops E i≠lb X ops E j
theorem Gi.Lo (h:Gi X ex ops base E S){i:Nat}{o:Oper}(ho:ops[i]? = some o)(hk:kS X ops i){b:Nat}(hb:lb X ops E i=some b) :
  ∃k k' v,(S i).look b=some k/\k'≠.gone/\S (i+1)=(S i).put b k'/\E (i+1)=YA (E i) o.dst v/\∀t:St,t.get b=(S i).get b->YK X ex (E i) o.op t=some (v,t.put b k'):=by
 obtain⟨o',VL,hs,hg,hc,_⟩:=VG hk;rw[ho] at VL;cases VL;have TM:Ua X (E i) o.op=some b:=by unfold lb at hb;rw[ho] at hb;exact hb
 rcases Vz (h.step i o ho) with⟨h1,_⟩|⟨_,v,h2,⟨J7,_⟩|⟨_,h3⟩⟩
 ·simp[XY,hg] at h1
 ·rw[hc] at J7;cases J7
 ·obtain⟨k,k',h4,h5,h6,h7⟩:=wy hs TM h3;exact⟨k,k',v,h4,h5,h6,h2,h7⟩
theorem Gi.between (h:Gi X ex ops base E S)(hL:DM X ops base E)(m:Nat):∀d,m+d<=ops.size->(∀i,m<=i->i<m+d->¬kW X ops i) ->
  (S (m+d)).next=(S m).next/\(S (m+d)).base=(S m).base /\
   (∀id,(∀i,m<=i->i<m+d->kA X ops i->id≠base+i)->(∀i,m<=i->i<m+d->kS X ops i->lb X ops E i≠some id)->(S (m+d)).look id=(S m).look id) /\
   (∀i,m<=i->i<m+d->kA X ops i->(S (m+d)).look (base+i)=(S (i+1)).look (base+i)) /\
   ∀i b,m<=i->i<m+d->kS X ops i->lb X ops E i=some b->(S (m+d)).look b=(S (i+1)).look b
 |0,_,_=>⟨rfl,rfl,fun _ _ _=>rfl,fun i h1 h2=>by omega,fun i b h1 h2=>by omega⟩
 |d+1,hs,hw=>by
  have hi:m+d<ops.size:=by omega
  have ho:=ajN hi;obtain⟨k1,k2,k3,k4,k5⟩:=h.between hL m d (by omega) (fun i a b=>hw i a (by omega));rw[show m+(d+1)=m+d+1 from rfl];by_cases hk:kS X ops (m+d)
  ·obtain⟨b,hb,CF⟩:=hL.some _ hk;obtain⟨k,k',v,g1,g2,g3,_,_⟩:=h.Lo ho hk hb;have Tx:∀id,id≠b->(S (m+d+1)).look id=(S (m+d)).look id:=fun id Zv=>by
    rw[g3,St.Xl,if_neg (fun e=>Zv e.symm)]
   refine⟨by rw[g3,<-k1];rfl,by rw[g3,<-k2];rfl,fun id h1 h2=>?_,fun i a c ha=>?_,fun i b' a c CY TM=>?_⟩
   ·rw[Tx id (fun e=>h2 (m+d) (by omega) (by omega) hk (by rw[hb,e]))];exact k3 id (fun i a c=>h1 i a (by omega)) (fun i a c=>h2 i a (by omega))
   ·by_cases e:i=m+d
    ·subst e;rfl
    ·rw[Tx _ (by omega)];exact k4 i a (by omega) ha
   ·by_cases e:i=m+d
    ·subst e;rfl
    ·rw[Tx _ (fun e'=>hL.ne i (m+d) CY hk e (by rw[TM,hb,e']))];exact k5 i b' a (by omega) CY TM
  ·obtain⟨g1,g2,g3⟩:=zI (h.step _ _ ho) (fun hc=>hw (m+d) (by omega) (by omega) ⟨_,ho,hc,by
    cases hl:late X ops (m+d) with
    |false=>rfl
    |true=>exact absurd hl hk⟩)
   refine⟨by rw[g1,k1],by rw[g2,k2],fun id h1 h2=>?_,fun i a c ha=>?_,fun i b' a c CY TM=>?_⟩
   ·rw[g3 id (fun hc=>h1 _ (by omega) (by omega) ⟨_,ho,hc⟩)];exact k3 id (fun i a c=>h1 i a (by omega)) (fun i a c=>h2 i a (by omega))
   ·by_cases e:i=m+d
    ·subst e;rfl
    ·rw[g3 _ (fun _=>by omega)];exact k4 i a (by omega) ha
   ·have Zv:i≠m+d:=fun e=>hk (e ▸ CY)
    obtain⟨b2,VD,CF⟩:=hL.some _ CY;rw[TM] at VD;cases VD;rw[g3 _ (fun _=>by omega)];exact k5 i b' a (by omega) CY TM
theorem Pe {x y:Oper}(h:Db ops x y=true) :
  (∀d,x.dst=some d->d∉N1 ops y)/\(∀d,x.dst=some d->y.dst≠some d)/\(∀d,y.dst=some d->d∉N1 ops x):=by
 refine⟨fun d hd=>?_,fun d hd=>?_,fun d hd=>?_⟩ <;> simp[Db,hd] at h
 ·exact h.1.1
 ·exact h.1.2
 ·exact h.2
structure Ok (X:Cx)(ops:Array Oper):Prop where
 edge:∀(j:Nat) o,ops[j]? = some o->∀e∈o.after.toList,Region.binds .any e=true->e.on<j
 pair:∀(i j:Nat) oi oj,i<j->ops[i]? = some oi->ops[j]? = some oj->XG ops i j=true \/
  (Db ops oi oj=true/\¬(kA X ops i/\kW X ops j)/\¬(kW X ops i/\kW X ops j)/\¬(kS X ops i/\kW X ops j)/\¬(kW X ops i/\kS X ops j))
theorem yK (h:dc X ops=true):Ok X ops:=by
 unfold dc at h;rw[ajq] at h;refine⟨fun j o ho e he hb=>?_,fun i j oi oj JN hi hj=>?_⟩
 ·have YH:=(ajd.1 ho).1;have:=h j (ajE.2 YH);rw[ho] at this;simp only[adm,ajq] at this;have:=this.1.1 e he;rw[hb] at this
  simpa using this
 ·have YH:=(ajd.1 hj).1;have:=h j (ajE.2 YH);rw[hj] at this;simp only[adm,ajq] at this;have:=this.2 i (ajE.2 JN);rw[hi] at this;simp only[nS,akj,adm] at this;rcases this with h1|⟨h1,h2⟩
  ·exact .inl h1
  ·have cw:∀{k ok},ops[k]? = some ok->kW X ops k->cls X ok.op=.w/\late X ops k=false:=fun ho ⟨o',VL,hc,hl⟩=>by rw[ho] at VL;cases VL;exact⟨hc,hl⟩
   have cs:∀{k ok},ops[k]? = some ok->kS X ops k->cls X ok.op=.w/\late X ops k=true:=fun ho hk=>by
    obtain⟨o',VL,_,_,hc,_⟩:=VG hk;rw[ho] at VL;cases VL;exact⟨hc,hk⟩
   have ca:∀{k ok},ops[k]? = some ok->kA X ops k->cls X ok.op=.a:=fun ho ⟨o',VL,hc⟩=>by rw[ho] at VL;cases VL;exact hc
   refine .inr ⟨h1,fun ⟨a,b⟩=>?_,fun ⟨a,b⟩=>?_,fun ⟨a,b⟩=>?_,fun ⟨a,b⟩=>?_⟩
   ·rw[ca hi a,(cw hj b).1] at h2;simp only[(cw hj b).2] at h2;cases h2
   ·rw[(cw hi a).1,(cw hj b).1] at h2;simp only[(cw hi a).2] at h2;cases h2
   ·rw[(cs hi a).1,(cw hj b).1] at h2;simp only[(cw hj b).2,Bool.and_false] at h2;cases h2
   ·rw[(cw hi a).1,(cs hj b).1] at h2;simp only[(cw hi a).2,ajZ] at h2;cases h2
theorem Ok.S7 (h:Ok X ops):∀(j i:Nat),XG ops i j=true->i<j:=by
 intro j
 induction j using Nat.strongRecOn with
 |_ j ih =>
  intro i hb;obtain⟨o,ho,e,he,ak,hr⟩:=zH hb;have:=h.edge j o ho e he ak;rcases hr with rfl|⟨h1,h2⟩
  ·exact this
  ·exact Nat.lt_trans (ih _ h1 i h2) h1
structure HI (X:Cx)(ops:Array Oper)(E:Nat->Env)(S:Nat->St)(UD:Sg)(s0:St)(w0:World)(D:Nat->Bool)(m:Nat)(σ:Sg)(T:St)(w:World):Prop where
 gd:GD UD s0 w0 σ T w
 mN:m<=ops.size
 Gg:∀i,kW X ops i->(D i=true<->i<m)
 mw:m=0\/∃j,m=j+1/\kW X ops j
 t1:∀id,σ id≠none->(∀i,m<=i->D i=true->kA X ops i->id≠s0.next+i)->(∀i,D i=true->kS X ops i->lb X ops E i≠some id)->T.look id=(S m).look id
 t2:∀i,m<=i->D i=true->kA X ops i->σ (s0.next+i)≠none->T.look (s0.next+i)=(S (i+1)).look (s0.next+i)
 t3:T.next=(S m).next
 t4:∀i b,D i=true->kS X ops i->lb X ops E i=some b->σ b≠none->T.look b=(S (i+1)).look b
 u:∀i,kA X ops i->D i=false->σ (s0.next+i)=none
 FA:∀i,i<s0.next->s0.look i=none->(S m).look i=none
 BW:(S m).base=s0.base
 Ei:s0.next+ops.size<=(S m).next
structure DK (ops:Array Oper)(D:Nat->Bool)(j:Nat)(o:Oper):Prop where
 closed:yL ops D
 op:ops[j]? = some o
 no:D j=false
 deps:∀e∈o.after.toList,Region.binds .any e=true->D e.on=true
theorem DK.XG {D:Nat->Bool}{j:Nat}{o:Oper}(h:DK ops D j o){i:Nat}(hb:XG ops i j=true):D i=true :=
 GR h.closed j i (.inr fun o' VL=>by rw[h.op] at VL;cases VL;exact h.deps) hb
theorem DK.Lk {D:Nat->Bool}{j:Nat}{o:Oper}(h:DK ops D j o){i:Nat}(hi:D i=true):Am.XG ops j i=false:=by
 cases hb:Am.XG ops j i with
 |false=>rfl
 |true =>
  have:=GR h.closed i j (.inl hi) hb;rw[h.no] at this;cases this
variable {UD:Sg}{s0:St}{w0:World}{D D':Nat->Bool}{m:Nat}{σ YE:Sg}{T:St}{w w':World}
def Adds (D D':Nat->Bool)(j:Nat):Prop:=D' j=true/\∀i,i≠j->D' i=D i
theorem Adds.of {D D':Nat->Bool}{j:Nat}(h:Adds D D' j){i:Nat}(hi:D' i=true):i=j\/D i=true:=by
 by_cases e:i=j
 ·exact .inl e
 ·rw[h.2 i e] at hi;exact .inr hi
theorem Adds.false {D D':Nat->Bool}{j:Nat}(h:Adds D D' j){i:Nat}(hi:D' i=false):D i=false:=by
 by_cases e:i=j
 ·subst e;rw[h.1] at hi;cases hi
 ·rw[h.2 i e] at hi;exact hi
theorem DK.DJ {D:Nat->Bool}{j:Nat}{o:Oper}(hr:DK ops D j o)(hp:cls X o.op≠.p)(ha:cls X o.op≠.a)(hl:late X ops j=false):∀i,D i=true->¬kS X ops i:=by
 intro i hi hk;obtain⟨oi,Gw,_,_,_,h⟩:=VG hk;have Zv:j≠i:=fun e=>by
  rw[e] at hl;rw[show late X ops i=true from hk] at hl;cases hl
 rcases h j o Zv hr.op with hb|hb|hb|hb
 ·rw[hr.Lk hi] at hb;cases hb
 ·rw[hl] at hb;cases hb
 ·exact hp hb
 ·exact ha hb
theorem HI.keep (h:HI X ops E S UD s0 w0 D m σ T w){j:Nat}{o:Oper}(hr:DK ops D j o)(hD:Adds D D' j)(hk:¬kW X ops j)(hks:¬kS X ops j){R:St}(Vq:∀i p b,σ i=some p->R.look i=some b->T.look i=some b)(hn:R.next=T.next)
  (k:Good σ R w YE R w')(ha:kA X ops j->YE=σ):HI X ops E S UD s0 w0 D' m YE (mix σ T R R) w':=by
 have ew:∀id,YE id≠none->σ id=YE id/\(mix σ T R R).look id=T.look id:=by
  intro id Zv;have YH:id<R.next:=by
   refine Nat.lt_of_not_le fun Gu=>Zv ?_
   rw[k.Oc id (.inr Gu)];exact h.gd.fresh id (by rw[<-hn];exact Gu)
  have he:=k.Oc id (.inl YH);refine⟨he.symm,?_⟩;rw[Q']
  split
  ·rfl
  ·rename_i hc
   cases hs:σ id with
   |none=>exact absurd ⟨YH,.inl hs⟩ hc
   |some p =>
    cases hl:R.look id with
    |none=>exact absurd ⟨YH,.inr hl⟩ hc
    |some b=>exact (Vq id p b hs hl).symm
 have hjw:∀i,kW X ops i->i≠j:=fun i hi e=>hk (e ▸ hi)
 have yD:∀i,D i=true->D' i=true:=fun i hi=>by
  by_cases e:i=j
  ·subst e;exact hD.1
  ·rw[hD.2 i e];exact hi
 refine⟨frame h.gd Vq hn k,h.mN,fun i hi=>?_,h.mw,fun id Zv Xv Eh=>?_,fun i h1 h2 h3 h4=>?_,by rw[Hp,hn];exact h.t3,fun i b h1 h2 h3 h4=>?_,fun i h1 h2=>?_,h.FA,h.BW,h.Ei⟩
 ·rw[hD.2 i (hjw i hi)];exact h.Gg i hi
 ·obtain⟨e1,e2⟩:=ew id Zv;rw[e2];exact h.t1 id (by rw[e1];exact Zv) (fun i h1 h2 h3=>Xv i h1 (yD i h2) h3) (fun i h1 h2=>Eh i (yD i h1) h2)
 ·obtain⟨e1,e2⟩:=ew _ h4;rw[e2];rcases hD.of h2 with e|hd
  ·subst e;have:=h.u i h3 hr.no;rw[ha h3,this] at h4;exact absurd rfl h4
  ·exact h.t2 i h1 hd h3 (by rw[e1];exact h4)
 ·obtain⟨e1,e2⟩:=ew _ h4;rw[e2];rcases hD.of h1 with e|hd
  ·exact absurd (e ▸ h2) hks
  ·exact h.t4 i b hd h2 h3 (by rw[e1];exact h4)
 ·have:=h.u i h1 (hD.false h2);have YH:s0.next+i<R.next:=by
   obtain⟨o',VL,_⟩:=h1;have:=(ajd.1 VL).1;have:=h.Ei;rw[hn,h.t3];omega
  rw[k.Oc _ (.inl YH)];exact this
theorem HI.ph (h:HI X ops E S UD s0 w0 D m σ T w)(ht:Gi X ex ops s0.next E S)(hL:DM X ops s0.next E)(Ya:Ok X ops)(N0:∀i,m<=i->kA X ops i->(S m).look (s0.next+i)=none){j:Nat}{o:Oper}(hr:DK ops D j o)(hk:kW X ops j) :
  m<=j/\(S j).next=T.next/\(S j).base=s0.base/\(∀i,i<s0.next->s0.look i=none->(S j).look i=none)/\(∀i p b,σ i=some p->(S j).look i=some b->T.look i=some b) /\
   (∀i,j<i->kA X ops i->(S j).look (s0.next+i)=none)/\(∀id,σ id≠none->(S j).look id=none->(∀i,j<i->D i=true->kA X ops i->id≠s0.next+i)->T.look id=none):=by
 have Gh:j<ops.size:=(ajd.1 hr.op).1;have pR:cls X o.op=.w/\late X ops j=false:=by obtain⟨o',VL,h1,h2⟩:=hk;rw[hr.op] at VL;cases VL;exact⟨h1,h2⟩
 have IT:∀i,D i=true->¬kS X ops i:=hr.DJ (by rw[pR.1];simp) (by rw[pR.1];simp) pR.2;have hmj:m<=j:=by
  refine Nat.le_of_not_lt fun YH=>?_
  have:=(h.Gg j hk).2 YH;rw[hr.no] at this;cases this
 have a0:∀i,m<=i->i<j->¬kW X ops i:=by
  intro i h1 h2 GQ;obtain⟨oi,Gw,_⟩:=id GQ;have hb:XG ops i j=true:=by
   rcases Ya.pair i j oi o h2 Gw hr.op with hb|⟨_,_,Zv,_⟩
   ·exact hb
   ·exact absurd ⟨GQ,hk⟩ Zv
  have:=(h.Gg i GQ).1 (hr.XG hb);omega
 have lF:∀i,i<j->¬kS X ops i:=by
  intro i JN hs;obtain⟨oi,Gw,_⟩:=VG hs;rcases Ya.pair i j oi o JN Gw hr.op with hb|⟨_,_,_,Zv,_⟩
  ·exact IT i (hr.XG hb) hs
  ·exact Zv ⟨hs,hk⟩
 have haD:∀i,i<j->kA X ops i->D i=true:=by
  intro i h2 GQ;obtain⟨oi,Gw,_⟩:=id GQ;rcases Ya.pair i j oi o h2 Gw hr.op with hb|⟨_,Zv,_⟩
  ·exact hr.XG hb
  ·exact absurd ⟨GQ,hk⟩ Zv
 obtain⟨d,rfl⟩:∃d,j=m+d:=⟨j-m,by omega⟩;obtain⟨b1,b2,b3,b4,_⟩:=ht.between hL m d (by omega) a0;have b3:∀id,(∀i,m<=i->i<m+d->kA X ops i->id≠s0.next+i)->(S (m+d)).look id=(S m).look id:=fun id h1=>b3 id h1 fun i _ h3 h4=>absurd h4 (lF i h3)
 have ht1:∀id,σ id≠none->(∀i,m<=i->D i=true->kA X ops i->id≠s0.next+i)->T.look id=(S m).look id:=fun id h1 h2=>h.t1 id h1 h2 fun i h3 h4=>absurd h4 (IT i h3)
 have at_:∀id,(∃i,m<=i/\i<m+d/\kA X ops i/\id=s0.next+i)\/(S (m+d)).look id=(S m).look id:=by
  intro id;by_cases hx:∃i,m<=i/\i<m+d/\kA X ops i/\id=s0.next+i
  ·exact .inl hx
  ·exact .inr (b3 id fun i h1 h2 h3 e=>hx ⟨i,h1,h2,h3,e⟩)
 have IS:∀i,m+d<i->kA X ops i->(S (m+d)).look (s0.next+i)=none:=by
  intro i hi ha;rw[b3 _ (fun i' h1 h2 h3 e=>by omega)];exact N0 i (by omega) ha
 refine⟨hmj,by rw[b1,h.t3],by rw[b2,h.BW],fun i hi hl=>?_,fun id p b hp hb=>?_,IS,fun id Zv hl Xv=>?_⟩
 ·rw[b3 i fun i' _ _ _ e=>by omega];exact h.FA i hi hl
 ·rcases at_ id with⟨i,h1,h2,h3,rfl⟩|he
  ·rw[h.t2 i h1 (haD i h2 h3) h3 (by rw[hp];simp),<-b4 i h1 h2 h3];exact hb
  ·rw[ht1 id (by rw[hp];simp) ?_,<-he]
   ·exact hb
   ·rintro i h1 h2 h3 rfl;have:=N0 i h1 h3;rw[<-he,hb] at this;cases this
 ·rcases at_ id with⟨i,h1,h2,h3,rfl⟩|he
  ·rw[h.t2 i h1 (haD i h2 h3) h3 Zv,<-b4 i h1 h2 h3];exact hl
  ·by_cases hx:∃i,m<=i/\D i=true/\kA X ops i/\id=s0.next+i
   ·obtain⟨i,h1,h2,h3,rfl⟩:=hx;rcases Nat.lt_trichotomy i (m+d) with YH|heq|jh
    ·rw[h.t2 i h1 h2 h3 Zv,<-b4 i h1 YH h3];exact hl
    ·subst heq;rw[hr.no] at h2;cases h2
    ·exact absurd rfl (Xv i jh h2 h3)
   ·rw[ht1 id Zv fun i h1 h2 h3 e=>hx ⟨i,h1,h2,h3,e⟩,<-he];exact hl
theorem HI.wr (h:HI X ops E S UD s0 w0 D m σ T w)(ht:Gi X ex ops s0.next E S)(hL:DM X ops s0.next E)(Ya:Ok X ops)(N0:∀i,m<=i->kA X ops i->(S m).look (s0.next+i)=none){j:Nat}{o:Oper}(hr:DK ops D j o)(hD:Adds D D' j)(hk:kW X ops j)
  (k:Good σ (S j) w YE (S (j+1)) w'):HI X ops E S UD s0 w0 D' (j+1) YE (mix σ T (S j) (S (j+1))) w':=by
 obtain⟨a1,a2,a3,a4,a5,a6,a7⟩:=h.ph ht hL Ya N0 hr hk;have Gh:j<ops.size:=(ajd.1 hr.op).1;have pR:cls X o.op=.w/\late X ops j=false:=by obtain⟨o',VL,h1,h2⟩:=hk;rw[hr.op] at VL;cases VL;exact⟨h1,h2⟩
 have IT:∀i,D i=true->¬kS X ops i:=hr.DJ (by rw[pR.1];simp) (by rw[pR.1];simp) pR.2;have UL:s0.next+ops.size<=(S j).next:=by rw[a2,h.t3];exact h.Ei
 have ku:∀id,YE id≠none->id<(S j).next->σ id=YE id:=fun id _ YH=>(k.Oc id (.inl YH)).symm
 refine⟨frame h.gd a5 a2 k,Gh,fun i hi=>?_,.inr ⟨j,rfl,hk⟩,fun id Zv Xv _=>?_,fun i h1 h2 h3 h4=>?_,rfl,fun i b h1 h2 _ _=>?_,fun i h1 h2=>?_,fun i hi hl=>?_,by rw[k.glob,a3],?_⟩
 ·have GQ:=hi;obtain⟨oi,Gw,_⟩:=hi;rcases Nat.lt_trichotomy i j with YH|heq|jh
  ·rw[hD.2 i (by omega)];have:D i=true:=by
    rcases Ya.pair i j oi o YH Gw hr.op with hb|⟨_,_,Zv,_⟩
    ·exact hr.XG hb
    ·exact absurd ⟨GQ,hk⟩ Zv
   simp[this];omega
  ·subst heq;simp[hD.1]
  ·rw[hD.2 i (by omega)];have:D i=false:=by
    cases hd:D i with
    |false=>rfl
    |true =>
     have hb:=hr.Lk hd;rcases Ya.pair j i o oi jh hr.op Gw with TM|⟨_,_,Zv,_⟩
     ·rw[hb] at TM;cases TM
     ·exact absurd ⟨hk,GQ⟩ Zv
   simp[this];omega
 ·rw[Q']
  split
  ·rename_i hc;have he:=ku id Zv hc.1;rcases hc.2 with hs|hl
   ·rw[he] at hs;exact absurd hs Zv
   ·rw[k.dead id hc.1 hl];refine a7 id (by rw[he];exact Zv) hl fun i hi hd ha e=>Xv i hi ?_ ha e
    rw[hD.2 i (by omega)];exact hd
  ·rfl
 ·have afo:i<ops.size:=by obtain⟨o',VL,_⟩:=h3;exact (ajd.1 VL).1
  have hd:D i=true:=by rw[hD.2 i (by omega)] at h2;exact h2
  have he:=ku _ h4 (by omega);rw[Q',if_pos ⟨by omega,.inr (a6 i (by omega) h3)⟩];exact h.t2 i (by omega) hd h3 (by rw[he];exact h4)
 ·rcases hD.of h1 with e|hd
  ·exact absurd (e ▸ h2) (MZ hk)
  ·exact absurd h2 (IT i hd)
 ·have afo:i<ops.size:=by obtain⟨o',VL,_⟩:=h1;exact (ajd.1 VL).1
  rw[k.Oc _ (.inl (by omega))];exact h.u i h1 (hD.false h2)
 ·exact k.dead i (by omega) (a4 i hi hl)
 ·have:=k.next;omega
theorem HI.al (h:HI X ops E S UD s0 w0 D m σ T w)(hL:DM X ops s0.next E)(Ya:Ok X ops){j:Nat}{o:Oper}(hr:DK ops D j o)(hD:Adds D D' j)(hk:cls X o.op=.a){b:Vr}(hb:b≠.gone)(hS:(S (j+1)).look (s0.next+j)=some b)
  (k:Good σ { T with next:=s0.next+j } w YE (St.new { T with next:=s0.next+j } b) w') :
  HI X ops E S UD s0 w0 D' m YE (O7 (fun i=>if i=s0.next+j then some b else T.look i) T.next) w':=by
 have Gh:j<ops.size:=(ajd.1 hr.op).1;have UL:=h.Ei;have za:kA X ops j:=⟨o,hr.op,hk⟩;have Tx:∀id,(O7 (fun i=>if i=s0.next+j then some b else T.look i) T.next).look id=if id=s0.next+j then some b else T.look id:=by
  intro id;rw[O6];intro c' hc
  split at hc
  ·cases hc;exact hb
  ·exact QA _ _ _ hc
 have CD:∀id,id≠s0.next+j->YE id=σ id:=fun id Zv=>by
  refine k.Oc id ?_;rcases Nat.lt_trichotomy id (s0.next+j) with YH|heq|jh
  ·exact .inl YH
  ·exact absurd heq Zv
  ·exact .inr (show s0.next+j+1<=id by omega)
 have hjw:∀i,kW X ops i->i≠j:=fun i ⟨o',VL,hc,_⟩ e=>by
  subst e;rw[hr.op] at VL;cases VL;rw[hk] at hc;cases hc
 have hjs:¬kS X ops j:=fun hs=>by
  obtain⟨o',VL,_,_,hc,_⟩:=VG hs;rw[hr.op] at VL;cases VL;rw[hk] at hc;cases hc
 have yD:∀i,D i=true->D' i=true:=fun i hi=>by
  by_cases e:i=j
  ·subst e;exact hD.1
  ·rw[hD.2 i e];exact hi
 have hmj:m<=j:=by
  rcases h.mw with e|⟨l,rfl,hl⟩
  ·omega
  ·refine Nat.le_of_not_lt fun YH=>?_
   have hDl:D l=true:=(h.Gg l hl).2 (by omega);have hjl:j≠l:=fun e=>hjw l hl e.symm
   have hb:=hr.Lk hDl;obtain⟨ol,vJ,_⟩:=id hl;rcases Ya.pair j l o ol (by omega) hr.op vJ with TM|⟨_,Zv,_⟩
   ·rw[hb] at TM;cases TM
   ·exact Zv ⟨za,hl⟩
 refine⟨h.gd.Up hb (by omega) (by rw[h.t3];omega) k,h.mN,fun i hi=>?_,h.mw,fun id Zv Xv Eh=>?_,fun i h1 h2 h3 h4=>?_,h.t3,fun i b' h1 h2 h3 h4=>?_,fun i h1 h2=>?_,h.FA,h.BW,h.Ei⟩
 ·rw[hD.2 i (hjw i hi)];exact h.Gg i hi
 ·have afp:id≠s0.next+j:=Xv j hmj hD.1 za;rw[Tx,if_neg afp];exact h.t1 id (by rw[<-CD id afp];exact Zv) (fun i h1 h2 h3=>Xv i h1 (yD i h2) h3) (fun i h1 h2=>Eh i (yD i h1) h2)
 ·by_cases e:i=j
  ·subst e;rw[Tx,if_pos rfl,hS]
  ·rw[Tx,if_neg (by omega)];refine h.t2 i h1 ?_ h3 (by rw[<-CD _ (by omega)];exact h4);rw[hD.2 i e] at h2;exact h2
 ·have JN:i≠j:=fun e=>hjs (e ▸ h2)
  obtain⟨b2,e2,CF⟩:=hL.some i h2;rw[h3] at e2;cases e2;rw[Tx,if_neg (by omega)];exact h.t4 i b' (by rw[hD.2 i JN] at h1;exact h1) h2 h3 (by rw[<-CD _ (by omega)];exact h4)
 ·have:i≠j:=by rintro rfl;rw[hD.1] at h2;cases h2
  rw[CD _ (by omega)];exact h.u i h1 (hD.false h2)
theorem HI.s_ (h:HI X ops E S UD s0 w0 D m σ T w)(ht:Gi X ex ops s0.next E S)(hL:DM X ops s0.next E)(Ya:Ok X ops){j:Nat}{o:Oper}(hr:DK ops D j o)(hk:kS X ops j){b:Nat}(hb:lb X ops E j=some b)(hσ:σ b≠none):T.look b=(S j).look b:=by
 have Gh:j<ops.size:=(ajd.1 hr.op).1;obtain⟨b2,e2,CF⟩:=hL.some j hk;rw[hb] at e2;cases e2;obtain⟨oj,hoj,_,_,_,Xv⟩:=VG hk;have hwD:∀i,kW X ops i->i<m:=by
  intro i hi;refine (h.Gg i hi).1 ?_;obtain⟨oi,Gw,hc,hl⟩:=id hi;have Zv:i≠j:=fun e=>MZ hi (e ▸ hk)
  rcases Xv i oi Zv Gw with TM|TM|TM|TM
  ·exact hr.XG TM
  ·rw[hl] at TM;cases TM
  ·rw[hc] at TM;cases TM
  ·rw[hc] at TM;cases TM
 have hmj:m<=j:=by
  rcases h.mw with e|⟨l,rfl,hl⟩
  ·omega
  ·refine Nat.le_of_not_lt fun YH=>?_
   have Zv:l≠j:=fun e=>MZ hl (e ▸ hk)
   obtain⟨ol,vJ,hc,J8⟩:=id hl;rcases Xv l ol Zv vJ with TM|TM|TM|TM
   ·have:=Ya.S7 j l TM;omega
   ·rw[J8] at TM;cases TM
   ·rw[hc] at TM;cases TM
   ·rw[hc] at TM;cases TM
 rw[h.t1 b hσ (fun i _ _ za e=>by
   obtain⟨o',VL,_⟩:=za;have:=(ajd.1 VL).1;omega) (fun i hi hs e=>by
   by_cases JN:i=j
   ·subst JN;rw[hr.no] at hi;cases hi
   ·exact hL.ne i j hs hk JN (by rw[e,hb]))]
 obtain⟨d,hd⟩:∃d,j=m+d:=⟨j-m,by omega⟩;obtain⟨_,_,b3,_,_⟩:=ht.between hL m d (by omega) (fun i h1 _ hw=>by have:=hwD i hw;omega);rw[hd];refine (b3 b (fun i _ h2 za e=>?_) (fun i _ h2 hs e=>?_)).symm
 ·obtain⟨o',VL,_⟩:=za;have:=(ajd.1 VL).1;omega
 ·exact hL.ne i j hs hk (by omega) (by rw[e,hb])
theorem HI.st (h:HI X ops E S UD s0 w0 D m σ T w)(hL:DM X ops s0.next E){j:Nat}{o:Oper}(hr:DK ops D j o)(hD:Adds D D' j)(hk:kS X ops j){b:Nat}(hb:lb X ops E j=some b)(hσ:σ b≠none){k0 k':Vr}(hT:T.look b=some k0)(Cl:k'≠.gone)(hS:(S (j+1)).look b=some k')
  (k:Good σ T w YE (T.put b k') w'):HI X ops E S UD s0 w0 D' m YE (mix σ T T (T.put b k')) w':=by
 have CD:∀id,YE id=σ id:=fun id=>k.Oc id (by
  show id<T.next\/T.next<=id;omega)
 have Tx:∀id,σ id≠none->(mix σ T T (T.put b k')).look id=if b=id then some k' else T.look id:=by
  intro id Zv;have YH:id<T.next:=Nat.lt_of_not_le fun Gu=>Zv (h.gd.fresh id Gu)
  rw[Q'];by_cases e:b=id
  ·subst e;rw[if_neg (fun hc=>by
    rcases hc.2 with h1|h1
    ·exact Zv h1
    ·rw[hT] at h1;cases h1),St.Xl,if_pos rfl,if_pos rfl]
   cases k' <;> first|rfl|exact absurd rfl Cl
  ·rw[if_neg e]
   split
   ·rfl
   ·rw[St.Xl,if_neg e]
 have hjw:∀i,kW X ops i->i≠j:=fun i hi e=>MZ hi (e ▸ hk)
 have hja:∀i,kA X ops i->i≠j:=fun i ⟨o',VL,hc⟩ e=>by
  subst e;obtain⟨o2,KI,_,_,zl,_⟩:=VG hk;rw[VL] at KI;cases KI;rw[hc] at zl;cases zl
 have yD:∀i,D i=true->D' i=true:=fun i hi=>by
  by_cases e:i=j
  ·subst e;exact hD.1
  ·rw[hD.2 i e];exact hi
 obtain⟨b2,e2,CF⟩:=hL.some j hk;rw[hb] at e2;cases e2;refine⟨frame h.gd (fun _ _ _ _ hb=>hb) rfl k,h.mN,fun i hi=>?_,h.mw,fun id Zv Xv Eh=>?_,fun i h1 h2 h3 h4=>?_,h.t3,fun i b' h1 h2 h3 h4=>?_,fun i h1 h2=>?_,h.FA,h.BW,h.Ei⟩
 ·rw[hD.2 i (hjw i hi)];exact h.Gg i hi
 ·have afq:σ id≠none:=by rw[<-CD id];exact Zv
  rw[Tx id afq,if_neg (fun e=>Eh j hD.1 hk (by rw[hb,e]))];exact h.t1 id afq (fun i h1 h2 h3=>Xv i h1 (yD i h2) h3) (fun i h1 h2=>Eh i (yD i h1) h2)
 ·have h4':σ (s0.next+i)≠none:=by rw[<-CD];exact h4
  have afo:i<ops.size:=by obtain⟨o',VL,_⟩:=h3;exact (ajd.1 VL).1
  rw[Tx _ h4',if_neg (by omega)];exact h.t2 i h1 (by rw[hD.2 i (hja i h3)] at h2;exact h2) h3 h4'
 ·have h4':σ b'≠none:=by rw[<-CD];exact h4
  rw[Tx _ h4'];by_cases e:i=j
  ·subst e;rw[hb] at h3;cases h3;rw[if_pos rfl,hS]
  ·rw[if_neg (fun e'=>hL.ne i j h2 hk e (by rw[h3,hb,e']))];exact h.t4 i b' (by rw[hD.2 i e] at h1;exact h1) h2 h3 h4'
 ·rw[CD];exact h.u i h1 (hD.false h2)
end
end Go.Am
namespace Go.Am
open Go
section
variable [Stat]
variable {X:Cx}{ex:Ex}{ops:Array Oper}{base:Nat}
def To (tr:List (Env×St))(i:Nat):Env:=((tr[i]?).getD (.nil,{ t:=.nil,base:=fun _=>none,next:=0 })).1
def Xe (tr:List (Env×St))(i:Nat):St:=((tr[i]?).getD (.nil,{ t:=.nil,base:=fun _=>none,next:=0 })).2
theorem RG:∀(l:List Oper) (i:Nat) (e:Env) (s:St) (tr:List (Env×St)),zd X ex ops base i l e s=some tr ->
  tr.length=l.length+1/\tr[0]? = some (e,s)/\∀(k:Nat) o,l[k]? = some o->Ts X ex ops base (i+k) o (To tr k) (Xe tr k)=some (To tr (k+1),Xe tr (k+1))
 |[],i,e,s,tr,h=>by simp only[zd] at h;cases h;simp
 |o::l,i,e,s,tr,h=>by
  simp only[zd] at h
  split at h
  ·rename_i e1 s1 h1
   split at h
   ·rename_i r h2
    cases h
    obtain⟨k1,k2,k3⟩:=RG l (i+1) e1 s1 r h2;refine⟨by simp[k1],by simp,fun k o' hk=>?_⟩
    cases k with
    |zero =>
     simp at hk;subst hk;have:To ((e,s)::r) (0+1)=e1/\Xe ((e,s)::r) (0+1)=s1:=by simp[To,Xe,k2]
     rw[this.1,this.2]
     simpa[To,Xe] using h1
    |succ k =>
     have:=k3 k o' (by simpa using hk);rw[show i+(k+1)=i+1+k by omega]
     simpa[To,Xe] using this
   ·cases h
  ·cases h
theorem IN:∀(tr:List (Env×St)),HT tr=tr.getLast?
 |[]=>rfl
 |[x]=>rfl
 |x::y::l=>by
  show HT (y::l)=_;rw[IN (y::l),List.getLast?_cons_cons]
theorem RF:∀(l:List Oper) (i j:Nat),j∈Zk X ops i l<->∃k o,l[k]? = some o/\j=i+k/\((cls X o.op).si&&!late X ops j)=true
 |[],i,j=>by simp[Zk]
 |o::l,i,j=>by
  have ih:=RF l (i+1) j;have key:(∃(k:Nat) (o':Oper),(o::l)[k]? = some o'/\j=i+k/\((cls X o'.op).si&&!late X ops j)=true)<->(((cls X o.op).si&&!late X ops i)=true/\j=i)\/∃(k:Nat) (o':Oper),l[k]? = some o'/\j=i+1+k/\((cls X o'.op).si&&!late X ops j)=true:=by
   constructor
   ·rintro⟨k,o',h1,h2,h3⟩
    cases k with
    |zero =>
      simp at h1;subst h1;have e:j=i:=by omega
      exact .inl ⟨e ▸ h3,e⟩
    |succ k=>exact .inr ⟨k,o',by simpa using h1,by omega,h3⟩
   ·rintro (⟨h1,h2⟩|⟨k,o',h1,h2,h3⟩)
    ·exact⟨0,o,by simp,by omega,h2 ▸ h1⟩
    ·exact⟨k+1,o',by simpa using h1,by omega,h3⟩
  rw[key];unfold Zk
  split
  ·rename_i hc;rw[ajo,ih]
   constructor
   ·rintro (h|h)
    ·exact .inl ⟨hc,h⟩
    ·exact .inr h
   ·rintro (h|h)
    ·exact .inl h.2
    ·exact .inr h
  ·rename_i hc;rw[ih]
   constructor
   ·exact .inr
   ·rintro (h|h)
    ·exact absurd h.1 hc
    ·exact h
theorem T0:∀(l:List Oper) (i:Nat),(Zk X ops i l).Pairwise (·<·)
 |[],i=>by simp[Zk]
 |o::l,i=>by
  unfold Zk
  split
  ·refine List.pairwise_cons.2 ⟨fun j hj=>?_,T0 l (i+1)⟩;obtain⟨k,o',_,h2,_⟩:=(RF l (i+1) j).1 hj;omega
  ·exact T0 l (i+1)
theorem Tn:∀(l:List Oper) (tr:List (Env×St)) (i:Nat),tr.length=l.length+1->∀k:Nat,k<l.length->late X ops (i+k)=true->∃(q:Nat) (o:Oper),l[k]? = some o/\(T7 X ops i l tr)[q]? = some (Ua X (To tr k) o.op) /\
  ∀(k':Nat) (o':Oper),k<k'->l[k']? = some o'->late X ops (i+k')=true->∃q':Nat,q<q'/\(T7 X ops i l tr)[q']? = some (Ua X (To tr k') o'.op)
 |[],tr,i,_,k,hk,_=>by simp at hk
 |o::l,[],i,h,k,hk,_=>by simp at h
 |o::l,(e,s)::tr,i,h,0,hk,hl=>by
  have ht:=Tn l tr (i+1) (by simpa using h);unfold T7;rw[if_pos (by simpa using hl)];refine⟨0,o,rfl,by simp[To],fun k' o' h1 h2 h3=>?_⟩;obtain⟨k2,rfl⟩:∃k2,k'=k2+1:=⟨k'-1,by omega⟩;have h2':l[k2]? = some o':=by simpa using h2
  obtain⟨q,o2,g1,g2,_⟩:=ht k2 (ajt.1 h2').1 (by rw[show i+1+k2=i+(k2+1) by omega];exact h3);rw[h2'] at g1;cases g1;refine⟨q+1,by omega,?_⟩;rw[ajO,g2];simp[To]
 |o::l,(e,s)::tr,i,h,k+1,hk,hl=>by
  have ht:=Tn l tr (i+1) (by simpa using h);have Cl:k<l.length:=by simpa using hk
  obtain⟨q,o2,g1,g2,g3⟩:=ht k Cl (by rw[show i+1+k=i+(k+1) by omega];exact hl);unfold T7;have tre:∀n,To ((e,s)::tr) (n+1)=To tr n:=fun n=>by simp[To]
  split
  ·refine⟨q+1,o2,by simpa using g1,by rw[ajO,tre];exact g2,fun k' o' h1 h2 h3=>?_⟩;obtain⟨k2,rfl⟩:∃k2,k'=k2+1:=⟨k'-1,by omega⟩;obtain⟨q',e1,e2⟩:=g3 k2 o' (by omega) (by simpa using h2) (by rw[show i+1+k2=i+(k2+1) by omega];exact h3);exact⟨q'+1,by omega,by rw[ajO,tre];exact e2⟩
  ·refine⟨q,o2,by simpa using g1,by rw[tre];exact g2,fun k' o' h1 h2 h3=>?_⟩;obtain⟨k2,rfl⟩:∃k2,k'=k2+1:=⟨k'-1,by omega⟩;obtain⟨q',e1,e2⟩:=g3 k2 o' (by omega) (by simpa using h2) (by rw[show i+1+k2=i+(k2+1) by omega];exact h3);exact⟨q',e1,by rw[tre];exact e2⟩
theorem KH {n:Nat}:∀(l:List (Option Nat)),Pn base n l=true->(∀x∈l,∃b,x=some b/\(b<base\/base+n<=b))/\∀(q q':Nat) x y,q<q'->l[q]? = some x->l[q']? = some y->x≠y
 |[],_=>⟨fun x hx=>(by cases hx),fun q q' x y _ h=>by simp at h⟩
 |none::l,h=>by simp[Pn] at h
 |some b::l,h=>by
  simp only[Pn,adm,akj,decide_eq_true_eq,ajq,aj3,beq_eq_false_iff_ne,ne_eq] at h;obtain⟨⟨h1,h2⟩,h3⟩:=h;obtain⟨k1,k2⟩:=KH l h3;refine⟨fun x hx=>?_,fun q q' x y hq hx hy=>?_⟩
  ·rcases ajo.1 hx with rfl|hx
   ·exact⟨b,rfl,h1⟩
   ·exact k1 x hx
  ·obtain⟨q'',rfl⟩:∃q'',q'=q''+1:=⟨q'-1,by omega⟩;rw[ajO] at hy
   cases q with
   |zero =>
    simp at hx;subst hx;exact fun e=>h2 y (aj1 hy) e.symm
   |succ q=>exact k2 q q'' x y (by omega) (by simpa using hx) hy
theorem M1 {tr:List (Env×St)}:∀(ws:List Nat) (ss:List (Nat×St)),Tj tr ws=some ss->ss=ws.map fun j=>(j+1,Xe tr (j+1))
 |[],ss,h=>by simp only[Tj] at h;cases h;rfl
 |j::ws,ss,h=>by
  simp only[Tj] at h
  split at h
  ·rename_i e s r h1 h2
   cases h
   rw[M1 ws r h2];simp[Xe,h1]
  ·cases h
theorem KF {ws as:List Nat}{ss:List (Nat×St)}{xK:List (Env×St)}:∀(l:List Oper) (tr:List (Env×St)) (i:Nat),Uf X ex ops base ws as ss xK i l tr=true->∀(k:Nat) o es,l[k]? = some o->tr[k]? = some es->XY ops es.1 o=true ->
  (cls X o.op=.r->∃v s',YK X ex es.1 o.op es.2=some (v,s')/\Xa X ex ops base (i+k) as xK es.1 o.op v (UW ops ws ss (i+k))=true) /\
  (cls X o.op=.q->∀c vs us,o.op=.call c->Wz X es.1 c.args.toList=some vs->VF X es.2 vs=some us->ZO vs=true\/TR X ops base (i+k) as xK vs us (UW ops ws ss (i+k))=true)
 |[],tr,i,h,k,o,es,h1,h2,_=>by simp at h1
 |o::l,[],i,h,k,o',es,h1,h2,_=>by simp at h2
 |o::l,(e,s)::tr,i,h,0,o',es,h1,h2,h4=>by
  simp at h1 h2;subst h1;subst h2;simp only[Uf,adm] at h;obtain⟨h,_⟩:=h;simp only[Nat.add_zero];refine⟨fun hk=>?_,fun hk c vs us hc TA NP=>?_⟩
  ·rw[hk] at h;simp only[h4,ajT,ajU] at h
   split at h
   ·rename_i v s' hv;exact⟨v,s',hv,h⟩
   ·cases h
  ·rw[hk] at h;simp only[h4,hc,TA,NP,ajT,ajU,akj] at h;exact h
 |o::l,(e,s)::tr,i,h,k+1,o',es,h1,h2,h4=>by
  simp only[Uf,adm] at h;have:=KF l tr (i+1) h.2 k o' es (by simpa using h1) (by simpa using h2) h4;rw[show i+(k+1)=i+1+k by omega];exact this
theorem PX {as:List Nat}{tr:List (Env×St)}{i:Nat}{e:Env}{o:Op}{v:AV}:∀(l:List (Nat×St)),Xa X ex ops base i as tr e o v l=true->∀m s,(m,s)∈l->∃s',YK X ex e o (Up ops base i m tr as s)=some (v,s')
 |[],_,m,s,hm=>by cases hm
 |(m',s1)::l,h,m,s,hm=>by
  unfold Xa at h
  split at h
  ·rename_i u s' hu;simp only[adm] at h;rcases ajo.1 hm with e|hm
   ·cases e
    have:=HL h.1;subst this;exact⟨_,hu⟩
   ·exact PX l h.2 m s hm
  ·cases h
theorem NZ {as:List Nat}{tr:List (Env×St)}{i:Nat}{vs us:List AV}:∀(l:List (Nat×St)),TR X ops base i as tr vs us l=true->∀m s,(m,s)∈l->VF X (Up ops base i m tr as s) vs=some us
 |[],_,m,s,hm=>by cases hm
 |(m',s1)::l,h,m,s,hm=>by
  unfold TR at h
  split at h
  ·rename_i u hu;simp only[adm] at h;rcases ajo.1 hm with e|hm
   ·cases e
    have:=UF h.1;subst this;exact hu
   ·exact NZ l h.2 m s hm
  ·cases h
theorem IP:∀(l:List Oper) (i j:Nat),j∈U8 X i l->∃k o,l[k]? = some o/\j=i+k/\cls X o.op=.a
 |[],i,j,h=>by simp[U8] at h
 |o::l,i,j,h=>by
  have ih:=IP l (i+1) j;unfold U8 at h;have lift:(∃(k:Nat) (o':Oper),l[k]? = some o'/\j=i+1+k/\cls X o'.op=.a)->∃(k:Nat) (o':Oper),(o::l)[k]? = some o'/\j=i+k/\cls X o'.op=.a :=
   fun ⟨k,o',h1,h2,h3⟩=>⟨k+1,o',by simpa using h1,by omega,h3⟩
  split at h
  ·rename_i hc;rcases ajo.1 h with rfl|h
   ·exact⟨0,o,by simp,by omega,Xu.1 hc⟩
   ·exact lift (ih h)
  ·exact lift (ih h)
theorem RE {i m:Nat}{tr:List (Env×St)}:∀(as:List Nat) (s:St),(∀j∈as,kA X ops j) ->
  (Up ops base i m tr as s).next=s.next/\∀id b,(Up ops base i m tr as s).look id=some b ->
   s.look id=some b\/∃j,m<=j/\kA X ops j/\XG ops j i=true/\id=base+j/\(Xe tr (j+1)).look id=some b
 |[],s,_=>⟨rfl,fun id b h=>.inl h⟩
 |j::as,s,has=>by
  have gC:∀j∈as,kA X ops j:=fun j hj=>has j (aab _ hj)
  unfold Up
  split
  ·rename_i hc;simp only[adm,decide_eq_true_eq] at hc
   split
   ·rename_i e1 s1 h1;have Sq:Xe tr (j+1)=s1:=by simp[Xe,h1]
    split
    ·rename_i b0 x9;obtain⟨k1,k2⟩:=RE as (s.put (base+j) b0) gC;refine⟨k1,fun id b hb=>?_⟩;rcases k2 id b hb with h3|h3
     ·rw[St.Xl] at h3;by_cases e:base+j=id
      ·rw[if_pos e] at h3;refine .inr ⟨j,hc.1,has j (aba ..),hc.2,e.symm,?_⟩;rw[Sq,<-e];unfold St.look;rw[x9]
       cases b0 <;> simp at h3 ⊢ <;> exact h3
      ·rw[if_neg e] at h3;exact .inl h3
     ·exact .inr h3
    ·exact RE as s gC
   ·exact RE as s gC
  ·exact RE as s gC
theorem HK {s:St}:∀(l:List Oper) (i:Nat),HU X base s i l=true->∀(k:Nat) o,l[k]? = some o->cls X o.op=.a->s.look (base+(i+k))=none
 |[],i,_,k,o,h,_=>by simp at h
 |o::l,i,h,0,o',h1,h2=>by
  simp at h1;subst h1;simp only[HU,adm,akj,h2] at h;have:=h.1;simp[Cn.Dc] at this;unfold St.look;rw[show base+(i+0)=base+i by omega,this]
 |o::l,i,h,k+1,o',h1,h2=>by
  simp only[HU,adm] at h;have:=HK l (i+1) h.2 k o' (by simpa using h1) h2;rw[show i+(k+1)=i+1+k by omega];exact this
theorem M0:∀(l:List (Nat×St)),Ti X ops base l=true->∀m s,(m,s)∈l->∀i,m<=i->kA X ops i->s.look (base+i)=none
 |[],_,m,s,hm=>by cases hm
 |(m',s1)::l,h,m,s,hm=>by
  simp only[Ti,adm] at h;rcases ajo.1 hm with e|hm
  ·cases e
   rintro i hi ⟨o,ho,hc⟩;obtain⟨k,rfl⟩:∃k,i=m'+k:=⟨i-m',by omega⟩;exact HK _ _ h.1 k o (by rw[List.getElem?_drop];simpa using ho) hc
  ·exact M0 l h.2 m s hm
theorem Jx (W:Nat->Prop):∀j,(∀i,i<j->¬W i)\/∃i,i<j/\W i/\∀i',i<i'->i'<j->¬W i'
 |0=>.inl fun i h=>by omega
 |j+1=>by
  by_cases hj:W j
  ·exact .inr ⟨j,by omega,hj,fun i' h1 h2=>by omega⟩
  ·rcases Jx W j with h|⟨i,h1,h2,h3⟩
   ·refine .inl fun i hi=>?_
    by_cases e:i=j
    ·subst e;exact hj
    ·exact h i (by omega)
   ·refine .inr ⟨i,by omega,h2,fun i' k1 k2=>?_⟩;by_cases e:i'=j
    ·subst e;exact hj
    ·exact h3 i' k1 (by omega)
def Wr (ops:Array Oper)(t:Tmp)(i:Nat):Prop:=∃o,ops[i]? = some o/\o.dst=some t
structure KE (ops:Array Oper)(E:Nat->Env)(D:Nat->Bool)(e:Env):Prop where
 hit:∀t i,D i=true->Wr ops t i->(∀i',i<i'->D i'=true->¬Wr ops t i')->Env.get e t=Env.get (E (i+1)) t
 adO:∀t,(∀i,D i=true->¬Wr ops t i)->Env.get e t=Env.get (E 0) t
variable {E:Nat->Env}{S:Nat->St}{D D':Nat->Bool}{e:Env}
theorem KE.at (h:KE ops E D e)(ht:Gi X ex ops base E S){t:Tmp}{j:Nat}(hj:j<=ops.size)(h1:∀i,i<j->Wr ops t i->D i=true)(h2:∀i,j<=i->D i=true->¬Wr ops t i):Env.get e t=Env.get (E j) t:=by
 rcases Jx (Wr ops t) j with hn|⟨i,k1,k2,k3⟩
 ·rw[h.adO t fun i hi hw=>by
   by_cases JN:i<j
   ·exact hn i JN hw
   ·exact h2 i (by omega) hi hw]
  have:=ht.HJ t 0 j (fun i o _ hi ho hd=>hn i (by omega) ⟨o,ho,hd⟩) (by omega);rw[ajr] at this;exact this.symm
 ·rw[h.hit t i (h1 i k1 k2) k2 fun i' a b hw=>by
   by_cases JN:i'<j
   ·exact k3 i' a JN hw
   ·exact h2 i' (by omega) b hw]
  have:=ht.HJ t (i+1) (j-(i+1)) (fun i' o a b ho hd=>k3 i' (by omega) (by omega) ⟨o,ho,hd⟩) (by omega);rw[show i+1+(j-(i+1))=j by omega] at this;exact this.symm
theorem KE.look (h:KE ops E D e)(ht:Gi X ex ops base E S)(Ya:Ok X ops){j:Nat}{o:Oper}(hr:DK ops D j o){t:Tmp}(hl:t∈N1 ops o):Env.get e t=Env.get (E j) t:=by
 have hj:=(ajd.1 hr.op).1;refine h.at ht (Nat.le_of_lt hj) (fun i hi ⟨oi,Gw,hd⟩=>?_) (fun i hi pa ⟨oi,Gw,hd⟩=>?_)
 ·rcases Ya.pair i j oi o hi Gw hr.op with hb|⟨ha,_⟩
  ·exact hr.XG hb
  ·exact absurd hl ((Pe ha).1 t hd)
 ·by_cases e:i=j
  ·subst e;rw[hr.no] at pa;cases pa
  ·rcases Ya.pair j i o oi (by omega) hr.op Gw with hb|⟨ha,_⟩
   ·rw[hr.Lk pa] at hb;cases hb
   ·exact absurd hl ((Pe ha).2.2 t hd)
theorem KE.step (h:KE ops E D e)(Ya:Ok X ops){j:Nat}{o:Oper}(hr:DK ops D j o)(hD:Adds D D' j){v:AV}(hE:E (j+1)=YA (E j) o.dst v):KE ops E D' (YA e o.dst v):=by
 have hj:=(ajd.1 hr.op).1;have wj:∀t,Wr ops t j->o.dst=some t:=fun t ⟨o',VL,hd⟩=>by rw[hr.op] at VL;cases VL;exact hd
 refine⟨fun t i hi hw adP=>?_,fun t Tb=>?_⟩
 ·by_cases ht:o.dst=some t
  ·
   have JN:i=j:=by
    rcases hD.of hi with e1|pa
    ·exact e1
    ·obtain⟨oi,Gw,hd⟩:=hw;rcases Nat.lt_trichotomy i j with YH|heq|jh
     ·exact absurd ⟨o,hr.op,ht⟩ (adP j YH hD.1)
     ·exact heq
     ·rcases Ya.pair j i o oi jh hr.op Gw with hb|⟨ha,_⟩
      ·rw[hr.Lk pa] at hb;cases hb
      ·exact absurd hd ((Pe ha).2.1 t ht)
   subst JN;rw[hE,ht,Kr,Kr]
  ·have JN:i≠j:=fun e1=>ht (wj t (e1 ▸ hw))
   rw[K7 ht];have pa:D i=true:=by rw[hD.2 i JN] at hi;exact hi
   refine h.hit t i pa hw fun i' a b M8=>adP i' a ?_ M8
   by_cases e1:i'=j
   ·subst e1;exact hD.1
   ·rw[hD.2 i' e1];exact b
 ·have ht:o.dst≠some t:=fun ht=>Tb j hD.1 ⟨o,hr.op,ht⟩
  rw[K7 ht];refine h.adO t fun i hi hw=>Tb i ?_ hw
  by_cases e1:i=j
  ·subst e1;exact hD.1
  ·rw[hD.2 i e1];exact hi
end
end Go.Am
namespace Go.Am
open Go
section
variable [Stat]
variable {X:Cx}{P:Program}{ex:Ex}{ops:Array Oper}
theorem B4 (hX:Full X P){r:Option Nat}{o:Oper}{e:Env}{s s':St}{v:AV}{a:Act}{σ:Sg}{w:World}(G:WR X σ)(H:HR σ s w)(hf:σ s.next=none)(E:TI σ e a.tmps)(hc:OM o.op=false)(h:YK X ex e o.op s=some (v,s'))
  {KL:Act->World->Prop}{Q:Exit->Act->World->Prop}(hn:∀u w' YE,ZT YE v u->Good σ s w YE s' w'->KL (a.put o.dst u) w'):o.wpIn (FW r) 0 P a w KL Q:=by
 refine⟨QT,?_⟩;rw[Oper.semAt_eq _ _ _ (fun c hc=>by rw[hc] at h;simp[YK] at h),T1];obtain⟨YE,nx,u,w',h1,h2,h3,h4⟩:=FJ (P:=P) hX.toWb G H hf E hc h;rw[h1];rcases h2 with rfl|⟨rfl,rfl⟩
 ·rw[Oper.uponIn_value];exact hn _ _ _ h3 h4
 ·rw[Oper.uponIn_skip];exact hn _ _ _ h3 h4
theorem FI {o:Op}(h:cls X o≠.w)(h':cls X o≠.q):OM o=false:=by
 cases o <;> try rfl
 rename_i c;obtain⟨callee,args,FH⟩:=c
 cases callee <;> first
  |rfl
  |(rename_i f
    exfalso
    cases f <;> simp only[cls] at h h' <;> first
     |exact h trivial
     |(split at h <;> simp_all)
     |simp_all)
theorem VA {p q:Nat->Bool}:∀(l:List Nat),(∀x∈l,p x=true->q x=true)->Ys p l<=Ys q l
 |[],_=>ajg _
 |x::l,h=>by
  have ih:=VA (p:=p) (q:=q) l fun y hy=>h y (aab _ hy)
  have hx:=h x (aba ..);simp only[Ys];by_cases hp:p x=true
  ·rw[if_pos hp,if_pos (hx hp)];omega
  ·rw[if_neg hp];split <;> omega
theorem Vp {p:Nat->Bool}:∀(l:List Nat) (n:Nat),n<=l.length->(∀x∈l.take n,p x=true)->(∀x∈l.drop n,p x=false)->Ys p l=n
 |[],n,h,_,_=>by simp at h;subst h;rfl
 |x::l,0,h,_,h2=>by
  have ih:=Vp (p:=p) l 0 (by omega) (by simp) (fun y hy=>h2 y (by simpa using aab _ hy));have:=h2 x (by simp);simp only[Ys,this,ih];rfl
 |x::l,n+1,h,h1,h2=>by
  have ih:=Vp (p:=p) l n (by simpa using h) (fun y hy=>h1 y (by simpa using .inr hy)) (fun y hy=>h2 y (by simpa using hy));have:=h1 x (by simp);simp only[Ys,this,if_true,ih]
theorem DN {e e':Env}{o:Oper}(h:∀t∈N1 ops o,Env.get e t=Env.get e' t):XY ops e o=XY ops e' o:=by
 unfold XY
 cases hg:o.guard with
 |none=>rfl
 |some g =>
  obtain⟨j,b⟩:=g;simp only
  cases hj:ops[j]? with
  |none=>rfl
  |some oj =>
   simp only
   cases hd:oj.dst with
   |none=>rfl
   |some d =>
    simp only;rw[h d (by simp[N1,hg,hj,hd])]
theorem B3 {o:Oper}{t:Tmp}(h:Operand.tmp t∈o.op.operands.toList):t∈N1 ops o:=by
 unfold N1;rw[ajX];exact .inl (List.mem_filterMap.2 ⟨_,h,rfl⟩)
structure DI (X:Cx)(ops:Array Oper)(E:Nat->Env)(S:Nat->St)(UD:Sg)(s0:St)(w0:World)(n0 sz:Nat)(D:Nat->Bool)(a:Act)(w:World):Prop where
 ex:∃m σ T e,HI X ops E S UD s0 w0 D m σ T w/\KE ops E D e/\TI σ e a.tmps/\WR X σ/\DF n0 σ w a.defers
 size:a.tmps.size=sz
variable {E:Nat->Env}{S:Nat->St}{UD:Sg}{s0:St}{w0:World}{n0 sz:Nat}{D D':Nat->Bool}{a:Act}{w:World}
theorem DI.step (hX:Full X P)(hE:M5 X P ex)(ht:Gi X ex ops s0.next E S)(hL:DM X ops s0.next E)(Ya:Ok X ops)(DL:n0<=w0.heap.size)(BZ:∀o∈ops.toList,KK sz o.dst)
  (N0:∀m,m=0\/(∃j,m=j+1/\kW X ops j)->∀i,m<=i->kA X ops i->(S m).look (s0.next+i)=none)
  (FG:∀(D:Nat->Bool) m j o v s',DK ops D j o->(∀i,kW X ops i->(D i=true<->i<m))->(m=0\/∃j,m=j+1/\kW X ops j)->cls X o.op=.r\/cls X o.op=.q->XY ops (E j) o=true->YK X ex (E j) o.op (S j)=some (v,s') ->
   ∃R tb,YK X ex (E j) o.op R=some (v,tb)/\R.next=(S m).next/\∀id b,R.look id=some b->(S m).look id=some b\/∃i,m<=i/\kA X ops i/\Am.XG ops i j=true/\id=s0.next+i/\(S (i+1)).look id=some b)
  (h:DI X ops E S UD s0 w0 n0 sz D a w){j:Nat}{o:Oper}(hr:DK ops D j o)(hD:Adds D D' j){r:Option Nat}{KL:Act->World->Prop}{Q:Exit->Act->World->Prop}
  (UL:∀a' w',DI X ops E S UD s0 w0 n0 sz D' a' w'->KL a' w') :
  if Region.wanted o (yielded ops a.tmps) then o.wpIn (FW r) 0 P a w KL Q else (∀f,o.about P w a.eval=some f->(FW r).fn f)/\KL (a.put o.dst Go.undef) w:=by
 obtain⟨⟨m,σ,T,e,hH,hK,pj,hG,vK⟩,Wh⟩:=h;have Gh:j<ops.size:=(ajd.1 hr.op).1;have hdj:KK a.tmps.size o.dst:=by
  rw[Wh];exact BZ o (by
   have:=(ajd.1 hr.op).2;rw[<-this];simp)
 have Tx:∀t∈N1 ops o,Env.get e t=Env.get (E j) t:=fun t htl=>hK.look ht Ya hr htl
 have FF:∀s,YK X ex e o.op s=YK X ex (E j) o.op s:=fun s=>ta fun t hto=>Tx t (B3 hto)
 have yY:=N0 m hH.mw;have hwt:Region.wanted o (yielded ops a.tmps)=XY ops (E j) o:=by rw[FE pj,DN Tx]
 rw[hwt];have fin:∀{m':Nat} {YE:Sg} {T':St} {w':World} {v:AV} {u:Value},HI X ops E S UD s0 w0 D' m' YE T' w'->E (j+1)=YA (E j) o.dst v->Sg.le σ YE->ZT YE v u->DF n0 YE w' a.defers ->
   DI X ops E S UD s0 w0 n0 sz D' (a.put o.dst u) w':=by
  intro m' YE T' w' v u h1 h2 h3 h4 h5;refine⟨⟨m',YE,T',YA e o.dst v,h1,hK.step Ya hr hD h2,KJ (pj.mono h3) hdj h4,hG.mono h3,by rw[put_defers];exact h5⟩,by rw[BY,Wh]⟩
 rcases Vz (ht.step j o hr.op) with⟨h1,h2,h3⟩|⟨h1,v,h2,⟨hc,s1,h3,h4⟩|⟨hc,h3⟩⟩
 ·
  rw[h1];simp only[ajn,if_false];refine⟨QT,UL _ _ ?_⟩;by_cases hs:kS X ops j
  ·exfalso;obtain⟨o2,KI,_,hg,_⟩:=VG hs;rw[hr.op] at KI;cases KI;simp[XY,hg] at h1
  by_cases hw:kW X ops j
  ·obtain⟨a1,a2,a3,a4,a5,a6,a7⟩:=hH.ph ht hL Ya yY hr hw;have hHR:HR σ (S j) w:=hH.gd.hr.sub a5;have:=hH.wr ht hL Ya yY hr hD hw (YE:=σ) (w':=w) (by rw[h3];exact Good.refl hHR);exact fin this h2 (Sg.le_refl _) RH vK
  ·have:=hH.keep hr hD hw hs (R:=T) (fun _ _ _ _ hb=>hb) rfl (Good.refl hH.gd.hr) (fun _=>rfl);exact fin this h2 (Sg.le_refl _) RH vK
 ·
  rw[h1];simp only[if_true];have hc:=Xu.1 hc;obtain⟨b,hb,rfl,Xv⟩:=pg hc h3;have h5:=Xv { T with next:=s0.next+j } rfl;rw[<-FF] at h5;have hS:(S (j+1)).look (s0.next+j)=some b:=by
   rw[h4];show (St.new { S j with next:=s0.next+j } b).look (s0.next+j)=some b;rw[St.U9 _ _ _ hb,if_pos rfl]
  refine B4 hX hG (hH.gd.hr.congr (t:={ T with next:=s0.next+j }) fun _=>rfl) (hH.u j ⟨o,hr.op,hc⟩ hr.no) pj (FI (X:=X) (by rw[hc];simp) (by rw[hc];simp)) h5 fun u w' YE hv g=>UL _ _ ?_
  have:=hH.al hL Ya hr hD hc hb hS g;exact fin this h2 g.ext.le hv (vK.good g)
 ·rw[h1];simp only[if_true];have bu:cls X o.op≠.w->¬kW X ops j:=fun Zv ⟨o2,KI,zl,_⟩=>by rw[hr.op] at KI;cases KI;exact Zv zl
  have pf:cls X o.op≠.w->¬kS X ops j:=fun Zv hs=>by
   obtain⟨o2,KI,_,_,zl,_⟩:=VG hs;rw[hr.op] at KI;cases KI;exact Zv zl
  have bq:cls X o.op≠.a->kA X ops j->σ=σ->False:=fun Zv ⟨o2,KI,zl⟩ _=>by rw[hr.op] at KI;cases KI;exact Zv zl
  cases hk:cls X o.op with
  |a=>rw[hk] at hc;cases hc
  |p =>
   obtain⟨_,Xv⟩:=pd hk _ _ _ h3;have h5:=Xv T;rw[<-FF] at h5;refine B4 hX hG hH.gd.hr (hH.gd.fresh _ (ajg _)) pj (FI (X:=X) (by rw[hk];simp) (by rw[hk];simp)) h5 fun u w' YE hv g=>UL _ _ ?_
   have:=hH.keep hr hD (bu (by rw[hk];simp)) (pf (by rw[hk];simp)) (R:=T) (fun _ _ _ _ hb=>hb) rfl g (fun e=>(bq (by rw[hk];simp) e rfl).elim);exact fin this h2 g.ext.le hv (vK.good g)
  |r =>
   have IT:∀i,D i=true->¬kS X ops i:=hr.DJ (by rw[hk];simp) (by rw[hk];simp) (by
    cases hl:late X ops j with
    |false=>rfl
    |true=>exact absurd hl (pf (by rw[hk];simp)))
   obtain⟨R,tb,h5,h6,h7⟩:=FG D m j o v _ hr hH.Gg hH.mw (.inl hk) h1 h3;have:=pc hk h5;subst this;rw[<-FF] at h5;have Vq:∀i p b,σ i=some p->tb.look i=some b->T.look i=some b:=by
    intro i p b hp hb;rcases h7 i b hb with h8|⟨i',k1,k2,k3,rfl,k4⟩
    ·rw[hH.t1 i (by rw[hp];simp) ?_ fun i' k1 k2=>absurd k2 (IT i' k1)]
     ·exact h8
     ·rintro i' k1 k2 k3 rfl;rw[yY i' k1 k3] at h8;cases h8
    ·rw[hH.t2 i' k1 (hr.XG k3) k2 (by rw[hp];simp)];exact k4
   have hn:tb.next=T.next:=by rw[h6,hH.t3]
   have I:Inv X σ tb w n0 e a:=⟨hH.gd.hr.sub Vq,fun i hi=>hH.gd.fresh i (by rw[<-hn];exact hi),hG,pj,vK,aka DL hH.gd.ext.size⟩;refine M4 hX hE I h5 fun u w' YE hv g=>UL _ _ ?_
   have:=hH.keep hr hD (bu (by rw[hk];simp)) (pf (by rw[hk];simp)) Vq hn g (fun e=>(bq (by rw[hk];simp) e rfl).elim);exact fin this h2 g.ext.le hv (vK.good g)
  |q =>
   have IT:∀i,D i=true->¬kS X ops i:=hr.DJ (by rw[hk];simp) (by rw[hk];simp) (by
    cases hl:late X ops j with
    |false=>rfl
    |true=>exact absurd hl (pf (by rw[hk];simp)))
   obtain⟨R,tb,h5,h6,h7⟩:=FG D m j o v _ hr hH.Gg hH.mw (.inr hk) h1 h3;have:=(FD hk h5).1;subst this;rw[<-FF] at h5;have Vq:∀i p b,σ i=some p->tb.look i=some b->T.look i=some b:=by
    intro i p b hp hb;rcases h7 i b hb with h8|⟨i',k1,k2,k3,rfl,k4⟩
    ·rw[hH.t1 i (by rw[hp];simp) ?_ fun i' k1 k2=>absurd k2 (IT i' k1)]
     ·exact h8
     ·rintro i' k1 k2 k3 rfl;rw[yY i' k1 k3] at h8;cases h8
    ·rw[hH.t2 i' k1 (hr.XG k3) k2 (by rw[hp];simp)];exact k4
   have hn:tb.next=T.next:=by rw[h6,hH.t3]
   have I:Inv X σ tb w n0 e a:=⟨hH.gd.hr.sub Vq,fun i hi=>hH.gd.fresh i (by rw[<-hn];exact hi),hG,pj,vK,aka DL hH.gd.ext.size⟩;refine M4 hX hE I h5 fun u w' YE hv g=>UL _ _ ?_
   have:=hH.keep hr hD (bu (by rw[hk];simp)) (pf (by rw[hk];simp)) Vq hn g (fun e=>(bq (by rw[hk];simp) e rfl).elim);exact fin this h2 g.ext.le hv (vK.good g)
  |w =>
   by_cases hs:kS X ops j
   ·obtain⟨b,hb,_⟩:=hL.some j hs;obtain⟨k0,k',v',g1,g2,g3,g4,g5⟩:=ht.Lo hr.op hs hb;have Gn:Ua X (E j) o.op=some b:=by unfold lb at hb;rw[hr.op] at hb;exact hb
    have hσ:σ b≠none:=by
     obtain⟨o2,KI,WY,_⟩:=VG hs;rw[hr.op] at KI;cases KI
     cases zk:o.op <;> rw[zk] at WY <;> simp only[T_] at WY <;> try (cases WY;done)
     rename_i tt aa xx;rw[zk] at Gn;simp only[Ua] at Gn
     split at Gn
     ·rename_i b1 o1 ha
      cases Gn
      have iO:eval X e aa=some (.ptr b o1):=by
       rw[<-ha];exact eval_congr fun t iN=>Tx t (B3 (by rw[zk,iN];simp[Op.operands]))
      obtain⟨p,hp,_⟩:=Xm (Uy hG pj iO);rw[hp];simp
     ·cases Gn
    have hf:=hH.s_ ht hL Ya hr hs hb hσ;have hTk:T.look b=some k0:=by rw[hf];exact g1
    have S8:T.get b=(S j).get b:=by
     have h5:=hTk;have h6:=g1;unfold St.look at h5 h6
     cases hx:T.get b with
     |none=>rw[hx] at h5;cases h5
     |some x =>
      cases hy:(S j).get b with
      |none=>rw[hy] at h6;cases h6
      |some y =>
       rw[hx] at h5;rw[hy] at h6
       cases x <;> cases y <;> simp only at h5 h6 <;> first|(cases h5;done)|(cases h6;done)|(rw[h5,h6])
    have h5:=g5 T S8;rw[<-FF] at h5;have I:Inv X σ T w n0 e a:=⟨hH.gd.hr,hH.gd.fresh,hG,pj,vK,aka DL hH.gd.ext.size⟩;refine M4 hX hE I h5 fun u w' YE hv g=>UL _ _ ?_
    have:=hH.st hL hr hD hs hb hσ hTk g2 (by rw[g3,St.Xl,if_pos rfl];cases k' <;> first|rfl|exact absurd rfl g2) g;exact fin this g4 g.ext.le hv (vK.good g)
   ·have hw:kW X ops j:=⟨o,hr.op,hk,by
     cases hl:late X ops j with
     |false=>rfl
     |true=>exact absurd hl hs⟩
    obtain⟨a1,a2,a3,a4,a5,a6,a7⟩:=hH.ph ht hL Ya yY hr hw;have hHR:HR σ (S j) w:=hH.gd.hr.sub a5;rw[<-FF] at h3;have I:Inv X σ (S j) w n0 e a:=⟨hHR,fun i hi=>hH.gd.fresh i (by rw[<-a2];exact hi),hG,pj,vK,aka DL hH.gd.ext.size⟩;refine M4 hX hE I h3 fun u w' YE hv g=>UL _ _ ?_
    have:=hH.wr ht hL Ya yY hr hD hw g;exact fin this h2 g.ext.le hv (vK.good g)
theorem DI.run (hX:Full X P)(hE:M5 X P ex)(ht:Gi X ex ops s0.next E S)(hL:DM X ops s0.next E)(Ya:Ok X ops)(DL:n0<=w0.heap.size)(BZ:∀o∈ops.toList,KK sz o.dst)
  (N0:∀m,m=0\/(∃j,m=j+1/\kW X ops j)->∀i,m<=i->kA X ops i->(S m).look (s0.next+i)=none)
  (FG:∀(D:Nat->Bool) m j o v s',DK ops D j o->(∀i,kW X ops i->(D i=true<->i<m))->(m=0\/∃j,m=j+1/\kW X ops j)->cls X o.op=.r\/cls X o.op=.q->XY ops (E j) o=true->YK X ex (E j) o.op (S j)=some (v,s') ->
   ∃R tb,YK X ex (E j) o.op R=some (v,tb)/\R.next=(S m).next/\∀id b,R.look id=some b->(S m).look id=some b\/∃i,m<=i/\kA X ops i/\Am.XG ops i j=true/\id=s0.next+i/\(S (i+1)).look id=some b)
  {r:Option Nat}{Q:Exit->Act->World->Prop}(iM:∀D a w,(∀i,i<ops.size->D i=true)->DI X ops E S UD s0 w0 n0 sz D a w->Q .normal a w) :
  ∀(fuel t:Nat) (listed:Array Bool) (a:Act) (w:World),listed.size=ops.size->yL ops (fun i=>listed.getD i false)->left (fun i=>listed.getD i false) ops.size<=fuel->DI X ops E S UD s0 w0 n0 sz (fun i=>listed.getD i false) a w ->
   wpOpsIn (FW r) 0 P ops Q (Region.linearise.go .any ops fuel t listed []) a w:=by
 intro fuel
 induction fuel with
 |zero =>
  intro t listed a w hs vV hl hI;simp only[Region.linearise.go,List.reverse_nil,wpOpsIn];exact iM _ _ _ (FC (by omega)) hI
 |succ fuel ih =>
  intro t listed a w hs vV hl hI;simp only[Region.linearise.go];generalize FB:((List.range ops.size).filter fun i=>!listed.getD i true&&((ops[i]?).map (·.after.all fun e=>!Region.binds .any e||listed.getD e.on false)).getD false)=rs
  cases hi:rs[t%rs.length]? with
  |none =>
   have af2:rs=[]:=by
    cases rs with
    |nil=>rfl
    |cons x xs =>
     have YH:t%(x::xs).length<(x::xs).length:=Nat.mod_lt _ (by simp);rw[aaa YH] at hi;cases hi
   simp only[List.reverse_nil,wpOpsIn];refine iM _ _ _ (fun i hi=>?_) hI
   induction i using Nat.strongRecOn with
   |_ i ihi =>
    cases hD:listed.getD i false with
    |true=>rfl
    |false =>
     exfalso;have ho:=ajN hi;have:i∈rs:=by
      rw[<-FB,List.mem_filter];refine⟨ajE.2 hi,?_⟩;have h1:listed.getD i true=false:=by
       rw[ajH,ajN (by omega)] at hD ⊢
       simpa using hD
      rw[h1,ho];simp only[ajY,ajF,aki,akk];rw[<-Array.all_toList,ajq];intro e he
      cases hb:Region.binds .any e with
      |false=>rfl
      |true =>
       have YH:=Ya.edge i _ ho e he hb;simp only[ajT,ajU];exact ihi e.on YH (by omega)
     rw[af2] at this;cases this
  |some j =>
   simp only;have hj:=aj1 hi;rw[<-FB,List.mem_filter] at hj;obtain⟨bj,hj2⟩:=hj;have Gh:j<ops.size:=ajE.1 bj;have ho:=ajN Gh;rw[ho] at hj2;simp only[adm,aj3,aki,akk] at hj2;have Tb:listed.getD j false=false:=by
    have:=hj2.1;rw[ajH,ajN (by omega)] at this ⊢
    simpa using this
   have dI:∀e∈(ops[j]).after.toList,Region.binds .any e=true->listed.getD e.on false=true:=by
    have:=hj2.2;rw[<-Array.all_toList,ajq] at this;intro e he hb;have:=this e he;rw[hb] at this
    simpa using this
   have hr:DK ops (fun i=>listed.getD i false) j ops[j]:=⟨vV,ho,Tb,dI⟩;have S8:∀i,(listed.setIfInBounds j true).getD i false=if i=j then true else listed.getD i false:=by
    intro i;simp only[ajH,akh];by_cases e:j=i
    ·subst e;simp[hs,Gh]
    ·rw[if_neg e,if_neg (fun h=>e h.symm)]
   have hD:Adds (fun i=>listed.getD i false) (fun i=>(listed.setIfInBounds j true).getD i false) j:=by
    refine⟨by simp only[S8,if_true],fun i JN=>by simp only[S8,if_neg JN]⟩
   rw[linearise_go_acc,List.reverse_singleton,List.singleton_append];simp only[wpOpsIn,ho];refine hI.step hX hE ht hL Ya DL BZ N0 FG hr hD fun a' w' vS=>ih _ _ a' w' (by simpa using hs) ?_ ?_ vS
   ·intro i o pa Gw e he hb;rcases hD.of pa with rfl|pa
    ·rw[ho] at Gw;cases Gw;by_cases hej:e.on=i
     ·simp only[S8,if_pos hej]
     ·simp only[S8,if_neg hej];exact dI e he hb
    ·have:=vV i o pa Gw e he hb;by_cases hej:e.on=j
     ·simp only[S8,if_pos hej]
     ·simp only[S8,if_neg hej];exact this
   ·have:=BX (D:=fun i=>listed.getD i false) (D':=fun i=>(listed.setIfInBounds j true).getD i false) Tb hD.1 (fun i JN=>hD.2 i JN) Gh;omega
theorem bh (hX:Full X P):DH X P:=by
 intro ex hE r ops e e' s s' a w σ n0 t Q h Ya BZ I hQ;have Ya:=yK Ya;unfold PY at h
 split at h
 ·rename_i tr htr;simp only at h
  split at h
  ·rename_i ss hss
   split at h
   ·rename_i Ln;simp only[adm] at Ln;obtain⟨⟨IS,acy⟩,acz⟩:=Ln;have Ln:=And.intro acy acz;obtain⟨k1,k2,k3⟩:=RG _ _ _ _ _ htr;have k1:tr.length=ops.size+1:=by simpa using k1
    have ht:Gi X ex ops s.next (To tr) (Xe tr):=⟨fun i o ho=>by
     have:=k3 i o (by simpa using ho)
     simpa using this⟩
    have Lm:Xe tr 0={ s with next:=s.next+ops.size }:=by simp[Xe,k2]
    have hE0:To tr 0=e:=by simp[To,k2]
    have acA:=M1 _ _ hss;have NN:∀j,j∈Zk X ops 0 ops.toList<->kW X ops j:=by
     intro j;rw[RF]
     constructor
     ·rintro⟨k,o,h1,rfl,h3⟩;simp only[adm,aj3] at h3;exact⟨o,by simpa using h1,Sy.1 h3.1,h3.2⟩
     ·rintro⟨o,h1,h3,h4⟩;exact⟨j,o,by simpa using h1,by omega,by simp[Sy.2 h3,h4]⟩
    have hL:DM X ops s.next (To tr):=by
     obtain⟨l1,l2⟩:=KH _ IS;have YH:∀i,kS X ops i->i<ops.toList.length:=fun i hi=>by
      obtain⟨o,ho,_⟩:=VG hi
      simpa using (ajd.1 ho).1
     have zj:∀i o,ops.toList[i]? = some o->lb X ops (To tr) i=Ua X (To tr i) o.op:=fun i o ho=>by
      unfold lb;rw[show ops[i]? = some o by simpa using ho]
     refine⟨fun i hi=>?_,fun i j hi hj JN=>?_⟩
     ·obtain⟨q,o,e1,e2,_⟩:=Tn (X:=X) (ops:=ops) ops.toList tr 0 (by simpa using k1) i (YH i hi) (by rw[ajr];exact hi);obtain⟨b,hb,hr⟩:=l1 _ (aj1 e2);exact⟨b,by rw[zj i o e1];exact hb,hr⟩
     ·have key:∀i j,kS X ops i->kS X ops j->i<j->lb X ops (To tr) i≠lb X ops (To tr) j:=by
       intro i j hi hj JN;obtain⟨q,o,e1,e2,e3⟩:=Tn (X:=X) (ops:=ops) ops.toList tr 0 (by simpa using k1) i (YH i hi) (by rw[ajr];exact hi);have hjo:=aaa (YH j hj);obtain⟨q',e4,e5⟩:=e3 j _ JN hjo (by rw[ajr];exact hj);rw[zj i o e1,zj j _ hjo];exact l2 q q' _ _ e4 e2 e5
      rcases Nat.lt_trichotomy i j with h1|h1|h1
      ·exact key i j hi hj h1
      ·exact absurd h1 JN
      ·exact fun e=>key j i hj hi h1 e.symm
    have Sh:∀m,m=0\/(∃j,m=j+1/\kW X ops j)->(m,Xe tr m)∈(0,{ s with next:=s.next+ops.size })::ss:=by
     rintro m (rfl|⟨j,rfl,hj⟩)
     ·rw[Lm];exact aba ..
     ·refine aab _ ?_;rw[acA];exact ajs.2 ⟨j,(NN j).2 hj,rfl⟩
    have FG:∀(D:Nat->Bool) m j o v s',DK ops D j o->(∀i,kW X ops i->(D i=true<->i<m))->(m=0\/∃j,m=j+1/\kW X ops j)->cls X o.op=.r\/cls X o.op=.q->XY ops (To tr j) o=true->YK X ex (To tr j) o.op (Xe tr j)=some (v,s') ->
      ∃R tb,YK X ex (To tr j) o.op R=some (v,tb)/\R.next=(Xe tr m).next/\∀id b,R.look id=some b->(Xe tr m).look id=some b\/∃i,m<=i/\kA X ops i/\Am.XG ops i j=true/\id=s.next+i/\(Xe tr (i+1)).look id=some b:=by
     intro D m j o v s1 hr Ll hm hk hw zk;have Gh:j<ops.size:=(ajd.1 hr.op).1;have htj:tr[j]? = some (To tr j,Xe tr j):=by
      rw[aaa (by omega)];simp[To,Xe,aaa (show j<tr.length by omega)]
     obtain⟨q1,q2⟩:=KF _ _ _ Ln.1 j o _ (by simpa using hr.op) htj hw;rw[ajr] at q1 q2;have Sd:(m,Xe tr m)∈UW ops (Zk X ops 0 ops.toList) ((0,({ s with next:=s.next+ops.size }:St))::ss) j:=by
      have qc:Ys (fun i=>Am.XG ops i j) (Zk X ops 0 ops.toList)<=Ys D (Zk X ops 0 ops.toList):=VA _ fun x _ hb=>hr.XG hb
      have iL:Ys D (Zk X ops 0 ops.toList)<=Ys (fun i=>!Am.XG ops j i) (Zk X ops 0 ops.toList):=VA _ fun x _ hb=>by simp[hr.Lk hb]
      have Cu:((0,({ s with next:=s.next+ops.size }:St))::ss)[Ys D (Zk X ops 0 ops.toList)]? = some (m,Xe tr m):=by
       rcases hm with rfl|⟨q,rfl,hq⟩
       ·have:Ys D (Zk X ops 0 ops.toList)=0:=Vp _ 0 (aji _) (by simp) fun x hx=>by
         have:=Ll x ((NN x).1 (by simpa using hx))
         cases hd:D x with
         |false=>rfl
         |true=>have:=this.1 hd;omega
        rw[this,Lm];rfl
       ·obtain⟨n,hn⟩:=List.getElem?_of_mem ((NN q).2 hq);have IT:=(ajt.1 hn).1;have IQ:=T0 (X:=X) (ops:=ops) ops.toList 0;have jG:=List.pairwise_iff_getElem.1 IQ;have hnq:=(ajt.1 hn).2;have:Ys D (Zk X ops 0 ops.toList)=n+1:=by
         refine Vp _ (n+1) IT (fun x hx=>?_) fun x hx=>?_
         ·obtain⟨i,hi,a_⟩:=ajw.1 hx;have OL:i<n+1:=by rw[aj2] at hi;omega
          rw[List.getElem_take] at a_;have hxw:=(NN x).1 (by rw[<-a_];exact ajc _);refine (Ll x hxw).2 ?_;by_cases e:i=n
          ·subst e;rw[hnq] at a_;omega
          ·have:=jG i n (by omega) IT (by omega);rw[hnq] at this;omega
         ·obtain⟨i,hi,a_⟩:=ajw.1 hx;rw[List.getElem_drop] at a_;rw[List.length_drop] at hi;have hxw:=(NN x).1 (by rw[<-a_];exact ajc _);have:=jG n (n+1+i) IT (by omega) (by omega);rw[hnq,a_] at this
          cases hd:D x with
          |false=>rfl
          |true=>have:=(Ll x hxw).1 hd;omega
        rw[this,ajO,acA,ajv,hn];rfl
      unfold UW;refine aj1 (i:=Ys D (Zk X ops 0 ops.toList)-Ys (fun i=>Am.XG ops i j) (Zk X ops 0 ops.toList)) ?_;rw[List.getElem?_drop,show Ys (fun i=>Am.XG ops i j) (Zk X ops 0 ops.toList)+(Ys D (Zk X ops 0 ops.toList)-Ys (fun i=>Am.XG ops i j) (Zk X ops 0 ops.toList))=Ys D (Zk X ops 0 ops.toList) by omega,
       List.getElem?_take,if_pos (by omega)]
      exact Cu
     have hR:=RE (ops:=ops) (X:=X) (base:=s.next) (i:=j) (m:=m) (tr:=tr) (U8 X 0 ops.toList) (Xe tr m) (fun i hi=>by
      obtain⟨k,o',h1,h2,h3⟩:=IP _ _ _ hi;exact⟨o',by rw[h2];simpa using h1,h3⟩)
     rcases hk with hk|hk
     ·obtain⟨v',s2,h1,h2⟩:=q1 hk;simp only at h1;rw[zk] at h1;cases h1;obtain⟨s3,h3⟩:=PX _ h2 m _ Sd;exact⟨_,s3,h3,hR.1,hR.2⟩
     ·obtain⟨_,c,vs,us,hc,TA,NP,Xv⟩:=FD hk zk;rcases q2 hk c vs us hc TA NP with h1|h1
      ·refine⟨Xe tr m,_,Xv _ ?_,rfl,fun id b hb=>.inl hb⟩;unfold VF at NP ⊢;rw[if_pos h1] at NP ⊢;exact NP
      ·exact⟨_,_,Xv _ (NZ _ h1 m _ Sd),hR.1,hR.2⟩
    have hI0:DI X ops (To tr) (Xe tr) σ s w n0 a.tmps.size (fun i=>(Array.replicate ops.size false).getD i false) a w:=by
     have hf:∀i,(Array.replicate ops.size false).getD i false=false:=by
      intro i;rw[ajH,Array.getElem?_replicate]
      split <;> rfl
     refine⟨⟨0,σ,{ s with next:=s.next+ops.size },e,⟨⟨I.hr.congr (fun _=>rfl),?_,fun _ _=>rfl,Nat.le_add_right ..,fun i hi=>I.fresh i (aka (Nat.le_add_right ..) hi),fun _ _ h=>h,fun i p h1 h2=>(by rw[h2] at h1;cases h1)⟩,
      aji _,fun i _=>by simp[hf],.inl rfl,fun id _ _ _=>by rw[Lm],fun i _ hd=>(by rw[hf] at hd;cases hd),by rw[Lm],fun i b hd=>(by rw[hf] at hd;cases hd),fun i hk _=>?_,fun i hi hl=>by rw[Lm];exact hl,by rw[Lm],by rw[Lm];exact ajg _⟩,⟨fun t i hd=>(by rw[hf] at hd;cases hd),fun t _=>by rw[hE0]⟩,I.env,I.glob,I.df⟩,rfl⟩
     ·exact⟨Sg.le_refl _,fun _ _ h=>.inl h,ajg _,fun _ _ _=>rfl,fun c _ ⟨i,p,b,h1,h2,h3,h4⟩=>⟨i,p,b,h1,h2,h3,h4⟩,rfl,rfl,rfl⟩
     ·exact I.fresh _ (Nat.le_add_right ..)
    refine DI.run (sz:=a.tmps.size) hX hE ht hL Ya I.n0 BZ (fun m hm i hi hk=>M0 _ Ln.2 m _ (Sh m hm) i hi hk) FG ?_ ops.size t _ a w (by simp) ?_ ?_ hI0
    ·
     rintro D a1 w1 Xv ⟨⟨m,JM,T,e1,hH,hK,pj,hG,vK⟩,Wh⟩;have KD:=IN tr;rw[h] at KD;have hn:tr.getLast? = some (To tr ops.size,Xe tr ops.size):=by
      rw[List.getLast?_eq_getElem?,k1];simp[To,Xe,aaa (show ops.size<tr.length by omega)]
     rw[hn] at KD;simp only[Option.some.injEq,Prod.mk.injEq] at KD;obtain⟨rfl,rfl⟩:=KD;have a0:∀i,m<=i->i<m+(ops.size-m)->¬kW X ops i:=fun i h1 h2 hk=>by
      have:=(hH.Gg i hk).1 (Xv i (by have:=hH.mN;omega));omega
     have Ca:m+(ops.size-m)=ops.size:=by have:=hH.mN;omega
     obtain⟨b1,b2,b3,b4,b5⟩:=ht.between hL m (ops.size-m) (by omega) a0;rw[Ca] at b1 b2 b3 b4 b5;have ltS:∀i,kS X ops i->i<ops.size:=fun i hi=>by
      obtain⟨o,ho,_⟩:=VG hi;exact (ajd.1 ho).1
     have hmS:∀i,kS X ops i->m<=i:=fun i hi=>by
      rcases hH.mw with e|⟨l,rfl,hl⟩
      ·omega
      ·refine Nat.le_of_not_lt fun YH=>?_
       have Zv:l≠i:=fun e=>MZ hl (e ▸ hi)
       obtain⟨oi,Gw,_,_,_,acB⟩:=VG hi;obtain⟨ol,vJ,hc,J8⟩:=id hl;rcases acB l ol Zv vJ with hb|hb|hb|hb
       ·have:=Ya.S7 i l hb;omega
       ·rw[J8] at hb;cases hb
       ·rw[hc] at hb;cases hb
       ·rw[hc] at hb;cases hb
     have g:Good σ s w JM (Xe tr ops.size) w1:=hH.gd.good (fun i p hp=>by
      by_cases hx:∃i',m<=i'/\i'<ops.size/\kA X ops i'/\i=s.next+i'
      ·obtain⟨i',h1,h2,h3,rfl⟩:=hx;rw[hH.t2 i' h1 (Xv i' h2) h3 (by rw[hp];simp),<-b4 i' h1 h2 h3]
      ·by_cases hy:∃i',kS X ops i'/\lb X ops (To tr) i'=some i
       ·obtain⟨i',h1,h2⟩:=hy;rw[hH.t4 i' i (Xv i' (ltS i' h1)) h1 h2 (by rw[hp];simp),b5 i' i (hmS i' h1) (ltS i' h1) h1 h2]
       ·rw[b3 i (fun i' h1 h2 h3 e=>hx ⟨i',h1,h2,h3,e⟩) (fun i' _ _ h3 e=>hy ⟨i',h3,e⟩)];exact hH.t1 i (by rw[hp];simp) (fun i' h1 h2 h3 e=>hx ⟨i',h1,by
         obtain⟨o,ho,_⟩:=h3;exact (ajd.1 ho).1,h3,e⟩) (fun i' _ h3 e=>hy ⟨i',h3,e⟩))
      (fun i hi hl=>by
       by_cases hy:∃i',kS X ops i'/\lb X ops (To tr) i'=some i
       ·exfalso;obtain⟨i',h1,h2⟩:=hy;obtain⟨o,ho,_⟩:=VG h1;obtain⟨k0,_,_,g1,_⟩:=ht.Lo ho h1 h2;have zi:=hmS i' h1;obtain⟨d,hd⟩:∃d,i'=m+d:=⟨i'-m,by omega⟩;have OL:=ltS i' h1;obtain⟨_,_,c3,_,_⟩:=ht.between hL m d (by omega) (fun q q1 q2=>a0 q q1 (by omega));rw[<-hd] at c3;rw[c3 i (fun q _ q2 _ e=>by omega) (fun q _ q2 hq e=>hL.ne q i' hq h1 (by omega) (by rw[e,h2])),hH.FA i hi hl] at g1
        cases g1
       ·rw[b3 i (fun i' _ _ _ e=>by omega) (fun i' _ _ h3 e=>hy ⟨i',h3,e⟩)];exact hH.FA i hi hl) (by rw[b1,hH.t3]) (by rw[b2,hH.BW]) I.fresh
     refine hQ _ _ ⟨JM,g,⟨g.hr,g.fresh I.fresh,hG,fun tt=>?_,vK,aka I.n0 g.ext.size⟩,Wh⟩;rw[<-hK.at ht (ajg _) (fun i hi _=>Xv i hi) (fun i hi _ ⟨o,ho,_⟩=>by
      have:=(ajd.1 ho).1;omega)]
     exact pj tt
    ·intro j o hd;simp only at hd;rw[ajH,Array.getElem?_replicate] at hd
     split at hd <;> cases hd
    ·have:∀(D:Nat->Bool) n,left D n<=n:=by
      intro D n
      induction n with
      |zero=>exact ajg _
      |succ n ih=>simp only[left];split <;> omega
     exact this _ _
   ·cases h
  ·cases h
 ·cases h
theorem aZ (hX:Full X P){n:Nat}{f:FuncId}(MY:X.ext f=none){args:List AV}{s s':St}{v:AV}(h:run X n f args s=some (v,s')){σ:Sg}{w:World}{us:Array Value}
  (H:HR σ s w)(F:TY σ s)(G:WR X σ)(hv:ZU σ args us.toList):Calls P f us w fun en w'=>∃u YE,en=.returned u/\ZT YE v u/\Good σ s w YE s' w' :=
 s9 hX (bh hX) MY h H F G hv
end
end Go.Am
namespace Go.Am
open Go
section
variable (X:Cx)
noncomputable def Yo:Ex:=fun c e s =>
 open Classical in if h:∃r n,∀m,n<=m->exec X m c e s=some r then some (Classical.choose h) else none
variable {X}
theorem On {c:Code}{e:Env}{s:St}{r:Out×Env×St}:Yo X c e s=some r<->∃n,∀m,n<=m->exec X m c e s=some r:=by
 unfold Yo
 constructor
 ·intro h
  split at h
  ·rename_i hx
   cases h
   exact Classical.choose_spec hx
  ·cases h
 ·rintro⟨n,hn⟩;have hx:∃r n,∀m,n<=m->exec X m c e s=some r:=⟨r,n,hn⟩;rw[dif_pos hx];obtain⟨n',tU⟩:=Classical.choose_spec hx;have h1:=hn (max n n') (Nat.le_max_left ..);have h2:=tU (max n n') (Nat.le_max_right ..);rw[h1] at h2;exact congrArg some (Option.some.inj h2).symm
def Ex.le (a b:Ex):Prop:=∀c e s r,a c e s=some r->b c e s=some r
structure Zp {α:Type}(X:Cx)(F:Ex->Option α):Prop where
 mono:∀a b,Ex.le a b->∀r,F a=some r->F b=some r
 cont:∀r,F (Yo X)=some r->∃n,∀m,n<=m->F (exec X m)=some r
theorem Zp.const {α:Type}(v:Option α):Zp X (fun _=>v):=⟨fun _ _ _ _ h=>h,fun _ h=>⟨0,fun _ _=>h⟩⟩
theorem Zp.app (c:Code)(e:Env)(s:St):Zp X (fun ex=>ex c e s):=⟨fun a b h r hr=>h c e s r hr,fun r h=>On.1 h⟩
theorem Zp.bind {α β:Type}{A:Ex->Option α}{B:α->Ex->Option β}(hA:Zp X A)(hB:∀x,Zp X (B x)):Zp X (fun ex=>(A ex).bind fun x=>B x ex):=by
 refine⟨fun a b h r hr=>?_,fun r hr=>?_⟩
 ·cases ha:A a with
  |none=>simp[ha] at hr
  |some x =>
   simp only[ha,Option.bind_some] at hr;simp only[hA.mono a b h x ha,Option.bind_some];exact (hB x).mono a b h r hr
 ·cases ha:A (Yo X) with
  |none=>simp[ha] at hr
  |some x =>
   simp only[ha,Option.bind_some] at hr;obtain⟨n,hn⟩:=hA.cont x ha;obtain⟨k,hk⟩:=(hB x).cont r hr;refine⟨max n k,fun m hm=>?_⟩;simp only[hn m (by omega),Option.bind_some];exact hk m (by omega)
theorem Zp.of {α:Type}{F G:Ex->Option α}(h:∀ex,F ex=G ex)(hG:Zp X G):Zp X F:=by
 have:F=G:=funext h;rw[this];exact hG
theorem He (f:FuncId)(args:List AV)(s:St):Zp X (fun ex=>Po X ex f args s):=by
 unfold Po
 split
 ·rename_i fn pU
  split
  ·rename_i c hc;refine Zp.of (G:=fun ex=>(ex c (Zc 0 args .nil) s).bind fun x=>match x with
    |(.norm,e,s')=>(match U1 X fn e s' with|some v=>some (v,s')|none=>none)
    |(.ret,e,s')=>(match U1 X fn e s' with|some v=>some (v,s')|none=>none)
    |_=>none) (fun ex=>?_) (Zp.bind (Zp.app _ _ _) fun x=>Zp.const _)
   cases ex c (Zc 0 args .nil) s with
   |none=>rfl
   |some x=>obtain⟨o,e,s'⟩:=x;cases o <;> rfl
  ·exact Zp.const _
 ·exact Zp.const _
theorem HZ (f:FuncId)(args:List AV)(st:Bool):Zp X (fun ex=>UN X ex f args st):=by
 refine Zp.of (G:=fun ex=>(Po X ex f args (Yl X)).bind fun x=>if st then Yc X x.2 U2 x.1 else if flat x.1 then some x.1 else Xy X x.2 U2 x.1) (fun ex=>?_) (Zp.bind (He _ _ _) fun x=>Zp.const _);unfold UN
 cases Po X ex f args (Yl X) <;> rfl
theorem wJ (f:FuncId)(args:List AV)(s:St):Zp X (fun ex=>PA X ex f args s):=by
 unfold PA
 split
 ·rename_i us NP;refine Zp.of (G:=fun ex=>(UN X ex f us (ZO args)).bind fun v=>some (v,s)) (fun ex=>?_) (Zp.bind (HZ _ _ _) fun x=>Zp.const _)
  cases UN X ex f us (ZO args) <;> rfl
 ·exact Zp.const _
theorem Nr (f:FuncId)(args:List AV)(s:St):Zp X (fun ex=>UG X ex f args s):=by
 unfold UG
 split
 ·exact Zp.const _
 ·split
  ·exact wJ _ _ _
  ·exact He _ _ _
theorem z_ (l:Nat)(args:List AV)(s:St):Zp X (fun ex=>HW ex l args s):=by
 unfold HW
 split
 ·rename_i p env params assign body hg
  split
  ·rename_i hlen;refine Zp.of (G:=fun ex=>(ex assign ((params.zip args).foldl (fun e (t,a)=>Tr.set e t a) env) s).bind fun x=>match x with
    |(.norm,nU,s1)=>(match s1.get l with
     |some (.loop 0 p1 e1 q1 a1 b1)=>(ex body nU (s1.put l (.loop 1 p1 e1 q1 a1 b1))).bind fun y=>(match y.2.2.get l with
      |some (.loop _ _ e2 q2 a2 b2)=>Oz l y.1 e2 q2 a2 b2 y.2.2
      |_=>none)
     |_=>none)
    |_=>none) (fun ex=>?_) (Zp.bind (Zp.app _ _ _) fun x=>?_)
   ·simp only
    cases ex assign ((params.zip args).foldl (fun e (t,a)=>Tr.set e t a) env) s with
    |none=>rfl
    |some x =>
     obtain⟨o,e1,s1⟩:=x
     cases o <;> simp only[Option.bind_some]
     split
     ·rename_i p1 e2 q1 a1 b1 h1;simp only[h1]
      cases ex body e1 (s1.put l (.loop 1 p1 e2 q1 a1 b1)) with
      |none=>rfl
      |some y=>obtain⟨o2,e3,s3⟩:=y;rfl
     ·rename_i Zv
      split
      ·rename_i h;exact absurd h (Zv _ _ _ _ _)
      ·rfl
   ·obtain⟨o,e1,s1⟩:=x
    cases o <;> simp only <;> try exact Zp.const _
    split
    ·exact Zp.bind (Zp.app _ _ _) fun y=>Zp.const _
    ·exact Zp.const _
  ·exact Zp.const _
 ·exact Zp.const _
theorem wI (f:AV)(args:List AV)(s:St):Zp X (fun ex=>Ij X ex f args s):=by
 unfold Ij
 split
 ·exact Nr _ _ _
 ·exact z_ _ _ _
 ·exact Zp.const _
theorem O2 (e:Env)(o:Op)(s:St):Zp X (fun ex=>YK X ex e o s):=by
 cases o <;> try exact Zp.const _
 case next it b=>cases b <;> exact Zp.const _
 case call c =>
  obtain⟨callee,args,FH⟩:=c
  cases callee with
  |builtin b=>exact Zp.const _
  |invoke _ _=>exact Zp.const _
  |value f =>
   simp only[YK]
   split
   ·exact wI _ _ _
   ·exact Zp.const _
theorem KV (ops:Array Oper):∀(l:List Oper) (e:Env) (s:St),Zp X (fun ex=>Me X ex ops l e s)
 |[],e,s=>Zp.const _
 |o::l,e,s=>by
  unfold Me
  split
  ·refine Zp.of (G:=fun ex=>(YK X ex e o.op s).bind fun x=>Me X ex ops l (YA e o.dst x.1) x.2) (fun ex=>?_) (Zp.bind (O2 _ _ _) fun x=>KV ops l _ _)
   cases YK X ex e o.op s <;> rfl
  ·exact KV ops l _ _
theorem wH (ops:Array Oper)(base i:Nat)(o:Oper)(e:Env)(s:St):Zp X (fun ex=>Ts X ex ops base i o e s):=by
 unfold Ts
 split
 ·split
  ·refine Zp.of (G:=fun ex=>(YK X ex e o.op { s with next:=base+i }).bind fun x=>some (YA e o.dst x.1,{ x.2 with next:=s.next })) (fun ex=>?_) (Zp.bind (O2 _ _ _) fun x=>Zp.const _)
   cases YK X ex e o.op { s with next:=base+i } <;> rfl
  ·refine Zp.of (G:=fun ex=>(YK X ex e o.op s).bind fun x=>some (YA e o.dst x.1,x.2)) (fun ex=>?_) (Zp.bind (O2 _ _ _) fun x=>Zp.const _)
   cases YK X ex e o.op s <;> rfl
 ·exact Zp.const _
theorem zZ (ops:Array Oper)(base:Nat):∀(l:List Oper) (i:Nat) (e:Env) (s:St),Zp X (fun ex=>zd X ex ops base i l e s)
 |[],i,e,s=>Zp.const _
 |o::l,i,e,s=>by
  refine Zp.of (G:=fun ex=>(Ts X ex ops base i o e s).bind fun x=>(zd X ex ops base (i+1) l x.1 x.2).bind fun r=>some ((e,s)::r)) (fun ex=>?_)
   (Zp.bind (wH _ _ _ _ _ _) fun x=>Zp.bind (zZ ops base l _ _ _) fun r=>Zp.const _)
  simp only[zd]
  cases Ts X ex ops base i o e s with
  |none=>rfl
  |some x =>
   simp only[Option.bind_some]
   cases zd X ex ops base (i+1) l x.1 x.2 <;> rfl
def jf (b:Bool):Option Unit:=if b then some () else none
theorem tT (a b:Bool):jf (a&&b)=(jf a).bind fun _=>jf b:=by
 cases a <;> cases b <;> rfl
theorem O1 (ops:Array Oper)(base i:Nat)(as:List Nat)(tr:List (Env×St))(e:Env)(o:Op)(v:AV):∀l:List (Nat×St),Zp X (fun ex=>jf (Xa X ex ops base i as tr e o v l))
 |[]=>Zp.const _
 |(m,s)::l=>by
  refine Zp.of (G:=fun ex=>(YK X ex e o (Up ops base i m tr as s)).bind fun x=>(jf (same x.1 v)).bind fun _=>jf (Xa X ex ops base i as tr e o v l)) (fun ex=>?_)
   (Zp.bind (O2 _ _ _) fun x=>Zp.bind (Zp.const _) fun _=>O1 ops base i as tr e o v l)
  simp only[Xa]
  cases YK X ex e o (Up ops base i m tr as s) with
  |none=>rfl
  |some x=>simp only[Option.bind_some];rw[tT]
theorem Kl (ops:Array Oper)(base:Nat)(ws as:List Nat)(ss:List (Nat×St))(xK:List (Env×St)):∀(l:List Oper) (tr:List (Env×St)) (i:Nat),Zp X (fun ex=>jf (Uf X ex ops base ws as ss xK i l tr))
 |[],tr,i=>by cases tr <;> exact Zp.const _
 |o::l,[],i=>Zp.const _
 |o::l,(e,s)::tr,i=>by
  simp only[Uf];refine Zp.of (fun ex=>tT _ _) (Zp.bind ?_ fun _=>Kl ops base ws as ss xK l tr (i+1))
  split
  ·cases hw:XY ops e o with
   |false=>exact Zp.const _
   |true =>
    simp only[ajT,ajU];refine Zp.of (G:=fun ex=>(YK X ex e o.op s).bind fun x=>jf (Xa X ex ops base i as xK e o.op x.1 (UW ops ws ss i))) (fun ex=>?_) (Zp.bind (O2 _ _ _) fun x=>O1 _ _ _ _ _ _ _ _ _)
    cases YK X ex e o.op s <;> rfl
  ·exact Zp.const _
  ·exact Zp.const _
theorem wG (ops:Array Oper)(e:Env)(s:St):Zp X (fun ex=>PY X ex ops e s):=by
 refine Zp.of (G:=fun ex=>(zd X ex ops s.next 0 ops.toList e { s with next:=s.next+ops.size }).bind fun tr=>match Tj tr (Zk X ops 0 ops.toList) with
  |some ss=>(jf (Uf X ex ops s.next (Zk X ops 0 ops.toList) (U8 X 0 ops.toList) ((0,{ s with next:=s.next+ops.size })::ss) tr 0 ops.toList tr)).bind fun _ =>
   if Pn s.next ops.size (T7 X ops 0 ops.toList tr)&&Ti X ops s.next ((0,{ s with next:=s.next+ops.size })::ss) then HT tr else none
  |none=>none) (fun ex=>?_) (Zp.bind (zZ _ _ _ _ _ _) fun tr=>?_)
 ·unfold PY
  cases zd X ex ops s.next 0 ops.toList e { s with next:=s.next+ops.size } with
  |none=>rfl
  |some tr =>
   simp only[Option.bind_some]
   cases Tj tr (Zk X ops 0 ops.toList) with
   |none=>rfl
   |some ss =>
    simp only
    cases Uf X ex ops s.next (Zk X ops 0 ops.toList) (U8 X 0 ops.toList) ((0,{ s with next:=s.next+ops.size })::ss) tr 0 ops.toList tr <;> simp[jf]
 ·split
  ·exact Zp.bind (Kl _ _ _ _ _ _ _ _ _) fun _=>Zp.const _
  ·exact Zp.const _
theorem Nq (c:Code)(e:Env)(s:St):Zp X (fun ex=>Xj X ex c e s):=by
 cases c <;> try exact Zp.const _
 case region id ops d =>
  cases d with
  |true =>
   refine Zp.of (G:=fun ex=>(PY X ex ops e s).bind fun x=>some (.norm,x.1,x.2)) (fun ex=>?_) (Zp.bind (wG _ _ _) fun x=>Zp.const _);simp only[Xj,if_true]
   cases PY X ex ops e s <;> rfl
  |false =>
   refine Zp.of (G:=fun ex=>(Me X ex ops ops.toList e s).bind fun x=>some (.norm,x.1,x.2)) (fun ex=>?_) (Zp.bind (KV _ _ _ _) fun x=>Zp.const _);simp only[Xj,ajn,if_false]
   cases Me X ex ops ops.toList e s <;> rfl
 case seq a b =>
  refine Zp.of (G:=fun ex=>(ex a e s).bind fun x=>match x with
   |(.norm,e,s)=>ex b e s
   |r=>some r) (fun ex=>?_) (Zp.bind (Zp.app _ _ _) fun x=>?_)
  ·simp only[Xj]
   cases ex a e s with
   |none=>rfl
   |some x=>obtain⟨o,e1,s1⟩:=x;cases o <;> rfl
  ·obtain⟨o,e1,s1⟩:=x
   cases o
   ·exact Zp.app _ _ _
   ·exact Zp.const _
   ·exact Zp.const _
 case cond c a b =>
  simp only[Xj]
  split
  ·exact Zp.app _ _ _
  ·exact Zp.app _ _ _
  ·exact Zp.const _
 case block id b =>
  refine Zp.of (G:=fun ex=>(ex b e s).bind fun x=>match x with
   |(.exit i,e,s)=>if i=id then some (.norm,e,s) else some (.exit i,e,s)
   |r=>some r) (fun ex=>?_) (Zp.bind (Zp.app _ _ _) fun x=>Zp.const _)
  simp only[Xj]
  cases ex b e s with
  |none=>rfl
  |some x=>obtain⟨o,e1,s1⟩:=x;cases o <;> rfl
 case loop b =>
  refine Zp.of (G:=fun ex=>(ex b e s).bind fun x=>match x with
   |(.norm,e,s)=>ex (.loop b) e s
   |r=>some r) (fun ex=>?_) (Zp.bind (Zp.app _ _ _) fun x=>?_)
  ·simp only[Xj]
   cases ex b e s with
   |none=>rfl
   |some x=>obtain⟨o,e1,s1⟩:=x;cases o <;> rfl
  ·obtain⟨o,e1,s1⟩:=x
   cases o
   ·exact Zp.app _ _ _
   ·exact Zp.const _
   ·exact Zp.const _
 case scope b=>exact Zp.app _ _ _
 case rangeFunc f params assign body =>
  simp only[Xj]
  split
  ·rename_i g first cap hf
   split
   ·refine Zp.of (G:=fun ex=>(UG X ex g (first++[.fn (.yield s.next) [] []]++cap) (s.new (.loop 0 none e params.toList assign body))).bind fun x=>match x.2.get s.next with
     |some (.loop st p _ _ _ _)=>if st=1 then none else Md p e (x.2.put s.next .gone)
     |_=>none) (fun ex=>?_) (Zp.bind (Nr _ _ _) fun x=>Zp.const _)
    cases UG X ex g (first++[.fn (.yield s.next) [] []]++cap) (s.new (.loop 0 none e params.toList assign body)) <;> rfl
   ·exact Zp.const _
  ·exact Zp.const _
theorem tS:∀n,Ex.le (exec X n) (exec X (n+1))
 |0=>by intro c e s r h;simp[exec] at h
 |n+1=>fun c e s r h=>(Nq c e s).mono _ _ (tS n) r h
theorem k_ {n m:Nat}(h:n<=m):Ex.le (exec X n) (exec X m):=by
 induction h with
 |refl=>exact fun _ _ _ _ h=>h
 |step _ ih=>exact fun c e s r hr=>tS _ c e s r (ih c e s r hr)
theorem Ba (n:Nat):Ex.le (exec X n) (Yo X):=fun c e s r h=>On.2 ⟨n,fun m hm=>k_ hm c e s r h⟩
theorem VN (c:Code)(e:Env)(s:St):Yo X c e s=Xj X (Yo X) c e s:=by
 cases h:Yo X c e s with
 |some r =>
  obtain⟨n,hn⟩:=On.1 h;have:=hn (n+1) (Nat.le_succ n);exact ((Nq c e s).mono _ _ (Ba n) r this).symm
 |none =>
  cases h':Xj X (Yo X) c e s with
  |none=>rfl
  |some r =>
   obtain⟨n,hn⟩:=(Nq c e s).cont r h';have:Yo X c e s=some r:=On.2 ⟨n+1,fun m hm=>by
    obtain⟨k,rfl⟩:∃k,m=k+1:=⟨m-1,by omega⟩;exact hn k (by omega)⟩
   rw[h] at this;cases this
theorem qA {f:FuncId}{args:List AV}{s:St}{r:AV×St}(h:UG X (Yo X) f args s=some r):∃n,run X n f args s=some r:=by
 obtain⟨n,hn⟩:=(Nr f args s).cont r h;exact⟨n,hn n (ajg n)⟩
end
end Go.Am
namespace Go.Am
open Go
inductive W_ where
 |t (n:Nat)
 |v (a:AV)
inductive N8 where
 |Qb (x:W_)
 |pick (c a b:W_)
 |al (z:List AV) (t:TypeId)
 |box (t:TypeId) (x:W_)
 |TB (x:W_)
 |P7 (n:Nat) (x:W_)
 |st (n:Nat) (a x:W_)
 |fa (o:Nat) (x:W_)
 |bin (op:BinOp) (t:TypeId) (cst:Bool) (x y:W_)
 |ext (x:W_) (i:Nat)
 |call (f:FuncId) (args:List W_)
 |Ks (f:W_) (args:List W_)
 |un (op:UnOp) (x:W_)
 |xS (x:W_)
 |TK (x:W_)
 |afP (x:W_)
 |pX (x i:W_)
 |Ff (n:Nat) (x i:W_)
 |ixp (len n:Nat) (x i:W_)
 |sls (x:W_) (lo hi:Option W_)
 |cW (n:Nat) (x:W_) (lo hi:Option W_)
 |fd1 (o:Nat) (x:W_)
 |fdn (o n:Nat) (x:W_)
 |N_ (z:List AV) (ps:List (Nat×Nat×W_))
 |SE (t:TypeId) (n len:Nat) (z:List AV) (ps:List (Nat×Nat×W_))
 |app (t:TypeId) (n bytes:Nat) (d x:W_)
 |aE (f:FuncId) (a b:List W_)
 |raw (o:Op)
structure RO where
 d:Option Nat
 g:Option (Nat×Bool)
 at_:Option Nat
 w:Bool
 op:N8
inductive RC where
 |ops (l:List RO)
 |Sf (n:Nat) (l:List RO)
 |seq (a b:RC)
 |cond (c:W_) (a b:RC)
 |block (id:Nat) (b:RC)
 |loop (b:RC)
 |exit (id:Nat)
 |ret
 |skip
 |raw (c:Code)
section
variable (X:Cx)
noncomputable def SH (f:FuncId)(args:List AV)(s:St):Option (AV×St):=UG X (Yo X) f args s
noncomputable def MN (f:AV)(args:List AV)(s:St):Option (AV×St):=Ij X (Yo X) f args s
def XP (e:Env):W_->AV
 |.t n=>Env.get e n
 |.v a=>a
def O_ (e:Env)(l:List W_):List AV:=l.map (XP e)
def mk (base:Nat)(at_:Option Nat)(c:List AV)(t:TypeId)(s:St):AV×St:=match at_ with
 |none=>(.ptr s.next 0,s.new (.cells c t false 0 0))
 |some i=>(.ptr (base+i) 0,s.put (base+i) (.cells c t false 0 0))
def TB (x:AV)(s:St):Option AV:=match x with
 |.ptr b o=>cell s b o
 |.fp c o=>c[o]?
 |_=>none
def P7 (n:Nat)(x:AV)(s:St):Option AV:=match x with
 |.ptr b o=>match s.cells b with
  |some c=>match XE n o c with
   |some r=>some (.agg r)
   |none=>none
  |none=>none
 |.fp c o=>match XE n o c with
  |some r=>some (.agg r)
  |none=>none
 |_=>none
def st (n:Nat)(a v:AV)(s:St):Option St:=match a with
 |.ptr b o=>if v.cells.length=n then Xo s b o v.cells else none
 |_=>none
def faR (o:Nat)(x:AV):Option AV:=match x with
 |.ptr b o'=>some (.ptr b (o'+o))
 |.fp c o'=>some (.fp c (o'+o))
 |_=>none
def Ao (c a b:AV):Option AV:=match c with
 |.bool p=>some (bif p then a else b)
 |_=>none
def fO (x:AV)(i:Nat):Option AV:=match x with
 |.XF vs=>vs[i]?
 |_=>none
def An:AV->Option AV
 |.str l=>some (.int .i64 l.length)
 |_=>none
def SZ:AV->Option AV
 |.ZM=>some (.int .i64 0)
 |.sl _ _ n _ _=>some (.int .i64 n)
 |.fz es=>some (.int .i64 es.length)
 |_=>none
def cA (s:St):AV->Option AV
 |.QP=>some (.int .i64 0)
 |.fm ks _=>some (.int .i64 ks.length)
 |.map r=>match s.get r with
  |some (.map es _)=>some (.int .i64 es.length)
  |_=>none
 |_=>none
def rz (x i:AV):Option AV:=match x,i with
 |.str b,.int _ i=>if 0<=i then
   match b[i.toNat]? with|some c=>some (.int .u8 c.toNat)|none=>none
  else none
 |_,_=>none
def UC (n:Nat)(x i:AV):Option AV:=match x,i with
 |.sl b o len _ _,.int _ i=>if 0<=i/\i<len then some (.ptr b (o+i.toNat*n)) else none
 |.fz es,.int _ i=>if 0<=i then match es[i.toNat]? with
   |some x=>if x.cells.length=n/\n≠0 then some (.fp x.cells 0) else none
   |none=>none
  else none
 |_,_=>none
def Al (len n:Nat)(x i:AV):Option AV:=match x,i with
 |.ptr b o,.int _ i=>if 0<=i/\i<len then some (.ptr b (o+i.toNat*n)) else none
 |.fp c o,.int _ i=>if 0<=i/\i<len then some (.fp c (o+i.toNat*n)) else none
 |_,_=>none
def O9 (e:Env)(x:Option W_):Option AV:=x.map (XP e)
def xI (x:AV)(lo hi:Option AV):Option AV:=match x with
 |.str b=>match YR hi b.length b.length with
  |some h=>match YR lo 0 h with
   |some l=>some (.str ((b.take h).drop l))
   |none=>none
  |none=>none
 |_=>none
def Ht (n:Nat)(x:AV)(lo hi:Option AV):Option AV:=match x with
 |.sl b o len cap Wa=>match YR hi len (cap.getD len) with
  |some h=>match YR lo 0 h with
   |some l=>some (.sl b (o+l*n) (h-l) (cap.map (·-l)) (if Wa=n then n else 0))
   |none=>none
  |none=>none
 |.ZM=>match YR hi 0 0 with
  |some h=>match YR lo 0 h with
   |some _=>some .ZM
   |none=>none
  |none=>none
 |.fz es=>match YR hi es.length es.length with
  |some h=>match YR lo 0 h with
   |some l=>if es.all (fun x=>x.cells.length==n) then some (.fz ((es.take h).drop l)) else none
   |none=>none
  |none=>none
 |_=>none
def fH (o:Nat)(x:AV):Option AV:=match x with
 |.agg cs=>cs[o]?
 |_=>none
def aeZ (o n:Nat)(x:AV):Option AV:=match x with
 |.agg cs=>match XE n o cs with
  |some r=>some (.agg r)
  |none=>none
 |_=>none
def Sn (e:Env)(cells:List AV):List (Nat×Nat×W_)->Option (List AV)
 |[]=>some cells
 |(off,n,x)::rest=>if (XP e x).cells.length=n/\off+n<=cells.length then
   match lay off (XP e x).cells cells with
   |some c=>Sn e c rest
   |none=>none
  else none
def ru (t:TypeId)(n bytes:Nat)(d x:AV)(s:St):Option (AV×St):=match WV n x s with
 |some (m,new) =>
  if new.length≠m*n\/(Xg d+m)*bytes>2^40\/Xg d+m>2^40 then none
  else if m=0 then match d with
   |.ZM=>some (d,s)
   |.sl ..=>some (d,s)
   |.fz _=>some (d,s)
   |_=>none
  else match d with
  |.ZM=>some (.sl s.next 0 m none n,s.new (.cells new t false 0 0))
  |.sl b o len cap Wa=>match s.cells b with
   |some c=>match XE (len*n) o c with
    |some old =>
     match cap with
     |some k=>if len+m<=k then
       if Wa=n then match Xo s b (o+len*n) new with
        |some s'=>some (.sl b o (len+m) (some k) n,s')
        |none=>none
       else none
      else some (.sl s.next 0 (len+m) none n,s.new (.cells (old++new) t false 0 0))
     |none=>match s.get b with
      |some (.cells _ e0 false PQ QO) =>
       if Wa=n/\QO<=o+len*n/\e0=t/\new.all Zx=true then
        some (.sl s.next 0 (len+m) none n,(s.put b .gone).new (.cells (old++new) t false (PQ-o) (QO-o)))
       else none
      |_=>none
    |none=>none
   |none=>none
  |_=>none
 |none=>none
noncomputable def sS (base:Nat)(at_:Option Nat)(e:Env)(o:Op)(s:St):Option (AV×St):=match at_ with
 |none=>YK X (Yo X) e o s
 |some i=>match YK X (Yo X) e o { s with next:=base+i } with
  |some (v,s')=>some (v,{ s' with next:=s.next })
  |none=>none
noncomputable def WU (base:Nat)(at_:Option Nat)(e:Env)(s:St):N8->Option (AV×St)
 |.Qb x=>some (XP e x,s)
 |.pick c a b=>Zm (Ao (XP e c) (XP e a) (XP e b)) s
 |.al z t=>some (mk base at_ z t s)
 |.box t x=>some (mk base at_ (XP e x).cells t s)
 |.TB x=>Zm (TB (XP e x) s) s
 |.P7 n x=>Zm (P7 n (XP e x) s) s
 |.st n a x=>PE (st n (XP e a) (XP e x) s)
 |.fa o x=>Zm (faR o (XP e x)) s
 |.bin op t cst x y=>Zm (WO X op t cst (XP e x) (XP e y)) s
 |.ext x i=>Zm (fO (XP e x) i) s
 |.call f args=>SH X f (O_ e args) s
 |.Ks f args=>MN X (XP e f) (O_ e args) s
 |.un op x=>Zm (unA op (XP e x)) s
 |.xS x=>Zm (An (XP e x)) s
 |.TK x=>Zm (SZ (XP e x)) s
 |.afP x=>Zm (cA s (XP e x)) s
 |.pX x i=>Zm (rz (XP e x) (XP e i)) s
 |.Ff n x i=>Zm (UC n (XP e x) (XP e i)) s
 |.ixp len n x i=>Zm (Al len n (XP e x) (XP e i)) s
 |.sls x lo hi=>Zm (xI (XP e x) (O9 e lo) (O9 e hi)) s
 |.cW n x lo hi=>Zm (Ht n (XP e x) (O9 e lo) (O9 e hi)) s
 |.fd1 o x=>Zm (fH o (XP e x)) s
 |.fdn o n x=>Zm (aeZ o n (XP e x)) s
 |.N_ z ps=>Zm ((Sn e z ps).map .agg) s
 |.SE t n len z ps=>match Sn e z ps with
  |some c=>match at_ with
   |none=>some (.sl s.next 0 len (some len) n,s.new (.cells c t false 0 0))
   |some i=>some (.sl (base+i) 0 len (some len) n,s.put (base+i) (.cells c t false 0 0))
  |none=>none
 |.app t n bytes d x=>ru t n bytes (XP e d) (XP e x) s
 |.aE f a b=>some (.fn (.func f) (O_ e a) (O_ e b),s)
 |.raw o=>sS X base at_ e o s
def SL (e:Env):Option (Nat×Bool)->Bool
 |none=>true
 |some (t,b)=>match Env.get e t with
  |.bool p=>p==b
  |_=>false
noncomputable def Ax (base:Nat):List RO->Env->St->Option (Env×St)
 |[],e,s=>some (e,s)
 |o::l,e,s=>match (bif SL e o.g then WU X base o.at_ e s o.op else some (undef,s)) with
  |some (v,s')=>Ax base l (YA e o.d v) s'
  |none=>none
def WA (base:Nat)(s:St)(l:List RO):Bool:=l.all fun o=>match o.at_ with
 |some i=>(s.get (base+i)).isNone
 |none=>true
noncomputable def Ra (base:Nat):List RO->Env->St->Option (Env×St)
 |[],e,s=>some (e,s)
 |o::l,e,s=>match (bif SL e o.g then WU X base o.at_ e s o.op else some (undef,s)) with
  |some (v,s')=>if !o.w||WA base s' l then Ra base l (YA e o.d v) s' else none
  |none=>none
abbrev Fl:=Option (Out×Env×St)
def TO (b:Env->St->Fl):Nat->Env->St->Fl
 |0,_,_=>none
 |n+1,e,s=>match b e s with
  |some (.norm,e,s)=>TO b n e s
  |r=>r
noncomputable def NS (b:Env->St->Fl):Env->St->Fl:=fun e s =>
 open Classical in if h:∃r n,TO b n e s=some r then some (Classical.choose h) else none
noncomputable def den:RC->Env->St->Fl
 |.ops l,e,s=>match Ax X 0 l e s with
  |some (e,s)=>some (.norm,e,s)
  |none=>none
 |.Sf n l,e,s=>if WA s.next s l then match Ra X s.next l e { s with next:=s.next+n } with
  |some (e,s)=>some (.norm,e,s)
  |none=>none
  else none
 |.seq a b,e,s=>match den a e s with
  |some (.norm,e,s)=>den b e s
  |r=>r
 |.cond c a b,e,s=>match XP e c with
  |.bool p=>bif p then den a e s else den b e s
  |_=>none
 |.block id b,e,s=>match den b e s with
  |some (.exit i,e,s)=>if i=id then some (.norm,e,s) else some (.exit i,e,s)
  |r=>r
 |.loop b,e,s=>NS (den b) e s
 |.exit id,e,s=>some (.exit id,e,s)
 |.ret,e,s=>some (.ret,e,s)
 |.skip,e,s=>some (.norm,e,s)
 |.raw c,e,s=>Yo X c e s
def P_:Operand->Option W_
 |.tmp t=>some (.t t)
 |.const v=>(o9 3 v).map .v
 |.global g=>if g<X.glob then some (.v (.ptr g 0)) else none
 |.func f=>some (.v (.fn (.func f) [] []))
def FT:List Operand->Option (List W_)
 |[]=>some []
 |x::l=>match P_ X x,FT l with
  |some a,some r=>some (a::r)
  |_,_=>none
def kN:Option Operand->Option (Option W_)
 |none=>some none
 |some x=>(P_ X x).map some
def G_ (place:Nat->Option (Nat×Nat)):List (Nat×Operand)->Option (List (Nat×Nat×W_))
 |[]=>some []
 |(i,x)::l=>match place i,P_ X x,G_ place l with
  |some (off,n),some a,some r=>some ((off,n,a)::r)
  |_,_,_=>none
def kM:Op->Option N8
 |.move x|.assign x=>(P_ X x).map .Qb
 |.pick c a b=>match P_ X c,P_ X a,P_ X b with
  |some c,some a,some b=>some (.pick c a b)
  |_,_,_=>none
 |.alloc t=>(zero X t).map fun z=>.al z.cells t
 |.box t x=>(P_ X x).map (.box t)
 |.load t x=>match YB X t,size X t,P_ X x with
  |some true,some n,some a=>some (.P7 n a)
  |some false,_,some a=>some (.TB a)
  |_,_,_=>none
 |.store t a x=>match size X t,P_ X a,P_ X x with
  |some n,some a,some x=>some (.st n a x)
  |_,_,_=>none
 |.fieldAddr t x f=>match X.Zj t,P_ X x with
  |some (.struct fs),some a=>match fs[f]? with
   |some fd=>match size X fd.type with
    |some (_+1)=>some (.fa fd.offset a)
    |_=>none
   |none=>none
  |_,_=>none
 |.binOp op t x y _=>match P_ X x,P_ X y with
  |some a,some b=>some (.bin op t (Ur x||Ur y) a b)
  |_,_=>none
 |.extract x i=>(P_ X x).map fun a=>.ext a i
 |.unOp op _ x=>(P_ X x).map (.un op)
 |.call { callee:=.builtin .len,args,argTypes,.. }=>match args.toList,argTypes[0]? with
  |[x],some t=>match X.Zj t,P_ X x with
   |some .string,some a=>some (.xS a)
   |some (.slice _),some a=>some (.TK a)
   |some (.map _ _),some a=>some (.afP a)
   |_,_=>none
  |_,_=>none
 |.call { callee:=.builtin .append,args,argTypes,.. }=>match args.toList,argTypes[0]?,argTypes[1]? with
  |[d,x],some t,some u=>match X.Zj t,X.Zj u,P_ X d,P_ X x with
   |some (.slice elem),some ud,some a,some b=>match X.inf elem,size X elem,(match ud with|.slice _=>true|.string=>true|_=>false) with
    |some ei,some n,true=>if ei.bytes>2^20\/n=0\/ei.bytes=0\/JD ei.zero n=true\/X.spec elem=true then none else some (.app elem n ei.bytes a b)
    |_,_,_=>none
   |_,_,_,_=>none
  |_,_,_=>none
 |.index t x i=>match X.Zj t,P_ X x,P_ X i with
  |some .string,some a,some b=>some (.pX a b)
  |_,_,_=>none
 |.indexAddr t x i=>match X.Zj t,P_ X x,P_ X i with
  |some (.slice e),some a,some b=>(size X e).map fun n=>.Ff n a b
  |some (.array len e),some a,some b=>(size X e).map fun n=>.ixp len n a b
  |_,_,_=>none
 |.slice t x lo hi none=>match X.Zj t,P_ X x,kN X lo,kN X hi with
  |some .string,some a,some l,some h=>some (.sls a l h)
  |some (.slice e),some a,some l,some h=>(size X e).map fun n=>.cW n a l h
  |_,_,_,_=>none
 |.field t x f=>match X.Zj t,P_ X x with
  |some (.struct fs),some a=>match fs[f]? with
   |some fd=>match YB X fd.type,size X fd.type with
    |some true,some n=>some (.fdn fd.offset n a)
    |some false,_=>some (.fd1 fd.offset a)
    |_,_=>none
   |none=>none
  |_,_=>none
 |.build t ps=>match zero X t,X.Zj t with
  |some (.agg z),some (.struct fs)=>match OG X fs.toList with
   |some pl=>(G_ X (fun i=>pl[i]?) ps.toList).map (.N_ z)
   |none=>none
  |some (.agg z),some (.array _ elem)=>match size X elem with
   |some n=>(G_ X (fun i=>some (i*n,n)) ps.toList).map (.N_ z)
   |none=>none
  |_,_=>none
 |.buildSlice t len ps=>match X.Zj t with
  |some (.slice elem)=>match size X elem,zero X elem with
   |some n,some z=>if z.cells.length=n/\n≠0/\len*n<=2^24 then (G_ X (fun i=>some (i*n,n)) ps.toList).map (.SE elem n len (Vk len z.cells)) else none
   |_,_=>none
  |_=>none
 |.makeFunc (.func g) a b=>match FT X a.toList,FT X b.toList with
  |some x,some y=>some (.aE g x y)
  |_,_=>none
 |.call { callee:=.value (.func f),args,.. }=>(FT X args.toList).map (.call f)
 |.call { callee:=.value (.tmp t),args,.. }=>(FT X args.toList).map (.Ks (.t t))
 |_=>none
def zV (o:Op):N8:=match kM X o with
 |some r=>r
 |none=>.raw o
def rcG (ops:Array Oper):Option (Nat×Bool)->Option (Option (Nat×Bool))
 |none=>some none
 |some (j,b)=>match ops[j]? with
  |some o=>match o.dst with
   |some d=>some (some (d,b))
   |none=>none
  |none=>none
def Ve (ops:Array Oper)(draw:Bool):Nat->List Oper->Option (List RO)
 |_,[]=>some []
 |i,o::l=>match rcG ops o.guard,Ve ops draw (i+1) l with
  |some g,some r=>some ({ d:=o.dst,g,at_:=if draw&&(cls X o.op).Dc then some i else none,w:=draw&&(cls X o.op).si,op:=zV X o.op }::r)
  |_,_=>none
def jQ (ops:Array Oper):Bool :=
 let ws:=Zk X ops 0 ops.toList
 let as:=U8 X 0 ops.toList
 !Oy X ops&&(List.range ops.size).all fun i=>match ops[i]? with
  |some o=>!((cls X o.op).dh||(match cls X o.op with|.q=>true|_=>false)) ||
   ((as.all fun k=>!decide (k<i)||XG ops k i)&&(ws.all fun k=>XG ops k i||XG ops i k))
  |none=>true
def rc:Code->RC
 |.skip=>.skip
 |.label _=>.skip
 |.region id ops d=>if d then (if jQ X ops&&dc X ops then match Ve X ops true 0 ops.toList with
   |some l=>.Sf ops.size l
   |none=>.raw (.region id ops d)
   else .raw (.region id ops d))
  else match Ve X ops false 0 ops.toList with
   |some l=>.ops l
   |none=>.raw (.region id ops d)
 |.seq a b=>.seq (rc a) (rc b)
 |.cond c a b=>match P_ X c with
  |some x=>.cond x (rc a) (rc b)
  |none=>.raw (.cond c a b)
 |.block id b=>.block id (rc b)
 |.loop b=>.loop (rc b)
 |.scope b=>rc b
 |.exit id=>.exit id
 |.ret=>.ret
 |c=>.raw c
end
end Go.Am
namespace Go.Am
open Go
section
variable [Stat]
variable {X:Cx}
theorem Zd {x:Operand}{a:W_}(h:P_ X x=some a)(e:Env):eval X e x=some (XP e a):=by
 cases x <;> simp only[P_] at h
 ·cases h;rfl
 ·rename_i v
  cases hv:o9 3 v with
  |none=>rw[hv] at h;cases h
  |some y=>rw[hv] at h;cases h;exact hv
 ·split at h
  ·rename_i hg;cases h;simp only[eval,hg,if_true,XP]
  ·cases h
 ·cases h;rfl
theorem Om {l:List Operand}:∀{r:List W_},FT X l=some r->∀e,Wz X e l=some (O_ e r):=by
 induction l with
 |nil=>intro r h e;simp only[FT] at h;cases h;rfl
 |cons x l ih =>
  intro r h e;simp only[FT] at h
  split at h
  ·rename_i a r' h1 h2
   cases h
   simp only[Wz,Zd h1 e,ih h2 e];rfl
  ·cases h
theorem Xw {v:Option AV}{s:St}{r:AV×St}(h:Zm v s=some r):∃x,v=some x/\r=(x,s):=by
 unfold Zm at h
 split at h
 ·cases h;exact⟨_,rfl,rfl⟩
 ·cases h
theorem kQ {t:TypeId}{a v:AV}{s:St}(ht:YB X t=some false)(h:TB a s=some v):Vb X t a s=some v:=by
 unfold TB at h
 split at h
 ·simp only[Vb,ht];exact h
 ·simp only[Vb,ht];exact h
 ·cases h
theorem kO {t:TypeId}{n:Nat}{a v:AV}{s:St}(ht:YB X t=some true)(hn:size X t=some n)(h:P7 n a s=some v):Vb X t a s=some v:=by
 unfold P7 at h
 split at h
 ·simp only[Vb,ht,hn]
  split at h
  ·rename_i c hc;rw[hc];exact h
  ·cases h
 ·simp only[Vb,ht,hn];exact h
 ·cases h
theorem G' (e:Env):Py X e none=some none:=rfl
theorem Ol {x:Option Operand}{a:Option W_}(h:kN X x=some a)(e:Env):Py X e x=some (O9 e a):=by
 cases x with
 |none=>simp only[kN] at h;cases h;rfl
 |some x =>
  simp only[kN] at h
  cases hx:P_ X x with
  |none=>rw[hx] at h;cases h
  |some y=>rw[hx] at h;cases h;simp only[Py,Zd hx e];rfl
theorem Q8 {place:Nat->Option (Nat×Nat)}{e:Env}:∀{l:List (Nat×Operand)} {r:List (Nat×Nat×W_)},G_ X place l=some r->∃vs,Wk X e l=some vs/\∀z c,Sn e z r=some c->My place z vs=some c
 |[],r,h=>by simp only[G_] at h;cases h;exact⟨[],rfl,fun z c h=>h⟩
 |(i,x)::l,r,h=>by
  simp only[G_] at h
  split at h
  ·rename_i off n a r' h1 h2 h3
   cases h
   obtain⟨vs,k1,k2⟩:=Q8 (e:=e) h3;refine⟨(i,XP e a)::vs,by simp only[Wk,Zd h2 e,k1],fun z c hz=>?_⟩;simp only[Sn] at hz;simp only[My,h1]
   split at hz
   ·rename_i hc;rw[if_pos hc]
    split at hz
    ·rename_i c' hl;rw[hl];exact k2 _ _ hz
    ·cases hz
   ·cases hz
  ·cases h
theorem qz {t u elem:TypeId}{ei:TypeInfo}{n:Nat}{d x r:AV}{s s':St}(hu:X.Zj t=some (.slice elem))(hi:X.inf elem=some ei)(hs:size X elem=some n)(h1:¬(ei.bytes>2^20\/n=0\/ei.bytes=0\/JD ei.zero n=true\/X.spec elem=true))
  (h:ru elem n ei.bytes d x s=some (r,s')):OB X t d x s=some (r,s'):=by
 unfold ru at h;unfold OB;simp only[hu,hi,hs]
 split at h
 ·rename_i m new Bs;rw[Bs];simp only
  split at h
  ·cases h
  ·rename_i hc;rw[if_neg (by
    intro hx;rcases hx with hx|hx|hx|hx|hx|hx|hx|hx
    ·exact hc (.inl hx)
    ·exact hc (.inr (.inl hx))
    ·exact h1 (.inl hx)
    ·exact hc (.inr (.inr hx))
    ·exact h1 (.inr (.inl hx))
    ·exact h1 (.inr (.inr (.inl hx)))
    ·exact h1 (.inr (.inr (.inr (.inl hx))))
    ·exact h1 (.inr (.inr (.inr (.inr hx)))))]
   exact h
 ·cases h
theorem OY {base:Nat}{e:Env}{s s':St}{o:Op}{v:AV}(h:WU X base none e s (zV X o)=some (v,s')):YK X (Yo X) e o s=some (v,s'):=by
 unfold zV at h
 split at h
 ·rename_i r hr;unfold kM at hr
  split at hr
  ·rename_i x
   cases hx:P_ X x with
   |none=>rw[hx] at hr;cases hr
   |some a =>
    rw[hx] at hr;cases hr;simp only[WU] at h;simp only[YK,Zd hx e,Zm];exact h
  ·rename_i x
   cases hx:P_ X x with
   |none=>rw[hx] at hr;cases hr
   |some a =>
    rw[hx] at hr;cases hr;simp only[WU] at h;simp only[YK,Zd hx e,Zm];exact h
  ·rename_i c a b
   split at hr
   ·rename_i c' a' b' h1 h2 h3
    cases hr
    simp only[WU] at h;obtain⟨x,hx,UM⟩:=Xw h;simp only[YK,Zd h1 e];unfold Ao at hx
    split at hx
    ·rename_i p hp;rw[hp]
     cases p <;> simp only[Zd h2 e,Zd h3 e,Zm] <;> cases hx <;> exact congrArg some UM.symm
    ·cases hx
   ·cases hr
  ·rename_i t
   cases hz:zero X t with
   |none=>rw[hz] at hr;cases hr
   |some z =>
    rw[hz] at hr;cases hr;simp only[WU,mk] at h;simp only[YK,hz,VS];exact h
  ·rename_i t x
   cases hx:P_ X x with
   |none=>rw[hx] at hr;cases hr
   |some a =>
    rw[hx] at hr;cases hr;simp only[WU,mk] at h;simp only[YK,Zd hx e,VS];exact h
  ·rename_i t x
   split at hr
   ·rename_i n a h1 h2 h3
    cases hr
    simp only[WU] at h;obtain⟨y,hy,UM⟩:=Xw h;simp only[YK,Zd h3 e,kO h1 h2 hy,Zm];exact congrArg some UM.symm
   ·rename_i n a h1 h3
    cases hr
    simp only[WU] at h;obtain⟨y,hy,UM⟩:=Xw h;simp only[YK,Zd h3 e,kQ h1 hy,Zm];exact congrArg some UM.symm
   ·cases hr
  ·rename_i t a x
   split at hr
   ·rename_i n a' x' h1 h2 h3
    cases hr
    simp only[WU] at h;simp only[YK,Zd h2 e,Zd h3 e];have:Nw X t (XP e a') (XP e x') s=st n (XP e a') (XP e x') s:=by
     unfold Nw st;rw[h1]
     cases XP e a' <;> rfl
    rw[this];exact h
   ·cases hr
  ·rename_i t x f
   split at hr
   ·rename_i fs a h1 h2
    split at hr
    ·rename_i fd hf
     split at hr
     ·rename_i n hn
      cases hr
      simp only[WU] at h;obtain⟨y,hy,UM⟩:=Xw h;simp only[YK,Zd h2 e];have:SP X t (XP e a) f=some y:=by
       unfold faR at hy;unfold SP;rw[h1]
       split at hy
       ·rename_i b o' hb;rw[hb];simp only[hf,hn];exact hy
       ·rename_i c o' hb;rw[hb];simp only[hf,hn];exact hy
       ·cases hy
      simp only[this,Zm];exact congrArg some UM.symm
     ·cases hr
    ·cases hr
   ·cases hr
  ·rename_i op t x y yt
   split at hr
   ·rename_i a b h1 h2
    cases hr
    simp only[WU] at h;simp only[YK,Zd h1 e,Zd h2 e];exact h
   ·cases hr
  ·rename_i x i
   cases hx:P_ X x with
   |none=>rw[hx] at hr;cases hr
   |some a =>
    rw[hx] at hr;cases hr;simp only[WU] at h;obtain⟨y,hy,UM⟩:=Xw h;simp only[YK,Zd hx e];unfold fO at hy
    split at hy
    ·rename_i vs TA;rw[TA];simp only[hy,Zm];exact congrArg some UM.symm
    ·cases hy
  ·rename_i op t x
   cases hx:P_ X x with
   |none=>rw[hx] at hr;cases hr
   |some a =>
    rw[hx] at hr;cases hr;simp only[WU] at h;simp only[YK,Zd hx e];exact h
  ·rename_i args FH
   split at hr
   ·rename_i x t Pa Cu;have hev:∀a,P_ X x=some a->Wz X e args.toList=some [XP e a]:=fun a ha=>by
     rw[Pa];simp only[Wz,Zd ha e]
    split at hr
    ·rename_i a hu ha
     cases hr
     simp only[WU] at h;obtain⟨y,hy,UM⟩:=Xw h;simp only[YK,hev a ha,Yr,Cu,hu];unfold An at hy
     split at hy
     ·rename_i l hl;rw[hl];cases hy;exact congrArg some UM.symm
     ·cases hy
    ·rename_i a hu ha
     cases hr
     simp only[WU] at h;obtain⟨y,hy,UM⟩:=Xw h;simp only[YK,hev a ha,Yr,Cu,hu];unfold SZ at hy
     split at hy
     ·rename_i hl;rw[hl];cases hy;exact congrArg some UM.symm
     ·rename_i hl;rw[hl];cases hy;exact congrArg some UM.symm
     ·rename_i hl;rw[hl];cases hy;exact congrArg some UM.symm
     ·cases hy
    ·rename_i a hu ha
     cases hr
     simp only[WU] at h;obtain⟨y,hy,UM⟩:=Xw h;simp only[YK,hev a ha,Yr,Cu,hu];unfold cA at hy
     split at hy
     ·rename_i hl;rw[hl];cases hy;exact congrArg some UM.symm
     ·rename_i hl;rw[hl];cases hy;exact congrArg some UM.symm
     ·rename_i r hl;rw[hl];simp only
      split at hy
      ·rename_i es ro hg;rw[hg];cases hy;exact congrArg some UM.symm
      ·cases hy
     ·cases hy
    ·cases hr
   ·cases hr
  ·rename_i args FH
   split at hr
   ·rename_i d x t u Pa Cu hau
    split at hr
    ·rename_i elem ud a b hu pS ha hb;have hev:Wz X e args.toList=some [XP e a,XP e b]:=by
      rw[Pa];simp only[Wz,Zd ha e,Zd hb e]
     split at hr
     ·rename_i ei n hi hs Ya
      split at hr
      ·cases hr
      ·rename_i hc
       cases hr
       simp only[WU] at h;simp only[YK,hev,Yr,Cu,hau,pS];have:=qz (u:=u) hu hi hs hc h
       cases ud <;> simp only[ajn] at Ya <;> first|exact this|cases Ya
     ·cases hr
    ·cases hr
   ·cases hr
  ·rename_i t x i
   split at hr
   ·rename_i a b hu ha hb
    cases hr
    simp only[WU] at h;obtain⟨y,hy,UM⟩:=Xw h;simp only[YK,Zd ha e,Zd hb e];have:HX X t (XP e a) (XP e b)=some y:=by
     unfold rz at hy
     split at hy
     ·rename_i l k i' hl OL;rw[hl,OL];simp only[HX,hu];exact hy
     ·cases hy
    simp only[this,Zm];exact congrArg some UM.symm
   ·cases hr
  ·rename_i t x i
   split at hr
   ·rename_i el a b hu ha hb
    cases hs:size X el with
    |none=>rw[hs] at hr;cases hr
    |some n =>
     rw[hs] at hr;cases hr;simp only[WU] at h;obtain⟨y,hy,UM⟩:=Xw h;simp only[YK,Zd ha e,Zd hb e];have:VZ X t (XP e a) (XP e b)=some y:=by
      unfold UC at hy
      split at hy
      ·rename_i b' o len cap Wa k i' hl OL;rw[hl,OL];simp only[VZ,hu,hs];exact hy
      ·rename_i es k i' hl OL;rw[hl,OL];simp only[VZ,hu,hs]
       split at hy
       ·rename_i h0;rw[if_pos h0]
        split at hy
        ·rename_i x' Ms;rw[Ms];exact hy
        ·cases hy
       ·cases hy
      ·cases hy
     simp only[this,Zm];exact congrArg some UM.symm
   ·rename_i len el a b hu ha hb
    cases hs:size X el with
    |none=>rw[hs] at hr;cases hr
    |some n =>
     rw[hs] at hr;cases hr;simp only[WU] at h;obtain⟨y,hy,UM⟩:=Xw h;simp only[YK,Zd ha e,Zd hb e];have:VZ X t (XP e a) (XP e b)=some y:=by
      unfold Al at hy
      split at hy
      ·rename_i b' o k i' hl OL;rw[hl,OL];simp only[VZ,hu,hs];exact hy
      ·rename_i c o k i' hl OL;rw[hl,OL];simp only[VZ,hu,hs];exact hy
      ·cases hy
     simp only[this,Zm];exact congrArg some UM.symm
   ·cases hr
  ·rename_i t x lo hi
   split at hr
   ·rename_i a l h' hu ha hl hh
    cases hr
    simp only[WU] at h;obtain⟨y,hy,UM⟩:=Xw h;simp only[YK,Zd ha e,Ol hl e,Ol hh e,G'];have:QH X t (XP e a) (O9 e l) (O9 e h') none=some y:=by
     unfold xI at hy
     split at hy
     ·rename_i b hb;rw[hb];simp only[QH,hu]
      split at hy
      ·rename_i h2 e2;rw[e2];exact hy
      ·cases hy
     ·cases hy
    simp only[this,Zm];exact congrArg some UM.symm
   ·rename_i el a l h' hu ha hl hh
    cases hs:size X el with
    |none=>rw[hs] at hr;cases hr
    |some n =>
     rw[hs] at hr;cases hr;simp only[WU] at h;obtain⟨y,hy,UM⟩:=Xw h;simp only[YK,Zd ha e,Ol hl e,Ol hh e,G'];have:QH X t (XP e a) (O9 e l) (O9 e h') none=some y:=by
      unfold Ht at hy
      split at hy
      ·rename_i hb;rw[hb];simp only[QH,hu,hs];exact hy
      ·rename_i hb;rw[hb];simp only[QH,hu,hs]
       split at hy
       ·rename_i h2 e2;rw[e2];exact hy
       ·cases hy
      ·rename_i es hb;rw[hb];simp only[QH,hu,hs]
       split at hy
       ·rename_i h2 e2;rw[e2];exact hy
       ·cases hy
      ·cases hy
     simp only[this,Zm];exact congrArg some UM.symm
   ·cases hr
  ·rename_i t x f
   split at hr
   ·rename_i fs a hu ha
    split at hr
    ·rename_i fd hf
     split at hr
     ·rename_i n F1 hs
      cases hr
      simp only[WU] at h;obtain⟨y,hy,UM⟩:=Xw h;unfold aeZ at hy
      split at hy
      ·rename_i cs Fm
       cases hg:XE n fd.offset cs with
       |none=>rw[hg] at hy;cases hy
       |some r =>
        rw[hg] at hy;cases hy;simp only[YK,Zd ha e,Fm,hu,hf,Ss,F1,hs,hg,Zm];exact congrArg some UM.symm
      ·cases hy
     ·rename_i F1
      cases hr
      simp only[WU] at h;obtain⟨y,hy,UM⟩:=Xw h;unfold fH at hy
      split at hy
      ·rename_i cs Fm;simp only[YK,Zd ha e,Fm,hu,hf,Ss,F1,hy,Zm];exact congrArg some UM.symm
      ·cases hy
     ·cases hr
    ·cases hr
   ·cases hr
  ·rename_i t ps
   split at hr
   ·rename_i z fs hz hu
    split at hr
    ·rename_i pl Tz
     cases hp:G_ X (fun i=>pl[i]?) ps.toList with
     |none=>rw[hp] at hr;cases hr
     |some r' =>
      rw[hp] at hr;cases hr;obtain⟨vs,k1,k2⟩:=Q8 (e:=e) hp;simp only[WU] at h;obtain⟨y,hy,UM⟩:=Xw h
      cases Lt:Sn e z r' with
      |none=>rw[Lt] at hy;cases hy
      |some c =>
       rw[Lt] at hy;cases hy;simp only[YK,k1,Ir,hz,hu,Tz,k2 _ _ Lt,Zm];exact congrArg some UM.symm
    ·cases hr
   ·rename_i z len el hz hu
    split at hr
    ·rename_i n hs
     cases hp:G_ X (fun i=>some (i*n,n)) ps.toList with
     |none=>rw[hp] at hr;cases hr
     |some r' =>
      rw[hp] at hr;cases hr;obtain⟨vs,k1,k2⟩:=Q8 (e:=e) hp;simp only[WU] at h;obtain⟨y,hy,UM⟩:=Xw h
      cases Lt:Sn e z r' with
      |none=>rw[Lt] at hy;cases hy
      |some c =>
       rw[Lt] at hy;cases hy;simp only[YK,k1,Ir,hz,hu,hs,k2 _ _ Lt,Zm];exact congrArg some UM.symm
    ·cases hr
   ·cases hr
  ·rename_i t len ps
   split at hr
   ·rename_i el hu
    split at hr
    ·rename_i n z hs hz
     split at hr
     ·rename_i hc
      cases hp:G_ X (fun i=>some (i*n,n)) ps.toList with
      |none=>rw[hp] at hr;cases hr
      |some r' =>
       rw[hp] at hr;cases hr;obtain⟨vs,k1,k2⟩:=Q8 (e:=e) hp;simp only[WU] at h
       split at h
       ·rename_i c Lt;simp only[YK,k1,UH,hu,hs,hz,if_pos hc,k2 _ _ Lt];exact h
       ·cases h
     ·cases hr
    ·cases hr
   ·cases hr
  ·rename_i g a b
   split at hr
   ·rename_i x y hx hy
    cases hr
    simp only[WU] at h;simp only[YK,Om hx e,Om hy e];exact h
   ·cases hr
  ·rename_i f args FH
   cases hx:FT X args.toList with
   |none=>rw[hx] at hr;cases hr
   |some l =>
    rw[hx] at hr;cases hr;simp only[WU,SH] at h;simp only[YK,eval,Om hx e,Ij,ajP,ajG];exact h
  ·rename_i t args FH
   cases hx:FT X args.toList with
   |none=>rw[hx] at hr;cases hr
   |some l =>
    rw[hx] at hr;cases hr;simp only[WU,MN,XP] at h;simp only[YK,eval,Om hx e];exact h
  ·cases hr
 ·simp only[WU,sS] at h;exact h
theorem kL {base i:Nat}{e:Env}{s s':St}{o:Op}{v:AV}(hc:cls X o=.a)(h:WU X base (some i) e s (zV X o)=some (v,s')) :
  ∃s1,YK X (Yo X) e o { s with next:=base+i }=some (v,s1)/\s'={ s1 with next:=s.next }:=by
 unfold zV at h
 split at h
 ·rename_i r hr;unfold kM at hr
  split at hr <;> try (simp only[cls] at hc;done)
  all_goals try (simp only[cls] at hc;cases hc;done)
  ·rename_i t
   cases hz:zero X t with
   |none=>rw[hz] at hr;cases hr
   |some z =>
    rw[hz] at hr;cases hr;simp only[WU,mk] at h
    cases h
    refine⟨_,by simp only[YK,hz,VS];rfl,rfl⟩
  ·rename_i t x
   cases hx:P_ X x with
   |none=>rw[hx] at hr;cases hr
   |some a =>
    rw[hx] at hr;cases hr;simp only[WU,mk] at h
    cases h
    refine⟨_,by simp only[YK,Zd hx e,VS];rfl,rfl⟩
  ·rename_i t len ps
   split at hr
   ·rename_i el hu
    split at hr
    ·rename_i n z hs hz
     split at hr
     ·rename_i jg
      cases hp:G_ X (fun i=>some (i*n,n)) ps.toList with
      |none=>rw[hp] at hr;cases hr
      |some r' =>
       rw[hp] at hr;cases hr;obtain⟨vs,k1,k2⟩:=Q8 (e:=e) hp;simp only[WU] at h
       split at h
       ·rename_i c Lt
        cases h
        refine⟨_,by simp only[YK,k1,UH,hu,hs,hz,if_pos jg,k2 _ _ Lt];rfl,rfl⟩
       ·cases h
     ·cases hr
    ·cases hr
   ·cases hr
  ·simp only[cls] at hc
   split at hc <;> cases hc
  ·cases hr
 ·simp only[WU,sS] at h
  split at h
  ·rename_i v1 s1 h1
   cases h
   exact⟨s1,h1,rfl⟩
  ·cases h
theorem G9 {ops:Array Oper}{o:Oper}{g:Option (Nat×Bool)}(h:rcG ops o.guard=some g)(e:Env):SL e g=XY ops e o:=by
 unfold XY
 cases hg:o.guard with
 |none=>rw[hg] at h;simp only[rcG] at h;cases h;rfl
 |some jb =>
  obtain⟨j,b⟩:=jb;rw[hg] at h;simp only[rcG] at h
  split at h
  ·rename_i oj hj
   split at h
   ·rename_i d hd
    cases h
    simp only[SL,hj,hd]
    cases Env.get e d <;> rfl
   ·cases h
  ·cases h
theorem KU {ops:Array Oper}{base:Nat}{r:Env×St}:∀(l:List Oper) (i:Nat) (l':List RO) (e:Env) (s:St),Ve X ops false i l=some l'->Ax X base l' e s=some r->Me X (Yo X) ops l e s=some r
 |[],i,l',e,s,h,hr=>by simp only[Ve] at h;cases h;simpa only[Ax,Me] using hr
 |o::l,i,l',e,s,h,hr=>by
  simp only[Ve] at h
  split at h
  ·rename_i g r' h1 h2
   cases h
   simp only[Ax,ajZ,ajn,if_false] at hr;simp only[Me,<-G9 h1 e]
   cases hw:SL e g with
   |false =>
    rw[hw] at hr;simp only[cond_false] at hr;simp only[ajn,if_false];exact KU l (i+1) r' _ _ h2 hr
   |true =>
    rw[hw] at hr;simp only[cond_true] at hr;simp only[if_true]
    split at hr
    ·rename_i v s1 hv;rw[OY hv];exact KU l (i+1) r' _ _ h2 hr
    ·cases hr
  ·cases h
mutual
theorem Q7:∀a:AV,same a a=true
 |.bool _|.int _ _|.Cr _ _|.str _|.VI|.ptr _ _|.ZM|.sl ..|.QP|.map _|.Wt|.Ul=>by simp[same]
 |.fn f x y=>by simp[same,WW x,WW y]
 |.iface t x=>by simp[same,Q7 x]
 |.agg a=>by simp[same,WW a]
 |.XF a=>by simp[same,WW a]
 |.fz a=>by simp[same,WW a]
 |.fp a o=>by simp[same,WW a]
 |.fm a b=>by simp[same,WW a,WW b]
theorem WW:∀a:List AV,Ww a a=true
 |[]=>by simp[Ww]
 |x::l=>by simp[Ww,Q7 x,WW l]
end
theorem G2 {ops:Array Oper}{base:Nat}{r:Env×St}:∀(l:List Oper) (i:Nat) (l':List RO) (e:Env) (s:St),Ve X ops true i l=some l'->Ra X base l' e s=some r ->
  ∃tr,zd X (Yo X) ops base i l e s=some tr/\HT tr=some r/\∀(k:Nat) o,l[k]? = some o->(cls X o.op).si=true->∀k',k<k'->∀o',l[k']? = some o'->(cls X o'.op).Dc=true->(Xe tr (k+1)).get (base+(i+k'))=none
 |[],i,l',e,s,h,hr=>by
  simp only[Ve] at h;cases h;simp only[Ra] at hr;cases hr;exact⟨[(e,s)],rfl,rfl,fun k o ho=>by simp at ho⟩
 |o::l,i,l',e,s,h,hr=>by
  simp only[Ve] at h
  split at h
  ·rename_i g r' h1 h2
   cases h
   simp only[Ra,ajF] at hr;have key:∀v s1,Ts X (Yo X) ops base i o e s=some (YA e o.dst v,s1)->(if (!(cls X o.op).si||WA base s1 r')=true then Ra X base r' (YA e o.dst v) s1 else none)=some r ->
     ∃tr,zd X (Yo X) ops base i (o::l) e s=some tr/\HT tr=some r/\∀(k:Nat) o1,(o::l)[k]? = some o1->(cls X o1.op).si=true->∀k',k<k'->∀o',(o::l)[k']? = some o'->(cls X o'.op).Dc=true->(Xe tr (k+1)).get (base+(i+k'))=none:=by
    intro v s1 WY hif
    split at hif
    ·rename_i Ln;obtain⟨tr,g1,g2,g3⟩:=G2 l (i+1) r' _ _ h2 hif;obtain⟨k1,k2,_⟩:=RG _ _ _ _ _ g1;refine⟨(e,s)::tr,by simp only[zd,WY,g1],?_,fun k o1 ho1 hw k' hk o' VL ha=>?_⟩
     ·cases tr with
      |nil=>simp at k1
      |cons x y=>exact g2
     ·obtain⟨k2',rfl⟩:∃q,k'=q+1:=⟨k'-1,by omega⟩;have gu:∀n,Xe ((e,s)::tr) (n+1)=Xe tr n:=fun n=>by simp[Xe]
      rw[gu]
      cases k with
      |zero =>
       simp at ho1;subst ho1;have Sq:Xe tr 0=s1:=by simp[Xe,k2]
       rw[Sq];rw[hw] at Ln;simp only[ajT,ajU] at Ln;have chk:∀(l:List Oper) (i:Nat) (r':List RO),Ve X ops true i l=some r'->WA base s1 r'=true->∀(q:Nat) o',l[q]? = some o'->(cls X o'.op).Dc=true->s1.get (base+(i+q))=none:=by
        intro l
        induction l with
        |nil=>intro i r' _ _ q o' VL;simp at VL
        |cons x l ih =>
         intro i r' zU hn q o' VL ha;simp only[Ve] at zU
         split at zU
         ·rename_i g2 r2 e1 e2
          cases zU
          simp only[WA,List.all_cons,adm] at hn
          cases q with
          |zero =>
           simp at VL;subst VL;have:=hn.1;simp only[ajF,ha,if_true,akd] at this
           simpa using this
          |succ q =>
           have:=ih (i+1) r2 e2 hn.2 q o' (by simpa using VL) ha;rw[show i+(q+1)=i+1+q by omega];exact this
         ·cases zU
       have:=chk l (i+1) r' h2 Ln k2' o' (by simpa using VL) ha;rw[show i+(k2'+1)=i+1+k2' by omega];exact this
      |succ k =>
       have:=g3 k o1 (by simpa using ho1) hw k2' (by omega) o' (by simpa using VL) ha;rw[show i+(k2'+1)=i+1+k2' by omega];exact this
    ·cases hif
   have LN:=G9 h1 e
   cases hw:SL e g with
   |false =>
    rw[hw] at hr LN;simp only[cond_false] at hr;refine key undef s ?_ hr;simp only[Ts,<-LN,ajn,if_false]
   |true =>
    rw[hw] at hr LN;simp only[cond_true] at hr
    split at hr
    ·rename_i v s1 hv;refine key v s1 ?_ hr;simp only[Ts,<-LN,if_true];by_cases ha:(cls X o.op).Dc=true
     ·rw[if_pos ha] at hv;obtain⟨s2,e1,e2⟩:=kL (Xu.1 ha) hv;rw[Xu.1 ha];simp only[e1,e2]
     ·rw[if_neg ha] at hv;have:=OY hv
      cases hk:cls X o.op <;> rw[hk] at ha <;> first|exact absurd rfl ha|simp only[this]
    ·cases hr
  ·cases h
theorem OX {ops:Array Oper}{base:Nat}{s:St}:∀(l:List Oper) (i:Nat) (r':List RO),Ve X ops true i l=some r'->WA base s r'=true->∀(q:Nat) o',l[q]? = some o'->(cls X o'.op).Dc=true->s.get (base+(i+q))=none
 |[],i,r',_,_,q,o',VL,_=>by simp at VL
 |x::l,i,r',zU,hn,q,o',VL,ha=>by
  simp only[Ve] at zU
  split at zU
  ·rename_i g2 r2 e1 e2
   cases zU
   simp only[WA,List.all_cons,adm] at hn
   cases q with
   |zero =>
    simp at VL;subst VL;have:=hn.1;simp only[ajF,ha,if_true,akd] at this
    simpa using this
   |succ q =>
    have:=OX l (i+1) r2 e2 hn.2 q o' (by simpa using VL) ha;rw[show i+(q+1)=i+1+q by omega];exact this
  ·cases zU
end
end Go.Am
namespace Go.Am
open Go
section
variable [Stat]
variable {X:Cx}{ops:Array Oper}{base:Nat}
theorem Nm {tr:List (Env×St)}:∀(ws:List Nat),(∀j∈ws,j+1<tr.length)->Tj tr ws=some (ws.map fun j=>(j+1,Xe tr (j+1)))
 |[],_=>rfl
 |j::ws,h=>by
  have hj:=h j (aba ..);simp only[Tj,aaa hj,Nm ws fun k hk=>h k (aab _ hk),aju,Xe,akk]
theorem OV (h:Oy X ops=false):∀(l:List Oper) (i:Nat) (tr:List (Env×St)),T7 X ops i l tr=[]
 |[],i,tr=>by cases tr <;> rfl
 |o::l,i,[]=>rfl
 |o::l,i,(e,s)::tr=>by
  have:late X ops i=false:=by simp[late,h]
  simp only[T7,this,ajn,if_false];exact OV h l (i+1) tr
theorem KT {ex:Ex}{ws as:List Nat}{ss:List (Nat×St)}{xK:List (Env×St)}:∀(l:List Oper) (tr:List (Env×St)) (i:Nat),
  (∀(k:Nat) o es,l[k]? = some o->tr[k]? = some es->XY ops es.1 o=true ->
   (cls X o.op=.r->∃v s',YK X ex es.1 o.op es.2=some (v,s')/\Xa X ex ops base (i+k) as xK es.1 o.op v (UW ops ws ss (i+k))=true) /\
   (cls X o.op=.q->∃c vs us,o.op=.call c/\Wz X es.1 c.args.toList=some vs/\VF X es.2 vs=some us/\TR X ops base (i+k) as xK vs us (UW ops ws ss (i+k))=true)) ->
  Uf X ex ops base ws as ss xK i l tr=true
 |[],tr,i,_=>by cases tr <;> rfl
 |o::l,[],i,_=>rfl
 |o::l,(e,s)::tr,i,h=>by
  simp only[Uf,adm];refine⟨?_,KT l tr (i+1) fun k o' es h1 h2 h3=>by
   have:=h (k+1) o' es (by simpa using h1) (by simpa using h2) h3;rw[show i+(k+1)=i+1+k by omega] at this;exact this⟩
  have h0:=h 0 o (e,s) rfl rfl;simp only[Nat.add_zero] at h0
  cases hw:XY ops e o with
  |false=>cases cls X o.op <;> simp
  |true =>
   obtain⟨q1,q2⟩:=h0 hw
   cases hk:cls X o.op with
   |p=>rfl
   |a=>rfl
   |w=>rfl
   |r =>
    obtain⟨v,s',e1,e2⟩:=q1 hk;simp only[e1,e2,Bool.or_true]
   |q =>
    obtain⟨c,vs,us,e1,e2,e3,e4⟩:=q2 hk;simp only[e1,e2,e3,e4,Bool.or_true]
theorem Nl:∀(l:List (Nat×St)),(∀m s,(m,s)∈l->∀i,m<=i->kA X ops i->s.get (base+i)=none)->Ti X ops base l=true
 |[],_=>rfl
 |(m,s)::l,h=>by
  simp only[Ti,adm];refine⟨?_,Nl l fun m' s' hm=>h m' s' (aab _ hm)⟩;have h0:=h m s (aba ..);have:∀(l:List Oper) (i:Nat),m<=i->(∀k:Nat,l[k]? = ops[i+k]?)->HU X base s i l=true:=by
   intro l
   induction l with
   |nil=>intro i _ _;rfl
   |cons o l ih =>
    intro i hi hl;simp only[HU,adm,akj,aj3];refine⟨?_,ih (i+1) (by omega) fun k=>by
     have:=hl (k+1);rw[show i+1+k=i+(k+1) by omega,<-this];simp⟩
    cases ha:(cls X o.op).Dc with
    |false=>exact .inl rfl
    |true =>
     right
     rw[h0 i hi ⟨o,by have:=hl 0;simpa using this.symm,Xu.1 ha⟩];rfl
  refine this (ops.toList.drop m) m (ajg m) fun k=>?_
  rw[List.getElem?_drop,ajK]
variable {E:Nat->Env}{S:Nat->St}{ex:Ex}
theorem Gi.tJ (h:Gi X ex ops base E S){i:Nat}{o:Oper}(ho:ops[i]? = some o)(hw:cls X o.op≠.w) :
  (cls X o.op≠.a->S (i+1)=S i)/\(cls X o.op=.a->S (i+1)=S i\/∃b,b≠.gone/\S (i+1)=(S i).put (base+i) b):=by
 rcases Vz (h.step i o ho) with⟨_,_,h3⟩|⟨_,v,_,⟨hc,s1,h3,h4⟩|⟨hc,h3⟩⟩
 ·exact⟨fun _=>h3,fun _=>.inl h3⟩
 ·have hc:=Xu.1 hc;obtain⟨b,hb,rfl,_⟩:=pg hc h3;exact⟨fun Zv=>absurd hc Zv,fun _=>.inr ⟨b,hb,by rw[h4];rfl⟩⟩
 ·refine⟨fun _=>?_,fun ha=>?_⟩
  ·cases hk:cls X o.op with
   |a=>rw[hk] at hc;cases hc
   |w=>exact absurd hk hw
   |p=>exact (pd hk _ _ _ h3).1
   |r=>exact pc hk h3
   |q=>exact (FD hk h3).1
  ·rw[ha] at hc;cases hc
theorem D7 (i:Nat)(o:Oper)(l:List Oper):U8 X i (o::l)=if (cls X o.op).Dc then i::U8 X (i+1) l else U8 X (i+1) l:=rfl
theorem Ec {tr:List (Env×St)}(ht:Gi X ex ops base (To tr) (Xe tr))(hlen:tr.length=ops.size+1)(Ya:Ok X ops){i m:Nat}(hi:i<ops.size)(zi:m<=i)(a0:∀k o,m<=k->k<i->ops[k]? = some o->cls X o.op≠.w)
  (ha:∀k,k<i->kA X ops k->XG ops k i=true)(N0:∀k,m<=k->kA X ops k->(Xe tr m).get (base+k)=none) :
  Up ops base i m tr (U8 X 0 ops.toList) (Xe tr m)=Xe tr i:=by
 have skip:∀(as:List Nat) (s:St),(∀j∈as,¬(m<=j/\XG ops j i=true))->Up ops base i m tr as s=s:=by
  intro as
  induction as with
  |nil=>intro s _;rfl
  |cons j as ih =>
   intro s h;have hj:=h j (aba ..);unfold Up;rw[if_neg (by simpa using hj)];exact ih s fun k hk=>h k (aab _ hk)
 have keep:∀n,m<=n->n<=i->∀k,n<=k->kA X ops k->(Xe tr n).get (base+k)=none:=by
  intro n hn
  induction hn with
  |refl=>intro _ k hk za;exact N0 k hk za
  |step Ca ih =>
   rename_i n;intro hni k hk za;have Tb:n<ops.size:=by omega
   have ho:=ajN Tb;obtain⟨e1,e2⟩:=ht.tJ ho (a0 n _ Ca (by omega) ho);by_cases qw:cls X (ops[n]).op=.a
   ·rcases e2 qw with e|⟨b,_,e⟩
    ·rw[e];exact ih (by omega) k (by omega) za
    ·rw[e,St.Z0,if_neg (by omega)];exact ih (by omega) k (by omega) za
   ·rw[e1 qw];exact ih (by omega) k (by omega) za
 have run:∀d n,n+d=i->m<=n->Up ops base i m tr (U8 X n (ops.toList.drop n)) (Xe tr n)=Xe tr i:=by
  intro d
  induction d with
  |zero =>
   intro n hn _;have:n=i:=by omega
   subst this;refine skip _ _ fun j hj hc=>?_
   obtain⟨k,o,_,rfl,_⟩:=IP _ _ _ hj;have:=Ya.S7 n (n+k) hc.2;omega
  |succ d ih =>
   intro n hn Ca;have Tb:n<ops.size:=by omega
   have ho:=ajN Tb;have Ef:ops.toList.drop n=ops[n]::ops.toList.drop (n+1):=by
    rw[abc (by simpa using Tb)];simp
   rw[Ef];obtain⟨e1,e2⟩:=ht.tJ ho (a0 n _ Ca (by omega) ho);rw[D7];by_cases qw:(cls X (ops[n]).op).Dc=true
   ·rw[if_pos qw];have hk:kA X ops n:=⟨_,ho,Xu.1 qw⟩;unfold Up;rw[if_pos (by simp[Ca,ha n (by omega) hk])];have htn:tr[n+1]? = some (To tr (n+1),Xe tr (n+1)):=by
     rw[aaa (by omega)];simp[To,Xe,aaa (show n+1<tr.length by omega)]
    rw[htn];simp only;rcases e2 (Xu.1 qw) with e|⟨b,_,e⟩
    ·rw[e,keep n Ca (by omega) n (ajg n) hk];simp only;rw[<-e];exact ih (n+1) (by omega) (by omega)
    ·rw[e,St.Z0,if_pos rfl];simp only;rw[<-e];exact ih (n+1) (by omega) (by omega)
   ·rw[if_neg qw,<-e1 (fun h=>qw (Xu.2 h))];exact ih (n+1) (by omega) (by omega)
 have pass:∀n,n<=m->Up ops base i m tr (U8 X n (ops.toList.drop n)) (Xe tr m)=Up ops base i m tr (U8 X m (ops.toList.drop m)) (Xe tr m):=by
  intro n hn;obtain⟨d,hd⟩:∃d,n+d=m:=⟨m-n,by omega⟩;clear hn
  induction d generalizing n with
  |zero =>
    have:n=m:=by omega
    subst this;rfl
  |succ d ih =>
   have Tb:n<ops.size:=by omega
   have Ef:ops.toList.drop n=ops[n]::ops.toList.drop (n+1):=by
    rw[abc (by simpa using Tb)];simp
   rw[<-ih (n+1) (by omega),Ef,D7]
   split
   ·conv=>lhs;unfold Up
    rw[if_neg (by simp;omega)]
   ·rfl
 have:=pass 0 (aji m);rw[ajS] at this;rw[this];exact run (i-m) m (by omega) (ajg m)
theorem jS {l:List RO}{e:Env}{s:St}{r:Env×St}(zU:Ve X ops true 0 ops.toList=some l)(jR:jQ X ops=true)(abU:dc X ops=true)(hn:WA s.next s l=true)
  (hr:Ra X s.next l e { s with next:=s.next+ops.size }=some r):PY X (Yo X) ops e s=some r:=by
 have Ya:=yK abU;unfold jQ at jR;simp only[adm,aj3,ajq,ajE] at jR;obtain⟨eb,Xv⟩:=jR;obtain⟨tr,g1,g2,g3⟩:=G2 _ _ _ _ _ zU hr;obtain⟨k1,k2,k3⟩:=RG _ _ _ _ _ g1;have k1:tr.length=ops.size+1:=by simpa using k1
 have ht:Gi X (Yo X) ops s.next (To tr) (Xe tr):=⟨fun i o ho=>by
  have:=k3 i o (by simpa using ho)
  simpa using this⟩
 have Lm:Xe tr 0={ s with next:=s.next+ops.size }:=by simp[Xe,k2]
 have IS:∀i,late X ops i=false:=fun i=>by simp[late,eb]
 have NN:∀j,j∈Zk X ops 0 ops.toList<->∃o,ops[j]? = some o/\cls X o.op=.w:=by
  intro j;rw[RF]
  constructor
  ·rintro⟨k,o,h1,rfl,h3⟩;simp only[adm] at h3;exact⟨o,by simpa using h1,Sy.1 h3.1⟩
  ·rintro⟨o,h1,h3⟩;exact⟨j,o,by simpa using h1,by omega,by simp[Sy.2 h3,IS]⟩
 have abV:∀j,kA X ops j->j∈U8 X 0 ops.toList:=by
  have:∀(l:List Oper) (i k:Nat) o,l[k]? = some o->cls X o.op=.a->i+k∈U8 X i l:=by
   intro l
   induction l with
   |nil=>intro i k o h;simp at h
   |cons x l ih =>
    intro i k o h hc;unfold U8
    cases k with
    |zero=>simp at h;subst h;rw[if_pos (Xu.2 hc)];exact aba ..
    |succ k =>
     have:=ih (i+1) k o (by simpa using h) hc;rw[show i+(k+1)=i+1+k by omega]
     split
     ·exact aab _ this
     ·exact this
  rintro j ⟨o,ho,hc⟩;have:=this ops.toList 0 j o (by simpa using ho) hc
  simpa using this
 have abW:=Nm (tr:=tr) (Zk X ops 0 ops.toList) fun j hj=>by
  obtain⟨o,ho,_⟩:=(NN j).1 hj;have:=(ajd.1 ho).1;omega
 unfold PY;rw[g1];simp only[abW];have GO:∀m,m=0\/(∃j,m=j+1/\j∈Zk X ops 0 ops.toList)->∀i,m<=i->kA X ops i->(Xe tr m).get (s.next+i)=none:=by
  rintro m (rfl|⟨j,rfl,hj⟩) i hi ⟨o,ho,hc⟩
  ·rw[Lm];have:=OX _ _ _ zU hn i o (by simpa using ho) (Xu.2 hc);rw[ajr] at this;exact this
  ·obtain⟨oj,hoj,hcj⟩:=(NN j).1 hj;have:=g3 j oj (by simpa using hoj) (Sy.2 hcj) i (by omega) o (by simpa using ho) (Xu.2 hc)
   simpa using this
 have hss:∀m s1,(m,s1)∈(0,({ s with next:=s.next+ops.size }:St))::((Zk X ops 0 ops.toList).map fun j=>(j+1,Xe tr (j+1)))->(m=0\/∃j,m=j+1/\j∈Zk X ops 0 ops.toList)/\s1=Xe tr m:=by
  intro m s1 hm;rcases ajo.1 hm with e|hm
  ·cases e;exact⟨.inl rfl,Lm.symm⟩
  ·obtain⟨j,hj,e⟩:=ajs.1 hm
   cases e
   exact⟨.inr ⟨j,rfl,hj⟩,rfl⟩
 have hnA:Ti X ops s.next ((0,({ s with next:=s.next+ops.size }:St))::((Zk X ops 0 ops.toList).map fun j=>(j+1,Xe tr (j+1))))=true:=Nl _ fun m s1 hm i hi hk=>by
  obtain⟨h1,rfl⟩:=hss m s1 hm;exact GO m h1 i hi hk
 have Ln:Uf X (Yo X) ops s.next (Zk X ops 0 ops.toList) (U8 X 0 ops.toList) ((0,({ s with next:=s.next+ops.size }:St))::((Zk X ops 0 ops.toList).map fun j=>(j+1,Xe tr (j+1)))) tr 0 ops.toList tr=true:=by
  refine KT _ _ _ fun i o es ho htr hw=>?_
  have VL:ops[i]? = some o:=by simpa using ho
  have hi:i<ops.size:=(ajd.1 VL).1;have hes:es=(To tr i,Xe tr i):=by simp[To,Xe,htr]
  subst hes;simp only at hw;rw[ajr];have zk:cls X o.op≠.a->∃v,YK X (Yo X) (To tr i) o.op (Xe tr i)=some (v,Xe tr (i+1)):=fun Zv=>by
   rcases Vz (ht.step i o VL) with⟨h1,_⟩|⟨_,v,_,⟨hc,_⟩|⟨_,h3⟩⟩
   ·rw[hw] at h1;cases h1
   ·exact absurd (Xu.1 hc) Zv
   ·exact⟨v,h3⟩
  have wS:cls X o.op=.r\/cls X o.op=.q->∃m,UW ops (Zk X ops 0 ops.toList) ((0,({ s with next:=s.next+ops.size }:St))::((Zk X ops 0 ops.toList).map fun j=>(j+1,Xe tr (j+1)))) i=[(m,Xe tr m)] /\
    Up ops s.next i m tr (U8 X 0 ops.toList) (Xe tr m)=Xe tr i:=by
   intro hk;have WY:=Xv i hi;rw[VL] at WY;simp only at WY;have j9:(U8 X 0 ops.toList).all (fun k=>!decide (k<i)||XG ops k i)=true/\(Zk X ops 0 ops.toList).all (fun k=>XG ops k i||XG ops i k)=true:=by
    rcases hk with hk|hk <;> rw[hk] at WY <;> simpa[Cn.dh] using WY
   obtain⟨ha,sY⟩:=j9;rw[ajq] at ha sY;have hab:∀k,k<i->kA X ops k->XG ops k i=true:=fun k GQ za=>by
    have:=ha k (abV k za)
    simpa[GQ] using this
   have qt:∀k∈Zk X ops 0 ops.toList,(XG ops k i=true<->k<i)/\(XG ops i k=true<->i<k):=by
    intro k wu;have:=sY k wu;simp only[akj] at this;rcases this with h1|h1
    ·have:=Ya.S7 i k h1;refine⟨⟨fun _=>this,fun _=>h1⟩,⟨fun h2=>?_,fun h2=>by omega⟩⟩;have:=Ya.S7 k i h2;omega
    ·have:=Ya.S7 k i h1;refine⟨⟨fun h2=>?_,fun h2=>by omega⟩,⟨fun _=>this,fun _=>h1⟩⟩;have:=Ya.S7 i k h2;omega
   have Zv:∀k∈Zk X ops 0 ops.toList,k≠i:=fun k wu e=>by
    obtain⟨o2,KI,zl⟩:=(NN k).1 wu;rw[e,VL] at KI;cases KI;rcases hk with hk|hk <;> rw[hk] at zl <;> cases zl
   have abX:Ys (fun j=>!XG ops i j) (Zk X ops 0 ops.toList)=Ys (fun j=>XG ops j i) (Zk X ops 0 ops.toList):=by
    refine Nat.le_antisymm (VA _ fun x hx h=>?_) (VA _ fun x hx h=>?_)
    ·have h1:XG ops i x=false:=by simpa using h
     refine ((qt x hx).1).2 (Nat.lt_of_not_le fun hle=>?_);have:=((qt x hx).2).2 (by have:=Zv x hx;omega);rw[h1] at this;cases this
    ·have h1:=((qt x hx).1).1 h;simp only[aj3]
     cases hb:XG ops i x with
     |false=>rfl
     |true=>have:=((qt x hx).2).1 hb;omega
   unfold UW;rw[abX];generalize hq:Ys (fun j=>XG ops j i) (Zk X ops 0 ops.toList)=q;have IQ:=List.pairwise_iff_getElem.1 (T0 (X:=X) (ops:=ops) ops.toList 0);have hql:q<=(Zk X ops 0 ops.toList).length:=by
    rw[<-hq];generalize Zk X ops 0 ops.toList=L
    induction L with
    |nil=>exact ajg _
    |cons x L ih=>simp only[Ys,ajk];split <;> omega
   have Nk:∀n (hn:n<(Zk X ops 0 ops.toList).length),(n<q<->(Zk X ops 0 ops.toList)[n]<i):=by
    obtain⟨p,uO,r9,dJ⟩:∃p,p<=(Zk X ops 0 ops.toList).length/\(∀n (hn:n<(Zk X ops 0 ops.toList).length),n<p->(Zk X ops 0 ops.toList)[n]<i)/\(∀n (hn:n<(Zk X ops 0 ops.toList).length),p<=n->¬(Zk X ops 0 ops.toList)[n]<i):=by
     rcases Jx (fun n=>∃hn:n<(Zk X ops 0 ops.toList).length,(Zk X ops 0 ops.toList)[n]<i) (Zk X ops 0 ops.toList).length with h|⟨n0,h1,⟨h2,h3⟩,h4⟩
     ·exact⟨0,aji _,fun n _ hn=>by omega,fun n hn _ YH=>h n hn ⟨hn,YH⟩⟩
     ·refine⟨n0+1,h1,fun n hn YH=>?_,fun n hn hle YH=>h4 n (by omega) hn ⟨hn,YH⟩⟩;by_cases e:n=n0
      ·subst e;exact h3
      ·have:=IQ n n0 hn h2 (by omega);omega
    have p_:p=q:=by
     rw[<-hq];refine (Vp _ p uO (fun x hx=>?_) (fun x hx=>?_)).symm
     ·obtain⟨n,hn,rfl⟩:=ajw.1 hx;rw[List.getElem_take];have tU:n<p/\n<(Zk X ops 0 ops.toList).length:=by rw[aj2] at hn;omega
      exact ((qt _ (ajc tU.2)).1).2 (r9 n tU.2 tU.1)
     ·obtain⟨n,hn,rfl⟩:=ajw.1 hx;rw[List.getElem_drop];rw[List.length_drop] at hn;have:=dJ (p+n) (by omega) (by omega)
      cases hb:XG ops (Zk X ops 0 ops.toList)[p+n] i with
      |false=>rfl
      |true=>exact absurd (((qt _ (ajc (by omega))).1).1 hb) this
    subst p_;exact fun n hn=>⟨r9 n hn,fun YH=>Nat.lt_of_not_le fun hle=>dJ n hn hle YH⟩
   have fin:∀m,(m=0\/∃j,m=j+1/\j∈Zk X ops 0 ops.toList)->m<=i->(∀k∈Zk X ops 0 ops.toList,k<i->k<m) ->
     Up ops s.next i m tr (U8 X 0 ops.toList) (Xe tr m)=Xe tr i:=fun m hm zi hwm =>
    Ec ht k1 Ya hi zi (fun k ok h1 h2 abY hc=>by
     have:=hwm k ((NN k).2 ⟨ok,abY,hc⟩) h2;omega) hab (fun k h1 h2=>GO m hm k h1 h2)
   cases q with
   |zero =>
    refine⟨0,by simp[Lm],fin 0 (.inl rfl) (aji _) fun k wu GQ=>?_⟩;obtain⟨n,hn,rfl⟩:=ajw.1 wu;have:=(Nk n hn).2 GQ;omega
   |succ q =>
    have hqn:q<(Zk X ops 0 ops.toList).length:=by omega
    have hqi:=(Nk q hqn).1 (by omega);refine⟨(Zk X ops 0 ops.toList)[q]+1,?_,fin _ (.inr ⟨_,rfl,ajc _⟩) (by omega) fun k wu GQ=>?_⟩
    ·rw[List.drop_take];rw[show q+1+1-(q+1)=1 by omega,List.drop_succ_cons,abc (by simpa using hqn)];simp
    ·obtain⟨n,hn,rfl⟩:=ajw.1 wu;have hnq:=(Nk n hn).2 GQ;by_cases e:n=q
     ·subst e;omega
     ·have:=IQ n q hn hqn (by omega);omega
  refine⟨fun hk=>?_,fun hk=>?_⟩
  ·obtain⟨v,hv⟩:=zk (by rw[hk];simp);obtain⟨m,ze,eH⟩:=wS (.inl hk);refine⟨v,_,hv,?_⟩;rw[ze];simp only[Xa,eH,hv,Q7,Bool.and_self]
  ·obtain⟨v,hv⟩:=zk (by rw[hk];simp);obtain⟨m,ze,eH⟩:=wS (.inr hk);obtain⟨_,c,vs,us,e1,e2,e3,_⟩:=FD hk hv;refine⟨c,vs,us,e1,e2,e3,?_⟩;rw[ze];simp only[TR,eH,e3,WW,Bool.and_self]
 rw[OV eb];simp only[Pn,Ln,hnA,Bool.and_self,if_true];exact g2
theorem Nj {b:Env->St->Fl}{r:Out×Env×St}:∀(n:Nat) (e:Env) (s:St),TO b n e s=some r->∀m,n<=m->TO b m e s=some r
 |0,e,s,h,m,_=>by simp[TO] at h
 |n+1,e,s,h,m,hm=>by
  obtain⟨k,rfl⟩:∃k,m=k+1:=⟨m-1,by omega⟩;simp only[TO] at h ⊢
  split at h
  ·exact Nj n _ _ h k (by omega)
  ·exact h
theorem UE {b:Env->St->Fl}{e:Env}{s:St}{r:Out×Env×St}:NS b e s=some r<->∃n,TO b n e s=some r:=by
 unfold NS
 constructor
 ·intro h
  split at h
  ·rename_i hx
   cases h
   exact Classical.choose_spec hx
  ·cases h
 ·rintro⟨n,hn⟩;have hx:∃r n,TO b n e s=some r:=⟨r,n,hn⟩;rw[dif_pos hx];obtain⟨n',tU⟩:=Classical.choose_spec hx;have h1:=Nj n e s hn (max n n') (Nat.le_max_left ..);have h2:=Nj n' e s tU (max n n') (Nat.le_max_right ..);rw[h1] at h2;exact congrArg some (Option.some.inj h2).symm
theorem mK (b:Env->St->Fl)(e:Env)(s:St):NS b e s=match b e s with
  |some (.norm,e,s)=>NS b e s
  |r=>r:=by
 cases hb:b e s with
 |none =>
  cases h:NS b e s with
  |none=>rfl
  |some r =>
   obtain⟨n,hn⟩:=UE.1 h
   cases n with
   |zero=>simp[TO] at hn
   |succ n=>simp only[TO,hb] at hn;cases hn
 |some x =>
  obtain⟨o,e1,s1⟩:=x
  cases o with
  |norm =>
   simp only
   cases h:NS b e1 s1 with
   |some r =>
    obtain⟨n,hn⟩:=UE.1 h;exact UE.2 ⟨n+1,by simp only[TO,hb];exact hn⟩
   |none =>
    cases h':NS b e s with
    |none=>rfl
    |some r =>
     obtain⟨n,hn⟩:=UE.1 h'
     cases n with
     |zero=>simp[TO] at hn
     |succ n =>
      simp only[TO,hb] at hn;rw[UE.2 ⟨n,hn⟩] at h;cases h
  |exit i=>exact UE.2 ⟨1,by simp only[TO,hb]⟩
  |ret=>exact UE.2 ⟨1,by simp only[TO,hb]⟩
theorem qR:∀(c:Code) (e:Env) (s:St) (r:Out×Env×St),den X (rc X c) e s=some r->Yo X c e s=some r:=by
 intro c
 induction c with
 |skip=>intro e s r h;simp only[rc,den] at h;rw[VN];exact h
 |label l=>intro e s r h;simp only[rc,den] at h;rw[VN];exact h
 |exit i=>intro e s r h;simp only[rc,den] at h;rw[VN];exact h
 |ret=>intro e s r h;simp only[rc,den] at h;rw[VN];exact h
 |region id ops d =>
  intro e s r h;simp only[rc] at h
  split at h
  ·rename_i hd
   split at h
   ·rename_i hc;simp only[adm] at hc
    split at h
    ·rename_i l hl;simp only[den] at h
     split at h
     ·rename_i hn
      split at h
      ·rename_i e1 s1 h1
       cases h
       rw[VN];simp only[Xj,hd,if_true,jS hl hc.1 hc.2 hn h1]
      ·cases h
     ·cases h
    ·exact h
   ·exact h
  ·rename_i hd
   split at h
   ·rename_i l hl;simp only[den] at h
    split at h
    ·rename_i e1 s1 h1
     cases h
     rw[VN];simp only[Xj,if_neg hd,KU _ _ _ _ _ hl h1]
    ·cases h
   ·exact h
 |seq a b iha ihb =>
  intro e s r h;simp only[rc,den] at h;rw[VN];simp only[Xj]
  split at h
  ·rename_i e1 s1 h1;rw[iha _ _ _ h1];exact ihb _ _ _ h
  ·rename_i Zv;rw[iha _ _ _ h];obtain⟨o,e1,s1⟩:=r
   cases o with
   |norm=>exact absurd h (Zv _ _)
   |_=>rfl
 |cond c a b iha ihb =>
  intro e s r h;simp only[rc] at h
  split at h
  ·rename_i x hx;simp only[den] at h;rw[VN];simp only[Xj,Zd hx e]
   split at h
   ·rename_i p hp;rw[hp]
    cases p
    ·exact ihb _ _ _ h
    ·exact iha _ _ _ h
   ·cases h
  ·exact h
 |block id b ih =>
  intro e s r h;simp only[rc,den] at h;rw[VN];simp only[Xj]
  split at h
  ·rename_i i e1 s1 h1;rw[ih _ _ _ h1];exact h
  ·rename_i Zv;rw[ih _ _ _ h];obtain⟨o,e1,s1⟩:=r
   cases o with
   |exit i=>exact absurd h (Zv _ _ _)
   |_=>rfl
 |loop b ih =>
  intro e s r h;simp only[rc,den] at h;obtain⟨n,hn⟩:=UE.1 h;clear h
  induction n generalizing e s with
  |zero=>simp[TO] at hn
  |succ n ihn =>
   simp only[TO] at hn;rw[VN];simp only[Xj]
   split at hn
   ·rename_i e1 s1 h1;rw[ih _ _ _ h1];exact ihn _ _ hn
   ·rename_i Zv;rw[ih _ _ _ hn];obtain⟨o,e1,s1⟩:=r
    cases o with
    |norm=>exact absurd hn (Zv _ _)
    |_=>rfl
 |scope b ih =>
  intro e s r h;simp only[rc] at h;rw[VN];simp only[Xj];exact ih _ _ _ h
 |rangeFunc f ps a b _ _=>intro e s r h;simpa only[rc,den] using h
 |goto l=>intro e s r h;simpa only[rc,den] using h
 |refuse w=>intro e s r h;simpa only[rc,den] using h
end
end Go.Am
