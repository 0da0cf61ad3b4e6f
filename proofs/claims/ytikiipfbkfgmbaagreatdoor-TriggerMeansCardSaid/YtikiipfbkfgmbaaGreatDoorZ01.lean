/- A part of the proof of a statement of this seat: the machine on which the program is read, and what it computes; for every input. -/
import Derived.Test.YtikiipfbkfgmbaaGreatDoorZ00
set_option linter.all false
namespace Go.Am
open Go
section
variable [Stat]
variable {X:Cx}{P:Program}
theorem yi (hX:Full X P)(hD:Cr X P){ex:Ex}(hE:LC X P ex):LC X P (Xc X ex):=by
 intro c e s out e' s' h r n0 a w σ X5 I
 cases c with
 |loop b =>
  simp only[Xc] at h;have ux:∀a':Act,a'.tmps.size=a.tmps.size->nV X r a'.tmps.size b:=fun a' eW=>by
   obtain⟨n,h1,h2,h3⟩:=X5;exact⟨n,by rw[eW];exact h1,by simpa[HK] using h2,fun h=>by simpa[Qh] using h3 h⟩
  have akf:∀a':Act,a'.tmps.size=a.tmps.size->nV X r a'.tmps.size (.loop b):=fun a' eW=>by rw[eW];exact X5
  show P6 (FW r) 0 P b _ a w;refine ym ?_
  split at h
  ·rename_i e1 s1 h1;refine wpIn_mono (hE _ _ _ _ _ _ h1 r n0 a w σ (ux a rfl) I).wpIn ?_;rintro en a1 w1 ⟨hx,HZ,g1,i1,QK⟩
   cases en <;> simp only[QX] at hx
   have:=hE _ _ _ _ _ _ h r n0 a1 w1 HZ (akf a1 QK) i1;have h2:P6 (FW r) 0 P b (ZB X HZ s1 w1 n0 a1 out e' s') a1 w1:=this;show P6 (FW r) 0 P b _ a1 w1;intro b' k cs UK hb hr;obtain⟨e2,a2,w2,⟨hq1,hq2⟩,N2⟩:=h2 b' k cs UK hb hr;exact⟨e2,a2,w2,⟨hq1,hq2.trans g1 QK⟩,N2⟩
  ·rename_i ZC;refine wpIn_mono (hE _ _ _ _ _ _ h r n0 a w σ (ux a rfl) I).wpIn ?_;rintro en a1 w1 ⟨hx,hA⟩
   cases out with
   |norm=>exact absurd h (ZC _ _)
   |exit i=>cases en <;> simp only[QX] at hx;exact⟨hx,hA⟩
   |ret=>cases en <;> simp only[QX] at hx;exact⟨hx,hA⟩
 |skip =>
  simp only[Xc] at h;cases h;exact wpIn_skip ⟨trivial,Ro.refl I⟩
 |label l =>
  simp only[Xc] at h;cases h;exact wpIn_label ⟨trivial,Ro.refl I⟩
 |exit i =>
  simp only[Xc] at h;cases h;exact wpIn_exit ⟨rfl,Ro.refl I⟩
 |ret =>
  simp only[Xc] at h;cases h;exact wpIn_ret ⟨trivial,Ro.refl I⟩
 |region id ops d =>
  have AE:∀o∈ops.toList,Jj a.tmps.size o.dst:=by
   obtain⟨n,h1,h2,_⟩:=X5;simp only[HK,agw,alK] at h2;intro o ho t ht;have:=h2.1 o ho;rw[ht] at this;simp only[decide_eq_true_eq] at this;exact Nat.lt_of_lt_of_le this h1
  simp only[Xc] at h
  cases d with
  |false =>
   simp only[ali,if_false] at h
   split at h
   ·rename_i e1 s1 h1
    cases h
    show Code.wpIn _ _ _ _ _ _ _;refine wpIn_region ?_;rw[List.range_eq_range'];exact L2 hX hE ops.size 0 e s a w σ (by omega) (by simpa using h1) AE I fun a' w' hA=>⟨trivial,hA⟩
   ·cases h
  |true =>
   simp only[if_true] at h
   split at h
   ·rename_i e1 s1 h1
    cases h
    show Code.wpIn _ _ _ _ _ _ _;refine wpIn_region_draw fun t=>?_
    obtain⟨n,_,h2,_⟩:=X5;simp only[HK,agw,ama,amf] at h2;have I':Inv X σ s { w with drawn:=w.drawn+1 } n0 e a:=⟨I.hr.of_heap rfl,I.fresh,I.glob,I.env,I.df,I.n0⟩;have akg:Region.schedule (P.follows .mixedOrders) ops t=Region.linearise .any ops t:=by
     unfold Region.schedule;rw[hX.mixed];simp
    rw[akg];refine hD ex hE r ops e _ s _ a _ σ n0 t _ h1 h2.2 AE I' ?_;rintro a' w' ⟨Yx,g,i',hs⟩;refine⟨trivial,Yx,?_,i',hs⟩;exact Good.mE (w:=w) g
   ·cases h
 |seq x y =>
  have agD:nV X r a.tmps.size x:=by
   obtain⟨n,h1,h2,h3⟩:=X5;simp only[HK,agw] at h2;exact⟨n,h1,h2.1,fun h=>by have:=h3 h;simp only[Qh,agw] at this;exact this.1⟩
  have akh:∀m,m=a.tmps.size->nV X r m y:=by
   rintro m rfl;obtain⟨n,h1,h2,h3⟩:=X5;simp only[HK,agw] at h2;exact⟨n,h1,h2.2,fun h=>by have:=h3 h;simp only[Qh,agw] at this;exact this.2⟩
  simp only[Xc] at h;show Code.wpIn _ _ _ _ _ _ _;refine wpIn_seq ?_
  split at h
  ·rename_i e1 s1 h1;refine wpIn_mono (hE _ _ _ _ _ _ h1 r n0 a w σ agD I).wpIn ?_;rintro en a1 w1 ⟨hx,HZ,g1,i1,QK⟩
   cases en <;> simp only[QX] at hx
   refine wpIn_mono (hE _ _ _ _ _ _ h r n0 a1 w1 HZ (akh _ QK) i1).wpIn ?_;rintro sn a2 w2 ⟨hq1,hq2⟩;exact⟨hq1,hq2.trans g1 QK⟩
  ·rename_i ZC;refine wpIn_mono (hE _ _ _ _ _ _ h r n0 a w σ agD I).wpIn ?_;rintro en a1 w1 ⟨hx,hA⟩
   cases out with
   |norm=>exact absurd h (ZC _ _)
   |exit i=>cases en <;> simp only[QX] at hx;exact⟨hx,hA⟩
   |ret=>cases en <;> simp only[QX] at hx;exact⟨hx,hA⟩
 |cond c x y =>
  have agE:nV X r a.tmps.size x/\nV X r a.tmps.size y:=by
   obtain⟨n,h1,h2,h3⟩:=X5;simp only[HK,agw] at h2;exact⟨⟨n,h1,h2.1,fun h=>by have:=h3 h;simp only[Qh,agw] at this;exact this.1⟩,
    ⟨n,h1,h2.2,fun h=>by have:=h3 h;simp only[Qh,agw] at this;exact this.2⟩⟩
  simp only[Xc] at h;show Code.wpIn _ _ _ _ _ _ _
  split at h
  ·rename_i hc;have:=WU (T_ I.glob I.env hc);exact wpIn_cond_true (by rw[Tp];exact this) (hE _ _ _ _ _ _ h r n0 a w σ agE.1 I).wpIn
  ·rename_i hc;have:=WU (T_ I.glob I.env hc);exact wpIn_cond_false (by rw[Tp];exact this) (hE _ _ _ _ _ _ h r n0 a w σ agE.2 I).wpIn
  ·cases h
 |block id b =>
  have ux:nV X r a.tmps.size b:=by
   obtain⟨n,h1,h2,h3⟩:=X5;exact⟨n,h1,by simpa[HK] using h2,fun h=>by simpa[Qh] using h3 h⟩
  simp only[Xc] at h;show Code.wpIn _ _ _ _ _ _ _;refine wpIn_block ?_
  split at h
  ·rename_i i e1 s1 h1;refine wpIn_mono (hE _ _ _ _ _ _ h1 r n0 a w σ ux I).wpIn ?_;rintro en a1 w1 ⟨hx,hA⟩
   cases en <;> simp only[QX] at hx
   subst hx
   split at h
   ·rename_i bE
    cases h
    simp only[Exit.inBlock,bE,if_true];exact⟨trivial,hA⟩
   ·rename_i bE
    cases h
    simp only[Exit.inBlock,bE,if_false];exact⟨rfl,hA⟩
  ·rename_i ZC;refine wpIn_mono (hE _ _ _ _ _ _ h r n0 a w σ ux I).wpIn ?_;rintro en a1 w1 ⟨hx,hA⟩
   cases out with
   |norm=>cases en <;> simp only[QX] at hx;exact⟨trivial,hA⟩
   |exit i=>exact absurd h (ZC _ _ _)
   |ret=>cases en <;> simp only[QX] at hx;exact⟨trivial,hA⟩
 |scope b =>
  have ux:nV X r a.tmps.size b:=by
   obtain⟨n,h1,h2,h3⟩:=X5;exact⟨n,h1,by simpa[HK] using h2,fun h=>by simpa[Qh] using h3 h⟩
  simp only[Xc] at h;show Code.wpIn _ _ _ _ _ _ _;refine uy (wpIn_mono (hE _ _ _ _ _ _ h r n0 a w σ ux I).wpIn ?_);rintro en a1 w1 ⟨hx,hA⟩
  cases en with
  |goto l=>cases out <;> simp only[QX] at hx
  |_=>exact⟨hx,hA⟩
 |rangeFunc g ps assign body =>
  show Code.wpIn _ _ _ _ _ _ _
  cases r with
  |none=>exact Ih hX hE h I X5
  |some l =>
   obtain⟨n,_,_,h3⟩:=X5;have:=h3 rfl;simp[Qh] at this
 |_=>simp only[Xc] at h;cases h
theorem Fs (hX:Full X P)(hD:Cr X P):∀n,LC X P (exec X n)
 |0=>by intro c e s out e' s' h;simp[exec] at h
 |n+1=>yi hX hD (Fs hX hD n)
theorem rr (hX:Full X P)(hD:Cr X P){n:Nat}{f:FuncId}(Lx:X.ext f=none){args:List AV}{s s':St}{v:AV}(h:run X n f args s=some (v,s')){σ:Sg}{w:World}{us:Array Value}
  (H:HR σ s w)(F:Tn σ s)(G:WD X σ)(hv:ZZ σ args us.toList):Calls P f us w fun en w'=>∃u Yx,en=.returned u/\ZY Yx v u/\Good σ s w Yx s' w' :=
 (N6 hX (Fs hX hD n) Lx h H F G hv).2
end
end Go.Am
namespace Go.Am
open Go
section
variable [Stat]
variable {X:Cx}
theorem Vu {v:Option AV}{r:AV}(h:v=some r)(t:St):Zm v t=some (r,t):=by subst h;rfl
def DJ (X:Cx)(ex:Ex)(e:Env)(o:Op):Prop:=∀s v s',YI X ex e o s=some (v,s')->s'=s/\∀t,YI X ex e o t=some (v,t)
theorem JR (f:Operand)(args:Array Operand)(D8:Array TypeId)(k:Bd)(h1:k≠.q)(h2:k≠.w):cls X (.call { callee:=.value f,args:=args,argTypes:=D8 })≠k:=by
 intro h
 cases f <;> simp only[cls] at h <;> first
  |exact h2 h.symm
  |(split at h <;> first|exact h1 h.symm|exact h2 h.symm)
theorem DH {ex:Ex}{e:Env}{o:Op}(f:Option AV)(h:∀s,YI X ex e o s=Zm f s):DJ X ex e o:=by
 intro s v s' hs;rw[h] at hs;obtain⟨h1,rfl⟩:=Zo hs;exact⟨rfl,fun t=>by rw[h];exact Vu h1 t⟩
theorem mX {ex:Ex}{e:Env}{o:Op}(hc:cls X o=.p):DJ X ex e o:=by
 cases o <;> simp only[cls] at hc <;> try (cases hc;done)
 case move x=>exact DH _ fun s=>rfl
 case assign x=>exact DH _ fun s=>rfl
 case pick c a b =>
  intro s v s' h;simp only[YI] at h ⊢
  split at h
  ·obtain⟨h1,rfl⟩:=Zo h;exact⟨rfl,fun t=>Vu h1 t⟩
  ·obtain⟨h1,rfl⟩:=Zo h;exact⟨rfl,fun t=>Vu h1 t⟩
  ·cases h
 case build t ps =>
  intro s v s' h;simp only[YI] at h ⊢
  split at h
  ·obtain⟨h1,rfl⟩:=Zo h;exact⟨rfl,fun t=>Vu h1 t⟩
  ·cases h
 case nilCheck x =>
  intro s v s' h;simp only[YI] at h ⊢
  split at h <;> first|(cases h;exact⟨rfl,fun _=>rfl⟩)|cases h
 case binOp op t x y yt =>
  intro s v s' h;simp only[YI] at h ⊢
  split at h
  ·obtain⟨h1,rfl⟩:=Zo h;exact⟨rfl,fun t=>Vu h1 t⟩
  ·cases h
 case unOp op t x =>
  intro s v s' h;simp only[YI] at h ⊢
  split at h
  ·obtain⟨h1,rfl⟩:=Zo h;exact⟨rfl,fun t=>Vu h1 t⟩
  ·cases h
 case convert src dst x =>
  intro s v s' h;simp only[YI] at h ⊢
  split at h
  ·rename_i a ha;unfold RP at h ⊢
   split at h
   ·cases h;exact⟨rfl,fun _=>rfl⟩
   ·cases h;exact⟨rfl,fun _=>rfl⟩
   ·cases h;exact⟨rfl,fun _=>rfl⟩
   ·rename_i d1 e' b _ h1 h2;rw[h1,h2] at hc
    cases e' <;> cases hc
   ·rename_i e' h1 h2 _ _;rw[h1,h2] at hc
    cases hc
   ·cases h
  ·cases h
 case makeInterface t x =>
  intro s v s' h;simp only[YI] at h ⊢
  split at h
  ·split at h
   ·cases h
   ·cases h;exact⟨rfl,fun _=>rfl⟩
   ·cases h
  ·cases h
 case makeFunc f a b =>
  intro s v s' h;simp only[YI] at h ⊢
  split at h
  ·split at h
   ·cases h;exact⟨rfl,fun _=>rfl⟩
   ·cases h
  ·cases h
 case slice t x lo hi mx =>
  intro s v s' h;simp only[YI] at h ⊢
  split at h
  ·obtain⟨h1,rfl⟩:=Zo h;exact⟨rfl,fun t=>Vu h1 t⟩
  ·cases h
 case fieldAddr t x f =>
  intro s v s' h;simp only[YI] at h ⊢
  split at h
  ·obtain⟨h1,rfl⟩:=Zo h;exact⟨rfl,fun t=>Vu h1 t⟩
  ·cases h
 case field t x f =>
  intro s v s' h;simp only[YI] at h ⊢
  split at h
  ·split at h
   ·obtain⟨h1,rfl⟩:=Zo h;exact⟨rfl,fun t=>Vu h1 t⟩
   ·cases h
  ·cases h
 case indexAddr t x i =>
  intro s v s' h;simp only[YI] at h ⊢
  split at h
  ·obtain⟨h1,rfl⟩:=Zo h;exact⟨rfl,fun t=>Vu h1 t⟩
  ·cases h
 case index t x i =>
  intro s v s' h;simp only[YI] at h ⊢
  split at h
  ·obtain⟨h1,rfl⟩:=Zo h;exact⟨rfl,fun t=>Vu h1 t⟩
  ·cases h
 case extract t i =>
  intro s v s' h;simp only[YI] at h ⊢
  split at h
  ·obtain⟨h1,rfl⟩:=Zo h;exact⟨rfl,fun t=>Vu h1 t⟩
  ·cases h
 case call c =>
  obtain⟨callee,args,D8⟩:=c
  cases callee with
  |value f=>exact absurd hc (JR (X:=X) f args D8 .p (by simp) (by simp))
  |invoke _ _=>cases hc
  |builtin b =>
  simp only at hc;intro s v s' h;simp only[YI] at h ⊢
  split at h
  ·rename_i vs SI
   cases b <;> simp only at hc <;> try (cases hc;done)
   all_goals
    unfold Yj at h ⊢
    split at h <;> first
     |(cases h;done)
     |(rename_i heq;cases heq;done)
     |skip
   all_goals
    split at h <;> first
     |(cases h;exact⟨rfl,fun _=>rfl⟩)
     |(cases h;done)
     |skip
  ·cases h
theorem mW {ex:Ex}{e:Env}{o:Op}(hc:cls X o=.r){s s':St}{v:AV}(h:YI X ex e o s=some (v,s')):s'=s:=by
 cases o <;> simp only[cls] at hc <;> try (cases hc;done)
 case convert src dst x =>
  simp only[YI] at h
  split at h
  ·rename_i a ha
   cases h1:X.Zd src with
   |none=>unfold RP at h;rw[h1] at h;simp at h
   |some d1 =>
    cases h2:X.Zd dst with
    |none=>rw[h1,h2] at hc;cases d1 <;> simp at hc
    |some d2 =>
     rw[h1,h2] at hc;unfold RP at h;rw[h1,h2] at h
     cases d1 <;> cases d2 <;> simp at hc
     cases a <;> (try simp only at h) <;> first
      |(cases h;rfl)
      |(split at h <;> first
        |(cases h;done)
        |(cases h;rfl)
        |(split at h <;> first
          |(cases h;done)
          |(cases h;rfl)
          |(split at h <;> first
            |(cases h;done)
            |(split at h <;> first
              |(cases h;done)
              |(cases h;rfl)))))
  ·cases h
 case load t a =>
  simp only[YI] at h
  split at h
  ·exact (Zo h).2
  ·cases h
 case lookup t m k ok =>
  simp only[YI] at h
  split at h
  ·exact (Zo h).2
  ·cases h
 case call c =>
  obtain⟨callee,args,D8⟩:=c
  cases callee with
  |value f=>exact absurd hc (JR (X:=X) f args D8 .r (by simp) (by simp))
  |invoke _ _=>cases hc
  |builtin b =>
  simp only at hc;simp only[YI] at h
  split at h
  ·rename_i vs SI
   cases b <;> simp only at hc <;> try (cases hc;done)
   unfold Yj at h
   split at h <;> first
    |(rename_i heq;cases heq;done)
    |skip
   ·split at h
    ·split at h <;> first
      |(cases h;rfl)
      |(split at h <;> first|(cases h;rfl)|(cases h;done))
      |(cases h;done)
    ·cases h
   ·cases h
  ·cases h
theorem mZ {ex:Ex}{e:Env}{o:Op}(hc:cls X o=.a){s s':St}{v:AV}(h:YI X ex e o s=some (v,s')) :
  ∃b,b≠.gone/\s'=s.new b/\∀t:St,t.next=s.next->YI X ex e o t=some (v,t.new b):=by
 cases o <;> simp only[cls] at hc <;> try (cases hc;done)
 case convert src dst x =>
  simp only[YI] at h ⊢
  split at h
  ·rename_i a ha
   cases h1:X.Zd src with
   |none=>unfold RP at h;rw[h1] at h;simp at h
   |some d1 =>
    cases h2:X.Zd dst with
    |none=>rw[h1,h2] at hc;cases d1 <;> simp at hc
    |some d2 =>
     rw[h1,h2] at hc;unfold RP at h ⊢;rw[h1,h2] at h ⊢
     cases d2 <;> first|(cases d1 <;> simp at hc <;> done)|skip
     rename_i el
     cases a <;> first|(cases d1 <;> cases h <;> done)|skip
     rename_i b;simp only at h ⊢
     split at h
     ·cases h
      exact⟨_,by simp,rfl,fun t ht=>by rw[ht]⟩
     ·cases h
  ·cases h
 case alloc t =>
  simp only[YI] at h ⊢
  split at h
  ·cases h
   exact⟨_,by simp,rfl,fun t ht=>by simp only[Vt,ht]⟩
  ·cases h
 case box t x =>
  simp only[YI] at h ⊢
  split at h
  ·cases h
   exact⟨_,by simp,rfl,fun t ht=>by simp only[Vt,ht]⟩
  ·cases h
 case buildSlice t n ps =>
  simp only[YI] at h ⊢
  split at h
  ·unfold Ul at h ⊢
   split at h
   ·split at h
    ·split at h
     ·rename_i abm
      split at h
      ·cases h
       exact⟨_,by simp,rfl,fun t ht=>by simp only[if_pos abm,ht]⟩
      ·cases h
     ·cases h
    ·cases h
   ·cases h
  ·cases h
 case makeMap t r =>
  simp only[YI] at h ⊢
  split at h
  ·cases h
   exact⟨_,by simp,rfl,fun t ht=>by simp only[ht]⟩
  ·split at h
   ·cases h
    exact⟨_,by simp,rfl,fun t ht=>by simp only[ht]⟩
   ·cases h
 case makeSlice t l c =>
  simp only[YI] at h ⊢
  split at h
  ·split at h
   ·split at h
    ·rename_i abm
     cases h
     exact⟨_,by simp,rfl,fun t ht=>by simp only[if_pos abm,ht]⟩
    ·cases h
   ·cases h
  ·cases h
 case call c =>
  obtain⟨callee,args,D8⟩:=c
  cases callee with
  |value f=>exact absurd hc (JR (X:=X) f args D8 .a (by simp) (by simp))
  |invoke _ _=>cases hc
  |builtin b =>
  simp only at hc
  cases b <;> simp only at hc <;> cases hc
theorem D4 {ex:Ex}{e:Env}{o:Op}(hc:cls X o=.q){s s':St}{v:AV}(h:YI X ex e o s=some (v,s')) :
  s'=s/\∃c vs us,o=.call c/\Wk X e c.args.toList=some vs/\Vf X s vs=some us/\∀t,Vf X t vs=some us->YI X ex e o t=some (v,t):=by
 cases o <;> try (simp only[cls] at hc;done)
 case call c =>
  obtain⟨callee,args,D8⟩:=c
  cases callee with
  |invoke _ _=>simp only[cls] at hc;cases hc
  |builtin b=>cases b <;> simp only[cls] at hc <;> cases hc
  |value f =>
   cases f <;> try (simp only[cls] at hc;cases hc;done)
   rename_i g;simp only[cls] at hc
   split at hc
   ·rename_i hg;simp only[agw,amz] at hg;simp only[YI,eval] at h ⊢
    split at h
    ·rename_i f vs hf SI
     cases hf
     simp only[Gx,amg,alZ,Uk,hg.2,hg.1,if_true] at h ⊢;unfold Ox at h
     split at h
     ·rename_i us MC
      split at h
      ·rename_i v1 hq
       cases h
       refine⟨rfl,_,vs,us,rfl,SI,MC,fun t ht=>?_⟩;simp only[Ox,ht,hq]
      ·cases h
     ·cases h
    ·cases h
   ·cases hc
 all_goals
  exfalso;simp only[cls] at hc
  first
   |(cases hc;done)
   |(split at hc <;> cases hc)
theorem eval_congr {e e':Env}{x:Operand}(h:∀t,x=.tmp t->Env.get e t=Env.get e' t):eval X e x=eval X e' x:=by
 cases x <;> simp only[eval]
 rw[h _ rfl]
theorem Te {e e':Env}:∀{l:List Operand},(∀t,Operand.tmp t∈l->Env.get e t=Env.get e' t)->Wk X e l=Wk X e' l
 |[],_=>rfl
 |x::l,h=>by
  simp only[Wk];rw[eval_congr (fun t ht=>h t (by rw[ht];exact aba ..)),Te (fun t ht=>h t (aab _ ht))]
theorem SN {e e':Env}:∀{l:List (Nat×Operand)},(∀t,Operand.tmp t∈l.map (·.2)->Env.get e t=Env.get e' t)->VX X e l=VX X e' l
 |[],_=>rfl
 |(i,x)::l,h=>by
  simp only[VX];rw[eval_congr (fun t ht=>h t (by rw[ht];exact aba ..)),SN (fun t ht=>h t (aab _ ht))]
theorem Ow {e e':Env}{x:Option Operand}(h:∀t,x=some (.tmp t)->Env.get e t=Env.get e' t):Ov X e x=Ov X e' x:=by
 cases x with
 |none=>rfl
 |some x=>simp only[Ov];rw[eval_congr (fun t ht=>h t (by rw[ht]))]
theorem ry {ex:Ex}{e e':Env}{o:Op}{s:St}(h:∀t,Operand.tmp t∈o.operands.toList->Env.get e t=Env.get e' t):YI X ex e o s=YI X ex e' o s:=by
 cases o <;> simp only[YI] <;> simp only[Op.operands] at h
 case pick c a b =>
  have h1:=eval_congr (X:=X) (e:=e) (e':=e') (x:=c) (fun t ht=>h t (by simp[ht]));have h2:=eval_congr (X:=X) (e:=e) (e':=e') (x:=a) (fun t ht=>h t (by simp[ht]));have h3:=eval_congr (X:=X) (e:=e) (e':=e') (x:=b) (fun t ht=>h t (by simp[ht]));rw[h1,h2,h3]
 case build t ps =>
  have h1:=SN (X:=X) (e:=e) (e':=e') (l:=ps.toList) (fun t ht=>h t (by simpa using ht));rw[h1]
 case buildSlice t n ps =>
  have h1:=SN (X:=X) (e:=e) (e':=e') (l:=ps.toList) (fun t ht=>h t (by simpa using ht));rw[h1]
 case makeFunc f a b =>
  have h1:=Te (X:=X) (e:=e) (e':=e') (l:=a.toList) (fun t ht=>h t (by simp;exact .inl (by simpa using ht)));have h2:=Te (X:=X) (e:=e) (e':=e') (l:=b.toList) (fun t ht=>h t (by simp;exact .inr (by simpa using ht)));rw[h1,h2]
 case makeMap t r =>
  cases r with
  |none=>rfl
  |some x =>
   have h1:=eval_congr (X:=X) (e:=e) (e':=e') (x:=x) (fun t ht=>h t (by simp[ht]));simp only[h1]
 case slice t x lo hi mx =>
  have h1:=eval_congr (X:=X) (e:=e) (e':=e') (x:=x) (fun t ht=>h t (by simp[ht]));have h2:=Ow (X:=X) (e:=e) (e':=e') (x:=lo) (fun t ht=>h t (by simp[ht]));have h3:=Ow (X:=X) (e:=e) (e':=e') (x:=hi) (fun t ht=>h t (by simp[ht]));have h4:=Ow (X:=X) (e:=e) (e':=e') (x:=mx) (fun t ht=>h t (by simp[ht]));rw[h1,h2,h3,h4]
 case call c =>
  obtain⟨callee,args,D8⟩:=c;simp only[Call.operands] at h
  cases callee with
  |builtin b =>
   have h1:=Te (X:=X) (e:=e) (e':=e') (l:=args.toList) (fun t ht=>h t (by simpa using ht));simp only[h1]
  |value f =>
   have h1:=Te (X:=X) (e:=e) (e':=e') (l:=args.toList) (fun t ht=>h t (by simp;exact .inr (by simpa using ht)));have h2:=eval_congr (X:=X) (e:=e) (e':=e') (x:=f) (fun t ht=>h t (by simp[ht]));simp only[h1,h2]
  |invoke r m=>rfl
 case next it str =>
  cases str with
  |false=>rfl
  |true =>
   have h1:=eval_congr (X:=X) (e:=e) (e':=e') (x:=it) (fun t ht=>h t (by simp[ht]));simp only[YI,h1]
 case move x =>
  have h0:=eval_congr (X:=X) (e:=e) (e':=e') (x:=x) (fun t ht=>h t (by simp[ht]));rw[h0]
 case assign x =>
  have h0:=eval_congr (X:=X) (e:=e) (e':=e') (x:=x) (fun t ht=>h t (by simp[ht]));rw[h0]
 case box t x =>
  have h0:=eval_congr (X:=X) (e:=e) (e':=e') (x:=x) (fun t ht=>h t (by simp[ht]));rw[h0]
 case load t x =>
  have h0:=eval_congr (X:=X) (e:=e) (e':=e') (x:=x) (fun t ht=>h t (by simp[ht]));rw[h0]
 case nilCheck x =>
  have h0:=eval_congr (X:=X) (e:=e) (e':=e') (x:=x) (fun t ht=>h t (by simp[ht]));rw[h0]
 case unOp op t x =>
  have h0:=eval_congr (X:=X) (e:=e) (e':=e') (x:=x) (fun t ht=>h t (by simp[ht]));rw[h0]
 case convert a b x =>
  have h0:=eval_congr (X:=X) (e:=e) (e':=e') (x:=x) (fun t ht=>h t (by simp[ht]));rw[h0]
 case makeInterface t x =>
  have h0:=eval_congr (X:=X) (e:=e) (e':=e') (x:=x) (fun t ht=>h t (by simp[ht]));rw[h0]
 case fieldAddr t x f =>
  have h0:=eval_congr (X:=X) (e:=e) (e':=e') (x:=x) (fun t ht=>h t (by simp[ht]));rw[h0]
 case field t x f =>
  have h0:=eval_congr (X:=X) (e:=e) (e':=e') (x:=x) (fun t ht=>h t (by simp[ht]));rw[h0]
 case range t x =>
  have h0:=eval_congr (X:=X) (e:=e) (e':=e') (x:=x) (fun t ht=>h t (by simp[ht]));rw[h0]
 case extract x i =>
  have h0:=eval_congr (X:=X) (e:=e) (e':=e') (x:=x) (fun t ht=>h t (by simp[ht]));rw[h0]
 case store t a x =>
  have h0:=eval_congr (X:=X) (e:=e) (e':=e') (x:=a) (fun t ht=>h t (by simp[ht]));have h1:=eval_congr (X:=X) (e:=e) (e':=e') (x:=x) (fun t ht=>h t (by simp[ht]));rw[h0,h1]
 case binOp op t x y yt =>
  have h0:=eval_congr (X:=X) (e:=e) (e':=e') (x:=x) (fun t ht=>h t (by simp[ht]));have h1:=eval_congr (X:=X) (e:=e) (e':=e') (x:=y) (fun t ht=>h t (by simp[ht]));rw[h0,h1]
 case makeSlice t l c =>
  have h0:=eval_congr (X:=X) (e:=e) (e':=e') (x:=l) (fun t ht=>h t (by simp[ht]));have h1:=eval_congr (X:=X) (e:=e) (e':=e') (x:=c) (fun t ht=>h t (by simp[ht]));rw[h0,h1]
 case indexAddr t x i =>
  have h0:=eval_congr (X:=X) (e:=e) (e':=e') (x:=x) (fun t ht=>h t (by simp[ht]));have h1:=eval_congr (X:=X) (e:=e) (e':=e') (x:=i) (fun t ht=>h t (by simp[ht]));rw[h0,h1]
 case index t x i =>
  have h0:=eval_congr (X:=X) (e:=e) (e':=e') (x:=x) (fun t ht=>h t (by simp[ht]));have h1:=eval_congr (X:=X) (e:=e) (e':=e') (x:=i) (fun t ht=>h t (by simp[ht]));rw[h0,h1]
 case lookup t m k ok =>
  have h0:=eval_congr (X:=X) (e:=e) (e':=e') (x:=m) (fun t ht=>h t (by simp[ht]));have h1:=eval_congr (X:=X) (e:=e) (e':=e') (x:=k) (fun t ht=>h t (by simp[ht]));rw[h0,h1]
 case mapUpdate t m k v =>
  have h0:=eval_congr (X:=X) (e:=e) (e':=e') (x:=m) (fun t ht=>h t (by simp[ht]));have h1:=eval_congr (X:=X) (e:=e) (e':=e') (x:=k) (fun t ht=>h t (by simp[ht]));have h2:=eval_congr (X:=X) (e:=e) (e':=e') (x:=v) (fun t ht=>h t (by simp[ht]));rw[h0,h1,h2]
 case insert t m k v =>
  have h0:=eval_congr (X:=X) (e:=e) (e':=e') (x:=m) (fun t ht=>h t (by simp[ht]));have h1:=eval_congr (X:=X) (e:=e) (e':=e') (x:=k) (fun t ht=>h t (by simp[ht]));have h2:=eval_congr (X:=X) (e:=e) (e':=e') (x:=v) (fun t ht=>h t (by simp[ht]));rw[h0,h1,h2]
end
end Go.Am
namespace Go.Am
open Go
section
variable [Stat]
theorem Pq (s:St)(i:Nat)(b:Uy)(h:s.look i=some b):b≠.gone:=by
 unfold St.look at h
 split at h
 ·cases h
 ·rename_i ZC;intro e;subst e;exact ZC h
def N9 (f:Nat->Option Uy)(n:Nat):St:={ t:=.nil,base:=f,next:=n }
theorem N8 {f:Nat->Option Uy}{n i:Nat}(h:∀b,f i=some b->b≠.gone):(N9 f n).look i=f i:=by
 unfold St.look St.get N9;simp only[Tr.get_nil]
 cases hf:f i with
 |none=>rfl
 |some b =>
  have:=h b hf
  cases b <;> first|rfl|exact absurd rfl this
theorem HR.sub {σ:Sg}{T R:St}{w:World}(H:HR σ T w)(h:∀i p b,σ i=some p->R.look i=some b->T.look i=some b):HR σ R w :=
 ⟨H.lt,fun i p b hp hb=>H.E1 i p b hp (h i p b hp hb),fun i j p q b c hp hq hb hc he=>H.inj i j p q b c hp hq (h i p b hp hb) (h j q c hq hc) he,fun c o hc=>⟨(H.fz c o hc).1,fun ⟨i,p,b,h1,h2,h3,h4⟩=>(H.fz c o hc).2 ⟨i,p,b,h1,h i p b h1 h2,h3,h4⟩⟩⟩
structure GD (Uo:Sg)(s0:St)(w0:World)(σ:Sg)(T:St)(w:World):Prop where
 hr:HR σ T w
 ext:Ext Uo s0 w0 σ T w
 Na:∀i,i<s0.next->σ i=Uo i
 next:s0.next<=T.next
 fresh:Tn σ T
 dead:∀i,i<s0.next->s0.look i=none->T.look i=none
 news:∀i p,σ i=some p->Uo i=none->w0.heap.size<=p.b\/Qr Uo s0 p.b
open Classical in
noncomputable def mix (σ:Sg)(T R R':St):St :=
 N9 (fun i=>if i<R.next/\(σ i=none\/R.look i=none) then T.look i else R'.look i) R'.next
theorem FT (σ:Sg)(T R R':St):(mix σ T R R').next=R'.next:=rfl
open Classical in
theorem P9 (σ:Sg)(T R R':St)(i:Nat):(mix σ T R R').look i=if i<R.next/\(σ i=none\/R.look i=none) then T.look i else R'.look i:=by
 unfold mix;rw[N8];intro b hb
 split at hb <;> exact Pq _ _ _ hb
theorem frame {Uo σ Yx:Sg}{s0 T R R':St}{w0 w w':World}(g:GD Uo s0 w0 σ T w)(U2:∀i p b,σ i=some p->R.look i=some b->T.look i=some b)(hn:R.next=T.next)(k:Good σ R w Yx R' w') :
  GD Uo s0 w0 Yx (mix σ T R R') w':=by
 have Mm:∀i p b,σ i=some p->T.look i=some b->R.look i=none->¬Qr σ R p.b:=by
  rintro i p b hp hb hr ⟨j,q,c,hq,hc,_,he⟩;have:=g.hr.inj j i q p c b hq hp (U2 j q c hq hc) hb he;subst this;rw[hr] at hc;cases hc
 have SQ:∀c,Qr σ R c->Qr σ T c:=fun c ⟨j,q,b,hq,hb,ho,he⟩=>⟨j,q,b,hq,U2 j q b hq hb,ho,he⟩
 have PX:∀i,σ i=none\/i<R.next:=fun i=>by
  by_cases h:i<R.next
  ·exact .inr h
  ·exact .inl (g.fresh i (by omega))
 have FR:∀i p b,Yx i=some p->(mix σ T R R').look i=some b->(σ i=some p/\T.look i=some b/\R.look i=none)\/(R'.look i=some b/\(σ i=none\/∃c,R.look i=some c)):=by
  intro i p b hp hb;rw[P9] at hb
  split at hb
  ·rename_i hc;rcases hc.2 with h|h
   ·have:=k.Na i (.inl hc.1);rw[h] at this;rw[this] at hp;cases hp
   ·have:=k.Na i (.inl hc.1);rw[this] at hp;exact .inl ⟨hp,hb,h⟩
  ·rename_i hc;refine .inr ⟨hb,?_⟩;rcases PX i with h|h
   ·exact .inl h
   ·cases hr:R.look i with
    |none=>exact absurd ⟨h,.inr hr⟩ hc
    |some c=>exact .inr ⟨c,rfl⟩
 have le:∀i p,σ i=some p->Yx i=some p:=k.ext.le.p;have old:∀i p q,σ i=some p->Yx i=some q->p=q:=fun i p q h1 h2=>by rw[le i p h1] at h2;exact Option.some.inj h2
 refine⟨⟨k.hr.lt,?_,?_,?_⟩,?_,?_,?_,?_,?_,?_⟩
 ·
  intro i p b hp hb;rcases FR i p b hp hb with⟨h1,h2,h3⟩|⟨h1,_⟩
  ·obtain⟨o,ho,xG⟩:=g.hr.E1 i p b h1 h2;refine⟨o,?_,xG.mono k.ext.le⟩;rw[k.ext.keep p.b (g.hr.lt i p h1) (Mm i p b h1 h2 h3)];exact ho
  ·exact k.hr.E1 i p b hp h1
 ·
  intro i j p q b c hp hq hb hc he;have key:∀i j p q b c,σ i=some p->T.look i=some b->R.look i=none->Yx j=some q->(σ j=none\/∃c,R.look j=some c)->R'.look j=some c->p.b=q.b->False:=by
   intro i j p q b c h1 h2 h3 h4 h5 h6 he
   cases hj:σ j with
   |some q' =>
    have:=old j q' q hj h4;subst this;rcases h5 with h5|⟨c0,h5⟩
    ·rw[h5] at hj;cases hj
    ·have:=g.hr.inj i j p q' b c0 h1 hj h2 (U2 j q' c0 hj h5) he;subst this;rw[h3] at h5;cases h5
   |none =>
    rcases k.news j q h4 hj with h7|h7
    ·have:=g.hr.lt i p h1;omega
    ·rw[<-he] at h7;exact Mm i p b h1 h2 h3 h7
  rcases FR i p b hp hb with⟨h1,h2,h3⟩|⟨h1,h2⟩ <;> rcases FR j q c hq hc with⟨k1,k2,k3⟩|⟨k1,k2⟩
  ·exact g.hr.inj i j p q b c h1 k1 h2 k2 he
  ·exact (key i j p q b c h1 h2 h3 hq k2 k1 he).elim
  ·exact (key j i q p c b k1 k2 k3 hp h2 h1 he.symm).elim
  ·exact k.hr.inj i j p q b c hp hq h1 k1 he
 ·
  intro c o hc;refine⟨(k.hr.fz c o hc).1,?_⟩;rintro⟨i,p,b,hp,hb,ho,rfl⟩;rcases FR i p b hp hb with⟨h1,h2,_⟩|⟨h1,_⟩
  ·rcases k.ext.tI _ o hc with h3|h3
   ·exact (g.hr.fz _ o h3).2 ⟨i,p,b,h1,h2,ho,rfl⟩
   ·have:=g.hr.lt i p h1;omega
  ·exact (k.hr.fz _ o hc).2 ⟨i,p,b,hp,h1,ho,rfl⟩
 ·
  refine g.ext.trans ⟨k.ext.le,k.ext.tI,k.ext.size,fun c hc SX=>k.ext.keep c hc (fun h=>SX (SQ c h)),?_,k.ext.os,k.ext.tape,k.ext.output⟩;rintro c hc ⟨i,p,b,hp,hb,ho,he⟩;rcases FR i p b hp hb with⟨h1,h2,_⟩|⟨h1,_⟩
  ·exact⟨i,p,b,h1,h2,ho,he⟩
  ·exact SQ c (k.ext.owns c hc ⟨i,p,b,hp,h1,ho,he⟩)
 ·intro i hi;rw[k.Na i (.inl (by have:=g.next;omega)),g.Na i hi]
 ·rw[FT];have:=g.next;have:=k.next;omega
 ·intro i hi;rw[FT] at hi;have h1:=k.next;rw[k.Na i (.inr hi)];exact g.fresh i (by omega)
 ·intro i hi hl;have hT:=g.dead i hi hl;rw[P9]
  split
  ·exact hT
  ·rename_i hc;have Yh:i<R.next:=by have:=g.next;omega
   cases hs:σ i with
   |none=>exact absurd ⟨Yh,.inl hs⟩ hc
   |some p =>
    cases hr:R.look i with
    |none=>exact absurd ⟨Yh,.inr hr⟩ hc
    |some b=>rw[U2 i p b hs hr] at hT;cases hT
 ·intro i p hp EO
  cases hs:σ i with
  |none =>
   rcases k.news i p hp hs with h|h
   ·exact .inl (amA g.ext.size h)
   ·by_cases hb:p.b<w0.heap.size
    ·exact .inr (g.ext.owns _ hb (SQ _ h))
    ·exact .inl (by omega)
  |some q =>
   have:=old i q p hs hp;subst this;exact g.news i q hs EO
theorem GD.TU {Uo σ Yx:Sg}{s0 T:St}{w0 w w':World}(g:GD Uo s0 w0 σ T w){id:Nat}{b:Uy}(hb:b≠.gone)(h1:s0.next<=id)(h2:id<T.next)(k:Good σ { T with next:=id } w Yx (St.new { T with next:=id } b) w') :
  GD Uo s0 w0 Yx (N9 (fun i=>if i=id then some b else T.look i) T.next) w':=by
 have hl:∀i,(St.new { T with next:=id } b).look i=(N9 (fun i=>if i=id then some b else T.look i) T.next).look i:=by
  intro i;rw[St.UJ _ _ _ hb,N8]
  ·by_cases h:i=id
   ·subst h;simp
   ·rw[if_neg h,if_neg (fun e=>h e.symm)];rfl
  ·intro c hc
   split at hc
   ·cases hc;exact hb
   ·exact Pq _ _ _ hc
 have hT:∀i,St.look { T with next:=id } i=T.look i:=fun i=>rfl
 have hO:∀c,Qr σ { T with next:=id } c<->Qr σ T c:=fun c=>Iff.rfl
 have hk:=k.hr.congr hl;have hoe:∀c,Qr Yx (N9 (fun i=>if i=id then some b else T.look i) T.next) c->Qr Yx (St.new { T with next:=id } b) c:=fun c ⟨i,p,d,e1,e2,e3,e4⟩=>⟨i,p,d,e1,by rw[hl];exact e2,e3,e4⟩
 have kn:(St.new { T with next:=id } b).next=id+1:=rfl;refine⟨hk,g.ext.trans ⟨k.ext.le,k.ext.tI,k.ext.size,fun c hc SX=>k.ext.keep c hc SX,fun c hc ho=>k.ext.owns c hc (hoe c ho),k.ext.os,k.ext.tape,k.ext.output⟩,?_,g.next,?_,?_,?_⟩
 ·intro i hi;rw[k.Na i (.inl (show i<id by omega)),g.Na i hi]
 ·intro i hi;have hi:T.next<=i:=hi;rw[k.Na i (.inr (by rw[kn];omega))];exact g.fresh i hi
 ·intro i hi ek;rw[<-hl,St.UJ _ _ _ hb,if_neg (by show ¬id=i;omega)];exact g.dead i hi ek
 ·intro i p hp EO
  cases hs:σ i with
  |none =>
   rcases k.news i p hp hs with h|h
   ·exact .inl (amA g.ext.size h)
   ·by_cases hb:p.b<w0.heap.size
    ·exact .inr (g.ext.owns _ hb h)
    ·exact .inl (by omega)
  |some q =>
   have:=k.ext.le.p i q hs;rw[hp] at this;cases this;exact g.news i _ hs EO
theorem GD.good {Uo σ:Sg}{s0 T S:St}{w0 w:World}(g:GD Uo s0 w0 σ T w)(h:∀i p,σ i=some p->T.look i=S.look i)(hd:∀i,i<s0.next->s0.look i=none->S.look i=none)(hn:S.next=T.next)(hb:S.base=s0.base)(hf:Tn Uo s0):Good Uo s0 w0 σ S w where
 hr:=g.hr.sub fun i p b hp hb=>by rw[h i p hp];exact hb
 ext:=⟨g.ext.le,g.ext.tI,g.ext.size,g.ext.keep,fun c hc ⟨i,p,b,h1,h2,h3,h4⟩=>g.ext.owns c hc ⟨i,p,b,h1,by rw[h i p h1];exact h2,h3,h4⟩,g.ext.os,g.ext.tape,g.ext.output⟩
 Na:=fun i hi=>by
  rcases hi with hi|hi
  ·exact g.Na i hi
  ·rw[g.fresh i (by omega),hf i (by have:=g.next;omega)]
 next:=by rw[hn];exact g.next
 dead:=hd
 news:=g.news
 glob:=hb
end
end Go.Am
namespace Go.Am
open Go
def NV (c:Nat->Nat)(es:List Edge)(s0:Nat):Nat:=es.foldl (fun s e=>if Region.binds .any e then s ||| 2^e.on ||| c e.on else s) s0
theorem Kp (c:Nat->Nat):∀(es:List Edge) (s0 i:Nat),(NV c es s0).testBit i=true->s0.testBit i=true\/∃e∈es,Region.binds .any e=true/\(i=e.on\/(c e.on).testBit i=true)
 |[],s0,i,h=>.inl h
 |e::es,s0,i,h=>by
  unfold NV at h;rw[List.foldl_cons] at h;rcases Kp c es _ i h with h1|⟨e',hm,hb,hr⟩
  ·by_cases hb:Region.binds .any e=true
   ·rw[if_pos hb] at h1;simp only[Nat.testBit_or,amE] at h1;rcases h1 with (h1|h1)|h1
    ·exact .inl h1
    ·rw[Nat.testBit_two_pow] at h1;exact .inr ⟨e,aba ..,hb,.inl (by simpa using h1:e.on=i).symm⟩
    ·exact .inr ⟨e,aba ..,hb,.inr h1⟩
   ·rw[if_neg hb] at h1;exact .inl h1
  ·exact .inr ⟨e',aab _ hm,hb,hr⟩
def Nf (acc:Array Nat)(o:Oper):Array Nat:=acc.push (NV (fun k=>acc.getD k 0) o.after.toList 0)
def Ko (l:List Oper):Array Nat:=l.foldl Nf #[]
theorem oB (ops:Array Oper):Region.before ops=Ko ops.toList:=by
 unfold Region.before Ko;rw[<-Array.foldl_toList]
 congr 1
 funext acc o
 unfold Nf NV;rw[<-Array.foldl_toList]
theorem Jq (l:List Oper)(o:Oper):Ko (l++[o])=Nf (Ko l) o:=by
 unfold Ko;rw[List.foldl_append];rfl
theorem gH {α:Type}{p:List α->Prop}(h0:p [])(h1:∀l x,p l->p (l++[x]))(l:List α):p l:=by
 have:∀r:List α,p r.reverse:=by
  intro r
  induction r with
  |nil=>exact h0
  |cons x r ih=>rw[List.reverse_cons];exact h1 _ _ ih
 have:=this l.reverse
 rwa [List.reverse_reverse] at this
theorem CT (l:List Oper):(Ko l).size=l.length:=by
 induction l using gH with
 |h0=>rfl
 |h1 l x ih=>rw[Jq];simp[Nf,ih]
theorem gG (l:List Oper):∀(j i:Nat),((Ko l).getD j 0).testBit i=true->∃o,l[j]? = some o/\∃e∈o.after.toList,Region.binds .any e=true/\(i=e.on\/(e.on<j/\((Ko l).getD e.on 0).testBit i=true)):=by
 induction l using gH with
 |h0=>intro j i h;simp[Ko] at h
 |h1 l x ih =>
  intro j i h;have VY:=CT l;have R_:∀k,k<l.length->(Ko (l++[x])).getD k 0=(Ko l).getD k 0:=by
   intro k hk;rw[Jq];unfold Nf;simp only[al3];rw[amh,if_neg (by omega)]
  rcases Nat.lt_trichotomy j l.length with hj|hj|hj
  ·rw[R_ j hj] at h;obtain⟨o,h1,e,h2,h3,h4⟩:=ih j i h;refine⟨o,by rw[al0 hj];exact h1,e,h2,h3,?_⟩;rcases h4 with h4|⟨h4,h5⟩
   ·exact .inl h4
   ·exact .inr ⟨h4,by rw[R_ _ (by omega)];exact h5⟩
  ·subst hj;have hv:(Ko (l++[x])).getD l.length 0=NV (fun k=>(Ko l).getD k 0) x.after.toList 0:=by
    rw[Jq];unfold Nf;simp only[al3];rw[amh,if_pos VY.symm];rfl
   rw[hv] at h;rcases Kp _ _ _ _ h with h1|⟨e,h1,h2,h3⟩
   ·simp at h1
   ·refine⟨x,by simp,e,h1,h2,?_⟩;rcases h3 with h3|h3
    ·exact .inl h3
    ·have Yh:e.on<l.length:=by
      rw[<-VY];refine Nat.lt_of_not_le fun EH=>?_
      simp only[al3] at h3;rw[Array.getElem?_eq_none EH] at h3;simp at h3
     exact .inr ⟨Yh,by rw[R_ _ Yh];exact h3⟩
  ·have:(Ko (l++[x])).getD j 0=0:=by
    simp only[al3];rw[Array.getElem?_eq_none (by rw[CT];simp;omega)];rfl
   rw[this] at h;simp at h
theorem ya {ops:Array Oper}{i j:Nat}(h:Xy ops i j=true):∃o,ops[j]? = some o/\∃e∈o.after.toList,Region.binds .any e=true/\(i=e.on\/(e.on<j/\Xy ops i e.on=true)):=by
 unfold Xy at h ⊢;rw[oB] at h ⊢;obtain⟨o,h1,h2⟩:=gG _ _ _ h;exact⟨o,by simpa using h1,h2⟩
def xa (ops:Array Oper)(D:Nat->Bool):Prop:=∀j o,D j=true->ops[j]? = some o->∀e∈o.after.toList,Region.binds .any e=true->D e.on=true
theorem Fp {ops:Array Oper}{D:Nat->Bool}(hD:xa ops D):∀(j i:Nat),(D j=true\/∀o,ops[j]? = some o->∀e∈o.after.toList,Region.binds .any e=true->D e.on=true)->Xy ops i j=true->D i=true:=by
 intro j
 induction j using Nat.strongRecOn with
 |_ j ih =>
  intro i hj h;obtain⟨o,ho,e,he,hb,hr⟩:=ya h;have hde:D e.on=true:=by
   rcases hj with hj|hj
   ·exact hD j o hj ho e he hb
   ·exact hj o ho e he hb
  rcases hr with rfl|⟨h1,h2⟩
  ·exact hde
  ·exact ih _ h1 i (.inl hde) h2
def left (D:Nat->Bool):Nat->Nat
 |0=>0
 |n+1=>left D n+(if D n then 0 else 1)
theorem D3 {D:Nat->Bool}:∀{n:Nat},left D n=0->∀i,i<n->D i=true
 |0,_,i,hi=>by omega
 |n+1,h,i,hi=>by
  simp only[left] at h;by_cases e:i=n
  ·subst e;by_cases hd:D i=true
   ·exact hd
   ·rw[if_neg hd] at h;omega
  ·exact D3 (n:=n) (by omega) i (by omega)
theorem CS {D D':Nat->Bool}:∀{n:Nat},(∀i,i<n->D' i=D i)->left D' n=left D n
 |0,_=>rfl
 |n+1,h=>by simp only[left];rw[CS fun i hi=>h i (by omega),h n (by omega)]
theorem AA {D D':Nat->Bool}{j:Nat}(hj:D j=false)(wJ:D' j=true)(h:∀i,i≠j->D' i=D i):∀{n:Nat},j<n->left D' n+1=left D n
 |0,hn=>by omega
 |n+1,hn=>by
  simp only[left];by_cases e:j=n
  ·subst e;rw[CS fun i hi=>h i (by omega),hj,wJ];simp
  ·have:=AA hj wJ h (n:=n) (by omega);rw[h n (fun e'=>e e'.symm)];omega
mutual
theorem Gc:∀{a b:AV},same a b=true->a=b
 |a,b,h=>by
  cases a <;> cases b <;> simp only[same,agw,beq_iff_eq,decide_eq_true_eq,ali] at h <;> try (cases h;done)
  all_goals first
   |rfl
   |(subst h;rfl)
   |(obtain⟨rfl,rfl⟩:=h;rfl)
   |(obtain⟨⟨⟨⟨rfl,rfl⟩,rfl⟩,rfl⟩,rfl⟩:=h;rfl)
   |(obtain⟨⟨rfl,h1⟩,h2⟩:=h;rw[Ui h1,Ui h2])
   |(obtain⟨rfl,h1⟩:=h;rw[Gc h1])
   |(obtain⟨rfl,h1⟩:=h;rw[Ui h1])
   |(obtain⟨h1,h2⟩:=h;rw[Ui h1,Ui h2])
   |rw[Ui h]
theorem Ui:∀{a b:List AV},VU a b=true->a=b
 |[],[],_=>rfl
 |[],_::_,h=>by simp[VU] at h
 |_::_,[],h=>by simp[VU] at h
 |a::x,b::y,h=>by
  simp only[VU,agw] at h;rw[Gc h.1,Ui h.2]
end
end Go.Am
namespace Go.Am
open Go
section
variable [Stat]
variable {X:Cx}{ex:Ex}{ops:Array Oper}{base:Nat}
theorem U9 {i:Nat}{o:Oper}{e e':Env}{s s':St}(h:SF X ex ops base i o e s=some (e',s')) :
  (XQ ops e o=false/\e'=Yt e o.dst undef/\s'=s) \/
  (XQ ops e o=true/\∃v,e'=Yt e o.dst v/\(((cls X o.op).BY=true/\∃s1,YI X ex e o.op { s with next:=base+i }=some (v,s1)/\s'={ s1 with next:=s.next }) \/
   ((cls X o.op).BY=false/\YI X ex e o.op s=some (v,s')))):=by
 unfold SF at h
 split at h
 ·rename_i hw;refine .inr ⟨hw,?_⟩
  split at h
  ·rename_i hc
   split at h
   ·rename_i v s1 h1
    cases h
    exact⟨v,rfl,.inl ⟨by rw[hc];rfl,s1,h1,rfl⟩⟩
   ·cases h
  ·rename_i hc
   split at h
   ·rename_i v s1 h1
    cases h
    refine⟨v,rfl,.inr ⟨?_,h1⟩⟩
    cases hk:cls X o.op <;> first|rfl|exact absurd hk hc
   ·cases h
 ·rename_i hw
  cases h
  exact .inl ⟨by simpa using hw,rfl,rfl⟩
def kA (X:Cx)(ops:Array Oper)(i:Nat):Prop:=∃o,ops[i]? = some o/\cls X o.op=.a
def kW (X:Cx)(ops:Array Oper)(i:Nat):Prop:=∃o,ops[i]? = some o/\cls X o.op=.w/\late X ops i=false
def kS (X:Cx)(ops:Array Oper)(i:Nat):Prop:=late X ops i=true
def lb (X:Cx)(ops:Array Oper)(E:Nat->Env)(i:Nat):Option Nat:=match ops[i]? with|some o=>Tz X (E i) o.op|none=>none
theorem Vg {X:Cx}{ops:Array Oper}{i:Nat}(h:kS X ops i):∃o,ops[i]? = some o/\Ty o.op=true/\o.guard=none/\cls X o.op=.w/\∀k ok,k≠i->ops[k]? = some ok->Xy ops k i=true\/late X ops k=true\/cls X ok.op=.p\/cls X ok.op=.a:=by
 unfold kS late at h;simp only[agw] at h;obtain⟨h1,h2⟩:=h
 split at h2
 ·rename_i o ho;have h3:=h1;unfold Nu at h3;simp only[agw,alK] at h3;have hs:∀(l:List Oper) (j k:Nat) (o':Oper),l[k]? = some o'->Ty o'.op=true->j+k∈qz j l:=by
   intro l
   induction l with
   |nil=>intro j k o' hk;simp at hk
   |cons x l ih =>
    intro j k o' hk Xz;unfold qz
    cases k with
    |zero=>simp at hk;subst hk;simp[Xz]
    |succ k =>
     have:=ih (j+1) k o' (by simpa using hk) Xz;rw[show j+(k+1)=j+1+k by omega]
     split
     ·exact aab _ this
     ·exact this
  have h4:=h3.2 i (by simpa using hs ops.toList 0 i o (by simpa using ho) h2);unfold lD at h4;rw[ho] at h4;simp only[agw,alK,amE,beq_iff_eq,al4,amz] at h4;obtain⟨⟨_,h5⟩,h6⟩:=h4;refine⟨o,ho,h2,h5,?_,fun k ok hk X5=>?_⟩
  ·cases xI:o.op <;> rw[xI] at h2 <;> simp only[Ty] at h2 <;> first|rfl|cases h2
  ·have:=h6 k (agz.1 X5).1;rw[X5] at this;rcases this with (h7|h7)|h7
   ·exact absurd h7 hk
   ·exact .inl h7
   ·rcases Bool.or_eq_true_iff.1 h7 with h8|h8
    ·refine .inr (.inl ?_);unfold late;rw[h1,X5];simpa using h8
    ·cases hc:cls X ok.op <;> rw[hc] at h8 <;> simp at h8 <;> simp
 ·cases h2
theorem Ly {X:Cx}{ops:Array Oper}{i:Nat}(h:kW X ops i):¬kS X ops i:=fun k=>by
 obtain⟨_,_,_,h3⟩:=h;rw[show late X ops i=true from k] at h3;cases h3
theorem uu {X:Cx}{ex:Ex}{e:Env}{o:Op}(hs:Ty o=true){b:Nat}(hb:Tz X e o=some b){s s':St}{v:AV}(h:YI X ex e o s=some (v,s')) :
  ∃k k',s.look b=some k/\k'≠.gone/\s'=s.put b k'/\∀t:St,t.get b=s.get b->YI X ex e o t=some (v,t.put b k'):=by
 cases o <;> simp only[Ty] at hs <;> try (cases hs;done)
 rename_i t a x;simp only[Tz] at hb
 split at hb
 ·rename_i b' o' ha
  cases hb
  simp only[YI,ha] at h ⊢
  split at h
  ·rename_i a1 v1 h1 hv
   cases h1
   obtain⟨h2,rfl⟩:=Po h;unfold Md at h2;simp only at h2
   split at h2
   ·rename_i n hn
    split at h2
    ·rename_i hlen;subst hlen;unfold Xi at h2
     split at h2
     ·rename_i c e OM PF hg
      split at h2
      ·rename_i hc
       split at h2
       ·rename_i c' hl
        cases h2
        refine⟨_,.cells c' e false OM PF,St.X4 hg (by simp),by simp,rfl,fun t ht=>?_⟩;simp only[Md,hn,if_true,Xi,ht,hg,hc,hl,OA]
       ·cases h2
      ·cases h2
     ·cases h2
    ·cases h2
   ·cases h2
  ·cases h
 ·cases hb
theorem Xp {c:Bd}:c.BY=true<->c=.a:=by cases c <;> simp[Bd.BY]
theorem Rb {c:Bd}:c.qA=true<->c=.w:=by cases c <;> simp[Bd.qA]
theorem yb {i:Nat}{o:Oper}{e e':Env}{s s':St}(h:SF X ex ops base i o e s=some (e',s'))(hw:cls X o.op≠.w) :
  s'.next=s.next/\s'.base=s.base/\∀id,(cls X o.op=.a->id≠base+i)->s'.look id=s.look id:=by
 rcases U9 h with⟨_,_,rfl⟩|⟨_,v,_,⟨hc,s1,h1,rfl⟩|⟨hc,h1⟩⟩
 ·exact⟨rfl,rfl,fun _ _=>rfl⟩
 ·have hc:=Xp.1 hc;obtain⟨b,hb,rfl,_⟩:=mZ hc h1;refine⟨rfl,rfl,fun id bE=>?_⟩;have ZC:=bE hc;show (St.new { s with next:=base+i } b).look id=_;rw[St.UJ _ _ _ hb,if_neg (fun e=>ZC e.symm)];rfl
 ·cases hk:cls X o.op with
  |a=>rw[hk] at hc;cases hc
  |w=>exact absurd hk hw
  |p=>obtain⟨rfl,_⟩:=mX hk _ _ _ h1;exact⟨rfl,rfl,fun _ _=>rfl⟩
  |r=>obtain rfl:=mW hk h1;exact⟨rfl,rfl,fun _ _=>rfl⟩
  |q=>obtain⟨rfl,_⟩:=D4 hk h1;exact⟨rfl,rfl,fun _ _=>rfl⟩
theorem JF {e:Env}{d:Option Tmp}{v:AV}{t:Tmp}(h:d≠some t):Env.get (Yt e d v) t=Env.get e t:=by
 cases d with
 |none=>rfl
 |some d =>
  show Env.get (Tr.set e d v) t=_;rw[Env.Sz,if_neg (fun e=>h (by rw[e]))]
theorem IT {e:Env}{t:Tmp}{v:AV}:Env.get (Yt e (some t) v) t=v:=by
 show Env.get (Tr.set e t v) t=_;rw[Env.Sz,if_pos rfl]
structure EP (X:Cx)(ex:Ex)(ops:Array Oper)(base:Nat)(E:Nat->Env)(S:Nat->St):Prop where
 step:∀i o,ops[i]? = some o->SF X ex ops base i o (E i) (S i)=some (E (i+1),S (i+1))
variable {E:Nat->Env}{S:Nat->St}
theorem EP.ig (h:EP X ex ops base E S){i:Nat}{o:Oper}(ho:ops[i]? = some o):∃v,E (i+1)=Yt (E i) o.dst v:=by
 rcases U9 (h.step i o ho) with⟨_,h1,_⟩|⟨_,v,h1,_⟩
 ·exact⟨_,h1⟩
 ·exact⟨_,h1⟩
theorem EP.Ga (h:EP X ex ops base E S)(t:Tmp)(a:Nat):∀d,(∀i o,a<=i->i<a+d->ops[i]? = some o->o.dst≠some t)->a+d<=ops.size->Env.get (E (a+d)) t=Env.get (E a) t
 |0,_,_=>rfl
 |d+1,hn,hs=>by
  have hi:a+d<ops.size:=by omega
  obtain⟨v,hv⟩:=h.ig (al8 hi);rw[show a+(d+1)=a+d+1 from rfl,hv,JF (hn _ _ (by omega) (by omega) (al8 hi))];exact h.Ga t a d (fun i o h1 h2 h3=>hn i o h1 (by omega) h3) (by omega)
structure Cu (X:Cx)(ops:Array Oper)(base:Nat)(E:Nat->Env):Prop where
 some:∀i,kS X ops i->∃b,lb X ops E i=some b/\(b<base\/base+ops.size<=b)
 ne:∀i j,kS X ops i->kS X ops j->i≠j->lb X ops E i≠lb X ops E j
theorem EP.J_ (h:EP X ex ops base E S){i:Nat}{o:Oper}(ho:ops[i]? = some o)(hk:kS X ops i){b:Nat}(hb:lb X ops E i=some b) :
  ∃k k' v,(S i).look b=some k/\k'≠.gone/\S (i+1)=(S i).put b k'/\E (i+1)=Yt (E i) o.dst v/\∀t:St,t.get b=(S i).get b->YI X ex (E i) o.op t=some (v,t.put b k'):=by
 obtain⟨o',Vo,hs,hg,hc,_⟩:=Vg hk;rw[ho] at Vo;cases Vo;have TQ:Tz X (E i) o.op=some b:=by unfold lb at hb;rw[ho] at hb;exact hb
 rcases U9 (h.step i o ho) with⟨h1,_⟩|⟨_,v,h2,⟨Iu,_⟩|⟨_,h3⟩⟩
 ·simp[XQ,hg] at h1
 ·rw[hc] at Iu;cases Iu
 ·obtain⟨k,k',h4,h5,h6,h7⟩:=uu hs TQ h3;exact⟨k,k',v,h4,h5,h6,h2,h7⟩
theorem EP.between (h:EP X ex ops base E S)(hL:Cu X ops base E)(m:Nat):∀d,m+d<=ops.size->(∀i,m<=i->i<m+d->¬kW X ops i) ->
  (S (m+d)).next=(S m).next/\(S (m+d)).base=(S m).base /\
   (∀id,(∀i,m<=i->i<m+d->kA X ops i->id≠base+i)->(∀i,m<=i->i<m+d->kS X ops i->lb X ops E i≠some id)->(S (m+d)).look id=(S m).look id) /\
   (∀i,m<=i->i<m+d->kA X ops i->(S (m+d)).look (base+i)=(S (i+1)).look (base+i)) /\
   ∀i b,m<=i->i<m+d->kS X ops i->lb X ops E i=some b->(S (m+d)).look b=(S (i+1)).look b
 |0,_,_=>⟨rfl,rfl,fun _ _ _=>rfl,fun i h1 h2=>by omega,fun i b h1 h2=>by omega⟩
 |d+1,hs,hw=>by
  have hi:m+d<ops.size:=by omega
  have ho:=al8 hi;obtain⟨k1,k2,k3,k4,k5⟩:=h.between hL m d (by omega) (fun i a b=>hw i a (by omega));rw[show m+(d+1)=m+d+1 from rfl];by_cases hk:kS X ops (m+d)
  ·obtain⟨b,hb,Bp⟩:=hL.some _ hk;obtain⟨k,k',v,g1,g2,g3,_,_⟩:=h.J_ ho hk hb;have SH:∀id,id≠b->(S (m+d+1)).look id=(S (m+d)).look id:=fun id ZC=>by
    rw[g3,St.Xe,if_neg (fun e=>ZC e.symm)]
   refine⟨by rw[g3,<-k1];rfl,by rw[g3,<-k2];rfl,fun id h1 h2=>?_,fun i a c ha=>?_,fun i b' a c BN TQ=>?_⟩
   ·rw[SH id (fun e=>h2 (m+d) (by omega) (by omega) hk (by rw[hb,e]))];exact k3 id (fun i a c=>h1 i a (by omega)) (fun i a c=>h2 i a (by omega))
   ·by_cases e:i=m+d
    ·subst e;rfl
    ·rw[SH _ (by omega)];exact k4 i a (by omega) ha
   ·by_cases e:i=m+d
    ·subst e;rfl
    ·rw[SH _ (fun e'=>hL.ne i (m+d) BN hk e (by rw[TQ,hb,e']))];exact k5 i b' a (by omega) BN TQ
  ·obtain⟨g1,g2,g3⟩:=yb (h.step _ _ ho) (fun hc=>hw (m+d) (by omega) (by omega) ⟨_,ho,hc,by
    cases hl:late X ops (m+d) with
    |false=>rfl
    |true=>exact absurd hl hk⟩)
   refine⟨by rw[g1,k1],by rw[g2,k2],fun id h1 h2=>?_,fun i a c ha=>?_,fun i b' a c BN TQ=>?_⟩
   ·rw[g3 id (fun hc=>h1 _ (by omega) (by omega) ⟨_,ho,hc⟩)];exact k3 id (fun i a c=>h1 i a (by omega)) (fun i a c=>h2 i a (by omega))
   ·by_cases e:i=m+d
    ·subst e;rfl
    ·rw[g3 _ (fun _=>by omega)];exact k4 i a (by omega) ha
   ·have ZC:i≠m+d:=fun e=>hk (e ▸ BN)
    obtain⟨b2,VP,Bp⟩:=hL.some _ BN;rw[TQ] at VP;cases VP;rw[g3 _ (fun _=>by omega)];exact k5 i b' a (by omega) BN TQ
theorem Od {x y:Oper}(h:BX ops x y=true) :
  (∀d,x.dst=some d->d∉MY ops y)/\(∀d,x.dst=some d->y.dst≠some d)/\(∀d,y.dst=some d->d∉MY ops x):=by
 refine⟨fun d hd=>?_,fun d hd=>?_,fun d hd=>?_⟩ <;> simp[BX,hd] at h
 ·exact h.1.1
 ·exact h.1.2
 ·exact h.2
structure Ok (X:Cx)(ops:Array Oper):Prop where
 edge:∀(j:Nat) o,ops[j]? = some o->∀e∈o.after.toList,Region.binds .any e=true->e.on<j
 pair:∀(i j:Nat) oi oj,i<j->ops[i]? = some oi->ops[j]? = some oj->Xy ops i j=true \/
  (BX ops oi oj=true/\¬(kA X ops i/\kW X ops j)/\¬(kW X ops i/\kW X ops j)/\¬(kS X ops i/\kW X ops j)/\¬(kW X ops i/\kS X ops j))
theorem w_ (h:Xw X ops=true):Ok X ops:=by
 unfold Xw at h;rw[alK] at h;refine⟨fun j o ho e he hb=>?_,fun i j oi oj H_ hi hj=>?_⟩
 ·have Yh:=(agz.1 ho).1;have:=h j (al4.2 Yh);rw[ho] at this;simp only[agw,alK] at this;have:=this.1.1 e he;rw[hb] at this
  simpa using this
 ·have Yh:=(agz.1 hj).1;have:=h j (al4.2 Yh);rw[hj] at this;simp only[agw,alK] at this;have:=this.2 i (al4.2 H_);rw[hi] at this;simp only[lC,amE,agw] at this;rcases this with h1|⟨h1,h2⟩
  ·exact .inl h1
  ·have cw:∀{k ok},ops[k]? = some ok->kW X ops k->cls X ok.op=.w/\late X ops k=false:=fun ho ⟨o',Vo,hc,hl⟩=>by rw[ho] at Vo;cases Vo;exact⟨hc,hl⟩
   have cs:∀{k ok},ops[k]? = some ok->kS X ops k->cls X ok.op=.w/\late X ops k=true:=fun ho hk=>by
    obtain⟨o',Vo,_,_,hc,_⟩:=Vg hk;rw[ho] at Vo;cases Vo;exact⟨hc,hk⟩
   have ca:∀{k ok},ops[k]? = some ok->kA X ops k->cls X ok.op=.a:=fun ho ⟨o',Vo,hc⟩=>by rw[ho] at Vo;cases Vo;exact hc
   refine .inr ⟨h1,fun ⟨a,b⟩=>?_,fun ⟨a,b⟩=>?_,fun ⟨a,b⟩=>?_,fun ⟨a,b⟩=>?_⟩
   ·rw[ca hi a,(cw hj b).1] at h2;simp only[(cw hj b).2] at h2;cases h2
   ·rw[(cw hi a).1,(cw hj b).1] at h2;simp only[(cw hi a).2] at h2;cases h2
   ·rw[(cs hi a).1,(cw hj b).1] at h2;simp only[(cw hj b).2,Bool.and_false] at h2;cases h2
   ·rw[(cw hi a).1,(cs hj b).1] at h2;simp only[(cw hi a).2,amq] at h2;cases h2
theorem Ok.RZ (h:Ok X ops):∀(j i:Nat),Xy ops i j=true->i<j:=by
 intro j
 induction j using Nat.strongRecOn with
 |_ j ih =>
  intro i hb;obtain⟨o,ho,e,he,rq,hr⟩:=ya hb;have:=h.edge j o ho e he rq;rcases hr with rfl|⟨h1,h2⟩
  ·exact this
  ·exact Nat.lt_trans (ih _ h1 i h2) h1
structure HI (X:Cx)(ops:Array Oper)(E:Nat->Env)(S:Nat->St)(Uo:Sg)(s0:St)(w0:World)(D:Nat->Bool)(m:Nat)(σ:Sg)(T:St)(w:World):Prop where
 gd:GD Uo s0 w0 σ T w
 mN:m<=ops.size
 EL:∀i,kW X ops i->(D i=true<->i<m)
 mw:m=0\/∃j,m=j+1/\kW X ops j
 t1:∀id,σ id≠none->(∀i,m<=i->D i=true->kA X ops i->id≠s0.next+i)->(∀i,D i=true->kS X ops i->lb X ops E i≠some id)->T.look id=(S m).look id
 t2:∀i,m<=i->D i=true->kA X ops i->σ (s0.next+i)≠none->T.look (s0.next+i)=(S (i+1)).look (s0.next+i)
 t3:T.next=(S m).next
 t4:∀i b,D i=true->kS X ops i->lb X ops E i=some b->σ b≠none->T.look b=(S (i+1)).look b
 u:∀i,kA X ops i->D i=false->σ (s0.next+i)=none
 D1:∀i,i<s0.next->s0.look i=none->(S m).look i=none
 Az:(S m).base=s0.base
 C':s0.next+ops.size<=(S m).next
structure Ct (ops:Array Oper)(D:Nat->Bool)(j:Nat)(o:Oper):Prop where
 closed:xa ops D
 op:ops[j]? = some o
 no:D j=false
 deps:∀e∈o.after.toList,Region.binds .any e=true->D e.on=true
theorem Ct.Xy {D:Nat->Bool}{j:Nat}{o:Oper}(h:Ct ops D j o){i:Nat}(hb:Xy ops i j=true):D i=true :=
 Fp h.closed j i (.inr fun o' Vo=>by rw[h.op] at Vo;cases Vo;exact h.deps) hb
theorem Ct.J0 {D:Nat->Bool}{j:Nat}{o:Oper}(h:Ct ops D j o){i:Nat}(hi:D i=true):Am.Xy ops j i=false:=by
 cases hb:Am.Xy ops j i with
 |false=>rfl
 |true =>
  have:=Fp h.closed i j (.inl hi) hb;rw[h.no] at this;cases this
variable {Uo:Sg}{s0:St}{w0:World}{D D':Nat->Bool}{m:Nat}{σ Yx:Sg}{T:St}{w w':World}
def Adds (D D':Nat->Bool)(j:Nat):Prop:=D' j=true/\∀i,i≠j->D' i=D i
theorem Adds.of {D D':Nat->Bool}{j:Nat}(h:Adds D D' j){i:Nat}(hi:D' i=true):i=j\/D i=true:=by
 by_cases e:i=j
 ·exact .inl e
 ·rw[h.2 i e] at hi;exact .inr hi
theorem Adds.false {D D':Nat->Bool}{j:Nat}(h:Adds D D' j){i:Nat}(hi:D' i=false):D i=false:=by
 by_cases e:i=j
 ·subst e;rw[h.1] at hi;cases hi
 ·rw[h.2 i e] at hi;exact hi
theorem Ct.Cs {D:Nat->Bool}{j:Nat}{o:Oper}(hr:Ct ops D j o)(hp:cls X o.op≠.p)(ha:cls X o.op≠.a)(hl:late X ops j=false):∀i,D i=true->¬kS X ops i:=by
 intro i hi hk;obtain⟨oi,E5,_,_,_,h⟩:=Vg hk;have ZC:j≠i:=fun e=>by
  rw[e] at hl;rw[show late X ops i=true from hk] at hl;cases hl
 rcases h j o ZC hr.op with hb|hb|hb|hb
 ·rw[hr.J0 hi] at hb;cases hb
 ·rw[hl] at hb;cases hb
 ·exact hp hb
 ·exact ha hb
theorem HI.keep (h:HI X ops E S Uo s0 w0 D m σ T w){j:Nat}{o:Oper}(hr:Ct ops D j o)(hD:Adds D D' j)(hk:¬kW X ops j)(hks:¬kS X ops j){R:St}(U2:∀i p b,σ i=some p->R.look i=some b->T.look i=some b)(hn:R.next=T.next)
  (k:Good σ R w Yx R w')(ha:kA X ops j->Yx=σ):HI X ops E S Uo s0 w0 D' m Yx (mix σ T R R) w':=by
 have bE:∀id,Yx id≠none->σ id=Yx id/\(mix σ T R R).look id=T.look id:=by
  intro id ZC;have Yh:id<R.next:=by
   refine Nat.lt_of_not_le fun EH=>ZC ?_
   rw[k.Na id (.inr EH)];exact h.gd.fresh id (by rw[<-hn];exact EH)
  have he:=k.Na id (.inl Yh);refine⟨he.symm,?_⟩;rw[P9]
  split
  ·rfl
  ·rename_i hc
   cases hs:σ id with
   |none=>exact absurd ⟨Yh,.inl hs⟩ hc
   |some p =>
    cases hl:R.look id with
    |none=>exact absurd ⟨Yh,.inr hl⟩ hc
    |some b=>exact (U2 id p b hs hl).symm
 have hjw:∀i,kW X ops i->i≠j:=fun i hi e=>hk (e ▸ hi)
 have ie:∀i,D i=true->D' i=true:=fun i hi=>by
  by_cases e:i=j
  ·subst e;exact hD.1
  ·rw[hD.2 i e];exact hi
 refine⟨frame h.gd U2 hn k,h.mN,fun i hi=>?_,h.mw,fun id ZC Xa C_=>?_,fun i h1 h2 h3 h4=>?_,by rw[FT,hn];exact h.t3,fun i b h1 h2 h3 h4=>?_,fun i h1 h2=>?_,h.D1,h.Az,h.C'⟩
 ·rw[hD.2 i (hjw i hi)];exact h.EL i hi
 ·obtain⟨e1,e2⟩:=bE id ZC;rw[e2];exact h.t1 id (by rw[e1];exact ZC) (fun i h1 h2 h3=>Xa i h1 (ie i h2) h3) (fun i h1 h2=>C_ i (ie i h1) h2)
 ·obtain⟨e1,e2⟩:=bE _ h4;rw[e2];rcases hD.of h2 with e|hd
  ·subst e;have:=h.u i h3 hr.no;rw[ha h3,this] at h4;exact absurd rfl h4
  ·exact h.t2 i h1 hd h3 (by rw[e1];exact h4)
 ·obtain⟨e1,e2⟩:=bE _ h4;rw[e2];rcases hD.of h1 with e|hd
  ·exact absurd (e ▸ h2) hks
  ·exact h.t4 i b hd h2 h3 (by rw[e1];exact h4)
 ·have:=h.u i h1 (hD.false h2);have Yh:s0.next+i<R.next:=by
   obtain⟨o',Vo,_⟩:=h1;have:=(agz.1 Vo).1;have:=h.C';rw[hn,h.t3];omega
  rw[k.Na _ (.inl Yh)];exact this
theorem HI.m9 (h:HI X ops E S Uo s0 w0 D m σ T w)(ht:EP X ex ops s0.next E S)(hL:Cu X ops s0.next E)(X5:Ok X ops)(MX:∀i,m<=i->kA X ops i->(S m).look (s0.next+i)=none){j:Nat}{o:Oper}(hr:Ct ops D j o)(hk:kW X ops j) :
  m<=j/\(S j).next=T.next/\(S j).base=s0.base/\(∀i,i<s0.next->s0.look i=none->(S j).look i=none)/\(∀i p b,σ i=some p->(S j).look i=some b->T.look i=some b) /\
   (∀i,j<i->kA X ops i->(S j).look (s0.next+i)=none)/\(∀id,σ id≠none->(S j).look id=none->(∀i,j<i->D i=true->kA X ops i->id≠s0.next+i)->T.look id=none):=by
 have EN:j<ops.size:=(agz.1 hr.op).1;have nT:cls X o.op=.w/\late X ops j=false:=by obtain⟨o',Vo,h1,h2⟩:=hk;rw[hr.op] at Vo;cases Vo;exact⟨h1,h2⟩
 have Jh:∀i,D i=true->¬kS X ops i:=hr.Cs (by rw[nT.1];simp) (by rw[nT.1];simp) nT.2;have hmj:m<=j:=by
  refine Nat.le_of_not_lt fun Yh=>?_
  have:=(h.EL j hk).2 Yh;rw[hr.no] at this;cases this
 have Lj:∀i,m<=i->i<j->¬kW X ops i:=by
  intro i h1 h2 Fo;obtain⟨oi,E5,_⟩:=id Fo;have hb:Xy ops i j=true:=by
   rcases X5.pair i j oi o h2 E5 hr.op with hb|⟨_,_,ZC,_⟩
   ·exact hb
   ·exact absurd ⟨Fo,hk⟩ ZC
  have:=(h.EL i Fo).1 (hr.Xy hb);omega
 have bL:∀i,i<j->¬kS X ops i:=by
  intro i H_ hs;obtain⟨oi,E5,_⟩:=Vg hs;rcases X5.pair i j oi o H_ E5 hr.op with hb|⟨_,_,_,ZC,_⟩
  ·exact Jh i (hr.Xy hb) hs
  ·exact ZC ⟨hs,hk⟩
 have haD:∀i,i<j->kA X ops i->D i=true:=by
  intro i h2 Fo;obtain⟨oi,E5,_⟩:=id Fo;rcases X5.pair i j oi o h2 E5 hr.op with hb|⟨_,ZC,_⟩
  ·exact hr.Xy hb
  ·exact absurd ⟨Fo,hk⟩ ZC
 obtain⟨d,rfl⟩:∃d,j=m+d:=⟨j-m,by omega⟩;obtain⟨b1,b2,b3,b4,_⟩:=ht.between hL m d (by omega) Lj;have b3:∀id,(∀i,m<=i->i<m+d->kA X ops i->id≠s0.next+i)->(S (m+d)).look id=(S m).look id:=fun id h1=>b3 id h1 fun i _ h3 h4=>absurd h4 (bL i h3)
 have ht1:∀id,σ id≠none->(∀i,m<=i->D i=true->kA X ops i->id≠s0.next+i)->T.look id=(S m).look id:=fun id h1 h2=>h.t1 id h1 h2 fun i h3 h4=>absurd h4 (Jh i h3)
 have at_:∀id,(∃i,m<=i/\i<m+d/\kA X ops i/\id=s0.next+i)\/(S (m+d)).look id=(S m).look id:=by
  intro id;by_cases hx:∃i,m<=i/\i<m+d/\kA X ops i/\id=s0.next+i
  ·exact .inl hx
  ·exact .inr (b3 id fun i h1 h2 h3 e=>hx ⟨i,h1,h2,h3,e⟩)
 have G8:∀i,m+d<i->kA X ops i->(S (m+d)).look (s0.next+i)=none:=by
  intro i hi ha;rw[b3 _ (fun i' h1 h2 h3 e=>by omega)];exact MX i (by omega) ha
 refine⟨hmj,by rw[b1,h.t3],by rw[b2,h.Az],fun i hi hl=>?_,fun id p b hp hb=>?_,G8,fun id ZC hl Xa=>?_⟩
 ·rw[b3 i fun i' _ _ _ e=>by omega];exact h.D1 i hi hl
 ·rcases at_ id with⟨i,h1,h2,h3,rfl⟩|he
  ·rw[h.t2 i h1 (haD i h2 h3) h3 (by rw[hp];simp),<-b4 i h1 h2 h3];exact hb
  ·rw[ht1 id (by rw[hp];simp) ?_,<-he]
   ·exact hb
   ·rintro i h1 h2 h3 rfl;have:=MX i h1 h3;rw[<-he,hb] at this;cases this
 ·rcases at_ id with⟨i,h1,h2,h3,rfl⟩|he
  ·rw[h.t2 i h1 (haD i h2 h3) h3 ZC,<-b4 i h1 h2 h3];exact hl
  ·by_cases hx:∃i,m<=i/\D i=true/\kA X ops i/\id=s0.next+i
   ·obtain⟨i,h1,h2,h3,rfl⟩:=hx;rcases Nat.lt_trichotomy i (m+d) with Yh|heq|fI
    ·rw[h.t2 i h1 h2 h3 ZC,<-b4 i h1 Yh h3];exact hl
    ·subst heq;rw[hr.no] at h2;cases h2
    ·exact absurd rfl (Xa i fI h2 h3)
   ·rw[ht1 id ZC fun i h1 h2 h3 e=>hx ⟨i,h1,h2,h3,e⟩,<-he];exact hl
theorem HI.wr (h:HI X ops E S Uo s0 w0 D m σ T w)(ht:EP X ex ops s0.next E S)(hL:Cu X ops s0.next E)(X5:Ok X ops)(MX:∀i,m<=i->kA X ops i->(S m).look (s0.next+i)=none){j:Nat}{o:Oper}(hr:Ct ops D j o)(hD:Adds D D' j)(hk:kW X ops j)
  (k:Good σ (S j) w Yx (S (j+1)) w'):HI X ops E S Uo s0 w0 D' (j+1) Yx (mix σ T (S j) (S (j+1))) w':=by
 obtain⟨a1,a2,a3,a4,a5,a6,a7⟩:=h.m9 ht hL X5 MX hr hk;have EN:j<ops.size:=(agz.1 hr.op).1;have nT:cls X o.op=.w/\late X ops j=false:=by obtain⟨o',Vo,h1,h2⟩:=hk;rw[hr.op] at Vo;cases Vo;exact⟨h1,h2⟩
 have Jh:∀i,D i=true->¬kS X ops i:=hr.Cs (by rw[nT.1];simp) (by rw[nT.1];simp) nT.2;have Vl:s0.next+ops.size<=(S j).next:=by rw[a2,h.t3];exact h.C'
 have ic:∀id,Yx id≠none->id<(S j).next->σ id=Yx id:=fun id _ Yh=>(k.Na id (.inl Yh)).symm
 refine⟨frame h.gd a5 a2 k,EN,fun i hi=>?_,.inr ⟨j,rfl,hk⟩,fun id ZC Xa _=>?_,fun i h1 h2 h3 h4=>?_,rfl,fun i b h1 h2 _ _=>?_,fun i h1 h2=>?_,fun i hi hl=>?_,by rw[k.glob,a3],?_⟩
 ·have Fo:=hi;obtain⟨oi,E5,_⟩:=hi;rcases Nat.lt_trichotomy i j with Yh|heq|fI
  ·rw[hD.2 i (by omega)];have:D i=true:=by
    rcases X5.pair i j oi o Yh E5 hr.op with hb|⟨_,_,ZC,_⟩
    ·exact hr.Xy hb
    ·exact absurd ⟨Fo,hk⟩ ZC
   simp[this];omega
  ·subst heq;simp[hD.1]
  ·rw[hD.2 i (by omega)];have:D i=false:=by
    cases hd:D i with
    |false=>rfl
    |true =>
     have hb:=hr.J0 hd;rcases X5.pair j i o oi fI hr.op E5 with TQ|⟨_,_,ZC,_⟩
     ·rw[hb] at TQ;cases TQ
     ·exact absurd ⟨hk,Fo⟩ ZC
   simp[this];omega
 ·rw[P9]
  split
  ·rename_i hc;have he:=ic id ZC hc.1;rcases hc.2 with hs|hl
   ·rw[he] at hs;exact absurd hs ZC
   ·rw[k.dead id hc.1 hl];refine a7 id (by rw[he];exact ZC) hl fun i hi hd ha e=>Xa i hi ?_ ha e
    rw[hD.2 i (by omega)];exact hd
  ·rfl
 ·have agU:i<ops.size:=by obtain⟨o',Vo,_⟩:=h3;exact (agz.1 Vo).1
  have hd:D i=true:=by rw[hD.2 i (by omega)] at h2;exact h2
  have he:=ic _ h4 (by omega);rw[P9,if_pos ⟨by omega,.inr (a6 i (by omega) h3)⟩];exact h.t2 i (by omega) hd h3 (by rw[he];exact h4)
 ·rcases hD.of h1 with e|hd
  ·exact absurd (e ▸ h2) (Ly hk)
  ·exact absurd h2 (Jh i hd)
 ·have agU:i<ops.size:=by obtain⟨o',Vo,_⟩:=h1;exact (agz.1 Vo).1
  rw[k.Na _ (.inl (by omega))];exact h.u i h1 (hD.false h2)
 ·exact k.dead i (by omega) (a4 i hi hl)
 ·have:=k.next;omega
theorem HI.al (h:HI X ops E S Uo s0 w0 D m σ T w)(hL:Cu X ops s0.next E)(X5:Ok X ops){j:Nat}{o:Oper}(hr:Ct ops D j o)(hD:Adds D D' j)(hk:cls X o.op=.a){b:Uy}(hb:b≠.gone)(hS:(S (j+1)).look (s0.next+j)=some b)
  (k:Good σ { T with next:=s0.next+j } w Yx (St.new { T with next:=s0.next+j } b) w') :
  HI X ops E S Uo s0 w0 D' m Yx (N9 (fun i=>if i=s0.next+j then some b else T.look i) T.next) w':=by
 have EN:j<ops.size:=(agz.1 hr.op).1;have Vl:=h.C';have xC:kA X ops j:=⟨o,hr.op,hk⟩;have SH:∀id,(N9 (fun i=>if i=s0.next+j then some b else T.look i) T.next).look id=if id=s0.next+j then some b else T.look id:=by
  intro id;rw[N8];intro c' hc
  split at hc
  ·cases hc;exact hb
  ·exact Pq _ _ _ hc
 have Bo:∀id,id≠s0.next+j->Yx id=σ id:=fun id ZC=>by
  refine k.Na id ?_;rcases Nat.lt_trichotomy id (s0.next+j) with Yh|heq|fI
  ·exact .inl Yh
  ·exact absurd heq ZC
  ·exact .inr (show s0.next+j+1<=id by omega)
 have hjw:∀i,kW X ops i->i≠j:=fun i ⟨o',Vo,hc,_⟩ e=>by
  subst e;rw[hr.op] at Vo;cases Vo;rw[hk] at hc;cases hc
 have hjs:¬kS X ops j:=fun hs=>by
  obtain⟨o',Vo,_,_,hc,_⟩:=Vg hs;rw[hr.op] at Vo;cases Vo;rw[hk] at hc;cases hc
 have ie:∀i,D i=true->D' i=true:=fun i hi=>by
  by_cases e:i=j
  ·subst e;exact hD.1
  ·rw[hD.2 i e];exact hi
 have hmj:m<=j:=by
  rcases h.mw with e|⟨l,rfl,hl⟩
  ·omega
  ·refine Nat.le_of_not_lt fun Yh=>?_
   have hDl:D l=true:=(h.EL l hl).2 (by omega);have hjl:j≠l:=fun e=>hjw l hl e.symm
   have hb:=hr.J0 hDl;obtain⟨ol,tM,_⟩:=id hl;rcases X5.pair j l o ol (by omega) hr.op tM with TQ|⟨_,ZC,_⟩
   ·rw[hb] at TQ;cases TQ
   ·exact ZC ⟨xC,hl⟩
 refine⟨h.gd.TU hb (by omega) (by rw[h.t3];omega) k,h.mN,fun i hi=>?_,h.mw,fun id ZC Xa C_=>?_,fun i h1 h2 h3 h4=>?_,h.t3,fun i b' h1 h2 h3 h4=>?_,fun i h1 h2=>?_,h.D1,h.Az,h.C'⟩
 ·rw[hD.2 i (hjw i hi)];exact h.EL i hi
 ·have agV:id≠s0.next+j:=Xa j hmj hD.1 xC;rw[SH,if_neg agV];exact h.t1 id (by rw[<-Bo id agV];exact ZC) (fun i h1 h2 h3=>Xa i h1 (ie i h2) h3) (fun i h1 h2=>C_ i (ie i h1) h2)
 ·by_cases e:i=j
  ·subst e;rw[SH,if_pos rfl,hS]
  ·rw[SH,if_neg (by omega)];refine h.t2 i h1 ?_ h3 (by rw[<-Bo _ (by omega)];exact h4);rw[hD.2 i e] at h2;exact h2
 ·have H_:i≠j:=fun e=>hjs (e ▸ h2)
  obtain⟨b2,e2,Bp⟩:=hL.some i h2;rw[h3] at e2;cases e2;rw[SH,if_neg (by omega)];exact h.t4 i b' (by rw[hD.2 i H_] at h1;exact h1) h2 h3 (by rw[<-Bo _ (by omega)];exact h4)
 ·have:i≠j:=by rintro rfl;rw[hD.1] at h2;cases h2
  rw[Bo _ (by omega)];exact h.u i h1 (hD.false h2)
theorem HI.ru (h:HI X ops E S Uo s0 w0 D m σ T w)(ht:EP X ex ops s0.next E S)(hL:Cu X ops s0.next E)(X5:Ok X ops){j:Nat}{o:Oper}(hr:Ct ops D j o)(hk:kS X ops j){b:Nat}(hb:lb X ops E j=some b)(hσ:σ b≠none):T.look b=(S j).look b:=by
 have EN:j<ops.size:=(agz.1 hr.op).1;obtain⟨b2,e2,Bp⟩:=hL.some j hk;rw[hb] at e2;cases e2;obtain⟨oj,hoj,_,_,_,Xa⟩:=Vg hk;have hwD:∀i,kW X ops i->i<m:=by
  intro i hi;refine (h.EL i hi).1 ?_;obtain⟨oi,E5,hc,hl⟩:=id hi;have ZC:i≠j:=fun e=>Ly hi (e ▸ hk)
  rcases Xa i oi ZC E5 with TQ|TQ|TQ|TQ
  ·exact hr.Xy TQ
  ·rw[hl] at TQ;cases TQ
  ·rw[hc] at TQ;cases TQ
  ·rw[hc] at TQ;cases TQ
 have hmj:m<=j:=by
  rcases h.mw with e|⟨l,rfl,hl⟩
  ·omega
  ·refine Nat.le_of_not_lt fun Yh=>?_
   have ZC:l≠j:=fun e=>Ly hl (e ▸ hk)
   obtain⟨ol,tM,hc,EK⟩:=id hl;rcases Xa l ol ZC tM with TQ|TQ|TQ|TQ
   ·have:=X5.RZ j l TQ;omega
   ·rw[EK] at TQ;cases TQ
   ·rw[hc] at TQ;cases TQ
   ·rw[hc] at TQ;cases TQ
 rw[h.t1 b hσ (fun i _ _ xC e=>by
   obtain⟨o',Vo,_⟩:=xC;have:=(agz.1 Vo).1;omega) (fun i hi hs e=>by
   by_cases H_:i=j
   ·subst H_;rw[hr.no] at hi;cases hi
   ·exact hL.ne i j hs hk H_ (by rw[e,hb]))]
 obtain⟨d,hd⟩:∃d,j=m+d:=⟨j-m,by omega⟩;obtain⟨_,_,b3,_,_⟩:=ht.between hL m d (by omega) (fun i h1 _ hw=>by have:=hwD i hw;omega);rw[hd];refine (b3 b (fun i _ h2 xC e=>?_) (fun i _ h2 hs e=>?_)).symm
 ·obtain⟨o',Vo,_⟩:=xC;have:=(agz.1 Vo).1;omega
 ·exact hL.ne i j hs hk (by omega) (by rw[e,hb])
theorem HI.st (h:HI X ops E S Uo s0 w0 D m σ T w)(hL:Cu X ops s0.next E){j:Nat}{o:Oper}(hr:Ct ops D j o)(hD:Adds D D' j)(hk:kS X ops j){b:Nat}(hb:lb X ops E j=some b)(hσ:σ b≠none){k0 k':Uy}(hT:T.look b=some k0)(Bb:k'≠.gone)(hS:(S (j+1)).look b=some k')
  (k:Good σ T w Yx (T.put b k') w'):HI X ops E S Uo s0 w0 D' m Yx (mix σ T T (T.put b k')) w':=by
 have Bo:∀id,Yx id=σ id:=fun id=>k.Na id (by
  show id<T.next\/T.next<=id;omega)
 have SH:∀id,σ id≠none->(mix σ T T (T.put b k')).look id=if b=id then some k' else T.look id:=by
  intro id ZC;have Yh:id<T.next:=Nat.lt_of_not_le fun EH=>ZC (h.gd.fresh id EH)
  rw[P9];by_cases e:b=id
  ·subst e;rw[if_neg (fun hc=>by
    rcases hc.2 with h1|h1
    ·exact ZC h1
    ·rw[hT] at h1;cases h1),St.Xe,if_pos rfl,if_pos rfl]
   cases k' <;> first|rfl|exact absurd rfl Bb
  ·rw[if_neg e]
   split
   ·rfl
   ·rw[St.Xe,if_neg e]
 have hjw:∀i,kW X ops i->i≠j:=fun i hi e=>Ly hi (e ▸ hk)
 have hja:∀i,kA X ops i->i≠j:=fun i ⟨o',Vo,hc⟩ e=>by
  subst e;obtain⟨o2,G9,_,_,xJ,_⟩:=Vg hk;rw[Vo] at G9;cases G9;rw[hc] at xJ;cases xJ
 have ie:∀i,D i=true->D' i=true:=fun i hi=>by
  by_cases e:i=j
  ·subst e;exact hD.1
  ·rw[hD.2 i e];exact hi
 obtain⟨b2,e2,Bp⟩:=hL.some j hk;rw[hb] at e2;cases e2;refine⟨frame h.gd (fun _ _ _ _ hb=>hb) rfl k,h.mN,fun i hi=>?_,h.mw,fun id ZC Xa C_=>?_,fun i h1 h2 h3 h4=>?_,h.t3,fun i b' h1 h2 h3 h4=>?_,fun i h1 h2=>?_,h.D1,h.Az,h.C'⟩
 ·rw[hD.2 i (hjw i hi)];exact h.EL i hi
 ·have agW:σ id≠none:=by rw[<-Bo id];exact ZC
  rw[SH id agW,if_neg (fun e=>C_ j hD.1 hk (by rw[hb,e]))];exact h.t1 id agW (fun i h1 h2 h3=>Xa i h1 (ie i h2) h3) (fun i h1 h2=>C_ i (ie i h1) h2)
 ·have h4':σ (s0.next+i)≠none:=by rw[<-Bo];exact h4
  have agU:i<ops.size:=by obtain⟨o',Vo,_⟩:=h3;exact (agz.1 Vo).1
  rw[SH _ h4',if_neg (by omega)];exact h.t2 i h1 (by rw[hD.2 i (hja i h3)] at h2;exact h2) h3 h4'
 ·have h4':σ b'≠none:=by rw[<-Bo];exact h4
  rw[SH _ h4'];by_cases e:i=j
  ·subst e;rw[hb] at h3;cases h3;rw[if_pos rfl,hS]
  ·rw[if_neg (fun e'=>hL.ne i j h2 hk e (by rw[h3,hb,e']))];exact h.t4 i b' (by rw[hD.2 i e] at h1;exact h1) h2 h3 h4'
 ·rw[Bo];exact h.u i h1 (hD.false h2)
end
end Go.Am
namespace Go.Am
open Go
section
variable [Stat]
variable {X:Cx}{ex:Ex}{ops:Array Oper}{base:Nat}
def SB (tr:List (Env×St))(i:Nat):Env:=((tr[i]?).getD (.nil,{ t:=.nil,base:=fun _=>none,next:=0 })).1
def W_ (tr:List (Env×St))(i:Nat):St:=((tr[i]?).getD (.nil,{ t:=.nil,base:=fun _=>none,next:=0 })).2
theorem QA:∀(l:List Oper) (i:Nat) (e:Env) (s:St) (tr:List (Env×St)),xD X ex ops base i l e s=some tr ->
  tr.length=l.length+1/\tr[0]? = some (e,s)/\∀(k:Nat) o,l[k]? = some o->SF X ex ops base (i+k) o (SB tr k) (W_ tr k)=some (SB tr (k+1),W_ tr (k+1))
 |[],i,e,s,tr,h=>by simp only[xD] at h;cases h;simp
 |o::l,i,e,s,tr,h=>by
  simp only[xD] at h
  split at h
  ·rename_i e1 s1 h1
   split at h
   ·rename_i r h2
    cases h
    obtain⟨k1,k2,k3⟩:=QA l (i+1) e1 s1 r h2;refine⟨by simp[k1],by simp,fun k o' hk=>?_⟩
    cases k with
    |zero =>
     simp at hk;subst hk;have:SB ((e,s)::r) (0+1)=e1/\W_ ((e,s)::r) (0+1)=s1:=by simp[SB,W_,k2]
     rw[this.1,this.2]
     simpa[SB,W_] using h1
    |succ k =>
     have:=k3 k o' (by simpa using hk);rw[show i+(k+1)=i+1+k by omega]
     simpa[SB,W_] using this
   ·cases h
  ·cases h
theorem G5:∀(tr:List (Env×St)),Gl tr=tr.getLast?
 |[]=>rfl
 |[x]=>rfl
 |x::y::l=>by
  show Gl (y::l)=_;rw[G5 (y::l),List.getLast?_cons_cons]
theorem Qz:∀(l:List Oper) (i j:Nat),j∈Zh X ops i l<->∃k o,l[k]? = some o/\j=i+k/\((cls X o.op).qA&&!late X ops j)=true
 |[],i,j=>by simp[Zh]
 |o::l,i,j=>by
  have ih:=Qz l (i+1) j;have key:(∃(k:Nat) (o':Oper),(o::l)[k]? = some o'/\j=i+k/\((cls X o'.op).qA&&!late X ops j)=true)<->(((cls X o.op).qA&&!late X ops i)=true/\j=i)\/∃(k:Nat) (o':Oper),l[k]? = some o'/\j=i+1+k/\((cls X o'.op).qA&&!late X ops j)=true:=by
   constructor
   ·rintro⟨k,o',h1,h2,h3⟩
    cases k with
    |zero =>
      simp at h1;subst h1;have e:j=i:=by omega
      exact .inl ⟨e ▸ h3,e⟩
    |succ k=>exact .inr ⟨k,o',by simpa using h1,by omega,h3⟩
   ·rintro (⟨h1,h2⟩|⟨k,o',h1,h2,h3⟩)
    ·exact⟨0,o,by simp,by omega,h2 ▸ h1⟩
    ·exact⟨k+1,o',by simpa using h1,by omega,h3⟩
  rw[key];unfold Zh
  split
  ·rename_i hc;rw[alL,ih]
   constructor
   ·rintro (h|h)
    ·exact .inl ⟨hc,h⟩
    ·exact .inr h
   ·rintro (h|h)
    ·exact .inl h.2
    ·exact .inr h
  ·rename_i hc;rw[ih]
   constructor
   ·exact .inr
   ·rintro (h|h)
    ·exact absurd h.1 hc
    ·exact h
theorem To:∀(l:List Oper) (i:Nat),(Zh X ops i l).Pairwise (·<·)
 |[],i=>by simp[Zh]
 |o::l,i=>by
  unfold Zh
  split
  ·refine List.pairwise_cons.2 ⟨fun j hj=>?_,To l (i+1)⟩;obtain⟨k,o',_,h2,_⟩:=(Qz l (i+1) j).1 hj;omega
  ·exact To l (i+1)
theorem SA:∀(l:List Oper) (tr:List (Env×St)) (i:Nat),tr.length=l.length+1->∀k:Nat,k<l.length->late X ops (i+k)=true->∃(q:Nat) (o:Oper),l[k]? = some o/\(Tv X ops i l tr)[q]? = some (Tz X (SB tr k) o.op) /\
  ∀(k':Nat) (o':Oper),k<k'->l[k']? = some o'->late X ops (i+k')=true->∃q':Nat,q<q'/\(Tv X ops i l tr)[q']? = some (Tz X (SB tr k') o'.op)
 |[],tr,i,_,k,hk,_=>by simp at hk
 |o::l,[],i,h,k,hk,_=>by simp at h
 |o::l,(e,s)::tr,i,h,0,hk,hl=>by
  have ht:=SA l tr (i+1) (by simpa using h);unfold Tv;rw[if_pos (by simpa using hl)];refine⟨0,o,rfl,by simp[SB],fun k' o' h1 h2 h3=>?_⟩;obtain⟨k2,rfl⟩:∃k2,k'=k2+1:=⟨k'-1,by omega⟩;have h2':l[k2]? = some o':=by simpa using h2
  obtain⟨q,o2,g1,g2,_⟩:=ht k2 (alQ.1 h2').1 (by rw[show i+1+k2=i+(k2+1) by omega];exact h3);rw[h2'] at g1;cases g1;refine⟨q+1,by omega,?_⟩;rw[aml,g2];simp[SB]
 |o::l,(e,s)::tr,i,h,k+1,hk,hl=>by
  have ht:=SA l tr (i+1) (by simpa using h);have Bb:k<l.length:=by simpa using hk
  obtain⟨q,o2,g1,g2,g3⟩:=ht k Bb (by rw[show i+1+k=i+(k+1) by omega];exact hl);unfold Tv;have tre:∀n,SB ((e,s)::tr) (n+1)=SB tr n:=fun n=>by simp[SB]
  split
  ·refine⟨q+1,o2,by simpa using g1,by rw[aml,tre];exact g2,fun k' o' h1 h2 h3=>?_⟩;obtain⟨k2,rfl⟩:∃k2,k'=k2+1:=⟨k'-1,by omega⟩;obtain⟨q',e1,e2⟩:=g3 k2 o' (by omega) (by simpa using h2) (by rw[show i+1+k2=i+(k2+1) by omega];exact h3);exact⟨q'+1,by omega,by rw[aml,tre];exact e2⟩
  ·refine⟨q,o2,by simpa using g1,by rw[tre];exact g2,fun k' o' h1 h2 h3=>?_⟩;obtain⟨k2,rfl⟩:∃k2,k'=k2+1:=⟨k'-1,by omega⟩;obtain⟨q',e1,e2⟩:=g3 k2 o' (by omega) (by simpa using h2) (by rw[show i+1+k2=i+(k2+1) by omega];exact h3);exact⟨q',e1,by rw[tre];exact e2⟩
theorem Jg {n:Nat}:∀(l:List (Option Nat)),Oi base n l=true->(∀x∈l,∃b,x=some b/\(b<base\/base+n<=b))/\∀(q q':Nat) x y,q<q'->l[q]? = some x->l[q']? = some y->x≠y
 |[],_=>⟨fun x hx=>(by cases hx),fun q q' x y _ h=>by simp at h⟩
 |none::l,h=>by simp[Oi] at h
 |some b::l,h=>by
  simp only[Oi,agw,amE,decide_eq_true_eq,alK,ams,beq_eq_false_iff_ne,ne_eq] at h;obtain⟨⟨h1,h2⟩,h3⟩:=h;obtain⟨k1,k2⟩:=Jg l h3;refine⟨fun x hx=>?_,fun q q' x y hq hx hy=>?_⟩
  ·rcases alL.1 hx with rfl|hx
   ·exact⟨b,rfl,h1⟩
   ·exact k1 x hx
  ·obtain⟨q'',rfl⟩:∃q'',q'=q''+1:=⟨q'-1,by omega⟩;rw[aml] at hy
   cases q with
   |zero =>
    simp at hx;subst hx;exact fun e=>h2 y (amu hy) e.symm
   |succ q=>exact k2 q q'' x y (by omega) (by simpa using hx) hy
theorem LA {tr:List (Env×St)}:∀(ws:List Nat) (ss:List (Nat×St)),Sv tr ws=some ss->ss=ws.map fun j=>(j+1,W_ tr (j+1))
 |[],ss,h=>by simp only[Sv] at h;cases h;rfl
 |j::ws,ss,h=>by
  simp only[Sv] at h
  split at h
  ·rename_i e s r h1 h2
   cases h
   rw[LA ws r h2];simp[W_,h1]
  ·cases h
theorem Jf {ws as:List Nat}{ss:List (Nat×St)}{vU:List (Env×St)}:∀(l:List Oper) (tr:List (Env×St)) (i:Nat),TD X ex ops base ws as ss vU i l tr=true->∀(k:Nat) o es,l[k]? = some o->tr[k]? = some es->XQ ops es.1 o=true ->
  (cls X o.op=.r->∃v s',YI X ex es.1 o.op es.2=some (v,s')/\WS X ex ops base (i+k) as vU es.1 o.op v (Uu ops ws ss (i+k))=true) /\
  (cls X o.op=.q->∀c vs us,o.op=.call c->Wk X es.1 c.args.toList=some vs->Vf X es.2 vs=some us->ZU vs=true\/Ta X ops base (i+k) as vU vs us (Uu ops ws ss (i+k))=true)
 |[],tr,i,h,k,o,es,h1,h2,_=>by simp at h1
 |o::l,[],i,h,k,o',es,h1,h2,_=>by simp at h2
 |o::l,(e,s)::tr,i,h,0,o',es,h1,h2,h4=>by
  simp at h1 h2;subst h1;subst h2;simp only[TD,agw] at h;obtain⟨h,_⟩:=h;simp only[Nat.add_zero];refine⟨fun hk=>?_,fun hk c vs us hc SI MC=>?_⟩
  ·rw[hk] at h;simp only[h4,ama,amf] at h
   split at h
   ·rename_i v s' hv;exact⟨v,s',hv,h⟩
   ·cases h
  ·rw[hk] at h;simp only[h4,hc,SI,MC,ama,amf,amE] at h;exact h
 |o::l,(e,s)::tr,i,h,k+1,o',es,h1,h2,h4=>by
  simp only[TD,agw] at h;have:=Jf l tr (i+1) h.2 k o' es (by simpa using h1) (by simpa using h2) h4;rw[show i+(k+1)=i+1+k by omega];exact this
theorem OP {as:List Nat}{tr:List (Env×St)}{i:Nat}{e:Env}{o:Op}{v:AV}:∀(l:List (Nat×St)),WS X ex ops base i as tr e o v l=true->∀m s,(m,s)∈l->∃s',YI X ex e o (TU ops base i m tr as s)=some (v,s')
 |[],_,m,s,hm=>by cases hm
 |(m',s1)::l,h,m,s,hm=>by
  unfold WS at h
  split at h
  ·rename_i u s' hu;simp only[agw] at h;rcases alL.1 hm with e|hm
   ·cases e
    have:=Gc h.1;subst this;exact⟨_,hu⟩
   ·exact OP l h.2 m s hm
  ·cases h
theorem MV {as:List Nat}{tr:List (Env×St)}{i:Nat}{vs us:List AV}:∀(l:List (Nat×St)),Ta X ops base i as tr vs us l=true->∀m s,(m,s)∈l->Vf X (TU ops base i m tr as s) vs=some us
 |[],_,m,s,hm=>by cases hm
 |(m',s1)::l,h,m,s,hm=>by
  unfold Ta at h
  split at h
  ·rename_i u hu;simp only[agw] at h;rcases alL.1 hm with e|hm
   ·cases e
    have:=Ui h.1;subst this;exact hu
   ·exact MV l h.2 m s hm
  ·cases h
theorem G6:∀(l:List Oper) (i j:Nat),j∈UI X i l->∃k o,l[k]? = some o/\j=i+k/\cls X o.op=.a
 |[],i,j,h=>by simp[UI] at h
 |o::l,i,j,h=>by
  have ih:=G6 l (i+1) j;unfold UI at h;have lift:(∃(k:Nat) (o':Oper),l[k]? = some o'/\j=i+1+k/\cls X o'.op=.a)->∃(k:Nat) (o':Oper),(o::l)[k]? = some o'/\j=i+k/\cls X o'.op=.a :=
   fun ⟨k,o',h1,h2,h3⟩=>⟨k+1,o',by simpa using h1,by omega,h3⟩
  split at h
  ·rename_i hc;rcases alL.1 h with rfl|h
   ·exact⟨0,o,by simp,by omega,Xp.1 hc⟩
   ·exact lift (ih h)
  ·exact lift (ih h)
theorem Qy {i m:Nat}{tr:List (Env×St)}:∀(as:List Nat) (s:St),(∀j∈as,kA X ops j) ->
  (TU ops base i m tr as s).next=s.next/\∀id b,(TU ops base i m tr as s).look id=some b ->
   s.look id=some b\/∃j,m<=j/\kA X ops j/\Xy ops j i=true/\id=base+j/\(W_ tr (j+1)).look id=some b
 |[],s,_=>⟨rfl,fun id b h=>.inl h⟩
 |j::as,s,has=>by
  have dV:∀j∈as,kA X ops j:=fun j hj=>has j (aab _ hj)
  unfold TU
  split
  ·rename_i hc;simp only[agw,decide_eq_true_eq] at hc
   split
   ·rename_i e1 s1 h1;have QK:W_ tr (j+1)=s1:=by simp[W_,h1]
    split
    ·rename_i b0 Er;obtain⟨k1,k2⟩:=Qy as (s.put (base+j) b0) dV;refine⟨k1,fun id b hb=>?_⟩;rcases k2 id b hb with h3|h3
     ·rw[St.Xe] at h3;by_cases e:base+j=id
      ·rw[if_pos e] at h3;refine .inr ⟨j,hc.1,has j (aba ..),hc.2,e.symm,?_⟩;rw[QK,<-e];unfold St.look;rw[Er]
       cases b0 <;> simp at h3 ⊢ <;> exact h3
      ·rw[if_neg e] at h3;exact .inl h3
     ·exact .inr h3
    ·exact Qy as s dV
   ·exact Qy as s dV
  ·exact Qy as s dV
theorem Gb {s:St}:∀(l:List Oper) (i:Nat),Gn X base s i l=true->∀(k:Nat) o,l[k]? = some o->cls X o.op=.a->s.look (base+(i+k))=none
 |[],i,_,k,o,h,_=>by simp at h
 |o::l,i,h,0,o',h1,h2=>by
  simp at h1;subst h1;simp only[Gn,agw,amE,h2] at h;have:=h.1;simp[Bd.BY] at this;unfold St.look;rw[show base+(i+0)=base+i by omega,this]
 |o::l,i,h,k+1,o',h1,h2=>by
  simp only[Gn,agw] at h;have:=Gb l (i+1) h.2 k o' (by simpa using h1) h2;rw[show i+(k+1)=i+1+k by omega];exact this
theorem Lz:∀(l:List (Nat×St)),Ss X ops base l=true->∀m s,(m,s)∈l->∀i,m<=i->kA X ops i->s.look (base+i)=none
 |[],_,m,s,hm=>by cases hm
 |(m',s1)::l,h,m,s,hm=>by
  simp only[Ss,agw] at h;rcases alL.1 hm with e|hm
  ·cases e
   rintro i hi ⟨o,ho,hc⟩;obtain⟨k,rfl⟩:∃k,i=m'+k:=⟨i-m',by omega⟩;exact Gb _ _ h.1 k o (by rw[List.getElem?_drop];simpa using ho) hc
  ·exact Lz l h.2 m s hm
theorem HF (W:Nat->Prop):∀j,(∀i,i<j->¬W i)\/∃i,i<j/\W i/\∀i',i<i'->i'<j->¬W i'
 |0=>.inl fun i h=>by omega
 |j+1=>by
  by_cases hj:W j
  ·exact .inr ⟨j,by omega,hj,fun i' h1 h2=>by omega⟩
  ·rcases HF W j with h|⟨i,h1,h2,h3⟩
   ·refine .inl fun i hi=>?_
    by_cases e:i=j
    ·subst e;exact hj
    ·exact h i (by omega)
   ·refine .inr ⟨i,by omega,h2,fun i' k1 k2=>?_⟩;by_cases e:i'=j
    ·subst e;exact hj
    ·exact h3 i' k1 (by omega)
def Wr (ops:Array Oper)(t:Tmp)(i:Nat):Prop:=∃o,ops[i]? = some o/\o.dst=some t
structure KE (ops:Array Oper)(E:Nat->Env)(D:Nat->Bool)(e:Env):Prop where
 hit:∀t i,D i=true->Wr ops t i->(∀i',i<i'->D i'=true->¬Wr ops t i')->Env.get e t=Env.get (E (i+1)) t
 ae6:∀t,(∀i,D i=true->¬Wr ops t i)->Env.get e t=Env.get (E 0) t
variable {E:Nat->Env}{S:Nat->St}{D D':Nat->Bool}{e:Env}
theorem KE.at (h:KE ops E D e)(ht:EP X ex ops base E S){t:Tmp}{j:Nat}(hj:j<=ops.size)(h1:∀i,i<j->Wr ops t i->D i=true)(h2:∀i,j<=i->D i=true->¬Wr ops t i):Env.get e t=Env.get (E j) t:=by
 rcases HF (Wr ops t) j with hn|⟨i,k1,k2,k3⟩
 ·rw[h.ae6 t fun i hi hw=>by
   by_cases H_:i<j
   ·exact hn i H_ hw
   ·exact h2 i (by omega) hi hw]
  have:=ht.Ga t 0 j (fun i o _ hi ho hd=>hn i (by omega) ⟨o,ho,hd⟩) (by omega);rw[ald] at this;exact this.symm
 ·rw[h.hit t i (h1 i k1 k2) k2 fun i' a b hw=>by
   by_cases H_:i'<j
   ·exact k3 i' a H_ hw
   ·exact h2 i' (by omega) b hw]
  have:=ht.Ga t (i+1) (j-(i+1)) (fun i' o a b ho hd=>k3 i' (by omega) (by omega) ⟨o,ho,hd⟩) (by omega);rw[show i+1+(j-(i+1))=j by omega] at this;exact this.symm
theorem KE.look (h:KE ops E D e)(ht:EP X ex ops base E S)(X5:Ok X ops){j:Nat}{o:Oper}(hr:Ct ops D j o){t:Tmp}(hl:t∈MY ops o):Env.get e t=Env.get (E j) t:=by
 have hj:=(agz.1 hr.op).1;refine h.at ht (Nat.le_of_lt hj) (fun i hi ⟨oi,E5,hd⟩=>?_) (fun i hi mU ⟨oi,E5,hd⟩=>?_)
 ·rcases X5.pair i j oi o hi E5 hr.op with hb|⟨ha,_⟩
  ·exact hr.Xy hb
  ·exact absurd hl ((Od ha).1 t hd)
 ·by_cases e:i=j
  ·subst e;rw[hr.no] at mU;cases mU
  ·rcases X5.pair j i o oi (by omega) hr.op E5 with hb|⟨ha,_⟩
   ·rw[hr.J0 mU] at hb;cases hb
   ·exact absurd hl ((Od ha).2.2 t hd)
theorem KE.step (h:KE ops E D e)(X5:Ok X ops){j:Nat}{o:Oper}(hr:Ct ops D j o)(hD:Adds D D' j){v:AV}(hE:E (j+1)=Yt (E j) o.dst v):KE ops E D' (Yt e o.dst v):=by
 have hj:=(agz.1 hr.op).1;have wj:∀t,Wr ops t j->o.dst=some t:=fun t ⟨o',Vo,hd⟩=>by rw[hr.op] at Vo;cases Vo;exact hd
 refine⟨fun t i hi hw ae7=>?_,fun t SX=>?_⟩
 ·by_cases ht:o.dst=some t
  ·
   have H_:i=j:=by
    rcases hD.of hi with e1|mU
    ·exact e1
    ·obtain⟨oi,E5,hd⟩:=hw;rcases Nat.lt_trichotomy i j with Yh|heq|fI
     ·exact absurd ⟨o,hr.op,ht⟩ (ae7 j Yh hD.1)
     ·exact heq
     ·rcases X5.pair j i o oi fI hr.op E5 with hb|⟨ha,_⟩
      ·rw[hr.J0 mU] at hb;cases hb
      ·exact absurd hd ((Od ha).2.1 t ht)
   subst H_;rw[hE,ht,IT,IT]
  ·have H_:i≠j:=fun e1=>ht (wj t (e1 ▸ hw))
   rw[JF ht];have mU:D i=true:=by rw[hD.2 i H_] at hi;exact hi
   refine h.hit t i mU hw fun i' a b LS=>ae7 i' a ?_ LS
   by_cases e1:i'=j
   ·subst e1;exact hD.1
   ·rw[hD.2 i' e1];exact b
 ·have ht:o.dst≠some t:=fun ht=>SX j hD.1 ⟨o,hr.op,ht⟩
  rw[JF ht];refine h.ae6 t fun i hi hw=>SX i ?_ hw
  by_cases e1:i=j
  ·subst e1;exact hD.1
  ·rw[hD.2 i e1];exact hi
end
end Go.Am
namespace Go.Am
open Go
section
variable [Stat]
variable {X:Cx}{P:Program}{ex:Ex}{ops:Array Oper}
theorem AG (hX:Full X P){r:Option Nat}{o:Oper}{e:Env}{s s':St}{v:AV}{a:Act}{σ:Sg}{w:World}(G:WD X σ)(H:HR σ s w)(hf:σ s.next=none)(E:SU σ e a.tmps)(hc:NL o.op=false)(h:YI X ex e o.op s=some (v,s'))
  {Jk:Act->World->Prop}{Q:Exit->Act->World->Prop}(hn:∀u w' Yx,ZY Yx v u->Good σ s w Yx s' w'->Jk (a.put o.dst u) w'):o.wpIn (FW r) 0 P a w Jk Q:=by
 refine⟨PK,?_⟩;rw[Oper.semAt_eq _ _ _ (fun c hc=>by rw[hc] at h;simp[YI] at h),Tp];obtain⟨Yx,nx,u,w',h1,h2,h3,h4⟩:=D_ (P:=P) hX.toVI G H hf E hc h;rw[h1];rcases h2 with rfl|⟨rfl,rfl⟩
 ·rw[Oper.uponIn_value];exact hn _ _ _ h3 h4
 ·rw[Oper.uponIn_skip];exact hn _ _ _ h3 h4
theorem D9 {o:Op}(h:cls X o≠.w)(h':cls X o≠.q):NL o=false:=by
 cases o <;> try rfl
 rename_i c;obtain⟨callee,args,D8⟩:=c
 cases callee <;> first
  |rfl
  |(rename_i f
    exfalso
    cases f <;> simp only[cls] at h h' <;> first
     |exact h trivial
     |(split at h <;> simp_all)
     |simp_all)
theorem U_ {p q:Nat->Bool}:∀(l:List Nat),(∀x∈l,p x=true->q x=true)->Yk p l<=Yk q l
 |[],_=>agB _
 |x::l,h=>by
  have ih:=U_ (p:=p) (q:=q) l fun y hy=>h y (aab _ hy)
  have hx:=h x (aba ..);simp only[Yk];by_cases hp:p x=true
  ·rw[if_pos hp,if_pos (hx hp)];omega
  ·rw[if_neg hp];split <;> omega
theorem U1 {p:Nat->Bool}:∀(l:List Nat) (n:Nat),n<=l.length->(∀x∈l.take n,p x=true)->(∀x∈l.drop n,p x=false)->Yk p l=n
 |[],n,h,_,_=>by simp at h;subst h;rfl
 |x::l,0,h,_,h2=>by
  have ih:=U1 (p:=p) l 0 (by omega) (by simp) (fun y hy=>h2 y (by simpa using aab _ hy));have:=h2 x (by simp);simp only[Yk,this,ih];rfl
 |x::l,n+1,h,h1,h2=>by
  have ih:=U1 (p:=p) l n (by simpa using h) (fun y hy=>h1 y (by simpa using .inr hy)) (fun y hy=>h2 y (by simpa using hy));have:=h1 x (by simp);simp only[Yk,this,if_true,ih]
theorem Cv {e e':Env}{o:Oper}(h:∀t∈MY ops o,Env.get e t=Env.get e' t):XQ ops e o=XQ ops e' o:=by
 unfold XQ
 cases hg:o.guard with
 |none=>rfl
 |some g =>
  obtain⟨j,b⟩:=g;simp only
  cases hj:ops[j]? with
  |none=>rfl
  |some oj =>
   simp only
   cases hd:oj.dst with
   |none=>rfl
   |some d =>
    simp only;rw[h d (by simp[MY,hg,hj,hd])]
theorem AF {o:Oper}{t:Tmp}(h:Operand.tmp t∈o.op.operands.toList):t∈MY ops o:=by
 unfold MY;rw[amb];exact .inl (List.mem_filterMap.2 ⟨_,h,rfl⟩)
structure DI (X:Cx)(ops:Array Oper)(E:Nat->Env)(S:Nat->St)(Uo:Sg)(s0:St)(w0:World)(n0 sz:Nat)(D:Nat->Bool)(a:Act)(w:World):Prop where
 ex:∃m σ T e,HI X ops E S Uo s0 w0 D m σ T w/\KE ops E D e/\SU σ e a.tmps/\WD X σ/\DF n0 σ w a.defers
 size:a.tmps.size=sz
variable {E:Nat->Env}{S:Nat->St}{Uo:Sg}{s0:St}{w0:World}{n0 sz:Nat}{D D':Nat->Bool}{a:Act}{w:World}
theorem DI.step (hX:Full X P)(hE:LC X P ex)(ht:EP X ex ops s0.next E S)(hL:Cu X ops s0.next E)(X5:Ok X ops)(EO:n0<=w0.heap.size)(AE:∀o∈ops.toList,Jj sz o.dst)
  (MX:∀m,m=0\/(∃j,m=j+1/\kW X ops j)->∀i,m<=i->kA X ops i->(S m).look (s0.next+i)=none)
  (D7:∀(D:Nat->Bool) m j o v s',Ct ops D j o->(∀i,kW X ops i->(D i=true<->i<m))->(m=0\/∃j,m=j+1/\kW X ops j)->cls X o.op=.r\/cls X o.op=.q->XQ ops (E j) o=true->YI X ex (E j) o.op (S j)=some (v,s') ->
   ∃R rz,YI X ex (E j) o.op R=some (v,rz)/\R.next=(S m).next/\∀id b,R.look id=some b->(S m).look id=some b\/∃i,m<=i/\kA X ops i/\Am.Xy ops i j=true/\id=s0.next+i/\(S (i+1)).look id=some b)
  (h:DI X ops E S Uo s0 w0 n0 sz D a w){j:Nat}{o:Oper}(hr:Ct ops D j o)(hD:Adds D D' j){r:Option Nat}{Jk:Act->World->Prop}{Q:Exit->Act->World->Prop}
  (Vl:∀a' w',DI X ops E S Uo s0 w0 n0 sz D' a' w'->Jk a' w') :
  if Region.wanted o (yielded ops a.tmps) then o.wpIn (FW r) 0 P a w Jk Q else (∀f,o.about P w a.eval=some f->(FW r).fn f)/\Jk (a.put o.dst Go.undef) w:=by
 obtain⟨⟨m,σ,T,e,hH,hK,m_,hG,tN⟩,VY⟩:=h;have EN:j<ops.size:=(agz.1 hr.op).1;have hdj:Jj a.tmps.size o.dst:=by
  rw[VY];exact AE o (by
   have:=(agz.1 hr.op).2;rw[<-this];simp)
 have SH:∀t∈MY ops o,Env.get e t=Env.get (E j) t:=fun t htl=>hK.look ht X5 hr htl
 have D6:∀s,YI X ex e o.op s=YI X ex (E j) o.op s:=fun s=>ry fun t hto=>SH t (AF hto)
 have EV:=MX m hH.mw;have hwt:Region.wanted o (yielded ops a.tmps)=XQ ops (E j) o:=by rw[D5 m_,Cv SH]
 rw[hwt];have fin:∀{m':Nat} {Yx:Sg} {T':St} {w':World} {v:AV} {u:Value},HI X ops E S Uo s0 w0 D' m' Yx T' w'->E (j+1)=Yt (E j) o.dst v->Sg.le σ Yx->ZY Yx v u->DF n0 Yx w' a.defers ->
   DI X ops E S Uo s0 w0 n0 sz D' (a.put o.dst u) w':=by
  intro m' Yx T' w' v u h1 h2 h3 h4 h5;refine⟨⟨m',Yx,T',Yt e o.dst v,h1,hK.step X5 hr hD h2,Ji (m_.mono h3) hdj h4,hG.mono h3,by rw[put_defers];exact h5⟩,by rw[AB,VY]⟩
 rcases U9 (ht.step j o hr.op) with⟨h1,h2,h3⟩|⟨h1,v,h2,⟨hc,s1,h3,h4⟩|⟨hc,h3⟩⟩
 ·
  rw[h1];simp only[ali,if_false];refine⟨PK,Vl _ _ ?_⟩;by_cases hs:kS X ops j
  ·exfalso;obtain⟨o2,G9,_,hg,_⟩:=Vg hs;rw[hr.op] at G9;cases G9;simp[XQ,hg] at h1
  by_cases hw:kW X ops j
  ·obtain⟨a1,a2,a3,a4,a5,a6,a7⟩:=hH.m9 ht hL X5 EV hr hw;have hHR:HR σ (S j) w:=hH.gd.hr.sub a5;have:=hH.wr ht hL X5 EV hr hD hw (Yx:=σ) (w':=w) (by rw[h3];exact Good.refl hHR);exact fin this h2 (Sg.le_refl _) QB tN
  ·have:=hH.keep hr hD hw hs (R:=T) (fun _ _ _ _ hb=>hb) rfl (Good.refl hH.gd.hr) (fun _=>rfl);exact fin this h2 (Sg.le_refl _) QB tN
 ·
  rw[h1];simp only[if_true];have hc:=Xp.1 hc;obtain⟨b,hb,rfl,Xa⟩:=mZ hc h3;have h5:=Xa { T with next:=s0.next+j } rfl;rw[<-D6] at h5;have hS:(S (j+1)).look (s0.next+j)=some b:=by
   rw[h4];show (St.new { S j with next:=s0.next+j } b).look (s0.next+j)=some b;rw[St.UJ _ _ _ hb,if_pos rfl]
  refine AG hX hG (hH.gd.hr.congr (t:={ T with next:=s0.next+j }) fun _=>rfl) (hH.u j ⟨o,hr.op,hc⟩ hr.no) m_ (D9 (X:=X) (by rw[hc];simp) (by rw[hc];simp)) h5 fun u w' Yx hv g=>Vl _ _ ?_
  have:=hH.al hL X5 hr hD hc hb hS g;exact fin this h2 g.ext.le hv (tN.good g)
 ·rw[h1];simp only[if_true];have aaZ:cls X o.op≠.w->¬kW X ops j:=fun ZC ⟨o2,G9,xJ,_⟩=>by rw[hr.op] at G9;cases G9;exact ZC xJ
  have mY:cls X o.op≠.w->¬kS X ops j:=fun ZC hs=>by
   obtain⟨o2,G9,_,_,xJ,_⟩:=Vg hs;rw[hr.op] at G9;cases G9;exact ZC xJ
  have aa0:cls X o.op≠.a->kA X ops j->σ=σ->False:=fun ZC ⟨o2,G9,xJ⟩ _=>by rw[hr.op] at G9;cases G9;exact ZC xJ
  cases hk:cls X o.op with
  |a=>rw[hk] at hc;cases hc
  |p =>
   obtain⟨_,Xa⟩:=mX hk _ _ _ h3;have h5:=Xa T;rw[<-D6] at h5;refine AG hX hG hH.gd.hr (hH.gd.fresh _ (agB _)) m_ (D9 (X:=X) (by rw[hk];simp) (by rw[hk];simp)) h5 fun u w' Yx hv g=>Vl _ _ ?_
   have:=hH.keep hr hD (aaZ (by rw[hk];simp)) (mY (by rw[hk];simp)) (R:=T) (fun _ _ _ _ hb=>hb) rfl g (fun e=>(aa0 (by rw[hk];simp) e rfl).elim);exact fin this h2 g.ext.le hv (tN.good g)
  |r =>
   have Jh:∀i,D i=true->¬kS X ops i:=hr.Cs (by rw[hk];simp) (by rw[hk];simp) (by
    cases hl:late X ops j with
    |false=>rfl
    |true=>exact absurd hl (mY (by rw[hk];simp)))
   obtain⟨R,rz,h5,h6,h7⟩:=D7 D m j o v _ hr hH.EL hH.mw (.inl hk) h1 h3;have:=mW hk h5;subst this;rw[<-D6] at h5;have U2:∀i p b,σ i=some p->rz.look i=some b->T.look i=some b:=by
    intro i p b hp hb;rcases h7 i b hb with h8|⟨i',k1,k2,k3,rfl,k4⟩
    ·rw[hH.t1 i (by rw[hp];simp) ?_ fun i' k1 k2=>absurd k2 (Jh i' k1)]
     ·exact h8
     ·rintro i' k1 k2 k3 rfl;rw[EV i' k1 k3] at h8;cases h8
    ·rw[hH.t2 i' k1 (hr.Xy k3) k2 (by rw[hp];simp)];exact k4
   have hn:rz.next=T.next:=by rw[h6,hH.t3]
   have I:Inv X σ rz w n0 e a:=⟨hH.gd.hr.sub U2,fun i hi=>hH.gd.fresh i (by rw[<-hn];exact hi),hG,m_,tN,amA EO hH.gd.ext.size⟩;refine LB hX hE I h5 fun u w' Yx hv g=>Vl _ _ ?_
   have:=hH.keep hr hD (aaZ (by rw[hk];simp)) (mY (by rw[hk];simp)) U2 hn g (fun e=>(aa0 (by rw[hk];simp) e rfl).elim);exact fin this h2 g.ext.le hv (tN.good g)
  |q =>
   have Jh:∀i,D i=true->¬kS X ops i:=hr.Cs (by rw[hk];simp) (by rw[hk];simp) (by
    cases hl:late X ops j with
    |false=>rfl
    |true=>exact absurd hl (mY (by rw[hk];simp)))
   obtain⟨R,rz,h5,h6,h7⟩:=D7 D m j o v _ hr hH.EL hH.mw (.inr hk) h1 h3;have:=(D4 hk h5).1;subst this;rw[<-D6] at h5;have U2:∀i p b,σ i=some p->rz.look i=some b->T.look i=some b:=by
    intro i p b hp hb;rcases h7 i b hb with h8|⟨i',k1,k2,k3,rfl,k4⟩
    ·rw[hH.t1 i (by rw[hp];simp) ?_ fun i' k1 k2=>absurd k2 (Jh i' k1)]
     ·exact h8
     ·rintro i' k1 k2 k3 rfl;rw[EV i' k1 k3] at h8;cases h8
    ·rw[hH.t2 i' k1 (hr.Xy k3) k2 (by rw[hp];simp)];exact k4
   have hn:rz.next=T.next:=by rw[h6,hH.t3]
   have I:Inv X σ rz w n0 e a:=⟨hH.gd.hr.sub U2,fun i hi=>hH.gd.fresh i (by rw[<-hn];exact hi),hG,m_,tN,amA EO hH.gd.ext.size⟩;refine LB hX hE I h5 fun u w' Yx hv g=>Vl _ _ ?_
   have:=hH.keep hr hD (aaZ (by rw[hk];simp)) (mY (by rw[hk];simp)) U2 hn g (fun e=>(aa0 (by rw[hk];simp) e rfl).elim);exact fin this h2 g.ext.le hv (tN.good g)
  |w =>
   by_cases hs:kS X ops j
   ·obtain⟨b,hb,_⟩:=hL.some j hs;obtain⟨k0,k',v',g1,g2,g3,g4,g5⟩:=ht.J_ hr.op hs hb;have Hd:Tz X (E j) o.op=some b:=by unfold lb at hb;rw[hr.op] at hb;exact hb
    have hσ:σ b≠none:=by
     obtain⟨o2,G9,Xz,_⟩:=Vg hs;rw[hr.op] at G9;cases G9
     cases xI:o.op <;> rw[xI] at Xz <;> simp only[Ty] at Xz <;> try (cases Xz;done)
     rename_i tt aa xx;rw[xI] at Hd;simp only[Tz] at Hd
     split at Hd
     ·rename_i b1 o1 ha
      cases Hd
      have eW:eval X e aa=some (.ptr b o1):=by
       rw[<-ha];exact eval_congr fun t eV=>SH t (AF (by rw[xI,eV];simp[Op.operands]))
      obtain⟨p,hp,_⟩:=Xf (T_ hG m_ eW);rw[hp];simp
     ·cases Hd
    have hf:=hH.ru ht hL X5 hr hs hb hσ;have hTk:T.look b=some k0:=by rw[hf];exact g1
    have R_:T.get b=(S j).get b:=by
     have h5:=hTk;have h6:=g1;unfold St.look at h5 h6
     cases hx:T.get b with
     |none=>rw[hx] at h5;cases h5
     |some x =>
      cases hy:(S j).get b with
      |none=>rw[hy] at h6;cases h6
      |some y =>
       rw[hx] at h5;rw[hy] at h6
       cases x <;> cases y <;> simp only at h5 h6 <;> first|(cases h5;done)|(cases h6;done)|(rw[h5,h6])
    have h5:=g5 T R_;rw[<-D6] at h5;have I:Inv X σ T w n0 e a:=⟨hH.gd.hr,hH.gd.fresh,hG,m_,tN,amA EO hH.gd.ext.size⟩;refine LB hX hE I h5 fun u w' Yx hv g=>Vl _ _ ?_
    have:=hH.st hL hr hD hs hb hσ hTk g2 (by rw[g3,St.Xe,if_pos rfl];cases k' <;> first|rfl|exact absurd rfl g2) g;exact fin this g4 g.ext.le hv (tN.good g)
   ·have hw:kW X ops j:=⟨o,hr.op,hk,by
     cases hl:late X ops j with
     |false=>rfl
     |true=>exact absurd hl hs⟩
    obtain⟨a1,a2,a3,a4,a5,a6,a7⟩:=hH.m9 ht hL X5 EV hr hw;have hHR:HR σ (S j) w:=hH.gd.hr.sub a5;rw[<-D6] at h3;have I:Inv X σ (S j) w n0 e a:=⟨hHR,fun i hi=>hH.gd.fresh i (by rw[<-a2];exact hi),hG,m_,tN,amA EO hH.gd.ext.size⟩;refine LB hX hE I h3 fun u w' Yx hv g=>Vl _ _ ?_
    have:=hH.wr ht hL X5 EV hr hD hw g;exact fin this h2 g.ext.le hv (tN.good g)
theorem DI.run (hX:Full X P)(hE:LC X P ex)(ht:EP X ex ops s0.next E S)(hL:Cu X ops s0.next E)(X5:Ok X ops)(EO:n0<=w0.heap.size)(AE:∀o∈ops.toList,Jj sz o.dst)
  (MX:∀m,m=0\/(∃j,m=j+1/\kW X ops j)->∀i,m<=i->kA X ops i->(S m).look (s0.next+i)=none)
  (D7:∀(D:Nat->Bool) m j o v s',Ct ops D j o->(∀i,kW X ops i->(D i=true<->i<m))->(m=0\/∃j,m=j+1/\kW X ops j)->cls X o.op=.r\/cls X o.op=.q->XQ ops (E j) o=true->YI X ex (E j) o.op (S j)=some (v,s') ->
   ∃R rz,YI X ex (E j) o.op R=some (v,rz)/\R.next=(S m).next/\∀id b,R.look id=some b->(S m).look id=some b\/∃i,m<=i/\kA X ops i/\Am.Xy ops i j=true/\id=s0.next+i/\(S (i+1)).look id=some b)
  {r:Option Nat}{Q:Exit->Act->World->Prop}(mV:∀D a w,(∀i,i<ops.size->D i=true)->DI X ops E S Uo s0 w0 n0 sz D a w->Q .normal a w) :
  ∀(fuel t:Nat) (listed:Array Bool) (a:Act) (w:World),listed.size=ops.size->xa ops (fun i=>listed.getD i false)->left (fun i=>listed.getD i false) ops.size<=fuel->DI X ops E S Uo s0 w0 n0 sz (fun i=>listed.getD i false) a w ->
   wpOpsIn (FW r) 0 P ops Q (Region.linearise.go .any ops fuel t listed []) a w:=by
 intro fuel
 induction fuel with
 |zero =>
  intro t listed a w hs tQ hl hI;simp only[Region.linearise.go,List.reverse_nil,wpOpsIn];exact mV _ _ _ (D3 (by omega)) hI
 |succ fuel ih =>
  intro t listed a w hs tQ hl hI;simp only[Region.linearise.go];generalize D2:((List.range ops.size).filter fun i=>!listed.getD i true&&((ops[i]?).map (·.after.all fun e=>!Region.binds .any e||listed.getD e.on false)).getD false)=rs
  cases hi:rs[t%rs.length]? with
  |none =>
   have ahD:rs=[]:=by
    cases rs with
    |nil=>rfl
    |cons x xs =>
     have Yh:t%(x::xs).length<(x::xs).length:=Nat.mod_lt _ (by simp);rw[aaa Yh] at hi;cases hi
   simp only[List.reverse_nil,wpOpsIn];refine mV _ _ _ (fun i hi=>?_) hI
   induction i using Nat.strongRecOn with
   |_ i ihi =>
    cases hD:listed.getD i false with
    |true=>rfl
    |false =>
     exfalso;have ho:=al8 hi;have:i∈rs:=by
      rw[<-D2,List.mem_filter];refine⟨al4.2 hi,?_⟩;have h1:listed.getD i true=false:=by
       rw[al3,al8 (by omega)] at hD ⊢
       simpa using hD
      rw[h1,ho];simp only[amp,al9,amo,amG];rw[<-Array.all_toList,alK];intro e he
      cases hb:Region.binds .any e with
      |false=>rfl
      |true =>
       have Yh:=X5.edge i _ ho e he hb;simp only[ama,amf];exact ihi e.on Yh (by omega)
     rw[ahD] at this;cases this
  |some j =>
   simp only;have hj:=amu hi;rw[<-D2,List.mem_filter] at hj;obtain⟨hj1,hj2⟩:=hj;have EN:j<ops.size:=al4.1 hj1;have ho:=al8 EN;rw[ho] at hj2;simp only[agw,ams,amo,amG] at hj2;have SX:listed.getD j false=false:=by
    have:=hj2.1;rw[al3,al8 (by omega)] at this ⊢
    simpa using this
   have aG:∀e∈(ops[j]).after.toList,Region.binds .any e=true->listed.getD e.on false=true:=by
    have:=hj2.2;rw[<-Array.all_toList,alK] at this;intro e he hb;have:=this e he;rw[hb] at this
    simpa using this
   have hr:Ct ops (fun i=>listed.getD i false) j ops[j]:=⟨tQ,ho,SX,aG⟩;have R_:∀i,(listed.setIfInBounds j true).getD i false=if i=j then true else listed.getD i false:=by
    intro i;simp only[al3,amD];by_cases e:j=i
    ·subst e;simp[hs,EN]
    ·rw[if_neg e,if_neg (fun h=>e h.symm)]
   have hD:Adds (fun i=>listed.getD i false) (fun i=>(listed.setIfInBounds j true).getD i false) j:=by
    refine⟨by simp only[R_,if_true],fun i H_=>by simp only[R_,if_neg H_]⟩
   rw[linearise_go_acc,List.reverse_singleton,List.singleton_append];simp only[wpOpsIn,ho];refine hI.step hX hE ht hL X5 EO AE MX D7 hr hD fun a' w' H'=>ih _ _ a' w' (by simpa using hs) ?_ ?_ H'
   ·intro i o mU E5 e he hb;rcases hD.of mU with rfl|mU
    ·rw[ho] at E5;cases E5;by_cases hej:e.on=i
     ·simp only[R_,if_pos hej]
     ·simp only[R_,if_neg hej];exact aG e he hb
    ·have:=tQ i o mU E5 e he hb;by_cases hej:e.on=j
     ·simp only[R_,if_pos hej]
     ·simp only[R_,if_neg hej];exact this
   ·have:=AA (D:=fun i=>listed.getD i false) (D':=fun i=>(listed.setIfInBounds j true).getD i false) SX hD.1 (fun i H_=>hD.2 i H_) EN;omega
theorem aa1 (hX:Full X P):Cr X P:=by
 intro ex hE r ops e e' s s' a w σ n0 t Q h X5 AE I hQ;have X5:=w_ X5;unfold OQ at h
 split at h
 ·rename_i tr htr;simp only at h
  split at h
  ·rename_i ss hss
   split at h
   ·rename_i J9;simp only[agw] at J9;obtain⟨⟨G8,adN⟩,adO⟩:=J9;have J9:=And.intro adN adO;obtain⟨k1,k2,k3⟩:=QA _ _ _ _ _ htr;have k1:tr.length=ops.size+1:=by simpa using k1
    have ht:EP X ex ops s.next (SB tr) (W_ tr):=⟨fun i o ho=>by
     have:=k3 i o (by simpa using ho)
     simpa using this⟩
    have J8:W_ tr 0={ s with next:=s.next+ops.size }:=by simp[W_,k2]
    have hE0:SB tr 0=e:=by simp[SB,k2]
    have adP:=LA _ _ hss;have Mu:∀j,j∈Zh X ops 0 ops.toList<->kW X ops j:=by
     intro j;rw[Qz]
     constructor
     ·rintro⟨k,o,h1,rfl,h3⟩;simp only[agw,ams] at h3;exact⟨o,by simpa using h1,Rb.1 h3.1,h3.2⟩
     ·rintro⟨o,h1,h3,h4⟩;exact⟨j,o,by simpa using h1,by omega,by simp[Rb.2 h3,h4]⟩
    have hL:Cu X ops s.next (SB tr):=by
     obtain⟨l1,l2⟩:=Jg _ G8;have Yh:∀i,kS X ops i->i<ops.toList.length:=fun i hi=>by
      obtain⟨o,ho,_⟩:=Vg hi
      simpa using (agz.1 ho).1
     have aF:∀i o,ops.toList[i]? = some o->lb X ops (SB tr) i=Tz X (SB tr i) o.op:=fun i o ho=>by
      unfold lb;rw[show ops[i]? = some o by simpa using ho]
     refine⟨fun i hi=>?_,fun i j hi hj H_=>?_⟩
     ·obtain⟨q,o,e1,e2,_⟩:=SA (X:=X) (ops:=ops) ops.toList tr 0 (by simpa using k1) i (Yh i hi) (by rw[ald];exact hi);obtain⟨b,hb,hr⟩:=l1 _ (amu e2);exact⟨b,by rw[aF i o e1];exact hb,hr⟩
     ·have key:∀i j,kS X ops i->kS X ops j->i<j->lb X ops (SB tr) i≠lb X ops (SB tr) j:=by
       intro i j hi hj H_;obtain⟨q,o,e1,e2,e3⟩:=SA (X:=X) (ops:=ops) ops.toList tr 0 (by simpa using k1) i (Yh i hi) (by rw[ald];exact hi);have hjo:=aaa (Yh j hj);obtain⟨q',e4,e5⟩:=e3 j _ H_ hjo (by rw[ald];exact hj);rw[aF i o e1,aF j _ hjo];exact l2 q q' _ _ e4 e2 e5
      rcases Nat.lt_trichotomy i j with h1|h1|h1
      ·exact key i j hi hj h1
      ·exact absurd h1 H_
      ·exact fun e=>key j i hj hi h1 e.symm
    have SY:∀m,m=0\/(∃j,m=j+1/\kW X ops j)->(m,W_ tr m)∈(0,{ s with next:=s.next+ops.size })::ss:=by
     rintro m (rfl|⟨j,rfl,hj⟩)
     ·rw[J8];exact aba ..
     ·refine aab _ ?_;rw[adP];exact alN.2 ⟨j,(Mu j).2 hj,rfl⟩
    have D7:∀(D:Nat->Bool) m j o v s',Ct ops D j o->(∀i,kW X ops i->(D i=true<->i<m))->(m=0\/∃j,m=j+1/\kW X ops j)->cls X o.op=.r\/cls X o.op=.q->XQ ops (SB tr j) o=true->YI X ex (SB tr j) o.op (W_ tr j)=some (v,s') ->
      ∃R rz,YI X ex (SB tr j) o.op R=some (v,rz)/\R.next=(W_ tr m).next/\∀id b,R.look id=some b->(W_ tr m).look id=some b\/∃i,m<=i/\kA X ops i/\Am.Xy ops i j=true/\id=s.next+i/\(W_ tr (i+1)).look id=some b:=by
     intro D m j o v s1 hr J7 hm hk hw xI;have EN:j<ops.size:=(agz.1 hr.op).1;have htj:tr[j]? = some (SB tr j,W_ tr j):=by
      rw[aaa (by omega)];simp[SB,W_,aaa (show j<tr.length by omega)]
     obtain⟨q1,q2⟩:=Jf _ _ _ J9.1 j o _ (by simpa using hr.op) htj hw;rw[ald] at q1 q2;have Ue:(m,W_ tr m)∈Uu ops (Zh X ops 0 ops.toList) ((0,({ s with next:=s.next+ops.size }:St))::ss) j:=by
      have og:Yk (fun i=>Am.Xy ops i j) (Zh X ops 0 ops.toList)<=Yk D (Zh X ops 0 ops.toList):=U_ _ fun x _ hb=>hr.Xy hb
      have eU:Yk D (Zh X ops 0 ops.toList)<=Yk (fun i=>!Am.Xy ops j i) (Zh X ops 0 ops.toList):=U_ _ fun x _ hb=>by simp[hr.J0 hb]
      have xH:((0,({ s with next:=s.next+ops.size }:St))::ss)[Yk D (Zh X ops 0 ops.toList)]? = some (m,W_ tr m):=by
       rcases hm with rfl|⟨q,rfl,hq⟩
       ·have:Yk D (Zh X ops 0 ops.toList)=0:=U1 _ 0 (aic _) (by simp) fun x hx=>by
         have:=J7 x ((Mu x).1 (by simpa using hx))
         cases hd:D x with
         |false=>rfl
         |true=>have:=this.1 hd;omega
        rw[this,J8];rfl
       ·obtain⟨n,hn⟩:=List.getElem?_of_mem ((Mu q).2 hq);have Jh:=(alQ.1 hn).1;have G7:=To (X:=X) (ops:=ops) ops.toList 0;have ou:=List.pairwise_iff_getElem.1 G7;have hnq:=(alQ.1 hn).2;have:Yk D (Zh X ops 0 ops.toList)=n+1:=by
         refine U1 _ (n+1) Jh (fun x hx=>?_) fun x hx=>?_
         ·obtain⟨i,hi,Nr⟩:=alP.1 hx;have MW:i<n+1:=by rw[amr] at hi;omega
          rw[List.getElem_take] at Nr;have hxw:=(Mu x).1 (by rw[<-Nr];exact adm _);refine (J7 x hxw).2 ?_;by_cases e:i=n
          ·subst e;rw[hnq] at Nr;omega
          ·have:=ou i n (by omega) Jh (by omega);rw[hnq] at this;omega
         ·obtain⟨i,hi,Nr⟩:=alP.1 hx;rw[List.getElem_drop] at Nr;rw[List.length_drop] at hi;have hxw:=(Mu x).1 (by rw[<-Nr];exact adm _);have:=ou n (n+1+i) Jh (by omega) (by omega);rw[hnq,Nr] at this
          cases hd:D x with
          |false=>rfl
          |true=>have:=(J7 x hxw).1 hd;omega
        rw[this,aml,adP,alV,hn];rfl
      unfold Uu;refine amu (i:=Yk D (Zh X ops 0 ops.toList)-Yk (fun i=>Am.Xy ops i j) (Zh X ops 0 ops.toList)) ?_;rw[List.getElem?_drop,show Yk (fun i=>Am.Xy ops i j) (Zh X ops 0 ops.toList)+(Yk D (Zh X ops 0 ops.toList)-Yk (fun i=>Am.Xy ops i j) (Zh X ops 0 ops.toList))=Yk D (Zh X ops 0 ops.toList) by omega,
       List.getElem?_take,if_pos (by omega)]
      exact xH
     have hR:=Qy (ops:=ops) (X:=X) (base:=s.next) (i:=j) (m:=m) (tr:=tr) (UI X 0 ops.toList) (W_ tr m) (fun i hi=>by
      obtain⟨k,o',h1,h2,h3⟩:=G6 _ _ _ hi;exact⟨o',by rw[h2];simpa using h1,h3⟩)
     rcases hk with hk|hk
     ·obtain⟨v',s2,h1,h2⟩:=q1 hk;simp only at h1;rw[xI] at h1;cases h1;obtain⟨s3,h3⟩:=OP _ h2 m _ Ue;exact⟨_,s3,h3,hR.1,hR.2⟩
     ·obtain⟨_,c,vs,us,hc,SI,MC,Xa⟩:=D4 hk xI;rcases q2 hk c vs us hc SI MC with h1|h1
      ·refine⟨W_ tr m,_,Xa _ ?_,rfl,fun id b hb=>.inl hb⟩;unfold Vf at MC ⊢;rw[if_pos h1] at MC ⊢;exact MC
      ·exact⟨_,_,Xa _ (MV _ h1 m _ Ue),hR.1,hR.2⟩
    have hI0:DI X ops (SB tr) (W_ tr) σ s w n0 a.tmps.size (fun i=>(Array.replicate ops.size false).getD i false) a w:=by
     have hf:∀i,(Array.replicate ops.size false).getD i false=false:=by
      intro i;rw[al3,Array.getElem?_replicate]
      split <;> rfl
     refine⟨⟨0,σ,{ s with next:=s.next+ops.size },e,⟨⟨I.hr.congr (fun _=>rfl),?_,fun _ _=>rfl,Nat.le_add_right ..,fun i hi=>I.fresh i (amA (Nat.le_add_right ..) hi),fun _ _ h=>h,fun i p h1 h2=>(by rw[h2] at h1;cases h1)⟩,
      aic _,fun i _=>by simp[hf],.inl rfl,fun id _ _ _=>by rw[J8],fun i _ hd=>(by rw[hf] at hd;cases hd),by rw[J8],fun i b hd=>(by rw[hf] at hd;cases hd),fun i hk _=>?_,fun i hi hl=>by rw[J8];exact hl,by rw[J8],by rw[J8];exact agB _⟩,⟨fun t i hd=>(by rw[hf] at hd;cases hd),fun t _=>by rw[hE0]⟩,I.env,I.glob,I.df⟩,rfl⟩
     ·exact⟨Sg.le_refl _,fun _ _ h=>.inl h,agB _,fun _ _ _=>rfl,fun c _ ⟨i,p,b,h1,h2,h3,h4⟩=>⟨i,p,b,h1,h2,h3,h4⟩,rfl,rfl,rfl⟩
     ·exact I.fresh _ (Nat.le_add_right ..)
    refine DI.run (sz:=a.tmps.size) hX hE ht hL X5 I.n0 AE (fun m hm i hi hk=>Lz _ J9.2 m _ (SY m hm) i hi hk) D7 ?_ ops.size t _ a w (by simp) ?_ ?_ hI0
    ·
     rintro D a1 w1 Xa ⟨⟨m,HZ,T,e1,hH,hK,m_,hG,tN⟩,VY⟩;have Je:=G5 tr;rw[h] at Je;have hn:tr.getLast? = some (SB tr ops.size,W_ tr ops.size):=by
      rw[List.getLast?_eq_getElem?,k1];simp[SB,W_,aaa (show ops.size<tr.length by omega)]
     rw[hn] at Je;simp only[Option.some.injEq,Prod.mk.injEq] at Je;obtain⟨rfl,rfl⟩:=Je;have Lj:∀i,m<=i->i<m+(ops.size-m)->¬kW X ops i:=fun i h1 h2 hk=>by
      have:=(hH.EL i hk).1 (Xa i (by have:=hH.mN;omega));omega
     have tS:m+(ops.size-m)=ops.size:=by have:=hH.mN;omega
     obtain⟨b1,b2,b3,b4,b5⟩:=ht.between hL m (ops.size-m) (by omega) Lj;rw[tS] at b1 b2 b3 b4 b5;have ltS:∀i,kS X ops i->i<ops.size:=fun i hi=>by
      obtain⟨o,ho,_⟩:=Vg hi;exact (agz.1 ho).1
     have hmS:∀i,kS X ops i->m<=i:=fun i hi=>by
      rcases hH.mw with e|⟨l,rfl,hl⟩
      ·omega
      ·refine Nat.le_of_not_lt fun Yh=>?_
       have ZC:l≠i:=fun e=>Ly hl (e ▸ hi)
       obtain⟨oi,E5,_,_,_,adQ⟩:=Vg hi;obtain⟨ol,tM,hc,EK⟩:=id hl;rcases adQ l ol ZC tM with hb|hb|hb|hb
       ·have:=X5.RZ i l hb;omega
       ·rw[EK] at hb;cases hb
       ·rw[hc] at hb;cases hb
       ·rw[hc] at hb;cases hb
     have g:Good σ s w HZ (W_ tr ops.size) w1:=hH.gd.good (fun i p hp=>by
      by_cases hx:∃i',m<=i'/\i'<ops.size/\kA X ops i'/\i=s.next+i'
      ·obtain⟨i',h1,h2,h3,rfl⟩:=hx;rw[hH.t2 i' h1 (Xa i' h2) h3 (by rw[hp];simp),<-b4 i' h1 h2 h3]
      ·by_cases hy:∃i',kS X ops i'/\lb X ops (SB tr) i'=some i
       ·obtain⟨i',h1,h2⟩:=hy;rw[hH.t4 i' i (Xa i' (ltS i' h1)) h1 h2 (by rw[hp];simp),b5 i' i (hmS i' h1) (ltS i' h1) h1 h2]
       ·rw[b3 i (fun i' h1 h2 h3 e=>hx ⟨i',h1,h2,h3,e⟩) (fun i' _ _ h3 e=>hy ⟨i',h3,e⟩)];exact hH.t1 i (by rw[hp];simp) (fun i' h1 h2 h3 e=>hx ⟨i',h1,by
         obtain⟨o,ho,_⟩:=h3;exact (agz.1 ho).1,h3,e⟩) (fun i' _ h3 e=>hy ⟨i',h3,e⟩))
      (fun i hi hl=>by
       by_cases hy:∃i',kS X ops i'/\lb X ops (SB tr) i'=some i
       ·exfalso;obtain⟨i',h1,h2⟩:=hy;obtain⟨o,ho,_⟩:=Vg h1;obtain⟨k0,_,_,g1,_⟩:=ht.J_ ho h1 h2;have Bi:=hmS i' h1;obtain⟨d,hd⟩:∃d,i'=m+d:=⟨i'-m,by omega⟩;have MW:=ltS i' h1;obtain⟨_,_,c3,_,_⟩:=ht.between hL m d (by omega) (fun q q1 q2=>Lj q q1 (by omega));rw[<-hd] at c3;rw[c3 i (fun q _ q2 _ e=>by omega) (fun q _ q2 hq e=>hL.ne q i' hq h1 (by omega) (by rw[e,h2])),hH.D1 i hi hl] at g1
        cases g1
       ·rw[b3 i (fun i' _ _ _ e=>by omega) (fun i' _ _ h3 e=>hy ⟨i',h3,e⟩)];exact hH.D1 i hi hl) (by rw[b1,hH.t3]) (by rw[b2,hH.Az]) I.fresh
     refine hQ _ _ ⟨HZ,g,⟨g.hr,g.fresh I.fresh,hG,fun tt=>?_,tN,amA I.n0 g.ext.size⟩,VY⟩;rw[<-hK.at ht (agB _) (fun i hi _=>Xa i hi) (fun i hi _ ⟨o,ho,_⟩=>by
      have:=(agz.1 ho).1;omega)]
     exact m_ tt
    ·intro j o hd;simp only at hd;rw[al3,Array.getElem?_replicate] at hd
     split at hd <;> cases hd
    ·have:∀(D:Nat->Bool) n,left D n<=n:=by
      intro D n
      induction n with
      |zero=>exact agB _
      |succ n ih=>simp only[left];split <;> omega
     exact this _ _
   ·cases h
  ·cases h
 ·cases h
theorem aa2 (hX:Full X P){n:Nat}{f:FuncId}(Lx:X.ext f=none){args:List AV}{s s':St}{v:AV}(h:run X n f args s=some (v,s')){σ:Sg}{w:World}{us:Array Value}
  (H:HR σ s w)(F:Tn σ s)(G:WD X σ)(hv:ZZ σ args us.toList):Calls P f us w fun en w'=>∃u Yx,en=.returned u/\ZY Yx v u/\Good σ s w Yx s' w' :=
 rr hX (aa1 hX) Lx h H F G hv
end
end Go.Am
namespace Go.Am
open Go
section
variable (X:Cx)
noncomputable def Yf:Ex:=fun c e s =>
 open Classical in if h:∃r n,∀m,n<=m->exec X m c e s=some r then some (Classical.choose h) else none
variable {X}
theorem Ni {c:Code}{e:Env}{s:St}{r:Out×Env×St}:Yf X c e s=some r<->∃n,∀m,n<=m->exec X m c e s=some r:=by
 unfold Yf
 constructor
 ·intro h
  split at h
  ·rename_i hx
   cases h
   exact Classical.choose_spec hx
  ·cases h
 ·rintro⟨n,hn⟩;have hx:∃r n,∀m,n<=m->exec X m c e s=some r:=⟨r,n,hn⟩;rw[dif_pos hx];obtain⟨n',r9⟩:=Classical.choose_spec hx;have h1:=hn (max n n') (Nat.le_max_left ..);have h2:=r9 (max n n') (Nat.le_max_right ..);rw[h1] at h2;exact congrArg some (Option.some.inj h2).symm
def Ex.le (a b:Ex):Prop:=∀c e s r,a c e s=some r->b c e s=some r
structure Zq {α:Type}(X:Cx)(F:Ex->Option α):Prop where
 mono:∀a b,Ex.le a b->∀r,F a=some r->F b=some r
 cont:∀r,F (Yf X)=some r->∃n,∀m,n<=m->F (exec X m)=some r
theorem Zq.const {α:Type}(v:Option α):Zq X (fun _=>v):=⟨fun _ _ _ _ h=>h,fun _ h=>⟨0,fun _ _=>h⟩⟩
theorem Zq.app (c:Code)(e:Env)(s:St):Zq X (fun ex=>ex c e s):=⟨fun a b h r hr=>h c e s r hr,fun r h=>Ni.1 h⟩
theorem Zq.bind {α β:Type}{A:Ex->Option α}{B:α->Ex->Option β}(hA:Zq X A)(hB:∀x,Zq X (B x)):Zq X (fun ex=>(A ex).bind fun x=>B x ex):=by
 refine⟨fun a b h r hr=>?_,fun r hr=>?_⟩
 ·cases ha:A a with
  |none=>simp[ha] at hr
  |some x =>
   simp only[ha,Option.bind_some] at hr;simp only[hA.mono a b h x ha,Option.bind_some];exact (hB x).mono a b h r hr
 ·cases ha:A (Yf X) with
  |none=>simp[ha] at hr
  |some x =>
   simp only[ha,Option.bind_some] at hr;obtain⟨n,hn⟩:=hA.cont x ha;obtain⟨k,hk⟩:=(hB x).cont r hr;refine⟨max n k,fun m hm=>?_⟩;simp only[hn m (by omega),Option.bind_some];exact hk m (by omega)
theorem Zq.of {α:Type}{F G:Ex->Option α}(h:∀ex,F ex=G ex)(hG:Zq X G):Zq X F:=by
 have:F=G:=funext h;rw[this];exact hG
theorem FF (f:FuncId)(args:List AV)(s:St):Zq X (fun ex=>Oj X ex f args s):=by
 unfold Oj
 split
 ·rename_i fn dG
  split
  ·rename_i c hc;refine Zq.of (G:=fun ex=>(ex c (YX 0 args .nil) s).bind fun x=>match x with
    |(.norm,e,s')=>(match Uz X fn e s' with|some v=>some (v,s')|none=>none)
    |(.ret,e,s')=>(match Uz X fn e s' with|some v=>some (v,s')|none=>none)
    |_=>none) (fun ex=>?_) (Zq.bind (Zq.app _ _ _) fun x=>Zq.const _)
   cases ex c (YX 0 args .nil) s with
   |none=>rfl
   |some x=>obtain⟨o,e,s'⟩:=x;cases o <;> rfl
  ·exact Zq.const _
 ·exact Zq.const _
theorem Gs (f:FuncId)(args:List AV)(st:Bool):Zq X (fun ex=>Yg X ex f args st):=by
 refine Zq.of (G:=fun ex=>(Oj X ex f args (X8 X)).bind fun x=>if st then Yn X x.2 Tc x.1 else if flat x.1 then some x.1 else XC X x.2 Tc x.1) (fun ex=>?_) (Zq.bind (FF _ _ _) fun x=>Zq.const _);unfold Yg
 cases Oj X ex f args (X8 X) <;> rfl
theorem uG (f:FuncId)(args:List AV)(s:St):Zq X (fun ex=>Ox X ex f args s):=by
 unfold Ox
 split
 ·rename_i us MC;refine Zq.of (G:=fun ex=>(Yg X ex f us (ZU args)).bind fun v=>some (v,s)) (fun ex=>?_) (Zq.bind (Gs _ _ _) fun x=>Zq.const _)
  cases Yg X ex f us (ZU args) <;> rfl
 ·exact Zq.const _
theorem L5 (f:FuncId)(args:List AV)(s:St):Zq X (fun ex=>Uk X ex f args s):=by
 unfold Uk
 split
 ·exact Zq.const _
 ·split
  ·exact uG _ _ _
  ·exact FF _ _ _
theorem yr (l:Nat)(args:List AV)(s:St):Zq X (fun ex=>Gp ex l args s):=by
 unfold Gp
 split
 ·rename_i p env params assign body hg
  split
  ·rename_i hlen;refine Zq.of (G:=fun ex=>(ex assign ((params.zip args).foldl (fun e (t,a)=>Tr.set e t a) env) s).bind fun x=>match x with
    |(.norm,lE,s1)=>(match s1.get l with
     |some (.loop 0 p1 e1 q1 a1 b1)=>(ex body lE (s1.put l (.loop 1 p1 e1 q1 a1 b1))).bind fun y=>(match y.2.2.get l with
      |some (.loop _ _ e2 q2 a2 b2)=>Nv l y.1 e2 q2 a2 b2 y.2.2
      |_=>none)
     |_=>none)
    |_=>none) (fun ex=>?_) (Zq.bind (Zq.app _ _ _) fun x=>?_)
   ·simp only
    cases ex assign ((params.zip args).foldl (fun e (t,a)=>Tr.set e t a) env) s with
    |none=>rfl
    |some x =>
     obtain⟨o,e1,s1⟩:=x
     cases o <;> simp only[Option.bind_some]
     split
     ·rename_i p1 e2 q1 a1 b1 h1;simp only[h1]
      cases ex body e1 (s1.put l (.loop 1 p1 e2 q1 a1 b1)) with
      |none=>rfl
      |some y=>obtain⟨o2,e3,s3⟩:=y;rfl
     ·rename_i ZC
      split
      ·rename_i h;exact absurd h (ZC _ _ _ _ _)
      ·rfl
   ·obtain⟨o,e1,s1⟩:=x
    cases o <;> simp only <;> try exact Zq.const _
    split
    ·exact Zq.bind (Zq.app _ _ _) fun y=>Zq.const _
    ·exact Zq.const _
  ·exact Zq.const _
 ·exact Zq.const _
theorem uF (f:AV)(args:List AV)(s:St):Zq X (fun ex=>Gx X ex f args s):=by
 unfold Gx
 split
 ·exact L5 _ _ _
 ·exact yr _ _ _
 ·exact Zq.const _
theorem N4 (e:Env)(o:Op)(s:St):Zq X (fun ex=>YI X ex e o s):=by
 cases o <;> try exact Zq.const _
 case next it b=>cases b <;> exact Zq.const _
 case call c =>
  obtain⟨callee,args,D8⟩:=c
  cases callee with
  |builtin b=>exact Zq.const _
  |invoke _ _=>exact Zq.const _
  |value f =>
   simp only[YI]
   split
   ·exact uF _ _ _
   ·exact Zq.const _
theorem Ju (ops:Array Oper):∀(l:List Oper) (e:Env) (s:St),Zq X (fun ex=>K3 X ex ops l e s)
 |[],e,s=>Zq.const _
 |o::l,e,s=>by
  unfold K3
  split
  ·refine Zq.of (G:=fun ex=>(YI X ex e o.op s).bind fun x=>K3 X ex ops l (Yt e o.dst x.1) x.2) (fun ex=>?_) (Zq.bind (N4 _ _ _) fun x=>Ju ops l _ _)
   cases YI X ex e o.op s <;> rfl
  ·exact Ju ops l _ _
theorem uE (ops:Array Oper)(base i:Nat)(o:Oper)(e:Env)(s:St):Zq X (fun ex=>SF X ex ops base i o e s):=by
 unfold SF
 split
 ·split
  ·refine Zq.of (G:=fun ex=>(YI X ex e o.op { s with next:=base+i }).bind fun x=>some (Yt e o.dst x.1,{ x.2 with next:=s.next })) (fun ex=>?_) (Zq.bind (N4 _ _ _) fun x=>Zq.const _)
   cases YI X ex e o.op { s with next:=base+i } <;> rfl
  ·refine Zq.of (G:=fun ex=>(YI X ex e o.op s).bind fun x=>some (Yt e o.dst x.1,x.2)) (fun ex=>?_) (Zq.bind (N4 _ _ _) fun x=>Zq.const _)
   cases YI X ex e o.op s <;> rfl
 ·exact Zq.const _
theorem yq (ops:Array Oper)(base:Nat):∀(l:List Oper) (i:Nat) (e:Env) (s:St),Zq X (fun ex=>xD X ex ops base i l e s)
 |[],i,e,s=>Zq.const _
 |o::l,i,e,s=>by
  refine Zq.of (G:=fun ex=>(SF X ex ops base i o e s).bind fun x=>(xD X ex ops base (i+1) l x.1 x.2).bind fun r=>some ((e,s)::r)) (fun ex=>?_)
   (Zq.bind (uE _ _ _ _ _ _) fun x=>Zq.bind (yq ops base l _ _ _) fun r=>Zq.const _)
  simp only[xD]
  cases SF X ex ops base i o e s with
  |none=>rfl
  |some x =>
   simp only[Option.bind_some]
   cases xD X ex ops base (i+1) l x.1 x.2 <;> rfl
def fD (b:Bool):Option Unit:=if b then some () else none
theorem r8 (a b:Bool):fD (a&&b)=(fD a).bind fun _=>fD b:=by
 cases a <;> cases b <;> rfl
theorem N3 (ops:Array Oper)(base i:Nat)(as:List Nat)(tr:List (Env×St))(e:Env)(o:Op)(v:AV):∀l:List (Nat×St),Zq X (fun ex=>fD (WS X ex ops base i as tr e o v l))
 |[]=>Zq.const _
 |(m,s)::l=>by
  refine Zq.of (G:=fun ex=>(YI X ex e o (TU ops base i m tr as s)).bind fun x=>(fD (same x.1 v)).bind fun _=>fD (WS X ex ops base i as tr e o v l)) (fun ex=>?_)
   (Zq.bind (N4 _ _ _) fun x=>Zq.bind (Zq.const _) fun _=>N3 ops base i as tr e o v l)
  simp only[WS]
  cases YI X ex e o (TU ops base i m tr as s) with
  |none=>rfl
  |some x=>simp only[Option.bind_some];rw[r8]
theorem IL (ops:Array Oper)(base:Nat)(ws as:List Nat)(ss:List (Nat×St))(vU:List (Env×St)):∀(l:List Oper) (tr:List (Env×St)) (i:Nat),Zq X (fun ex=>fD (TD X ex ops base ws as ss vU i l tr))
 |[],tr,i=>by cases tr <;> exact Zq.const _
 |o::l,[],i=>Zq.const _
 |o::l,(e,s)::tr,i=>by
  simp only[TD];refine Zq.of (fun ex=>r8 _ _) (Zq.bind ?_ fun _=>IL ops base ws as ss vU l tr (i+1))
  split
  ·cases hw:XQ ops e o with
   |false=>exact Zq.const _
   |true =>
    simp only[ama,amf];refine Zq.of (G:=fun ex=>(YI X ex e o.op s).bind fun x=>fD (WS X ex ops base i as vU e o.op x.1 (Uu ops ws ss i))) (fun ex=>?_) (Zq.bind (N4 _ _ _) fun x=>N3 _ _ _ _ _ _ _ _ _)
    cases YI X ex e o.op s <;> rfl
  ·exact Zq.const _
  ·exact Zq.const _
theorem uD (ops:Array Oper)(e:Env)(s:St):Zq X (fun ex=>OQ X ex ops e s):=by
 refine Zq.of (G:=fun ex=>(xD X ex ops s.next 0 ops.toList e { s with next:=s.next+ops.size }).bind fun tr=>match Sv tr (Zh X ops 0 ops.toList) with
  |some ss=>(fD (TD X ex ops s.next (Zh X ops 0 ops.toList) (UI X 0 ops.toList) ((0,{ s with next:=s.next+ops.size })::ss) tr 0 ops.toList tr)).bind fun _ =>
   if Oi s.next ops.size (Tv X ops 0 ops.toList tr)&&Ss X ops s.next ((0,{ s with next:=s.next+ops.size })::ss) then Gl tr else none
  |none=>none) (fun ex=>?_) (Zq.bind (yq _ _ _ _ _ _) fun tr=>?_)
 ·unfold OQ
  cases xD X ex ops s.next 0 ops.toList e { s with next:=s.next+ops.size } with
  |none=>rfl
  |some tr =>
   simp only[Option.bind_some]
   cases Sv tr (Zh X ops 0 ops.toList) with
   |none=>rfl
   |some ss =>
    simp only
    cases TD X ex ops s.next (Zh X ops 0 ops.toList) (UI X 0 ops.toList) ((0,{ s with next:=s.next+ops.size })::ss) tr 0 ops.toList tr <;> simp[fD]
 ·split
  ·exact Zq.bind (IL _ _ _ _ _ _ _ _ _) fun _=>Zq.const _
  ·exact Zq.const _
theorem L4 (c:Code)(e:Env)(s:St):Zq X (fun ex=>Xc X ex c e s):=by
 cases c <;> try exact Zq.const _
 case region id ops d =>
  cases d with
  |true =>
   refine Zq.of (G:=fun ex=>(OQ X ex ops e s).bind fun x=>some (.norm,x.1,x.2)) (fun ex=>?_) (Zq.bind (uD _ _ _) fun x=>Zq.const _);simp only[Xc,if_true]
   cases OQ X ex ops e s <;> rfl
  |false =>
   refine Zq.of (G:=fun ex=>(K3 X ex ops ops.toList e s).bind fun x=>some (.norm,x.1,x.2)) (fun ex=>?_) (Zq.bind (Ju _ _ _ _) fun x=>Zq.const _);simp only[Xc,ali,if_false]
   cases K3 X ex ops ops.toList e s <;> rfl
 case seq a b =>
  refine Zq.of (G:=fun ex=>(ex a e s).bind fun x=>match x with
   |(.norm,e,s)=>ex b e s
   |r=>some r) (fun ex=>?_) (Zq.bind (Zq.app _ _ _) fun x=>?_)
  ·simp only[Xc]
   cases ex a e s with
   |none=>rfl
   |some x=>obtain⟨o,e1,s1⟩:=x;cases o <;> rfl
  ·obtain⟨o,e1,s1⟩:=x
   cases o
   ·exact Zq.app _ _ _
   ·exact Zq.const _
   ·exact Zq.const _
 case cond c a b =>
  simp only[Xc]
  split
  ·exact Zq.app _ _ _
  ·exact Zq.app _ _ _
  ·exact Zq.const _
 case block id b =>
  refine Zq.of (G:=fun ex=>(ex b e s).bind fun x=>match x with
   |(.exit i,e,s)=>if i=id then some (.norm,e,s) else some (.exit i,e,s)
   |r=>some r) (fun ex=>?_) (Zq.bind (Zq.app _ _ _) fun x=>Zq.const _)
  simp only[Xc]
  cases ex b e s with
  |none=>rfl
  |some x=>obtain⟨o,e1,s1⟩:=x;cases o <;> rfl
 case loop b =>
  refine Zq.of (G:=fun ex=>(ex b e s).bind fun x=>match x with
   |(.norm,e,s)=>ex (.loop b) e s
   |r=>some r) (fun ex=>?_) (Zq.bind (Zq.app _ _ _) fun x=>?_)
  ·simp only[Xc]
   cases ex b e s with
   |none=>rfl
   |some x=>obtain⟨o,e1,s1⟩:=x;cases o <;> rfl
  ·obtain⟨o,e1,s1⟩:=x
   cases o
   ·exact Zq.app _ _ _
   ·exact Zq.const _
   ·exact Zq.const _
 case scope b=>exact Zq.app _ _ _
 case rangeFunc f params assign body =>
  simp only[Xc]
  split
  ·rename_i g first cap hf
   split
   ·refine Zq.of (G:=fun ex=>(Uk X ex g (first++[.fn (.yield s.next) [] []]++cap) (s.new (.loop 0 none e params.toList assign body))).bind fun x=>match x.2.get s.next with
     |some (.loop st p _ _ _ _)=>if st=1 then none else K0 p e (x.2.put s.next .gone)
     |_=>none) (fun ex=>?_) (Zq.bind (L5 _ _ _) fun x=>Zq.const _)
    cases Uk X ex g (first++[.fn (.yield s.next) [] []]++cap) (s.new (.loop 0 none e params.toList assign body)) <;> rfl
   ·exact Zq.const _
  ·exact Zq.const _
theorem r0:∀n,Ex.le (exec X n) (exec X (n+1))
 |0=>by intro c e s r h;simp[exec] at h
 |n+1=>fun c e s r h=>(L4 c e s).mono _ _ (r0 n) r h
theorem iH {n m:Nat}(h:n<=m):Ex.le (exec X n) (exec X m):=by
 induction h with
 |refl=>exact fun _ _ _ _ h=>h
 |step _ ih=>exact fun c e s r hr=>r0 _ c e s r (ih c e s r hr)
theorem zG (n:Nat):Ex.le (exec X n) (Yf X):=fun c e s r h=>Ni.2 ⟨n,fun m hm=>iH hm c e s r h⟩
theorem Vq (c:Code)(e:Env)(s:St):Yf X c e s=Xc X (Yf X) c e s:=by
 cases h:Yf X c e s with
 |some r =>
  obtain⟨n,hn⟩:=Ni.1 h;have:=hn (n+1) (Nat.le_succ n);exact ((L4 c e s).mono _ _ (zG n) r this).symm
 |none =>
  cases h':Xc X (Yf X) c e s with
  |none=>rfl
  |some r =>
   obtain⟨n,hn⟩:=(L4 c e s).cont r h';have:Yf X c e s=some r:=Ni.2 ⟨n+1,fun m hm=>by
    obtain⟨k,rfl⟩:∃k,m=k+1:=⟨m-1,by omega⟩;exact hn k (by omega)⟩
   rw[h] at this;cases this
theorem oQ {f:FuncId}{args:List AV}{s:St}{r:AV×St}(h:Uk X (Yf X) f args s=some r):∃n,run X n f args s=some r:=by
 obtain⟨n,hn⟩:=(L5 f args s).cont r h;exact⟨n,hn n (agB n)⟩
end
end Go.Am
namespace Go.Am
open Go
inductive WB where
 |t (n:Nat)
 |v (a:AV)
inductive MN where
 |O9 (x:WB)
 |pick (c a b:WB)
 |al (z:List AV) (t:TypeId)
 |box (t:TypeId) (x:WB)
 |SL (x:WB)
 |NQ (n:Nat) (x:WB)
 |st (n:Nat) (a x:WB)
 |fa (o:Nat) (x:WB)
 |bin (op:BinOp) (t:TypeId) (cst:Bool) (x y:WB)
 |ext (x:WB) (i:Nat)
 |call (f:FuncId) (args:List WB)
 |IU (f:WB) (args:List WB)
 |un (op:UnOp) (x:WB)
 |wk (x:WB)
 |SW (x:WB)
 |ahn (x:WB)
 |sZ (x i:WB)
 |Jb (n:Nat) (x i:WB)
 |aw (len n:Nat) (x i:WB)
 |sls (x:WB) (lo hi:Option WB)
 |sll (n:Nat) (x:WB) (lo hi:Option WB)
 |fd1 (o:Nat) (x:WB)
 |fdn (o n:Nat) (x:WB)
 |On (z:List AV) (ps:List (Nat×Nat×WB))
 |U3 (t:TypeId) (n len:Nat) (z:List AV) (ps:List (Nat×Nat×WB))
 |app (t:TypeId) (n bytes:Nat) (d x:WB)
 |mkf (f:FuncId) (a b:List WB)
 |raw (o:Op)
structure RO where
 d:Option Nat
 g:Option (Nat×Bool)
 at_:Option Nat
 w:Bool
 op:MN
inductive RC where
 |ops (l:List RO)
 |TP (n:Nat) (l:List RO)
 |seq (a b:RC)
 |cond (c:WB) (a b:RC)
 |block (id:Nat) (b:RC)
 |loop (b:RC)
 |exit (id:Nat)
 |ret
 |skip
 |raw (c:Code)
section
variable (X:Cx)
noncomputable def Rl (f:FuncId)(args:List AV)(s:St):Option (AV×St):=Uk X (Yf X) f args s
noncomputable def GR (f:AV)(args:List AV)(s:St):Option (AV×St):=Gx X (Yf X) f args s
def XE (e:Env):WB->AV
 |.t n=>Env.get e n
 |.v a=>a
def N' (e:Env)(l:List WB):List AV:=l.map (XE e)
def mk (base:Nat)(at_:Option Nat)(c:List AV)(t:TypeId)(s:St):AV×St:=match at_ with
 |none=>(.ptr s.next 0,s.new (.cells c t false 0 0))
 |some i=>(.ptr (base+i) 0,s.put (base+i) (.cells c t false 0 0))
def SL (x:AV)(s:St):Option AV:=match x with
 |.ptr b o=>cell s b o
 |.fp c o=>c[o]?
 |_=>none
def NQ (n:Nat)(x:AV)(s:St):Option AV:=match x with
 |.ptr b o=>match s.cells b with
  |some c=>match XA n o c with
   |some r=>some (.agg r)
   |none=>none
  |none=>none
 |.fp c o=>match XA n o c with
  |some r=>some (.agg r)
  |none=>none
 |_=>none
def st (n:Nat)(a v:AV)(s:St):Option St:=match a with
 |.ptr b o=>if v.cells.length=n then Xi s b o v.cells else none
 |_=>none
def faR (o:Nat)(x:AV):Option AV:=match x with
 |.ptr b o'=>some (.ptr b (o'+o))
 |.fp c o'=>some (.fp c (o'+o))
 |_=>none
def yK (c a b:AV):Option AV:=match c with
 |.bool p=>some (bif p then a else b)
 |_=>none
def dp (x:AV)(i:Nat):Option AV:=match x with
 |.XU vs=>vs[i]?
 |_=>none
def yJ:AV->Option AV
 |.str l=>some (.int .i64 l.length)
 |_=>none
def Ti:AV->Option AV
 |.ZW=>some (.int .i64 0)
 |.sl _ _ n _ _=>some (.int .i64 n)
 |.fz es=>some (.int .i64 es.length)
 |_=>none
def aax (s:St):AV->Option AV
 |.PG=>some (.int .i64 0)
 |.fm ks _=>some (.int .i64 ks.length)
 |.map r=>match s.get r with
  |some (.map es _)=>some (.int .i64 es.length)
  |_=>none
 |_=>none
def pM (x i:AV):Option AV:=match x,i with
 |.str b,.int _ i=>if 0<=i then
   match b[i.toNat]? with|some c=>some (.int .u8 c.toNat)|none=>none
  else none
 |_,_=>none
def Ud (n:Nat)(x i:AV):Option AV:=match x,i with
 |.sl b o len _ _,.int _ i=>if 0<=i/\i<len then some (.ptr b (o+i.toNat*n)) else none
 |.fz es,.int _ i=>if 0<=i then match es[i.toNat]? with
   |some x=>if x.cells.length=n/\n≠0 then some (.fp x.cells 0) else none
   |none=>none
  else none
 |_,_=>none
def yI (len n:Nat)(x i:AV):Option AV:=match x,i with
 |.ptr b o,.int _ i=>if 0<=i/\i<len then some (.ptr b (o+i.toNat*n)) else none
 |.fp c o,.int _ i=>if 0<=i/\i<len then some (.fp c (o+i.toNat*n)) else none
 |_,_=>none
def L8 (e:Env)(x:Option WB):Option AV:=x.map (XE e)
def vK (x:AV)(lo hi:Option AV):Option AV:=match x with
 |.str b=>match Yz hi b.length b.length with
  |some h=>match Yz lo 0 h with
   |some l=>some (.str ((b.take h).drop l))
   |none=>none
  |none=>none
 |_=>none
def Es (n:Nat)(x:AV)(lo hi:Option AV):Option AV:=match x with
 |.sl b o len cap VH=>match Yz hi len (cap.getD len) with
  |some h=>match Yz lo 0 h with
   |some l=>some (.sl b (o+l*n) (h-l) (cap.map (·-l)) (if VH=n then n else 0))
   |none=>none
  |none=>none
 |.ZW=>match Yz hi 0 0 with
  |some h=>match Yz lo 0 h with
   |some _=>some .ZW
   |none=>none
  |none=>none
 |.fz es=>match Yz hi es.length es.length with
  |some h=>match Yz lo 0 h with
   |some l=>if es.all (fun x=>x.cells.length==n) then some (.fz ((es.take h).drop l)) else none
   |none=>none
  |none=>none
 |_=>none
def dc (o:Nat)(x:AV):Option AV:=match x with
 |.agg cs=>cs[o]?
 |_=>none
def agu (o n:Nat)(x:AV):Option AV:=match x with
 |.agg cs=>match XA n o cs with
  |some r=>some (.agg r)
  |none=>none
 |_=>none
def QZ (e:Env)(cells:List AV):List (Nat×Nat×WB)->Option (List AV)
 |[]=>some cells
 |(off,n,x)::rest=>if (XE e x).cells.length=n/\off+n<=cells.length then
   match lay off (XE e x).cells cells with
   |some c=>QZ e c rest
   |none=>none
  else none
def pK (t:TypeId)(n bytes:Nat)(d x:AV)(s:St):Option (AV×St):=match Wc n x s with
 |some (m,new) =>
  if new.length≠m*n\/(Xj d+m)*bytes>2^40\/Xj d+m>2^40 then none
  else if m=0 then match d with
   |.ZW=>some (d,s)
   |.sl ..=>some (d,s)
   |.fz _=>some (d,s)
   |_=>none
  else match d with
  |.ZW=>some (.sl s.next 0 m none n,s.new (.cells new t false 0 0))
  |.sl b o len cap VH=>match s.cells b with
   |some c=>match XA (len*n) o c with
    |some old =>
     match cap with
     |some k=>if len+m<=k then
       if VH=n then match Xi s b (o+len*n) new with
        |some s'=>some (.sl b o (len+m) (some k) n,s')
        |none=>none
       else none
      else some (.sl s.next 0 (len+m) none n,s.new (.cells (old++new) t false 0 0))
     |none=>match s.get b with
      |some (.cells _ e0 false OM PF) =>
       if VH=n/\PF<=o+len*n/\e0=t/\new.all Zz=true then
        some (.sl s.next 0 (len+m) none n,(s.put b .gone).new (.cells (old++new) t false (OM-o) (PF-o)))
       else none
      |_=>none
    |none=>none
   |none=>none
  |_=>none
 |none=>none
noncomputable def qY (base:Nat)(at_:Option Nat)(e:Env)(o:Op)(s:St):Option (AV×St):=match at_ with
 |none=>YI X (Yf X) e o s
 |some i=>match YI X (Yf X) e o { s with next:=base+i } with
  |some (v,s')=>some (v,{ s' with next:=s.next })
  |none=>none
noncomputable def WG (base:Nat)(at_:Option Nat)(e:Env)(s:St):MN->Option (AV×St)
 |.O9 x=>some (XE e x,s)
 |.pick c a b=>Zm (yK (XE e c) (XE e a) (XE e b)) s
 |.al z t=>some (mk base at_ z t s)
 |.box t x=>some (mk base at_ (XE e x).cells t s)
 |.SL x=>Zm (SL (XE e x) s) s
 |.NQ n x=>Zm (NQ n (XE e x) s) s
 |.st n a x=>OA (st n (XE e a) (XE e x) s)
 |.fa o x=>Zm (faR o (XE e x)) s
 |.bin op t cst x y=>Zm (Wg X op t cst (XE e x) (XE e y)) s
 |.ext x i=>Zm (dp (XE e x) i) s
 |.call f args=>Rl X f (N' e args) s
 |.IU f args=>GR X (XE e f) (N' e args) s
 |.un op x=>Zm (o0 op (XE e x)) s
 |.wk x=>Zm (yJ (XE e x)) s
 |.SW x=>Zm (Ti (XE e x)) s
 |.ahn x=>Zm (aax s (XE e x)) s
 |.sZ x i=>Zm (pM (XE e x) (XE e i)) s
 |.Jb n x i=>Zm (Ud n (XE e x) (XE e i)) s
 |.aw len n x i=>Zm (yI len n (XE e x) (XE e i)) s
 |.sls x lo hi=>Zm (vK (XE e x) (L8 e lo) (L8 e hi)) s
 |.sll n x lo hi=>Zm (Es n (XE e x) (L8 e lo) (L8 e hi)) s
 |.fd1 o x=>Zm (dc o (XE e x)) s
 |.fdn o n x=>Zm (agu o n (XE e x)) s
 |.On z ps=>Zm ((QZ e z ps).map .agg) s
 |.U3 t n len z ps=>match QZ e z ps with
  |some c=>match at_ with
   |none=>some (.sl s.next 0 len (some len) n,s.new (.cells c t false 0 0))
   |some i=>some (.sl (base+i) 0 len (some len) n,s.put (base+i) (.cells c t false 0 0))
  |none=>none
 |.app t n bytes d x=>pK t n bytes (XE e d) (XE e x) s
 |.mkf f a b=>some (.fn (.func f) (N' e a) (N' e b),s)
 |.raw o=>qY X base at_ e o s
def Rt (e:Env):Option (Nat×Bool)->Bool
 |none=>true
 |some (t,b)=>match Env.get e t with
  |.bool p=>p==b
  |_=>false
noncomputable def yS (base:Nat):List RO->Env->St->Option (Env×St)
 |[],e,s=>some (e,s)
 |o::l,e,s=>match (bif Rt e o.g then WG X base o.at_ e s o.op else some (undef,s)) with
  |some (v,s')=>yS base l (Yt e o.d v) s'
  |none=>none
def Wm (base:Nat)(s:St)(l:List RO):Bool:=l.all fun o=>match o.at_ with
 |some i=>(s.get (base+i)).isNone
 |none=>true
noncomputable def P_ (base:Nat):List RO->Env->St->Option (Env×St)
 |[],e,s=>some (e,s)
 |o::l,e,s=>match (bif Rt e o.g then WG X base o.at_ e s o.op else some (undef,s)) with
  |some (v,s')=>if !o.w||Wm base s' l then P_ base l (Yt e o.d v) s' else none
  |none=>none
abbrev Fl:=Option (Out×Env×St)
def S7 (b:Env->St->Fl):Nat->Env->St->Fl
 |0,_,_=>none
 |n+1,e,s=>match b e s with
  |some (.norm,e,s)=>S7 b n e s
  |r=>r
noncomputable def MH (b:Env->St->Fl):Env->St->Fl:=fun e s =>
 open Classical in if h:∃r n,S7 b n e s=some r then some (Classical.choose h) else none
noncomputable def den:RC->Env->St->Fl
 |.ops l,e,s=>match yS X 0 l e s with
  |some (e,s)=>some (.norm,e,s)
  |none=>none
 |.TP n l,e,s=>if Wm s.next s l then match P_ X s.next l e { s with next:=s.next+n } with
  |some (e,s)=>some (.norm,e,s)
  |none=>none
  else none
 |.seq a b,e,s=>match den a e s with
  |some (.norm,e,s)=>den b e s
  |r=>r
 |.cond c a b,e,s=>match XE e c with
  |.bool p=>bif p then den a e s else den b e s
  |_=>none
 |.block id b,e,s=>match den b e s with
  |some (.exit i,e,s)=>if i=id then some (.norm,e,s) else some (.exit i,e,s)
  |r=>r
 |.loop b,e,s=>MH (den b) e s
 |.exit id,e,s=>some (.exit id,e,s)
 |.ret,e,s=>some (.ret,e,s)
 |.skip,e,s=>some (.norm,e,s)
 |.raw c,e,s=>Yf X c e s
def OY:Operand->Option WB
 |.tmp t=>some (.t t)
 |.const v=>(mS 3 v).map .v
 |.global g=>if g<X.glob then some (.v (.ptr g 0)) else none
 |.func f=>some (.v (.fn (.func f) [] []))
def El:List Operand->Option (List WB)
 |[]=>some []
 |x::l=>match OY X x,El l with
  |some a,some r=>some (a::r)
  |_,_=>none
def iA:Option Operand->Option (Option WB)
 |none=>some none
 |some x=>(OY X x).map some
def FA (place:Nat->Option (Nat×Nat)):List (Nat×Operand)->Option (List (Nat×Nat×WB))
 |[]=>some []
 |(i,x)::l=>match place i,OY X x,FA place l with
  |some (off,n),some a,some r=>some ((off,n,a)::r)
  |_,_,_=>none
def iz:Op->Option MN
 |.move x|.assign x=>(OY X x).map .O9
 |.pick c a b=>match OY X c,OY X a,OY X b with
  |some c,some a,some b=>some (.pick c a b)
  |_,_,_=>none
 |.alloc t=>(zero X t).map fun z=>.al z.cells t
 |.box t x=>(OY X x).map (.box t)
 |.load t x=>match YC X t,size X t,OY X x with
  |some true,some n,some a=>some (.NQ n a)
  |some false,_,some a=>some (.SL a)
  |_,_,_=>none
 |.store t a x=>match size X t,OY X a,OY X x with
  |some n,some a,some x=>some (.st n a x)
  |_,_,_=>none
 |.fieldAddr t x f=>match X.Zd t,OY X x with
  |some (.struct fs),some a=>match fs[f]? with
   |some fd=>match size X fd.type with
    |some (_+1)=>some (.fa fd.offset a)
    |_=>none
   |none=>none
  |_,_=>none
 |.binOp op t x y _=>match OY X x,OY X y with
  |some a,some b=>some (.bin op t (TW x||TW y) a b)
  |_,_=>none
 |.extract x i=>(OY X x).map fun a=>.ext a i
 |.unOp op _ x=>(OY X x).map (.un op)
 |.call { callee:=.builtin .len,args,argTypes,.. }=>match args.toList,argTypes[0]? with
  |[x],some t=>match X.Zd t,OY X x with
   |some .string,some a=>some (.wk a)
   |some (.slice _),some a=>some (.SW a)
   |some (.map _ _),some a=>some (.ahn a)
   |_,_=>none
  |_,_=>none
 |.call { callee:=.builtin .append,args,argTypes,.. }=>match args.toList,argTypes[0]?,argTypes[1]? with
  |[d,x],some t,some u=>match X.Zd t,X.Zd u,OY X d,OY X x with
   |some (.slice elem),some ud,some a,some b=>match X.inf elem,size X elem,(match ud with|.slice _=>true|.string=>true|_=>false) with
    |some ei,some n,true=>if ei.bytes>2^20\/n=0\/ei.bytes=0\/HL ei.zero n=true\/X.spec elem=true then none else some (.app elem n ei.bytes a b)
    |_,_,_=>none
   |_,_,_,_=>none
  |_,_,_=>none
 |.index t x i=>match X.Zd t,OY X x,OY X i with
  |some .string,some a,some b=>some (.sZ a b)
  |_,_,_=>none
 |.indexAddr t x i=>match X.Zd t,OY X x,OY X i with
  |some (.slice e),some a,some b=>(size X e).map fun n=>.Jb n a b
  |some (.array len e),some a,some b=>(size X e).map fun n=>.aw len n a b
  |_,_,_=>none
 |.slice t x lo hi none=>match X.Zd t,OY X x,iA X lo,iA X hi with
  |some .string,some a,some l,some h=>some (.sls a l h)
  |some (.slice e),some a,some l,some h=>(size X e).map fun n=>.sll n a l h
  |_,_,_,_=>none
 |.field t x f=>match X.Zd t,OY X x with
  |some (.struct fs),some a=>match fs[f]? with
   |some fd=>match YC X fd.type,size X fd.type with
    |some true,some n=>some (.fdn fd.offset n a)
    |some false,_=>some (.fd1 fd.offset a)
    |_,_=>none
   |none=>none
  |_,_=>none
 |.build t ps=>match zero X t,X.Zd t with
  |some (.agg z),some (.struct fs)=>match NF X fs.toList with
   |some pl=>(FA X (fun i=>pl[i]?) ps.toList).map (.On z)
   |none=>none
  |some (.agg z),some (.array _ elem)=>match size X elem with
   |some n=>(FA X (fun i=>some (i*n,n)) ps.toList).map (.On z)
   |none=>none
  |_,_=>none
 |.buildSlice t len ps=>match X.Zd t with
  |some (.slice elem)=>match size X elem,zero X elem with
   |some n,some z=>if z.cells.length=n/\n≠0/\len*n<=2^24 then (FA X (fun i=>some (i*n,n)) ps.toList).map (.U3 elem n len (UW len z.cells)) else none
   |_,_=>none
  |_=>none
 |.makeFunc (.func g) a b=>match El X a.toList,El X b.toList with
  |some x,some y=>some (.mkf g x y)
  |_,_=>none
 |.call { callee:=.value (.func f),args,.. }=>(El X args.toList).map (.call f)
 |.call { callee:=.value (.tmp t),args,.. }=>(El X args.toList).map (.IU (.t t))
 |_=>none
def yl (o:Op):MN:=match iz X o with
 |some r=>r
 |none=>.raw o
def rcG (ops:Array Oper):Option (Nat×Bool)->Option (Option (Nat×Bool))
 |none=>some none
 |some (j,b)=>match ops[j]? with
  |some o=>match o.dst with
   |some d=>some (some (d,b))
   |none=>none
  |none=>none
def UT (ops:Array Oper)(draw:Bool):Nat->List Oper->Option (List RO)
 |_,[]=>some []
 |i,o::l=>match rcG ops o.guard,UT ops draw (i+1) l with
  |some g,some r=>some ({ d:=o.dst,g,at_:=if draw&&(cls X o.op).BY then some i else none,w:=draw&&(cls X o.op).qA,op:=yl X o.op }::r)
  |_,_=>none
def gD (ops:Array Oper):Bool :=
 let ws:=Zh X ops 0 ops.toList
 let as:=UI X 0 ops.toList
 !Nu X ops&&(List.range ops.size).all fun i=>match ops[i]? with
  |some o=>!((cls X o.op).Ye||(match cls X o.op with|.q=>true|_=>false)) ||
   ((as.all fun k=>!decide (k<i)||Xy ops k i)&&(ws.all fun k=>Xy ops k i||Xy ops i k))
  |none=>true
def rc:Code->RC
 |.skip=>.skip
 |.label _=>.skip
 |.region id ops d=>if d then (if gD X ops&&Xw X ops then match UT X ops true 0 ops.toList with
   |some l=>.TP ops.size l
   |none=>.raw (.region id ops d)
   else .raw (.region id ops d))
  else match UT X ops false 0 ops.toList with
   |some l=>.ops l
   |none=>.raw (.region id ops d)
 |.seq a b=>.seq (rc a) (rc b)
 |.cond c a b=>match OY X c with
  |some x=>.cond x (rc a) (rc b)
  |none=>.raw (.cond c a b)
 |.block id b=>.block id (rc b)
 |.loop b=>.loop (rc b)
 |.scope b=>rc b
 |.exit id=>.exit id
 |.ret=>.ret
 |c=>.raw c
end
end Go.Am
namespace Go.Am
open Go
section
variable [Stat]
variable {X:Cx}
theorem YZ {x:Operand}{a:WB}(h:OY X x=some a)(e:Env):eval X e x=some (XE e a):=by
 cases x <;> simp only[OY] at h
 ·cases h;rfl
 ·rename_i v
  cases hv:mS 3 v with
  |none=>rw[hv] at h;cases h
  |some y=>rw[hv] at h;cases h;exact hv
 ·split at h
  ·rename_i hg;cases h;simp only[eval,hg,if_true,XE]
  ·cases h
 ·cases h;rfl
theorem Nh {l:List Operand}:∀{r:List WB},El X l=some r->∀e,Wk X e l=some (N' e r):=by
 induction l with
 |nil=>intro r h e;simp only[El] at h;cases h;rfl
 |cons x l ih =>
  intro r h e;simp only[El] at h
  split at h
  ·rename_i a r' h1 h2
   cases h
   simp only[Wk,YZ h1 e,ih h2 e];rfl
  ·cases h
theorem Xr {v:Option AV}{s:St}{r:AV×St}(h:Zm v s=some r):∃x,v=some x/\r=(x,s):=by
 unfold Zm at h
 split at h
 ·cases h;exact⟨_,rfl,rfl⟩
 ·cases h
theorem iC {t:TypeId}{a v:AV}{s:St}(ht:YC X t=some false)(h:SL a s=some v):Vc X t a s=some v:=by
 unfold SL at h
 split at h
 ·simp only[Vc,ht];exact h
 ·simp only[Vc,ht];exact h
 ·cases h
theorem iB {t:TypeId}{n:Nat}{a v:AV}{s:St}(ht:YC X t=some true)(hn:size X t=some n)(h:NQ n a s=some v):Vc X t a s=some v:=by
 unfold NQ at h
 split at h
 ·simp only[Vc,ht,hn]
  split at h
  ·rename_i c hc;rw[hc];exact h
  ·cases h
 ·simp only[Vc,ht,hn];exact h
 ·cases h
theorem FB (e:Env):Ov X e none=some none:=rfl
theorem Ng {x:Option Operand}{a:Option WB}(h:iA X x=some a)(e:Env):Ov X e x=some (L8 e a):=by
 cases x with
 |none=>simp only[iA] at h;cases h;rfl
 |some x =>
  simp only[iA] at h
  cases hx:OY X x with
  |none=>rw[hx] at h;cases h
  |some y=>rw[hx] at h;cases h;simp only[Ov,YZ hx e];rfl
theorem P5 {place:Nat->Option (Nat×Nat)}{e:Env}:∀{l:List (Nat×Operand)} {r:List (Nat×Nat×WB)},FA X place l=some r->∃vs,VX X e l=some vs/\∀z c,QZ e z r=some c->Ld place z vs=some c
 |[],r,h=>by simp only[FA] at h;cases h;exact⟨[],rfl,fun z c h=>h⟩
 |(i,x)::l,r,h=>by
  simp only[FA] at h
  split at h
  ·rename_i off n a r' h1 h2 h3
   cases h
   obtain⟨vs,k1,k2⟩:=P5 (e:=e) h3;refine⟨(i,XE e a)::vs,by simp only[VX,YZ h2 e,k1],fun z c hz=>?_⟩;simp only[QZ] at hz;simp only[Ld,h1]
   split at hz
   ·rename_i hc;rw[if_pos hc]
    split at hz
    ·rename_i c' hl;rw[hl];exact k2 _ _ hz
    ·cases hz
   ·cases hz
  ·cases h
theorem oO {t u elem:TypeId}{ei:TypeInfo}{n:Nat}{d x r:AV}{s s':St}(hu:X.Zd t=some (.slice elem))(hi:X.inf elem=some ei)(hs:size X elem=some n)(h1:¬(ei.bytes>2^20\/n=0\/ei.bytes=0\/HL ei.zero n=true\/X.spec elem=true))
  (h:pK elem n ei.bytes d x s=some (r,s')):Nx X t d x s=some (r,s'):=by
 unfold pK at h;unfold Nx;simp only[hu,hi,hs]
 split at h
 ·rename_i m new Mg;rw[Mg];simp only
  split at h
  ·cases h
  ·rename_i hc;rw[if_neg (by
    intro hx;rcases hx with hx|hx|hx|hx|hx|hx|hx|hx
    ·exact hc (.inl hx)
    ·exact hc (.inr (.inl hx))
    ·exact h1 (.inl hx)
    ·exact hc (.inr (.inr hx))
    ·exact h1 (.inr (.inl hx))
    ·exact h1 (.inr (.inr (.inl hx)))
    ·exact h1 (.inr (.inr (.inr (.inl hx))))
    ·exact h1 (.inr (.inr (.inr (.inr hx)))))]
   exact h
 ·cases h
theorem N1 {base:Nat}{e:Env}{s s':St}{o:Op}{v:AV}(h:WG X base none e s (yl X o)=some (v,s')):YI X (Yf X) e o s=some (v,s'):=by
 unfold yl at h
 split at h
 ·rename_i r hr;unfold iz at hr
  split at hr
  ·rename_i x
   cases hx:OY X x with
   |none=>rw[hx] at hr;cases hr
   |some a =>
    rw[hx] at hr;cases hr;simp only[WG] at h;simp only[YI,YZ hx e,Zm];exact h
  ·rename_i x
   cases hx:OY X x with
   |none=>rw[hx] at hr;cases hr
   |some a =>
    rw[hx] at hr;cases hr;simp only[WG] at h;simp only[YI,YZ hx e,Zm];exact h
  ·rename_i c a b
   split at hr
   ·rename_i c' a' b' h1 h2 h3
    cases hr
    simp only[WG] at h;obtain⟨x,hx,Ur⟩:=Xr h;simp only[YI,YZ h1 e];unfold yK at hx
    split at hx
    ·rename_i p hp;rw[hp]
     cases p <;> simp only[YZ h2 e,YZ h3 e,Zm] <;> cases hx <;> exact congrArg some Ur.symm
    ·cases hx
   ·cases hr
  ·rename_i t
   cases hz:zero X t with
   |none=>rw[hz] at hr;cases hr
   |some z =>
    rw[hz] at hr;cases hr;simp only[WG,mk] at h;simp only[YI,hz,Vt];exact h
  ·rename_i t x
   cases hx:OY X x with
   |none=>rw[hx] at hr;cases hr
   |some a =>
    rw[hx] at hr;cases hr;simp only[WG,mk] at h;simp only[YI,YZ hx e,Vt];exact h
  ·rename_i t x
   split at hr
   ·rename_i n a h1 h2 h3
    cases hr
    simp only[WG] at h;obtain⟨y,hy,Ur⟩:=Xr h;simp only[YI,YZ h3 e,iB h1 h2 hy,Zm];exact congrArg some Ur.symm
   ·rename_i n a h1 h3
    cases hr
    simp only[WG] at h;obtain⟨y,hy,Ur⟩:=Xr h;simp only[YI,YZ h3 e,iC h1 hy,Zm];exact congrArg some Ur.symm
   ·cases hr
  ·rename_i t a x
   split at hr
   ·rename_i n a' x' h1 h2 h3
    cases hr
    simp only[WG] at h;simp only[YI,YZ h2 e,YZ h3 e];have:Md X t (XE e a') (XE e x') s=st n (XE e a') (XE e x') s:=by
     unfold Md st;rw[h1]
     cases XE e a' <;> rfl
    rw[this];exact h
   ·cases hr
  ·rename_i t x f
   split at hr
   ·rename_i fs a h1 h2
    split at hr
    ·rename_i fd hf
     split at hr
     ·rename_i n hn
      cases hr
      simp only[WG] at h;obtain⟨y,hy,Ur⟩:=Xr h;simp only[YI,YZ h2 e];have:RD X t (XE e a) f=some y:=by
       unfold faR at hy;unfold RD;rw[h1]
       split at hy
       ·rename_i b o' hb;rw[hb];simp only[hf,hn];exact hy
       ·rename_i c o' hb;rw[hb];simp only[hf,hn];exact hy
       ·cases hy
      simp only[this,Zm];exact congrArg some Ur.symm
     ·cases hr
    ·cases hr
   ·cases hr
  ·rename_i op t x y yt
   split at hr
   ·rename_i a b h1 h2
    cases hr
    simp only[WG] at h;simp only[YI,YZ h1 e,YZ h2 e];exact h
   ·cases hr
  ·rename_i x i
   cases hx:OY X x with
   |none=>rw[hx] at hr;cases hr
   |some a =>
    rw[hx] at hr;cases hr;simp only[WG] at h;obtain⟨y,hy,Ur⟩:=Xr h;simp only[YI,YZ hx e];unfold dp at hy
    split at hy
    ·rename_i vs SI;rw[SI];simp only[hy,Zm];exact congrArg some Ur.symm
    ·cases hy
  ·rename_i op t x
   cases hx:OY X x with
   |none=>rw[hx] at hr;cases hr
   |some a =>
    rw[hx] at hr;cases hr;simp only[WG] at h;simp only[YI,YZ hx e];exact h
  ·rename_i args D8
   split at hr
   ·rename_i x t KB xH;have hev:∀a,OY X x=some a->Wk X e args.toList=some [XE e a]:=fun a ha=>by
     rw[KB];simp only[Wk,YZ ha e]
    split at hr
    ·rename_i a hu ha
     cases hr
     simp only[WG] at h;obtain⟨y,hy,Ur⟩:=Xr h;simp only[YI,hev a ha,Yj,xH,hu];unfold yJ at hy
     split at hy
     ·rename_i l hl;rw[hl];cases hy;exact congrArg some Ur.symm
     ·cases hy
    ·rename_i a hu ha
     cases hr
     simp only[WG] at h;obtain⟨y,hy,Ur⟩:=Xr h;simp only[YI,hev a ha,Yj,xH,hu];unfold Ti at hy
     split at hy
     ·rename_i hl;rw[hl];cases hy;exact congrArg some Ur.symm
     ·rename_i hl;rw[hl];cases hy;exact congrArg some Ur.symm
     ·rename_i hl;rw[hl];cases hy;exact congrArg some Ur.symm
     ·cases hy
    ·rename_i a hu ha
     cases hr
     simp only[WG] at h;obtain⟨y,hy,Ur⟩:=Xr h;simp only[YI,hev a ha,Yj,xH,hu];unfold aax at hy
     split at hy
     ·rename_i hl;rw[hl];cases hy;exact congrArg some Ur.symm
     ·rename_i hl;rw[hl];cases hy;exact congrArg some Ur.symm
     ·rename_i r hl;rw[hl];simp only
      split at hy
      ·rename_i es ro hg;rw[hg];cases hy;exact congrArg some Ur.symm
      ·cases hy
     ·cases hy
    ·cases hr
   ·cases hr
  ·rename_i args D8
   split at hr
   ·rename_i d x t u KB xH hau
    split at hr
    ·rename_i elem ud a b hu nU ha hb;have hev:Wk X e args.toList=some [XE e a,XE e b]:=by
      rw[KB];simp only[Wk,YZ ha e,YZ hb e]
     split at hr
     ·rename_i ei n hi hs X5
      split at hr
      ·cases hr
      ·rename_i hc
       cases hr
       simp only[WG] at h;simp only[YI,hev,Yj,xH,hau,nU];have:=oO (u:=u) hu hi hs hc h
       cases ud <;> simp only[ali] at X5 <;> first|exact this|cases X5
     ·cases hr
    ·cases hr
   ·cases hr
  ·rename_i t x i
   split at hr
   ·rename_i a b hu ha hb
    cases hr
    simp only[WG] at h;obtain⟨y,hy,Ur⟩:=Xr h;simp only[YI,YZ ha e,YZ hb e];have:Gq X t (XE e a) (XE e b)=some y:=by
     unfold pM at hy
     split at hy
     ·rename_i l k i' hl MW;rw[hl,MW];simp only[Gq,hu];exact hy
     ·cases hy
    simp only[this,Zm];exact congrArg some Ur.symm
   ·cases hr
  ·rename_i t x i
   split at hr
   ·rename_i el a b hu ha hb
    cases hs:size X el with
    |none=>rw[hs] at hr;cases hr
    |some n =>
     rw[hs] at hr;cases hr;simp only[WG] at h;obtain⟨y,hy,Ur⟩:=Xr h;simp only[YI,YZ ha e,YZ hb e];have:VB X t (XE e a) (XE e b)=some y:=by
      unfold Ud at hy
      split at hy
      ·rename_i b' o len cap VH k i' hl MW;rw[hl,MW];simp only[VB,hu,hs];exact hy
      ·rename_i es k i' hl MW;rw[hl,MW];simp only[VB,hu,hs]
       split at hy
       ·rename_i h0;rw[if_pos h0]
        split at hy
        ·rename_i x' NI;rw[NI];exact hy
        ·cases hy
       ·cases hy
      ·cases hy
     simp only[this,Zm];exact congrArg some Ur.symm
   ·rename_i len el a b hu ha hb
    cases hs:size X el with
    |none=>rw[hs] at hr;cases hr
    |some n =>
     rw[hs] at hr;cases hr;simp only[WG] at h;obtain⟨y,hy,Ur⟩:=Xr h;simp only[YI,YZ ha e,YZ hb e];have:VB X t (XE e a) (XE e b)=some y:=by
      unfold yI at hy
      split at hy
      ·rename_i b' o k i' hl MW;rw[hl,MW];simp only[VB,hu,hs];exact hy
      ·rename_i c o k i' hl MW;rw[hl,MW];simp only[VB,hu,hs];exact hy
      ·cases hy
     simp only[this,Zm];exact congrArg some Ur.symm
   ·cases hr
  ·rename_i t x lo hi
   split at hr
   ·rename_i a l h' hu ha hl hh
    cases hr
    simp only[WG] at h;obtain⟨y,hy,Ur⟩:=Xr h;simp only[YI,YZ ha e,Ng hl e,Ng hh e,FB];have:Py X t (XE e a) (L8 e l) (L8 e h') none=some y:=by
     unfold vK at hy
     split at hy
     ·rename_i b hb;rw[hb];simp only[Py,hu]
      split at hy
      ·rename_i h2 e2;rw[e2];exact hy
      ·cases hy
     ·cases hy
    simp only[this,Zm];exact congrArg some Ur.symm
   ·rename_i el a l h' hu ha hl hh
    cases hs:size X el with
    |none=>rw[hs] at hr;cases hr
    |some n =>
     rw[hs] at hr;cases hr;simp only[WG] at h;obtain⟨y,hy,Ur⟩:=Xr h;simp only[YI,YZ ha e,Ng hl e,Ng hh e,FB];have:Py X t (XE e a) (L8 e l) (L8 e h') none=some y:=by
      unfold Es at hy
      split at hy
      ·rename_i hb;rw[hb];simp only[Py,hu,hs];exact hy
      ·rename_i hb;rw[hb];simp only[Py,hu,hs]
       split at hy
       ·rename_i h2 e2;rw[e2];exact hy
       ·cases hy
      ·rename_i es hb;rw[hb];simp only[Py,hu,hs]
       split at hy
       ·rename_i h2 e2;rw[e2];exact hy
       ·cases hy
      ·cases hy
     simp only[this,Zm];exact congrArg some Ur.symm
   ·cases hr
  ·rename_i t x f
   split at hr
   ·rename_i fs a hu ha
    split at hr
    ·rename_i fd hf
     split at hr
     ·rename_i n Et hs
      cases hr
      simp only[WG] at h;obtain⟨y,hy,Ur⟩:=Xr h;unfold agu at hy
      split at hy
      ·rename_i cs MT
       cases hg:XA n fd.offset cs with
       |none=>rw[hg] at hy;cases hy
       |some r =>
        rw[hg] at hy;cases hy;simp only[YI,YZ ha e,MT,hu,hf,Q_,Et,hs,hg,Zm];exact congrArg some Ur.symm
      ·cases hy
     ·rename_i Et
      cases hr
      simp only[WG] at h;obtain⟨y,hy,Ur⟩:=Xr h;unfold dc at hy
      split at hy
      ·rename_i cs MT;simp only[YI,YZ ha e,MT,hu,hf,Q_,Et,hy,Zm];exact congrArg some Ur.symm
      ·cases hy
     ·cases hr
    ·cases hr
   ·cases hr
  ·rename_i t ps
   split at hr
   ·rename_i z fs hz hu
    split at hr
    ·rename_i pl Mw
     cases hp:FA X (fun i=>pl[i]?) ps.toList with
     |none=>rw[hp] at hr;cases hr
     |some r' =>
      rw[hp] at hr;cases hr;obtain⟨vs,k1,k2⟩:=P5 (e:=e) hp;simp only[WG] at h;obtain⟨y,hy,Ur⟩:=Xr h
      cases MB:QZ e z r' with
      |none=>rw[MB] at hy;cases hy
      |some c =>
       rw[MB] at hy;cases hy;simp only[YI,k1,GH,hz,hu,Mw,k2 _ _ MB,Zm];exact congrArg some Ur.symm
    ·cases hr
   ·rename_i z len el hz hu
    split at hr
    ·rename_i n hs
     cases hp:FA X (fun i=>some (i*n,n)) ps.toList with
     |none=>rw[hp] at hr;cases hr
     |some r' =>
      rw[hp] at hr;cases hr;obtain⟨vs,k1,k2⟩:=P5 (e:=e) hp;simp only[WG] at h;obtain⟨y,hy,Ur⟩:=Xr h
      cases MB:QZ e z r' with
      |none=>rw[MB] at hy;cases hy
      |some c =>
       rw[MB] at hy;cases hy;simp only[YI,k1,GH,hz,hu,hs,k2 _ _ MB,Zm];exact congrArg some Ur.symm
    ·cases hr
   ·cases hr
  ·rename_i t len ps
   split at hr
   ·rename_i el hu
    split at hr
    ·rename_i n z hs hz
     split at hr
     ·rename_i hc
      cases hp:FA X (fun i=>some (i*n,n)) ps.toList with
      |none=>rw[hp] at hr;cases hr
      |some r' =>
       rw[hp] at hr;cases hr;obtain⟨vs,k1,k2⟩:=P5 (e:=e) hp;simp only[WG] at h
       split at h
       ·rename_i c MB;simp only[YI,k1,Ul,hu,hs,hz,if_pos hc,k2 _ _ MB];exact h
       ·cases h
     ·cases hr
    ·cases hr
   ·cases hr
  ·rename_i g a b
   split at hr
   ·rename_i x y hx hy
    cases hr
    simp only[WG] at h;simp only[YI,Nh hx e,Nh hy e];exact h
   ·cases hr
  ·rename_i f args D8
   cases hx:El X args.toList with
   |none=>rw[hx] at hr;cases hr
   |some l =>
    rw[hx] at hr;cases hr;simp only[WG,Rl] at h;simp only[YI,eval,Nh hx e,Gx,amg,alZ];exact h
  ·rename_i t args D8
   cases hx:El X args.toList with
   |none=>rw[hx] at hr;cases hr
   |some l =>
    rw[hx] at hr;cases hr;simp only[WG,GR,XE] at h;simp only[YI,eval,Nh hx e];exact h
  ·cases hr
 ·simp only[WG,qY] at h;exact h
theorem iy {base i:Nat}{e:Env}{s s':St}{o:Op}{v:AV}(hc:cls X o=.a)(h:WG X base (some i) e s (yl X o)=some (v,s')) :
  ∃s1,YI X (Yf X) e o { s with next:=base+i }=some (v,s1)/\s'={ s1 with next:=s.next }:=by
 unfold yl at h
 split at h
 ·rename_i r hr;unfold iz at hr
  split at hr <;> try (simp only[cls] at hc;done)
  all_goals try (simp only[cls] at hc;cases hc;done)
  ·rename_i t
   cases hz:zero X t with
   |none=>rw[hz] at hr;cases hr
   |some z =>
    rw[hz] at hr;cases hr;simp only[WG,mk] at h
    cases h
    refine⟨_,by simp only[YI,hz,Vt];rfl,rfl⟩
  ·rename_i t x
   cases hx:OY X x with
   |none=>rw[hx] at hr;cases hr
   |some a =>
    rw[hx] at hr;cases hr;simp only[WG,mk] at h
    cases h
    refine⟨_,by simp only[YI,YZ hx e,Vt];rfl,rfl⟩
  ·rename_i t len ps
   split at hr
   ·rename_i el hu
    split at hr
    ·rename_i n z hs hz
     split at hr
     ·rename_i fF
      cases hp:FA X (fun i=>some (i*n,n)) ps.toList with
      |none=>rw[hp] at hr;cases hr
      |some r' =>
       rw[hp] at hr;cases hr;obtain⟨vs,k1,k2⟩:=P5 (e:=e) hp;simp only[WG] at h
       split at h
       ·rename_i c MB
        cases h
        refine⟨_,by simp only[YI,k1,Ul,hu,hs,hz,if_pos fF,k2 _ _ MB];rfl,rfl⟩
       ·cases h
     ·cases hr
    ·cases hr
   ·cases hr
  ·simp only[cls] at hc
   split at hc <;> cases hc
  ·cases hr
 ·simp only[WG,qY] at h
  split at h
  ·rename_i v1 s1 h1
   cases h
   exact⟨s1,h1,rfl⟩
  ·cases h
theorem Fz {ops:Array Oper}{o:Oper}{g:Option (Nat×Bool)}(h:rcG ops o.guard=some g)(e:Env):Rt e g=XQ ops e o:=by
 unfold XQ
 cases hg:o.guard with
 |none=>rw[hg] at h;simp only[rcG] at h;cases h;rfl
 |some jb =>
  obtain⟨j,b⟩:=jb;rw[hg] at h;simp only[rcG] at h
  split at h
  ·rename_i oj hj
   split at h
   ·rename_i d hd
    cases h
    simp only[Rt,hj,hd]
    cases Env.get e d <;> rfl
   ·cases h
  ·cases h
theorem Jt {ops:Array Oper}{base:Nat}{r:Env×St}:∀(l:List Oper) (i:Nat) (l':List RO) (e:Env) (s:St),UT X ops false i l=some l'->yS X base l' e s=some r->K3 X (Yf X) ops l e s=some r
 |[],i,l',e,s,h,hr=>by simp only[UT] at h;cases h;simpa only[yS,K3] using hr
 |o::l,i,l',e,s,h,hr=>by
  simp only[UT] at h
  split at h
  ·rename_i g r' h1 h2
   cases h
   simp only[yS,amq,ali,if_false] at hr;simp only[K3,<-Fz h1 e]
   cases hw:Rt e g with
   |false =>
    rw[hw] at hr;simp only[cond_false] at hr;simp only[ali,if_false];exact Jt l (i+1) r' _ _ h2 hr
   |true =>
    rw[hw] at hr;simp only[cond_true] at hr;simp only[if_true]
    split at hr
    ·rename_i v s1 hv;rw[N1 hv];exact Jt l (i+1) r' _ _ h2 hr
    ·cases hr
  ·cases h
mutual
theorem P0:∀a:AV,same a a=true
 |.bool _|.int _ _|.mF _ _|.str _|.Vk|.ptr _ _|.ZW|.sl ..|.PG|.map _|.Wa|.TO=>by simp[same]
 |.fn f x y=>by simp[same,WK x,WK y]
 |.iface t x=>by simp[same,P0 x]
 |.agg a=>by simp[same,WK a]
 |.XU a=>by simp[same,WK a]
 |.fz a=>by simp[same,WK a]
 |.fp a o=>by simp[same,WK a]
 |.fm a b=>by simp[same,WK a,WK b]
theorem WK:∀a:List AV,VU a a=true
 |[]=>by simp[VU]
 |x::l=>by simp[VU,P0 x,WK l]
end
theorem Fy {ops:Array Oper}{base:Nat}{r:Env×St}:∀(l:List Oper) (i:Nat) (l':List RO) (e:Env) (s:St),UT X ops true i l=some l'->P_ X base l' e s=some r ->
  ∃tr,xD X (Yf X) ops base i l e s=some tr/\Gl tr=some r/\∀(k:Nat) o,l[k]? = some o->(cls X o.op).qA=true->∀k',k<k'->∀o',l[k']? = some o'->(cls X o'.op).BY=true->(W_ tr (k+1)).get (base+(i+k'))=none
 |[],i,l',e,s,h,hr=>by
  simp only[UT] at h;cases h;simp only[P_] at hr;cases hr;exact⟨[(e,s)],rfl,rfl,fun k o ho=>by simp at ho⟩
 |o::l,i,l',e,s,h,hr=>by
  simp only[UT] at h
  split at h
  ·rename_i g r' h1 h2
   cases h
   simp only[P_,al9] at hr;have key:∀v s1,SF X (Yf X) ops base i o e s=some (Yt e o.dst v,s1)->(if (!(cls X o.op).qA||Wm base s1 r')=true then P_ X base r' (Yt e o.dst v) s1 else none)=some r ->
     ∃tr,xD X (Yf X) ops base i (o::l) e s=some tr/\Gl tr=some r/\∀(k:Nat) o1,(o::l)[k]? = some o1->(cls X o1.op).qA=true->∀k',k<k'->∀o',(o::l)[k']? = some o'->(cls X o'.op).BY=true->(W_ tr (k+1)).get (base+(i+k'))=none:=by
    intro v s1 Xz hif
    split at hif
    ·rename_i J9;obtain⟨tr,g1,g2,g3⟩:=Fy l (i+1) r' _ _ h2 hif;obtain⟨k1,k2,_⟩:=QA _ _ _ _ _ g1;refine⟨(e,s)::tr,by simp only[xD,Xz,g1],?_,fun k o1 ho1 hw k' hk o' Vo ha=>?_⟩
     ·cases tr with
      |nil=>simp at k1
      |cons x y=>exact g2
     ·obtain⟨k2',rfl⟩:∃q,k'=q+1:=⟨k'-1,by omega⟩;have dQ:∀n,W_ ((e,s)::tr) (n+1)=W_ tr n:=fun n=>by simp[W_]
      rw[dQ]
      cases k with
      |zero =>
       simp at ho1;subst ho1;have QK:W_ tr 0=s1:=by simp[W_,k2]
       rw[QK];rw[hw] at J9;simp only[ama,amf] at J9;have chk:∀(l:List Oper) (i:Nat) (r':List RO),UT X ops true i l=some r'->Wm base s1 r'=true->∀(q:Nat) o',l[q]? = some o'->(cls X o'.op).BY=true->s1.get (base+(i+q))=none:=by
        intro l
        induction l with
        |nil=>intro i r' _ _ q o' Vo;simp at Vo
        |cons x l ih =>
         intro i r' yj hn q o' Vo ha;simp only[UT] at yj
         split at yj
         ·rename_i g2 r2 e1 e2
          cases yj
          simp only[Wm,List.all_cons,agw] at hn
          cases q with
          |zero =>
           simp at Vo;subst Vo;have:=hn.1;simp only[al9,ha,if_true,amz] at this
           simpa using this
          |succ q =>
           have:=ih (i+1) r2 e2 hn.2 q o' (by simpa using Vo) ha;rw[show i+(q+1)=i+1+q by omega];exact this
         ·cases yj
       have:=chk l (i+1) r' h2 J9 k2' o' (by simpa using Vo) ha;rw[show i+(k2'+1)=i+1+k2' by omega];exact this
      |succ k =>
       have:=g3 k o1 (by simpa using ho1) hw k2' (by omega) o' (by simpa using Vo) ha;rw[show i+(k2'+1)=i+1+k2' by omega];exact this
    ·cases hif
   have Kv:=Fz h1 e
   cases hw:Rt e g with
   |false =>
    rw[hw] at hr Kv;simp only[cond_false] at hr;refine key undef s ?_ hr;simp only[SF,<-Kv,ali,if_false]
   |true =>
    rw[hw] at hr Kv;simp only[cond_true] at hr
    split at hr
    ·rename_i v s1 hv;refine key v s1 ?_ hr;simp only[SF,<-Kv,if_true];by_cases ha:(cls X o.op).BY=true
     ·rw[if_pos ha] at hv;obtain⟨s2,e1,e2⟩:=iy (Xp.1 ha) hv;rw[Xp.1 ha];simp only[e1,e2]
     ·rw[if_neg ha] at hv;have:=N1 hv
      cases hk:cls X o.op <;> rw[hk] at ha <;> first|exact absurd rfl ha|simp only[this]
    ·cases hr
  ·cases h
theorem N0 {ops:Array Oper}{base:Nat}{s:St}:∀(l:List Oper) (i:Nat) (r':List RO),UT X ops true i l=some r'->Wm base s r'=true->∀(q:Nat) o',l[q]? = some o'->(cls X o'.op).BY=true->s.get (base+(i+q))=none
 |[],i,r',_,_,q,o',Vo,_=>by simp at Vo
 |x::l,i,r',yj,hn,q,o',Vo,ha=>by
  simp only[UT] at yj
  split at yj
  ·rename_i g2 r2 e1 e2
   cases yj
   simp only[Wm,List.all_cons,agw] at hn
   cases q with
   |zero =>
    simp at Vo;subst Vo;have:=hn.1;simp only[al9,ha,if_true,amz] at this
    simpa using this
   |succ q =>
    have:=N0 l (i+1) r2 e2 hn.2 q o' (by simpa using Vo) ha;rw[show i+(q+1)=i+1+q by omega];exact this
  ·cases yj
end
end Go.Am
namespace Go.Am
open Go
section
variable [Stat]
variable {X:Cx}{ops:Array Oper}{base:Nat}
theorem LZ {tr:List (Env×St)}:∀(ws:List Nat),(∀j∈ws,j+1<tr.length)->Sv tr ws=some (ws.map fun j=>(j+1,W_ tr (j+1)))
 |[],_=>rfl
 |j::ws,h=>by
  have hj:=h j (aba ..);simp only[Sv,aaa hj,LZ ws fun k hk=>h k (aab _ hk),alT,W_,amG]
theorem NY (h:Nu X ops=false):∀(l:List Oper) (i:Nat) (tr:List (Env×St)),Tv X ops i l tr=[]
 |[],i,tr=>by cases tr <;> rfl
 |o::l,i,[]=>rfl
 |o::l,i,(e,s)::tr=>by
  have:late X ops i=false:=by simp[late,h]
  simp only[Tv,this,ali,if_false];exact NY h l (i+1) tr
theorem Js {ex:Ex}{ws as:List Nat}{ss:List (Nat×St)}{vU:List (Env×St)}:∀(l:List Oper) (tr:List (Env×St)) (i:Nat),
  (∀(k:Nat) o es,l[k]? = some o->tr[k]? = some es->XQ ops es.1 o=true ->
   (cls X o.op=.r->∃v s',YI X ex es.1 o.op es.2=some (v,s')/\WS X ex ops base (i+k) as vU es.1 o.op v (Uu ops ws ss (i+k))=true) /\
   (cls X o.op=.q->∃c vs us,o.op=.call c/\Wk X es.1 c.args.toList=some vs/\Vf X es.2 vs=some us/\Ta X ops base (i+k) as vU vs us (Uu ops ws ss (i+k))=true)) ->
  TD X ex ops base ws as ss vU i l tr=true
 |[],tr,i,_=>by cases tr <;> rfl
 |o::l,[],i,_=>rfl
 |o::l,(e,s)::tr,i,h=>by
  simp only[TD,agw];refine⟨?_,Js l tr (i+1) fun k o' es h1 h2 h3=>by
   have:=h (k+1) o' es (by simpa using h1) (by simpa using h2) h3;rw[show i+(k+1)=i+1+k by omega] at this;exact this⟩
  have h0:=h 0 o (e,s) rfl rfl;simp only[Nat.add_zero] at h0
  cases hw:XQ ops e o with
  |false=>cases cls X o.op <;> simp
  |true =>
   obtain⟨q1,q2⟩:=h0 hw
   cases hk:cls X o.op with
   |p=>rfl
   |a=>rfl
   |w=>rfl
   |r =>
    obtain⟨v,s',e1,e2⟩:=q1 hk;simp only[e1,e2,Bool.or_true]
   |q =>
    obtain⟨c,vs,us,e1,e2,e3,e4⟩:=q2 hk;simp only[e1,e2,e3,e4,Bool.or_true]
theorem LY:∀(l:List (Nat×St)),(∀m s,(m,s)∈l->∀i,m<=i->kA X ops i->s.get (base+i)=none)->Ss X ops base l=true
 |[],_=>rfl
 |(m,s)::l,h=>by
  simp only[Ss,agw];refine⟨?_,LY l fun m' s' hm=>h m' s' (aab _ hm)⟩;have h0:=h m s (aba ..);have:∀(l:List Oper) (i:Nat),m<=i->(∀k:Nat,l[k]? = ops[i+k]?)->Gn X base s i l=true:=by
   intro l
   induction l with
   |nil=>intro i _ _;rfl
   |cons o l ih =>
    intro i hi hl;simp only[Gn,agw,amE,ams];refine⟨?_,ih (i+1) (by omega) fun k=>by
     have:=hl (k+1);rw[show i+1+k=i+(k+1) by omega,<-this];simp⟩
    cases ha:(cls X o.op).BY with
    |false=>exact .inl rfl
    |true =>
     right
     rw[h0 i hi ⟨o,by have:=hl 0;simpa using this.symm,Xp.1 ha⟩];rfl
  refine this (ops.toList.drop m) m (agB m) fun k=>?_
  rw[List.getElem?_drop,al1]
variable {E:Nat->Env}{S:Nat->St}{ex:Ex}
theorem EP.rR (h:EP X ex ops base E S){i:Nat}{o:Oper}(ho:ops[i]? = some o)(hw:cls X o.op≠.w) :
  (cls X o.op≠.a->S (i+1)=S i)/\(cls X o.op=.a->S (i+1)=S i\/∃b,b≠.gone/\S (i+1)=(S i).put (base+i) b):=by
 rcases U9 (h.step i o ho) with⟨_,_,h3⟩|⟨_,v,_,⟨hc,s1,h3,h4⟩|⟨hc,h3⟩⟩
 ·exact⟨fun _=>h3,fun _=>.inl h3⟩
 ·have hc:=Xp.1 hc;obtain⟨b,hb,rfl,_⟩:=mZ hc h3;exact⟨fun ZC=>absurd hc ZC,fun _=>.inr ⟨b,hb,by rw[h4];rfl⟩⟩
 ·refine⟨fun _=>?_,fun ha=>?_⟩
  ·cases hk:cls X o.op with
   |a=>rw[hk] at hc;cases hc
   |w=>exact absurd hk hw
   |p=>exact (mX hk _ _ _ h3).1
   |r=>exact mW hk h3
   |q=>exact (D4 hk h3).1
  ·rw[ha] at hc;cases hc
theorem CQ (i:Nat)(o:Oper)(l:List Oper):UI X i (o::l)=if (cls X o.op).BY then i::UI X (i+1) l else UI X (i+1) l:=rfl
theorem CW {tr:List (Env×St)}(ht:EP X ex ops base (SB tr) (W_ tr))(hlen:tr.length=ops.size+1)(X5:Ok X ops){i m:Nat}(hi:i<ops.size)(Bi:m<=i)(Lj:∀k o,m<=k->k<i->ops[k]? = some o->cls X o.op≠.w)
  (ha:∀k,k<i->kA X ops k->Xy ops k i=true)(MX:∀k,m<=k->kA X ops k->(W_ tr m).get (base+k)=none) :
  TU ops base i m tr (UI X 0 ops.toList) (W_ tr m)=W_ tr i:=by
 have skip:∀(as:List Nat) (s:St),(∀j∈as,¬(m<=j/\Xy ops j i=true))->TU ops base i m tr as s=s:=by
  intro as
  induction as with
  |nil=>intro s _;rfl
  |cons j as ih =>
   intro s h;have hj:=h j (aba ..);unfold TU;rw[if_neg (by simpa using hj)];exact ih s fun k hk=>h k (aab _ hk)
 have keep:∀n,m<=n->n<=i->∀k,n<=k->kA X ops k->(W_ tr n).get (base+k)=none:=by
  intro n hn
  induction hn with
  |refl=>intro _ k hk xC;exact MX k hk xC
  |step tS ih =>
   rename_i n;intro hni k hk xC;have SX:n<ops.size:=by omega
   have ho:=al8 SX;obtain⟨e1,e2⟩:=ht.rR ho (Lj n _ tS (by omega) ho);by_cases zL:cls X (ops[n]).op=.a
   ·rcases e2 zL with e|⟨b,_,e⟩
    ·rw[e];exact ih (by omega) k (by omega) xC
    ·rw[e,St.Z9,if_neg (by omega)];exact ih (by omega) k (by omega) xC
   ·rw[e1 zL];exact ih (by omega) k (by omega) xC
 have run:∀d n,n+d=i->m<=n->TU ops base i m tr (UI X n (ops.toList.drop n)) (W_ tr n)=W_ tr i:=by
  intro d
  induction d with
  |zero =>
   intro n hn _;have:n=i:=by omega
   subst this;refine skip _ _ fun j hj hc=>?_
   obtain⟨k,o,_,rfl,_⟩:=G6 _ _ _ hj;have:=X5.RZ n (n+k) hc.2;omega
  |succ d ih =>
   intro n hn tS;have SX:n<ops.size:=by omega
   have ho:=al8 SX;have CZ:ops.toList.drop n=ops[n]::ops.toList.drop (n+1):=by
    rw[abc (by simpa using SX)];simp
   rw[CZ];obtain⟨e1,e2⟩:=ht.rR ho (Lj n _ tS (by omega) ho);rw[CQ];by_cases zL:(cls X (ops[n]).op).BY=true
   ·rw[if_pos zL];have hk:kA X ops n:=⟨_,ho,Xp.1 zL⟩;unfold TU;rw[if_pos (by simp[tS,ha n (by omega) hk])];have BU:tr[n+1]? = some (SB tr (n+1),W_ tr (n+1)):=by
     rw[aaa (by omega)];simp[SB,W_,aaa (show n+1<tr.length by omega)]
    rw[BU];simp only;rcases e2 (Xp.1 zL) with e|⟨b,_,e⟩
    ·rw[e,keep n tS (by omega) n (agB n) hk];simp only;rw[<-e];exact ih (n+1) (by omega) (by omega)
    ·rw[e,St.Z9,if_pos rfl];simp only;rw[<-e];exact ih (n+1) (by omega) (by omega)
   ·rw[if_neg zL,<-e1 (fun h=>zL (Xp.2 h))];exact ih (n+1) (by omega) (by omega)
 have pass:∀n,n<=m->TU ops base i m tr (UI X n (ops.toList.drop n)) (W_ tr m)=TU ops base i m tr (UI X m (ops.toList.drop m)) (W_ tr m):=by
  intro n hn;obtain⟨d,hd⟩:∃d,n+d=m:=⟨m-n,by omega⟩;clear hn
  induction d generalizing n with
  |zero =>
    have:n=m:=by omega
    subst this;rfl
  |succ d ih =>
   have SX:n<ops.size:=by omega
   have CZ:ops.toList.drop n=ops[n]::ops.toList.drop (n+1):=by
    rw[abc (by simpa using SX)];simp
   rw[<-ih (n+1) (by omega),CZ,CQ]
   split
   ·conv=>lhs;unfold TU
    rw[if_neg (by simp;omega)]
   ·rfl
 have:=pass 0 (aic m);rw[amd] at this;rw[this];exact run (i-m) m (by omega) (agB m)
theorem gF {l:List RO}{e:Env}{s:St}{r:Env×St}(yj:UT X ops true 0 ops.toList=some l)(gE:gD X ops=true)(ac8:Xw X ops=true)(hn:Wm s.next s l=true)
  (hr:P_ X s.next l e { s with next:=s.next+ops.size }=some r):OQ X (Yf X) ops e s=some r:=by
 have X5:=w_ ac8;unfold gD at gE;simp only[agw,ams,alK,al4] at gE;obtain⟨a_,Xa⟩:=gE;obtain⟨tr,g1,g2,g3⟩:=Fy _ _ _ _ _ yj hr;obtain⟨k1,k2,k3⟩:=QA _ _ _ _ _ g1;have k1:tr.length=ops.size+1:=by simpa using k1
 have ht:EP X (Yf X) ops s.next (SB tr) (W_ tr):=⟨fun i o ho=>by
  have:=k3 i o (by simpa using ho)
  simpa using this⟩
 have J8:W_ tr 0={ s with next:=s.next+ops.size }:=by simp[W_,k2]
 have G8:∀i,late X ops i=false:=fun i=>by simp[late,a_]
 have Mu:∀j,j∈Zh X ops 0 ops.toList<->∃o,ops[j]? = some o/\cls X o.op=.w:=by
  intro j;rw[Qz]
  constructor
  ·rintro⟨k,o,h1,rfl,h3⟩;simp only[agw] at h3;exact⟨o,by simpa using h1,Rb.1 h3.1⟩
  ·rintro⟨o,h1,h3⟩;exact⟨j,o,by simpa using h1,by omega,by simp[Rb.2 h3,G8]⟩
 have ac9:∀j,kA X ops j->j∈UI X 0 ops.toList:=by
  have:∀(l:List Oper) (i k:Nat) o,l[k]? = some o->cls X o.op=.a->i+k∈UI X i l:=by
   intro l
   induction l with
   |nil=>intro i k o h;simp at h
   |cons x l ih =>
    intro i k o h hc;unfold UI
    cases k with
    |zero=>simp at h;subst h;rw[if_pos (Xp.2 hc)];exact aba ..
    |succ k =>
     have:=ih (i+1) k o (by simpa using h) hc;rw[show i+(k+1)=i+1+k by omega]
     split
     ·exact aab _ this
     ·exact this
  rintro j ⟨o,ho,hc⟩;have:=this ops.toList 0 j o (by simpa using ho) hc
  simpa using this
 have ac_:=LZ (tr:=tr) (Zh X ops 0 ops.toList) fun j hj=>by
  obtain⟨o,ho,_⟩:=(Mu j).1 hj;have:=(agz.1 ho).1;omega
 unfold OQ;rw[g1];simp only[ac_];have Fj:∀m,m=0\/(∃j,m=j+1/\j∈Zh X ops 0 ops.toList)->∀i,m<=i->kA X ops i->(W_ tr m).get (s.next+i)=none:=by
  rintro m (rfl|⟨j,rfl,hj⟩) i hi ⟨o,ho,hc⟩
  ·rw[J8];have:=N0 _ _ _ yj hn i o (by simpa using ho) (Xp.2 hc);rw[ald] at this;exact this
  ·obtain⟨oj,hoj,hcj⟩:=(Mu j).1 hj;have:=g3 j oj (by simpa using hoj) (Rb.2 hcj) i (by omega) o (by simpa using ho) (Xp.2 hc)
   simpa using this
 have hss:∀m s1,(m,s1)∈(0,({ s with next:=s.next+ops.size }:St))::((Zh X ops 0 ops.toList).map fun j=>(j+1,W_ tr (j+1)))->(m=0\/∃j,m=j+1/\j∈Zh X ops 0 ops.toList)/\s1=W_ tr m:=by
  intro m s1 hm;rcases alL.1 hm with e|hm
  ·cases e;exact⟨.inl rfl,J8.symm⟩
  ·obtain⟨j,hj,e⟩:=alN.1 hm
   cases e
   exact⟨.inr ⟨j,rfl,hj⟩,rfl⟩
 have hnA:Ss X ops s.next ((0,({ s with next:=s.next+ops.size }:St))::((Zh X ops 0 ops.toList).map fun j=>(j+1,W_ tr (j+1))))=true:=LY _ fun m s1 hm i hi hk=>by
  obtain⟨h1,rfl⟩:=hss m s1 hm;exact Fj m h1 i hi hk
 have J9:TD X (Yf X) ops s.next (Zh X ops 0 ops.toList) (UI X 0 ops.toList) ((0,({ s with next:=s.next+ops.size }:St))::((Zh X ops 0 ops.toList).map fun j=>(j+1,W_ tr (j+1)))) tr 0 ops.toList tr=true:=by
  refine Js _ _ _ fun i o es ho htr hw=>?_
  have Vo:ops[i]? = some o:=by simpa using ho
  have hi:i<ops.size:=(agz.1 Vo).1;have fR:es=(SB tr i,W_ tr i):=by simp[SB,W_,htr]
  subst fR;simp only at hw;rw[ald];have xI:cls X o.op≠.a->∃v,YI X (Yf X) (SB tr i) o.op (W_ tr i)=some (v,W_ tr (i+1)):=fun ZC=>by
   rcases U9 (ht.step i o Vo) with⟨h1,_⟩|⟨_,v,_,⟨hc,_⟩|⟨_,h3⟩⟩
   ·rw[hw] at h1;cases h1
   ·exact absurd (Xp.1 hc) ZC
   ·exact⟨v,h3⟩
  have uL:cls X o.op=.r\/cls X o.op=.q->∃m,Uu ops (Zh X ops 0 ops.toList) ((0,({ s with next:=s.next+ops.size }:St))::((Zh X ops 0 ops.toList).map fun j=>(j+1,W_ tr (j+1)))) i=[(m,W_ tr m)] /\
    TU ops s.next i m tr (UI X 0 ops.toList) (W_ tr m)=W_ tr i:=by
   intro hk;have Xz:=Xa i hi;rw[Vo] at Xz;simp only at Xz;have gU:(UI X 0 ops.toList).all (fun k=>!decide (k<i)||Xy ops k i)=true/\(Zh X ops 0 ops.toList).all (fun k=>Xy ops k i||Xy ops i k)=true:=by
    rcases hk with hk|hk <;> rw[hk] at Xz <;> simpa[Bd.Ye] using Xz
   obtain⟨ha,rk⟩:=gU;rw[alK] at ha rk;have hab:∀k,k<i->kA X ops k->Xy ops k i=true:=fun k Fo xC=>by
    have:=ha k (ac9 k xC)
    simpa[Fo] using this
   have oG:∀k∈Zh X ops 0 ops.toList,(Xy ops k i=true<->k<i)/\(Xy ops i k=true<->i<k):=by
    intro k ur;have:=rk k ur;simp only[amE] at this;rcases this with h1|h1
    ·have:=X5.RZ i k h1;refine⟨⟨fun _=>this,fun _=>h1⟩,⟨fun h2=>?_,fun h2=>by omega⟩⟩;have:=X5.RZ k i h2;omega
    ·have:=X5.RZ k i h1;refine⟨⟨fun h2=>?_,fun h2=>by omega⟩,⟨fun _=>this,fun _=>h1⟩⟩;have:=X5.RZ i k h2;omega
   have ZC:∀k∈Zh X ops 0 ops.toList,k≠i:=fun k ur e=>by
    obtain⟨o2,G9,xJ⟩:=(Mu k).1 ur;rw[e,Vo] at G9;cases G9;rcases hk with hk|hk <;> rw[hk] at xJ <;> cases xJ
   have ac':Yk (fun j=>!Xy ops i j) (Zh X ops 0 ops.toList)=Yk (fun j=>Xy ops j i) (Zh X ops 0 ops.toList):=by
    refine Nat.le_antisymm (U_ _ fun x hx h=>?_) (U_ _ fun x hx h=>?_)
    ·have h1:Xy ops i x=false:=by simpa using h
     refine ((oG x hx).1).2 (Nat.lt_of_not_le fun hle=>?_);have:=((oG x hx).2).2 (by have:=ZC x hx;omega);rw[h1] at this;cases this
    ·have h1:=((oG x hx).1).1 h;simp only[ams]
     cases hb:Xy ops i x with
     |false=>rfl
     |true=>have:=((oG x hx).2).1 hb;omega
   unfold Uu;rw[ac'];generalize hq:Yk (fun j=>Xy ops j i) (Zh X ops 0 ops.toList)=q;have G7:=List.pairwise_iff_getElem.1 (To (X:=X) (ops:=ops) ops.toList 0);have hql:q<=(Zh X ops 0 ops.toList).length:=by
    rw[<-hq];generalize Zh X ops 0 ops.toList=L
    induction L with
    |nil=>exact agB _
    |cons x L ih=>simp only[Yk,akd];split <;> omega
   have LX:∀n (hn:n<(Zh X ops 0 ops.toList).length),(n<q<->(Zh X ops 0 ops.toList)[n]<i):=by
    obtain⟨p,sV,EF,G'⟩:∃p,p<=(Zh X ops 0 ops.toList).length/\(∀n (hn:n<(Zh X ops 0 ops.toList).length),n<p->(Zh X ops 0 ops.toList)[n]<i)/\(∀n (hn:n<(Zh X ops 0 ops.toList).length),p<=n->¬(Zh X ops 0 ops.toList)[n]<i):=by
     rcases HF (fun n=>∃hn:n<(Zh X ops 0 ops.toList).length,(Zh X ops 0 ops.toList)[n]<i) (Zh X ops 0 ops.toList).length with h|⟨n0,h1,⟨h2,h3⟩,h4⟩
     ·exact⟨0,aic _,fun n _ hn=>by omega,fun n hn _ Yh=>h n hn ⟨hn,Yh⟩⟩
     ·refine⟨n0+1,h1,fun n hn Yh=>?_,fun n hn hle Yh=>h4 n (by omega) hn ⟨hn,Yh⟩⟩;by_cases e:n=n0
      ·subst e;exact h3
      ·have:=G7 n n0 hn h2 (by omega);omega
    have tH:p=q:=by
     rw[<-hq];refine (U1 _ p sV (fun x hx=>?_) (fun x hx=>?_)).symm
     ·obtain⟨n,hn,rfl⟩:=alP.1 hx;rw[List.getElem_take];have r9:n<p/\n<(Zh X ops 0 ops.toList).length:=by rw[amr] at hn;omega
      exact ((oG _ (adm r9.2)).1).2 (EF n r9.2 r9.1)
     ·obtain⟨n,hn,rfl⟩:=alP.1 hx;rw[List.getElem_drop];rw[List.length_drop] at hn;have:=G' (p+n) (by omega) (by omega)
      cases hb:Xy ops (Zh X ops 0 ops.toList)[p+n] i with
      |false=>rfl
      |true=>exact absurd (((oG _ (adm (by omega))).1).1 hb) this
    subst tH;exact fun n hn=>⟨EF n hn,fun Yh=>Nat.lt_of_not_le fun hle=>G' n hn hle Yh⟩
   have fin:∀m,(m=0\/∃j,m=j+1/\j∈Zh X ops 0 ops.toList)->m<=i->(∀k∈Zh X ops 0 ops.toList,k<i->k<m) ->
     TU ops s.next i m tr (UI X 0 ops.toList) (W_ tr m)=W_ tr i:=fun m hm Bi hwm =>
    CW ht k1 X5 hi Bi (fun k ok h1 h2 ada hc=>by
     have:=hwm k ((Mu k).2 ⟨ok,ada,hc⟩) h2;omega) hab (fun k h1 h2=>Fj m hm k h1 h2)
   cases q with
   |zero =>
    refine⟨0,by simp[J8],fin 0 (.inl rfl) (aic _) fun k ur Fo=>?_⟩;obtain⟨n,hn,rfl⟩:=alP.1 ur;have:=(LX n hn).2 Fo;omega
   |succ q =>
    have hqn:q<(Zh X ops 0 ops.toList).length:=by omega
    have hqi:=(LX q hqn).1 (by omega);refine⟨(Zh X ops 0 ops.toList)[q]+1,?_,fin _ (.inr ⟨_,rfl,adm _⟩) (by omega) fun k ur Fo=>?_⟩
    ·rw[List.drop_take];rw[show q+1+1-(q+1)=1 by omega,List.drop_succ_cons,abc (by simpa using hqn)];simp
    ·obtain⟨n,hn,rfl⟩:=alP.1 ur;have hnq:=(LX n hn).2 Fo;by_cases e:n=q
     ·subst e;omega
     ·have:=G7 n q hn hqn (by omega);omega
  refine⟨fun hk=>?_,fun hk=>?_⟩
  ·obtain⟨v,hv⟩:=xI (by rw[hk];simp);obtain⟨m,Be,bR⟩:=uL (.inl hk);refine⟨v,_,hv,?_⟩;rw[Be];simp only[WS,bR,hv,P0,Bool.and_self]
  ·obtain⟨v,hv⟩:=xI (by rw[hk];simp);obtain⟨m,Be,bR⟩:=uL (.inr hk);obtain⟨_,c,vs,us,e1,e2,e3,_⟩:=D4 hk hv;refine⟨c,vs,us,e1,e2,e3,?_⟩;rw[Be];simp only[Ta,bR,e3,WK,Bool.and_self]
 rw[NY a_];simp only[Oi,J9,hnA,Bool.and_self,if_true];exact g2
theorem LW {b:Env->St->Fl}{r:Out×Env×St}:∀(n:Nat) (e:Env) (s:St),S7 b n e s=some r->∀m,n<=m->S7 b m e s=some r
 |0,e,s,h,m,_=>by simp[S7] at h
 |n+1,e,s,h,m,hm=>by
  obtain⟨k,rfl⟩:∃k,m=k+1:=⟨m-1,by omega⟩;simp only[S7] at h ⊢
  split at h
  ·exact LW n _ _ h k (by omega)
  ·exact h
theorem Ug {b:Env->St->Fl}{e:Env}{s:St}{r:Out×Env×St}:MH b e s=some r<->∃n,S7 b n e s=some r:=by
 unfold MH
 constructor
 ·intro h
  split at h
  ·rename_i hx
   cases h
   exact Classical.choose_spec hx
  ·cases h
 ·rintro⟨n,hn⟩;have hx:∃r n,S7 b n e s=some r:=⟨r,n,hn⟩;rw[dif_pos hx];obtain⟨n',r9⟩:=Classical.choose_spec hx;have h1:=LW n e s hn (max n n') (Nat.le_max_left ..);have h2:=LW n' e s r9 (max n n') (Nat.le_max_right ..);rw[h1] at h2;exact congrArg some (Option.some.inj h2).symm
theorem j0 (b:Env->St->Fl)(e:Env)(s:St):MH b e s=match b e s with
  |some (.norm,e,s)=>MH b e s
  |r=>r:=by
 cases hb:b e s with
 |none =>
  cases h:MH b e s with
  |none=>rfl
  |some r =>
   obtain⟨n,hn⟩:=Ug.1 h
   cases n with
   |zero=>simp[S7] at hn
   |succ n=>simp only[S7,hb] at hn;cases hn
 |some x =>
  obtain⟨o,e1,s1⟩:=x
  cases o with
  |norm =>
   simp only
   cases h:MH b e1 s1 with
   |some r =>
    obtain⟨n,hn⟩:=Ug.1 h;exact Ug.2 ⟨n+1,by simp only[S7,hb];exact hn⟩
   |none =>
    cases h':MH b e s with
    |none=>rfl
    |some r =>
     obtain⟨n,hn⟩:=Ug.1 h'
     cases n with
     |zero=>simp[S7] at hn
     |succ n =>
      simp only[S7,hb] at hn;rw[Ug.2 ⟨n,hn⟩] at h;cases h
  |exit i=>exact Ug.2 ⟨1,by simp only[S7,hb]⟩
  |ret=>exact Ug.2 ⟨1,by simp only[S7,hb]⟩
theorem pf:∀(c:Code) (e:Env) (s:St) (r:Out×Env×St),den X (rc X c) e s=some r->Yf X c e s=some r:=by
 intro c
 induction c with
 |skip=>intro e s r h;simp only[rc,den] at h;rw[Vq];exact h
 |label l=>intro e s r h;simp only[rc,den] at h;rw[Vq];exact h
 |exit i=>intro e s r h;simp only[rc,den] at h;rw[Vq];exact h
 |ret=>intro e s r h;simp only[rc,den] at h;rw[Vq];exact h
 |region id ops d =>
  intro e s r h;simp only[rc] at h
  split at h
  ·rename_i hd
   split at h
   ·rename_i hc;simp only[agw] at hc
    split at h
    ·rename_i l hl;simp only[den] at h
     split at h
     ·rename_i hn
      split at h
      ·rename_i e1 s1 h1
       cases h
       rw[Vq];simp only[Xc,hd,if_true,gF hl hc.1 hc.2 hn h1]
      ·cases h
     ·cases h
    ·exact h
   ·exact h
  ·rename_i hd
   split at h
   ·rename_i l hl;simp only[den] at h
    split at h
    ·rename_i e1 s1 h1
     cases h
     rw[Vq];simp only[Xc,if_neg hd,Jt _ _ _ _ _ hl h1]
    ·cases h
   ·exact h
 |seq a b iha ihb =>
  intro e s r h;simp only[rc,den] at h;rw[Vq];simp only[Xc]
  split at h
  ·rename_i e1 s1 h1;rw[iha _ _ _ h1];exact ihb _ _ _ h
  ·rename_i ZC;rw[iha _ _ _ h];obtain⟨o,e1,s1⟩:=r
   cases o with
   |norm=>exact absurd h (ZC _ _)
   |_=>rfl
 |cond c a b iha ihb =>
  intro e s r h;simp only[rc] at h
  split at h
  ·rename_i x hx;simp only[den] at h;rw[Vq];simp only[Xc,YZ hx e]
   split at h
   ·rename_i p hp;rw[hp]
    cases p
    ·exact ihb _ _ _ h
    ·exact iha _ _ _ h
   ·cases h
  ·exact h
 |block id b ih =>
  intro e s r h;simp only[rc,den] at h;rw[Vq];simp only[Xc]
  split at h
  ·rename_i i e1 s1 h1;rw[ih _ _ _ h1];exact h
  ·rename_i ZC;rw[ih _ _ _ h];obtain⟨o,e1,s1⟩:=r
   cases o with
   |exit i=>exact absurd h (ZC _ _ _)
   |_=>rfl
 |loop b ih =>
  intro e s r h;simp only[rc,den] at h;obtain⟨n,hn⟩:=Ug.1 h;clear h
  induction n generalizing e s with
  |zero=>simp[S7] at hn
  |succ n ihn =>
   simp only[S7] at hn;rw[Vq];simp only[Xc]
   split at hn
   ·rename_i e1 s1 h1;rw[ih _ _ _ h1];exact ihn _ _ hn
   ·rename_i ZC;rw[ih _ _ _ hn];obtain⟨o,e1,s1⟩:=r
    cases o with
    |norm=>exact absurd hn (ZC _ _)
    |_=>rfl
 |scope b ih =>
  intro e s r h;simp only[rc] at h;rw[Vq];simp only[Xc];exact ih _ _ _ h
 |rangeFunc f ps a b _ _=>intro e s r h;simpa only[rc,den] using h
 |goto l=>intro e s r h;simpa only[rc,den] using h
 |refuse w=>intro e s r h;simpa only[rc,den] using h
end
end Go.Am
