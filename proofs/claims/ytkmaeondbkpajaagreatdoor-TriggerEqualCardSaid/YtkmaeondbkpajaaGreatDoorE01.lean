/- A part of the proof. -/
import Derived.Test.YtkmaeondbkpajaaGreatDoorE00
set_option linter.all false
namespace Go.Am
open Go
variable {e:Env}{v:AV}{s s':St}
section
variable [Stat]
variable {X:Cx}
def Vd {v:Option AV}{r:AV}(h:v=some r)(t:St):Zh v t=some (r,t):=by subst h;rfl
def Cg (X:Cx)(ex:Ex)(e:Env)(o:Op):Prop:=∀s v s',Yn X ex e o s=some (v,s')->s'=s/\∀t,Yn X ex e o t=some (v,t)
def IT (f:Operand)(args:Array Operand)(CP:Array TypeId)(k:zm)(h1:k≠.q)(h2:k≠.w):cls X (.call { callee:=.value f,args:=args,argTypes:=CP })≠k:=by
 intro h
 cases f <;> simp only[cls] at h <;> first
  |exact h2 h.symm
  |(split at h <;> first|exact h1 h.symm|exact h2 h.symm)
def Cf {ex:Ex}{o:Op}(f:Option AV)(h:∀s,Yn X ex e o s=Zh f s):Cg X ex e o:=by
 intro s v s' hs;rw[h] at hs;obtain⟨h1,rfl⟩:=Zj hs;exact⟨rfl,λt=>by rw[h];exact Vd h1 t⟩
def gN {ex:Ex}{o:Op}(hc:cls X o=.p):Cg X ex e o:=by
 cases o <;> simp only[cls] at hc <;> try (cases hc;done)
 case move x=>exact Cf _ λs=>rfl
 case assign x=>exact Cf _ λs=>rfl
 case pick c a b =>
  intro s v s' h;simp only[Yn] at h ⊢
  split at h
  ·obtain⟨h1,rfl⟩:=Zj h;exact⟨rfl,λt=>Vd h1 t⟩
  ·obtain⟨h1,rfl⟩:=Zj h;exact⟨rfl,λt=>Vd h1 t⟩
  ·cases h
 case build t ps =>
  intro s v s' h;simp only[Yn] at h ⊢
  split at h
  ·obtain⟨h1,rfl⟩:=Zj h;exact⟨rfl,λt=>Vd h1 t⟩
  ·cases h
 case nilCheck x =>
  intro s v s' h;simp only[Yn] at h ⊢
  split at h <;> first|(cases h;exact⟨rfl,λ_=>rfl⟩)|cases h
 case binOp op t x y yt =>
  intro s v s' h;simp only[Yn] at h ⊢
  split at h
  ·obtain⟨h1,rfl⟩:=Zj h;exact⟨rfl,λt=>Vd h1 t⟩
  ·cases h
 case unOp op t x =>
  intro s v s' h;simp only[Yn] at h ⊢
  split at h
  ·obtain⟨h1,rfl⟩:=Zj h;exact⟨rfl,λt=>Vd h1 t⟩
  ·cases h
 case convert src dst x =>
  intro s v s' h;simp only[Yn] at h ⊢
  split at h
  ·rename_i a ha;unfold Rw at h ⊢
   split at h
   ·cases h;exact⟨rfl,λ_=>rfl⟩
   ·cases h;exact⟨rfl,λ_=>rfl⟩
   ·cases h;exact⟨rfl,λ_=>rfl⟩
   ·rename_i d1 e' b _ h1 h2;rw[h1,h2] at hc
    cases e' <;> cases hc
   ·rename_i e' h1 h2 _ _;rw[h1,h2] at hc
    cases hc
   ·cases h
  ·cases h
 case makeInterface t x =>
  intro s v s' h;simp only[Yn] at h ⊢
  split at h
  ·split at h
   ·cases h
   ·cases h;exact⟨rfl,λ_=>rfl⟩
   ·cases h
  ·cases h
 case makeFunc f a b =>
  intro s v s' h;simp only[Yn] at h ⊢
  split at h
  ·split at h
   ·cases h;exact⟨rfl,λ_=>rfl⟩
   ·cases h
  ·cases h
 case slice t x lo hi mx =>
  intro s v s' h;simp only[Yn] at h ⊢
  split at h
  ·obtain⟨h1,rfl⟩:=Zj h;exact⟨rfl,λt=>Vd h1 t⟩
  ·cases h
 case fieldAddr t x f =>
  intro s v s' h;simp only[Yn] at h ⊢
  split at h
  ·obtain⟨h1,rfl⟩:=Zj h;exact⟨rfl,λt=>Vd h1 t⟩
  ·cases h
 case field t x f =>
  intro s v s' h;simp only[Yn] at h ⊢
  split at h
  ·split at h
   ·obtain⟨h1,rfl⟩:=Zj h;exact⟨rfl,λt=>Vd h1 t⟩
   ·cases h
  ·cases h
 case indexAddr t x i =>
  intro s v s' h;simp only[Yn] at h ⊢
  split at h
  ·obtain⟨h1,rfl⟩:=Zj h;exact⟨rfl,λt=>Vd h1 t⟩
  ·cases h
 case index t x i =>
  intro s v s' h;simp only[Yn] at h ⊢
  split at h
  ·obtain⟨h1,rfl⟩:=Zj h;exact⟨rfl,λt=>Vd h1 t⟩
  ·cases h
 case extract t i =>
  intro s v s' h;simp only[Yn] at h ⊢
  split at h
  ·obtain⟨h1,rfl⟩:=Zj h;exact⟨rfl,λt=>Vd h1 t⟩
  ·cases h
 case call c =>
  obtain⟨callee,args,CP⟩:=c
  cases callee with
  |value f=>exact absurd hc (IT (X:=X) f args CP .p No No)
  |invoke _ _=>cases hc
  |builtin b =>
  simp only at hc;intro s v s' h;simp only[Yn] at h ⊢
  split at h
  ·rename_i vs SH
   cases b <;> simp only at hc <;> try (cases hc;done)
   all_goals
    unfold XX at h ⊢
    split at h <;> first
     |(cases h;done)
     |(rename_i heq;cases heq;done)
     |skip
   all_goals
    split at h <;> first
     |(cases h;exact⟨rfl,λ_=>rfl⟩)
     |(cases h;done)
     |skip
  ·cases h
def gK {ex:Ex}{o:Op}(hc:cls X o=.r)(h:Yn X ex e o s=some (v,s')):s'=s:=by
 cases o <;> simp only[cls] at hc <;> try (cases hc;done)
 case convert src dst x =>
  simp only[Yn] at h
  split at h
  ·rename_i a ha
   cases h1:X.Zd src with
   |none=>unfold Rw at h;rw[h1] at h;simp at h
   |some d1 =>
    cases h2:X.Zd dst with
    |none=>rw[h1,h2] at hc;cases d1 <;> simp at hc
    |some d2 =>
     rw[h1,h2] at hc;unfold Rw at h;rw[h1,h2] at h
     cases d1 <;> cases d2 <;> simp at hc
     cases a <;> (try simp only at h) <;> first
      |(cases h;rfl)
      |(split at h <;> first
        |(cases h;done)
        |(cases h;rfl)
        |(split at h <;> first
          |(cases h;done)
          |(cases h;rfl)
          |(split at h <;> first
            |(cases h;done)
            |(split at h <;> first
              |(cases h;done)
              |(cases h;rfl)))))
  ·cases h
 case load t a =>
  simp only[Yn] at h
  split at h
  ·exact (Zj h).2
  ·cases h
 case lookup t m k ok =>
  simp only[Yn] at h
  split at h
  ·exact (Zj h).2
  ·cases h
 case call c =>
  obtain⟨callee,args,CP⟩:=c
  cases callee with
  |value f=>exact absurd hc (IT (X:=X) f args CP .r No No)
  |invoke _ _=>cases hc
  |builtin b =>
  simp only at hc;simp only[Yn] at h
  split at h
  ·rename_i vs SH
   cases b <;> simp only at hc <;> try (cases hc;done)
   unfold XX at h
   split at h <;> first
    |(rename_i heq;cases heq;done)
    |skip
   ·split at h
    ·split at h <;> first
      |(cases h;rfl)
      |(split at h <;> first|(cases h;rfl)|(cases h;done))
      |(cases h;done)
    ·cases h
   ·cases h
  ·cases h
def gQ {ex:Ex}{o:Op}(hc:cls X o=.a)(h:Yn X ex e o s=some (v,s')) :
  ∃b,b≠.gone/\s'=s.new b/\∀t:St,t.next=s.next->Yn X ex e o t=some (v,t.new b):=by
 cases o <;> simp only[cls] at hc <;> try (cases hc;done)
 case convert src dst x =>
  simp only[Yn] at h ⊢
  split at h
  ·rename_i a ha
   cases h1:X.Zd src with
   |none=>unfold Rw at h;rw[h1] at h;simp at h
   |some d1 =>
    cases h2:X.Zd dst with
    |none=>rw[h1,h2] at hc;cases d1 <;> simp at hc
    |some d2 =>
     rw[h1,h2] at hc;unfold Rw at h ⊢;rw[h1,h2] at h ⊢
     cases d2 <;> first|(cases d1 <;> simp at hc <;> done)|skip
     rename_i el
     cases a <;> first|(cases d1 <;> cases h <;> done)|skip
     rename_i b;simp only at h ⊢
     split at h
     ·cases h
      exact⟨_,by simp,rfl,λt ht=>by rw[ht]⟩
     ·cases h
  ·cases h
 case alloc t =>
  simp only[Yn] at h ⊢
  split at h
  ·cases h
   exact⟨_,by simp,rfl,λt ht=>by simp only[Vc,ht]⟩
  ·cases h
 case box t x =>
  simp only[Yn] at h ⊢
  split at h
  ·cases h
   exact⟨_,by simp,rfl,λt ht=>by simp only[Vc,ht]⟩
  ·cases h
 case buildSlice t n ps =>
  simp only[Yn] at h ⊢
  split at h
  ·unfold T0 at h ⊢
   split at h
   ·split at h
    ·split at h
     ·rename_i aen
      split at h
      ·cases h
       exact⟨_,by simp,rfl,λt ht=>by simp only[Of aen,ht]⟩
      ·cases h
     ·cases h
    ·cases h
   ·cases h
  ·cases h
 case makeMap t r =>
  simp only[Yn] at h ⊢
  split at h
  ·cases h
   exact⟨_,by simp,rfl,λt ht=>by simp only[ht]⟩
  ·split at h
   ·cases h
    exact⟨_,by simp,rfl,λt ht=>by simp only[ht]⟩
   ·cases h
 case makeSlice t l c =>
  simp only[Yn] at h ⊢
  split at h
  ·split at h
   ·split at h
    ·rename_i aen
     cases h
     exact⟨_,by simp,rfl,λt ht=>by simp only[Of aen,ht]⟩
    ·cases h
   ·cases h
  ·cases h
 case call c =>
  obtain⟨callee,args,CP⟩:=c
  cases callee with
  |value f=>exact absurd hc (IT (X:=X) f args CP .a No No)
  |invoke _ _=>cases hc
  |builtin b =>
  simp only at hc
  cases b <;> simp only at hc <;> cases hc
def CL {ex:Ex}{o:Op}(hc:cls X o=.q)(h:Yn X ex e o s=some (v,s')) :
  s'=s/\∃c vs us,o=.call c/\Vx X e c.args.toList=some vs/\U2 X s vs=some us/\∀t,U2 X t vs=some us->Yn X ex e o t=some (v,t):=by
 cases o <;> try (simp only[cls] at hc;done)
 case call c =>
  obtain⟨callee,args,CP⟩:=c
  cases callee with
  |invoke _ _=>simp only[cls] at hc;cases hc
  |builtin b=>cases b <;> simp only[cls] at hc <;> cases hc
  |value f =>
   cases f <;> try (simp only[cls] at hc;cases hc;done)
   rename_i g;simp only[cls] at hc
   split at hc
   ·rename_i hg;simp only[ahe,aq1] at hg;simp only[Yn,eval] at h ⊢
    split at h
    ·rename_i f vs hf SH
     cases hf
     simp only[Fy,aqQ,aqw,TY,hg.2,hg.1,if_true] at h ⊢;unfold NL at h
     split at h
     ·rename_i us LU
      split at h
      ·rename_i v1 hq
       cases h
       refine⟨rfl,_,vs,us,rfl,SH,LU,λt ht=>?_⟩;simp only[NL,ht,hq]
      ·cases h
     ·cases h
    ·cases h
   ·cases hc
 all_goals
  exfalso;simp only[cls] at hc
  first
   |(cases hc;done)
   |(split at hc <;> cases hc)
def eval_congr {e e':Env}{x:Operand}(h:∀t,x=.tmp t->e.get t=e'.get t):eval X e x=eval X e' x:=by
 cases x <;> simp only[eval]
 rw[h _ rfl]
def SR {e e':Env}:∀{l:List Operand},(∀t,Operand.tmp t∈l->e.get t=e'.get t)->Vx X e l=Vx X e' l
 |[],_=>rfl
 |x::l,h=>by
  simp only[Vx];rw[eval_congr (λt ht=>h t (by rw[ht];exact aba ..)),SR (λt ht=>h t (aab _ ht))]
def Sv {e e':Env}:∀{l:List (Nat×Operand)},(∀t,Operand.tmp t∈l.map (·.2)->e.get t=e'.get t)->Vw X e l=Vw X e' l
 |[],_=>rfl
 |(i,x)::l,h=>by
  simp only[Vw];rw[eval_congr (λt ht=>h t (by rw[ht];exact aba ..)),Sv (λt ht=>h t (aab _ ht))]
def NK {e e':Env}{x:Option Operand}(h:∀t,x=some (.tmp t)->e.get t=e'.get t):NJ X e x=NJ X e' x:=by
 cases x with
 |none=>rfl
 |some x=>simp only[NJ];rw[eval_congr (λt ht=>h t (by rw[ht]))]
def mY {ex:Ex}{e e':Env}{o:Op}{s:St}(h:∀t,Operand.tmp t∈o.operands.toList->e.get t=e'.get t):Yn X ex e o s=Yn X ex e' o s:=by
 cases o <;> simp only[Yn] <;> simp only[Op.operands] at h
 case pick c a b =>
  have h1:=eval_congr (X:=X) (e:=e) (e':=e') (x:=c) (λt ht=>h t (by simp[ht]));have h2:=eval_congr (X:=X) (e:=e) (e':=e') (x:=a) (λt ht=>h t (by simp[ht]));have h3:=eval_congr (X:=X) (e:=e) (e':=e') (x:=b) (λt ht=>h t (by simp[ht]));rw[h1,h2,h3]
 case build t ps =>
  have h1:=Sv (X:=X) (e:=e) (e':=e') (l:=ps.toList) (λt ht=>h t (by simpa using ht));rw[h1]
 case buildSlice t n ps =>
  have h1:=Sv (X:=X) (e:=e) (e':=e') (l:=ps.toList) (λt ht=>h t (by simpa using ht));rw[h1]
 case makeFunc f a b =>
  have h1:=SR (X:=X) (e:=e) (e':=e') (l:=a.toList) (λt ht=>h t (by simp;exact .inl (by simpa using ht)));have h2:=SR (X:=X) (e:=e) (e':=e') (l:=b.toList) (λt ht=>h t (by simp;exact .inr (by simpa using ht)));rw[h1,h2]
 case makeMap t r =>
  cases r with
  |none=>rfl
  |some x =>
   have h1:=eval_congr (X:=X) (e:=e) (e':=e') (x:=x) (λt ht=>h t (by simp[ht]));simp only[h1]
 case slice t x lo hi mx =>
  have h1:=eval_congr (X:=X) (e:=e) (e':=e') (x:=x) (λt ht=>h t (by simp[ht]));have h2:=NK (X:=X) (e:=e) (e':=e') (x:=lo) (λt ht=>h t (by simp[ht]));have h3:=NK (X:=X) (e:=e) (e':=e') (x:=hi) (λt ht=>h t (by simp[ht]));have h4:=NK (X:=X) (e:=e) (e':=e') (x:=mx) (λt ht=>h t (by simp[ht]));rw[h1,h2,h3,h4]
 case call c =>
  obtain⟨callee,args,CP⟩:=c;simp only[Call.operands] at h
  cases callee with
  |builtin b =>
   have h1:=SR (X:=X) (e:=e) (e':=e') (l:=args.toList) (λt ht=>h t (by simpa using ht));simp only[h1]
  |value f =>
   have h1:=SR (X:=X) (e:=e) (e':=e') (l:=args.toList) (λt ht=>h t (by simp;exact .inr (by simpa using ht)));have h2:=eval_congr (X:=X) (e:=e) (e':=e') (x:=f) (λt ht=>h t (by simp[ht]));simp only[h1,h2]
  |invoke r m=>rfl
 case next it str =>
  cases str with
  |false=>rfl
  |true =>
   have h1:=eval_congr (X:=X) (e:=e) (e':=e') (x:=it) (λt ht=>h t (by simp[ht]));simp only[Yn,h1]
 case move x =>
  have h0:=eval_congr (X:=X) (e:=e) (e':=e') (x:=x) (λt ht=>h t (by simp[ht]));rw[h0]
 case assign x =>
  have h0:=eval_congr (X:=X) (e:=e) (e':=e') (x:=x) (λt ht=>h t (by simp[ht]));rw[h0]
 case box t x =>
  have h0:=eval_congr (X:=X) (e:=e) (e':=e') (x:=x) (λt ht=>h t (by simp[ht]));rw[h0]
 case load t x =>
  have h0:=eval_congr (X:=X) (e:=e) (e':=e') (x:=x) (λt ht=>h t (by simp[ht]));rw[h0]
 case nilCheck x =>
  have h0:=eval_congr (X:=X) (e:=e) (e':=e') (x:=x) (λt ht=>h t (by simp[ht]));rw[h0]
 case unOp op t x =>
  have h0:=eval_congr (X:=X) (e:=e) (e':=e') (x:=x) (λt ht=>h t (by simp[ht]));rw[h0]
 case convert a b x =>
  have h0:=eval_congr (X:=X) (e:=e) (e':=e') (x:=x) (λt ht=>h t (by simp[ht]));rw[h0]
 case makeInterface t x =>
  have h0:=eval_congr (X:=X) (e:=e) (e':=e') (x:=x) (λt ht=>h t (by simp[ht]));rw[h0]
 case fieldAddr t x f =>
  have h0:=eval_congr (X:=X) (e:=e) (e':=e') (x:=x) (λt ht=>h t (by simp[ht]));rw[h0]
 case field t x f =>
  have h0:=eval_congr (X:=X) (e:=e) (e':=e') (x:=x) (λt ht=>h t (by simp[ht]));rw[h0]
 case range t x =>
  have h0:=eval_congr (X:=X) (e:=e) (e':=e') (x:=x) (λt ht=>h t (by simp[ht]));rw[h0]
 case extract x i =>
  have h0:=eval_congr (X:=X) (e:=e) (e':=e') (x:=x) (λt ht=>h t (by simp[ht]));rw[h0]
 case store t a x =>
  have h0:=eval_congr (X:=X) (e:=e) (e':=e') (x:=a) (λt ht=>h t (by simp[ht]));have h1:=eval_congr (X:=X) (e:=e) (e':=e') (x:=x) (λt ht=>h t (by simp[ht]));rw[h0,h1]
 case binOp op t x y yt =>
  have h0:=eval_congr (X:=X) (e:=e) (e':=e') (x:=x) (λt ht=>h t (by simp[ht]));have h1:=eval_congr (X:=X) (e:=e) (e':=e') (x:=y) (λt ht=>h t (by simp[ht]));rw[h0,h1]
 case makeSlice t l c =>
  have h0:=eval_congr (X:=X) (e:=e) (e':=e') (x:=l) (λt ht=>h t (by simp[ht]));have h1:=eval_congr (X:=X) (e:=e) (e':=e') (x:=c) (λt ht=>h t (by simp[ht]));rw[h0,h1]
 case indexAddr t x i =>
  have h0:=eval_congr (X:=X) (e:=e) (e':=e') (x:=x) (λt ht=>h t (by simp[ht]));have h1:=eval_congr (X:=X) (e:=e) (e':=e') (x:=i) (λt ht=>h t (by simp[ht]));rw[h0,h1]
 case index t x i =>
  have h0:=eval_congr (X:=X) (e:=e) (e':=e') (x:=x) (λt ht=>h t (by simp[ht]));have h1:=eval_congr (X:=X) (e:=e) (e':=e') (x:=i) (λt ht=>h t (by simp[ht]));rw[h0,h1]
 case lookup t m k ok =>
  have h0:=eval_congr (X:=X) (e:=e) (e':=e') (x:=m) (λt ht=>h t (by simp[ht]));have h1:=eval_congr (X:=X) (e:=e) (e':=e') (x:=k) (λt ht=>h t (by simp[ht]));rw[h0,h1]
 case mapUpdate t m k v =>
  have h0:=eval_congr (X:=X) (e:=e) (e':=e') (x:=m) (λt ht=>h t (by simp[ht]));have h1:=eval_congr (X:=X) (e:=e) (e':=e') (x:=k) (λt ht=>h t (by simp[ht]));have h2:=eval_congr (X:=X) (e:=e) (e':=e') (x:=v) (λt ht=>h t (by simp[ht]));rw[h0,h1,h2]
 case insert t m k v =>
  have h0:=eval_congr (X:=X) (e:=e) (e':=e') (x:=m) (λt ht=>h t (by simp[ht]));have h1:=eval_congr (X:=X) (e:=e) (e':=e') (x:=k) (λt ht=>h t (by simp[ht]));have h2:=eval_congr (X:=X) (e:=e) (e':=e') (x:=v) (λt ht=>h t (by simp[ht]));rw[h0,h1,h2]
end
end Go.Am
namespace Go.Am
open Go
section
variable [Stat]
def OW (s:St)(i:Nat)(b:Uf)(h:s.look i=some b):b≠.gone:=by
 unfold St.look at h
 split at h
 ·cases h
 ·rename_i ZB;intro e;subst e;exact ZB h
def Nn (f:Nat->Option Uf)(n:Nat):St:={ t:=.nil,base:=f,next:=n }
def Nm {f:Nat->Option Uf}{n i:Nat}(h:∀b,f i=some b->b≠.gone):(Nn f n).look i=f i:=by
 unfold St.look St.get Nn;simp only[Tr.get_nil]
 cases hf:f i with
 |none=>rfl
 |some b =>
  have:=h b hf
  cases b <;> first|rfl|exact absurd rfl this
def HR.sub {σ:Sg}{T R:St}{w:World}(H:HR σ T w)(h:∀i p b,σ i=some p->R.look i=some b->T.look i=some b):HR σ R w :=
 ⟨H.lt,λi p b hp hb=>H.DS i p b hp (h i p b hp hb),λi j p q b c hp hq hb hc he=>H.inj i j p q b c hp hq (h i p b hp hb) (h j q c hq hc) he,λc o hc=>⟨(H.fz c o hc).1,λ⟨i,p,b,h1,h2,h3,h4⟩=>(H.fz c o hc).2 ⟨i,p,b,h1,h i p b h1 h2,h3,h4⟩⟩⟩
structure GD (Ub:Sg)(s0:St)(w0:World)(σ:Sg)(T:St)(w:World):Prop where
 hr:HR σ T w
 ext:Ext Ub s0 w0 σ T w
 QO:∀i,i<s0.next->σ i=Ub i
 next:s0.next<=T.next
 fresh:SY σ T
 dead:∀i,i<s0.next->s0.look i=none->T.look i=none
 news:∀i p,σ i=some p->Ub i=none->w0.heap.size<=p.b\/P0 Ub s0 p.b
open Classical in
noncomputable def mix (σ:Sg)(T R R':St):St :=
 Nn (λi=>if i<R.next/\(σ i=none\/R.look i=none) then T.look i else R'.look i) R'.next
def EA (σ:Sg)(T R R':St):(mix σ T R R').next=R'.next:=rfl
open Classical in
def Pz (σ:Sg)(T R R':St)(i:Nat):(mix σ T R R').look i=if i<R.next/\(σ i=none\/R.look i=none) then T.look i else R'.look i:=by
 unfold mix;rw[Nm];intro b hb
 split at hb <;> exact OW _ _ _ hb
def frame {Ub σ Yj:Sg}{s0 T R R':St}{w0 w w':World}(g:GD Ub s0 w0 σ T w)(UG:∀i p b,σ i=some p->R.look i=some b->T.look i=some b)(hn:R.next=T.next)(k:Good σ R w Yj R' w') :
  GD Ub s0 w0 Yj (mix σ T R R') w':=by
 have LH:∀i p b,σ i=some p->T.look i=some b->R.look i=none->¬P0 σ R p.b:=by
  rintro i p b hp hb hr ⟨j,q,c,hq,hc,_,he⟩;have:=g.hr.inj j i q p c b hq hp (UG j q c hq hc) hb he;subst this;rw[hr] at hc;cases hc
 have SA:∀c,P0 σ R c->P0 σ T c:=λc ⟨j,q,b,hq,hb,ho,he⟩=>⟨j,q,b,hq,UG j q b hq hb,ho,he⟩
 have Qs:∀i,σ i=none\/i<R.next:=λi=>by
  by_cases h:i<R.next
  ·exact .inr h
  ·exact .inl (g.fresh i J)
 have Ez:∀i p b,Yj i=some p->(mix σ T R R').look i=some b->(σ i=some p/\T.look i=some b/\R.look i=none)\/(R'.look i=some b/\(σ i=none\/∃c,R.look i=some c)):=by
  intro i p b hp hb;rw[Pz] at hb
  split at hb
  ·rename_i hc;rcases hc.2 with h|h
   ·have:=k.QO i (.inl hc.1);rw[h] at this;rw[this] at hp;cases hp
   ·have:=k.QO i (.inl hc.1);rw[this] at hp;exact .inl ⟨hp,hb,h⟩
  ·rename_i hc;refine .inr ⟨hb,?_⟩;rcases Qs i with h|h
   ·exact .inl h
   ·cases hr:R.look i with
    |none=>exact absurd ⟨h,.inr hr⟩ hc
    |some c=>exact .inr ⟨c,rfl⟩
 have le:∀i p,σ i=some p->Yj i=some p:=k.ext.le.p;have old:∀i p q,σ i=some p->Yj i=some q->p=q:=λi p q h1 h2=>by rw[le i p h1] at h2;exact aqb h2
 refine⟨⟨k.hr.lt,?_,?_,?_⟩,?_,?_,?_,?_,?_,?_⟩
 ·
  intro i p b hp hb;rcases Ez i p b hp hb with⟨h1,h2,h3⟩|⟨h1,_⟩
  ·obtain⟨o,ho,uC⟩:=g.hr.DS i p b h1 h2;refine⟨o,?_,uC.mono k.ext.le⟩;rw[k.ext.keep p.b (g.hr.lt i p h1) (LH i p b h1 h2 h3)];exact ho
  ·exact k.hr.DS i p b hp h1
 ·
  intro i j p q b c hp hq hb hc he;have key:∀i j p q b c,σ i=some p->T.look i=some b->R.look i=none->Yj j=some q->(σ j=none\/∃c,R.look j=some c)->R'.look j=some c->p.b=q.b->False:=by
   intro i j p q b c h1 h2 h3 h4 h5 h6 he
   cases hj:σ j with
   |some q' =>
    have:=old j q' q hj h4;subst this;rcases h5 with h5|⟨c0,h5⟩
    ·rw[h5] at hj;cases hj
    ·have:=g.hr.inj i j p q' b c0 h1 hj h2 (UG j q' c0 hj h5) he;subst this;rw[h3] at h5;cases h5
   |none =>
    rcases k.news j q h4 hj with h7|h7
    ·have:=g.hr.lt i p h1;omega
    ·rw[<-he] at h7;exact LH i p b h1 h2 h3 h7
  rcases Ez i p b hp hb with⟨h1,h2,h3⟩|⟨h1,h2⟩ <;> rcases Ez j q c hq hc with⟨k1,k2,k3⟩|⟨k1,k2⟩
  ·exact g.hr.inj i j p q b c h1 k1 h2 k2 he
  ·exact (key i j p q b c h1 h2 h3 hq k2 k1 he).elim
  ·exact (key j i q p c b k1 k2 k3 hp h2 h1 he.symm).elim
  ·exact k.hr.inj i j p q b c hp hq h1 k1 he
 ·
  intro c o hc;refine⟨(k.hr.fz c o hc).1,?_⟩;rintro⟨i,p,b,hp,hb,ho,rfl⟩;rcases Ez i p b hp hb with⟨h1,h2,_⟩|⟨h1,_⟩
  ·rcases k.ext.pR _ o hc with h3|h3
   ·exact (g.hr.fz _ o h3).2 ⟨i,p,b,h1,h2,ho,rfl⟩
   ·have:=g.hr.lt i p h1;omega
  ·exact (k.hr.fz _ o hc).2 ⟨i,p,b,hp,h1,ho,rfl⟩
 ·
  refine g.ext.trans ⟨k.ext.le,k.ext.pR,k.ext.size,λc hc RW=>k.ext.keep c hc (λh=>RW (SA c h)),?_,k.ext.os,k.ext.tape,k.ext.output⟩;rintro c hc ⟨i,p,b,hp,hb,ho,he⟩;rcases Ez i p b hp hb with⟨h1,h2,_⟩|⟨h1,_⟩
  ·exact⟨i,p,b,h1,h2,ho,he⟩
  ·exact SA c (k.ext.owns c hc ⟨i,p,b,hp,h1,ho,he⟩)
 ·intro i hi;rw[k.QO i (.inl (by have:=g.next;omega)),g.QO i hi]
 ·rw[EA];have:=g.next;have:=k.next;omega
 ·intro i hi;rw[EA] at hi;have h1:=k.next;rw[k.QO i (.inr hi)];exact g.fresh i J
 ·intro i hi hl;have hT:=g.dead i hi hl;rw[Pz]
  split
  ·exact hT
  ·rename_i hc;have YA:i<R.next:=by have:=g.next;omega
   cases hs:σ i with
   |none=>exact absurd ⟨YA,.inl hs⟩ hc
   |some p =>
    cases hr:R.look i with
    |none=>exact absurd ⟨YA,.inr hr⟩ hc
    |some b=>rw[UG i p b hs hr] at hT;cases hT
 ·intro i p hp DV
  cases hs:σ i with
  |none =>
   rcases k.news i p hp hs with h|h
   ·exact .inl (aqM g.ext.size h)
   ·by_cases hb:p.b<w0.heap.size
    ·exact .inr (g.ext.owns _ hb (SA _ h))
    ·exact .inl J
  |some q =>
   have:=old i q p hs hp;subst this;exact g.news i q hs DV
def GD.TG {Ub σ Yj:Sg}{s0 T:St}{w0 w w':World}(g:GD Ub s0 w0 σ T w){id:Nat}{b:Uf}(hb:b≠.gone)(h1:s0.next<=id)(h2:id<T.next)(k:Good σ { T with next:=id } w Yj (St.new { T with next:=id } b) w') :
  GD Ub s0 w0 Yj (Nn (λi=>if i=id then some b else T.look i) T.next) w':=by
 have hl:∀i,(St.new { T with next:=id } b).look i=(Nn (λi=>if i=id then some b else T.look i) T.next).look i:=by
  intro i;rw[St.Uq _ _ _ hb,Nm]
  ·by_cases h:i=id
   ·subst h;simp
   ·rw[O3 h,O3 (λe=>h e.symm)];rfl
  ·intro c hc
   split at hc
   ·cases hc;exact hb
   ·exact OW _ _ _ hc
 have hT:∀i,St.look { T with next:=id } i=T.look i:=λi=>rfl
 have hO:∀c,P0 σ { T with next:=id } c<->P0 σ T c:=λc=>Iff.rfl
 have hk:=k.hr.congr hl;have hoe:∀c,P0 Yj (Nn (λi=>if i=id then some b else T.look i) T.next) c->P0 Yj (St.new { T with next:=id } b) c:=λc ⟨i,p,d,e1,e2,e3,e4⟩=>⟨i,p,d,e1,by rw[hl];exact e2,e3,e4⟩
 have kn:(St.new { T with next:=id } b).next=id+1:=rfl;refine⟨hk,g.ext.trans ⟨k.ext.le,k.ext.pR,k.ext.size,λc hc RW=>k.ext.keep c hc RW,λc hc ho=>k.ext.owns c hc (hoe c ho),k.ext.os,k.ext.tape,k.ext.output⟩,?_,g.next,?_,?_,?_⟩
 ·intro i hi;rw[k.QO i (.inl (show i<id by omega)),g.QO i hi]
 ·intro i hi;have hi:T.next<=i:=hi;rw[k.QO i (.inr (by rw[kn];omega))];exact g.fresh i hi
 ·intro i hi eR;rw[<-hl,St.Uq _ _ _ hb,O3 (by show ¬id=i;omega)];exact g.dead i hi eR
 ·intro i p hp DV
  cases hs:σ i with
  |none =>
   rcases k.news i p hp hs with h|h
   ·exact .inl (aqM g.ext.size h)
   ·by_cases hb:p.b<w0.heap.size
    ·exact .inr (g.ext.owns _ hb h)
    ·exact .inl J
  |some q =>
   have:=k.ext.le.p i q hs;rw[hp] at this;cases this;exact g.news i _ hs DV
def GD.good {Ub σ:Sg}{s0 T S:St}{w0 w:World}(g:GD Ub s0 w0 σ T w)(h:∀i p,σ i=some p->T.look i=S.look i)(hd:∀i,i<s0.next->s0.look i=none->S.look i=none)(hn:S.next=T.next)(hb:S.base=s0.base)(hf:SY Ub s0):Good Ub s0 w0 σ S w where
 hr:=g.hr.sub λi p b hp hb=>by rw[h i p hp];exact hb
 ext:=⟨g.ext.le,g.ext.pR,g.ext.size,g.ext.keep,λc hc ⟨i,p,b,h1,h2,h3,h4⟩=>g.ext.owns c hc ⟨i,p,b,h1,by rw[h i p h1];exact h2,h3,h4⟩,g.ext.os,g.ext.tape,g.ext.output⟩
 QO:=λi hi=>by
  rcases hi with hi|hi
  ·exact g.QO i hi
  ·rw[g.fresh i J,hf i (by have:=g.next;omega)]
 next:=by rw[hn];exact g.next
 dead:=hd
 news:=g.news
 glob:=hb
end
end Go.Am
namespace Go.Am
open Go
def Na (c:Nat->Nat)(es:List Edge)(s0:Nat):Nat:=es.foldl (λs e=>if Region.binds .any e then s ||| 2^e.on ||| c e.on else s) s0
def JC (c:Nat->Nat):∀(es:List Edge) (s0 i:Nat),(Na c es s0).testBit i=true->s0.testBit i=true\/∃e∈es,Region.binds .any e=true/\(i=e.on\/(c e.on).testBit i=true)
 |[],s0,i,h=>.inl h
 |e::es,s0,i,h=>by
  unfold Na at h;rw[List.foldl_cons] at h;rcases JC c es _ i h with h1|⟨e',hm,hb,hr⟩
  ·by_cases hb:Region.binds .any e=true
   ·rw[Of hb] at h1;simp only[Nat.testBit_or,aq0] at h1;rcases h1 with (h1|h1)|h1
    ·exact .inl h1
    ·rw[Nat.testBit_two_pow] at h1;exact .inr ⟨e,aba ..,hb,.inl (by simpa using h1:e.on=i).symm⟩
    ·exact .inr ⟨e,aba ..,hb,.inr h1⟩
   ·rw[O3 hb] at h1;exact .inl h1
  ·exact .inr ⟨e',aab _ hm,hb,hr⟩
def MA (acc:Array Nat)(o:Oper):Array Nat:=acc.push (Na (λk=>acc.getD k 0) o.after.toList 0)
def JB (l:List Oper):Array Nat:=l.foldl MA #[]
def jk (ops:Array Oper):Region.before ops=JB ops.toList:=by
 unfold Region.before JB;rw[<-Array.foldl_toList]
 congr 1
 funext acc o
 unfold MA Na;rw[<-Array.foldl_toList]
def Iq (l:List Oper)(o:Oper):JB (l++[o])=MA (JB l) o:=by
 unfold JB;rw[List.foldl_append];rfl
def ai {α:Type}{p:List α->Prop}(h0:p [])(h1:∀l x,p l->p (l++[x]))(l:List α):p l:=by
 have:∀r:List α,p r.reverse:=by
  intro r
  induction r with
  |nil=>exact h0
  |cons x r ih=>rw[List.reverse_cons];exact h1 _ _ ih
 have:=this l.reverse
 rwa [List.reverse_reverse] at this
def Bk (l:List Oper):(JB l).size=l.length:=by
 induction l using ai with
 |h0=>rfl
 |h1 l x ih=>rw[Iq];simp[MA,ih]
def ah (l:List Oper):∀(j i:Nat),((JB l).getD j 0).testBit i=true->∃o,l[j]? = some o/\∃e∈o.after.toList,Region.binds .any e=true/\(i=e.on\/(e.on<j/\((JB l).getD e.on 0).testBit i=true)):=by
 induction l using ai with
 |h0=>intro j i h;simp[JB] at h
 |h1 l x ih =>
  intro j i h;have Vt:=Bk l;have RJ:∀k,k<l.length->(JB (l++[x])).getD k 0=(JB l).getD k 0:=by
   intro k hk;rw[Iq];unfold MA;simp only[aqu];rw[aqL,O3 J]
  rcases Nat.lt_trichotomy j l.length with hj|hj|hj
  ·rw[RJ j hj] at h;obtain⟨o,h1,e,h2,h3,h4⟩:=ih j i h;refine⟨o,by rw[aql hj];exact h1,e,h2,h3,?_⟩;rcases h4 with h4|⟨h4,h5⟩
   ·exact .inl h4
   ·exact .inr ⟨h4,by rw[RJ _ J];exact h5⟩
  ·subst hj;have hv:(JB (l++[x])).getD l.length 0=Na (λk=>(JB l).getD k 0) x.after.toList 0:=by
    rw[Iq];unfold MA;simp only[aqu];rw[aqL,Of Vt.symm];rfl
   rw[hv] at h;rcases JC _ _ _ _ h with h1|⟨e,h1,h2,h3⟩
   ·simp at h1
   ·refine⟨x,by simp,e,h1,h2,?_⟩;rcases h3 with h3|h3
    ·exact .inl h3
    ·have YA:e.on<l.length:=by
      rw[<-Vt];refine Nat.lt_of_not_le λDz=>?_
      simp only[aqu] at h3;rw[Array.getElem?_eq_none Dz] at h3;simp at h3
     exact .inr ⟨YA,by rw[RJ _ YA];exact h3⟩
  ·have:(JB (l++[x])).getD j 0=0:=by
    simp only[aqu];rw[Array.getElem?_eq_none (by rw[Bk];simp;omega)];rfl
   rw[this] at h;simp at h
def vd {ops:Array Oper}{i j:Nat}(h:Xh ops i j=true):∃o,ops[j]? = some o/\∃e∈o.after.toList,Region.binds .any e=true/\(i=e.on\/(e.on<j/\Xh ops i e.on=true)):=by
 unfold Xh at h ⊢;rw[jk] at h ⊢;obtain⟨o,h1,h2⟩:=ah _ _ _ h;exact⟨o,by simpa using h1,h2⟩
def tM (ops:Array Oper)(D:Nat->Bool):Prop:=∀j o,D j=true->ops[j]? = some o->∀e∈o.after.toList,Region.binds .any e=true->D e.on=true
def Ea {ops:Array Oper}{D:Nat->Bool}(hD:tM ops D):∀(j i:Nat),(D j=true\/∀o,ops[j]? = some o->∀e∈o.after.toList,Region.binds .any e=true->D e.on=true)->Xh ops i j=true->D i=true:=by
 intro j
 induction j using Nat.strongRecOn with
 |_ j ih =>
  intro i hj h;obtain⟨o,ho,e,he,hb,hr⟩:=vd h;have hde:D e.on=true:=by
   rcases hj with hj|hj
   ·exact hD j o hj ho e he hb
   ·exact hj o ho e he hb
  rcases hr with rfl|⟨h1,h2⟩
  ·exact hde
  ·exact ih _ h1 i (.inl hde) h2
def left (D:Nat->Bool):Nat->Nat
 |0=>0
 |n+1=>left D n+(if D n then 0 else 1)
def CK {D:Nat->Bool}:∀{n:Nat},left D n=0->∀i,i<n->D i=true
 |0,_,i,hi=>J
 |n+1,h,i,hi=>by
  simp only[left] at h;by_cases e:i=n
  ·subst e;by_cases hd:D i=true
   ·exact hd
   ·rw[O3 hd] at h;omega
  ·exact CK (n:=n) J i J
def Bj {D D':Nat->Bool}:∀{n:Nat},(∀i,i<n->D' i=D i)->left D' n=left D n
 |0,_=>rfl
 |n+1,h=>by simp only[left];rw[Bj λi hi=>h i J,h n J]
def yF {D D':Nat->Bool}{j:Nat}(hj:D j=false)(Dq:D' j=true)(h:∀i,i≠j->D' i=D i):∀{n:Nat},j<n->left D' n+1=left D n
 |0,hn=>J
 |n+1,hn=>by
  simp only[left];by_cases e:j=n
  ·subst e;rw[Bj λi hi=>h i J,hj,Dq];simp
  ·have:=yF hj Dq h (n:=n) J;rw[h n (λe'=>e e'.symm)];omega
mutual
def EY:∀{a b:AV},same a b=true->a=b
 |a,b,h=>by
  cases a <;> cases b <;> simp only[same,ahe,beq_iff_eq,decide_eq_true_eq,aqa] at h <;> try (cases h;done)
  all_goals first
   |rfl
   |(subst h;rfl)
   |(obtain⟨rfl,rfl⟩:=h;rfl)
   |(obtain⟨⟨⟨⟨rfl,rfl⟩,rfl⟩,rfl⟩,rfl⟩:=h;rfl)
   |(obtain⟨⟨rfl,h1⟩,h2⟩:=h;rw[TX h1,TX h2])
   |(obtain⟨rfl,h1⟩:=h;rw[EY h1])
   |(obtain⟨rfl,h1⟩:=h;rw[TX h1])
   |(obtain⟨h1,h2⟩:=h;rw[TX h1,TX h2])
   |rw[TX h]
def TX:∀{a b:List AV},V_ a b=true->a=b
 |[],[],_=>rfl
 |[],_::_,h=>by simp[V_] at h
 |_::_,[],h=>by simp[V_] at h
 |a::x,b::y,h=>by
  simp only[V_,ahe] at h;rw[EY h.1,TX h.2]
end
end Go.Am
namespace Go.Am
open Go
variable {e:Env}{v:AV}{i:Nat}{s s':St}
section
variable [Stat]
variable {X:Cx}{ex:Ex}{ops:Array Oper}{base:Nat}
def UP {o:Oper}{e e':Env}(h:Sk X ex ops base i o e s=some (e',s')) :
  (XE ops e o=false/\e'=Ye e o.dst undef/\s'=s) \/
  (XE ops e o=true/\∃v,e'=Ye e o.dst v/\(((cls X o.op).Af=true/\∃s1,Yn X ex e o.op { s with next:=base+i }=some (v,s1)/\s'={ s1 with next:=s.next }) \/
   ((cls X o.op).Af=false/\Yn X ex e o.op s=some (v,s')))):=by
 unfold Sk at h
 split at h
 ·rename_i hw;refine .inr ⟨hw,?_⟩
  split at h
  ·rename_i hc
   split at h
   ·rename_i v s1 h1
    cases h
    exact⟨v,rfl,.inl ⟨by rw[hc];rfl,s1,h1,rfl⟩⟩
   ·cases h
  ·rename_i hc
   split at h
   ·rename_i v s1 h1
    cases h
    refine⟨v,rfl,.inr ⟨?_,h1⟩⟩
    cases hk:cls X o.op <;> first|rfl|exact absurd hk hc
   ·cases h
 ·rename_i hw
  cases h
  exact .inl ⟨by simpa using hw,rfl,rfl⟩
def kA (X:Cx)(ops:Array Oper)(i:Nat):Prop:=∃o,ops[i]? = some o/\cls X o.op=.a
def kW (X:Cx)(ops:Array Oper)(i:Nat):Prop:=∃o,ops[i]? = some o/\cls X o.op=.w/\late X ops i=false
def kS (X:Cx)(ops:Array Oper)(i:Nat):Prop:=late X ops i=true
def lb (X:Cx)(ops:Array Oper)(E:Nat->Env)(i:Nat):Option Nat:=match ops[i]? with|some o=>Tg X (E i) o.op|none=>none
def U3 {X:Cx}{ops:Array Oper}(h:kS X ops i):∃o,ops[i]? = some o/\Tf o.op=true/\o.guard=none/\cls X o.op=.w/\∀k ok,k≠i->ops[k]? = some ok->Xh ops k i=true\/late X ops k=true\/cls X ok.op=.p\/cls X ok.op=.a:=by
 unfold kS late at h;simp only[ahe] at h;obtain⟨h1,h2⟩:=h
 split at h2
 ·rename_i o ho;have h3:=h1;unfold MI at h3;simp only[ahe,ap8] at h3;have hs:∀(l:List Oper) (j k:Nat) (o':Oper),l[k]? = some o'->Tf o'.op=true->j+k∈lQ j l:=by
   intro l
   induction l with
   |nil=>intro j k o' hk;simp at hk
   |cons x l ih =>
    intro j k o' hk W_;unfold lQ
    cases k with
    |zero=>simp at hk;subst hk;simp[W_]
    |succ k =>
     have:=ih (j+1) k o' (by simpa using hk) W_;rw[show j+(k+1)=j+1+k by omega]
     split
     ·exact aab _ this
     ·exact this
  have h4:=h3.2 i (by simpa using hs ops.toList 0 i o (by simpa using ho) h2);unfold eY at h4;rw[ho] at h4;simp only[ahe,ap8,aq0,beq_iff_eq,aqg,aq1] at h4;obtain⟨⟨_,h5⟩,h6⟩:=h4;refine⟨o,ho,h2,h5,?_,λk ok hk XP=>?_⟩
  ·cases uE:o.op <;> rw[uE] at h2 <;> simp only[Tf] at h2 <;> first|rfl|cases h2
  ·have:=h6 k (apV.1 XP).1;rw[XP] at this;rcases this with (h7|h7)|h7
   ·exact absurd h7 hk
   ·exact .inl h7
   ·rcases Bool.or_eq_true_iff.1 h7 with h8|h8
    ·refine .inr (.inl ?_);unfold late;rw[h1,XP];simpa using h8
    ·cases hc:cls X ok.op <;> rw[hc] at h8 <;> simp at h8 <;> simp
 ·cases h2
def KG {X:Cx}{ops:Array Oper}(h:kW X ops i):¬kS X ops i:=λk=>by
 obtain⟨_,_,_,h3⟩:=h;rw[show late X ops i=true from k] at h3;cases h3
def qR {X:Cx}{ex:Ex}{o:Op}(hs:Tf o=true){b:Nat}(hb:Tg X e o=some b)(h:Yn X ex e o s=some (v,s')) :
  ∃k k',s.look b=some k/\k'≠.gone/\s'=s.put b k'/\∀t:St,t.get b=s.get b->Yn X ex e o t=some (v,t.put b k'):=by
 cases o <;> simp only[Tf] at hs <;> try (cases hs;done)
 rename_i t a x;simp only[Tg] at hb
 split at hb
 ·rename_i b' o' ha
  cases hb
  simp only[Yn,ha] at h ⊢
  split at h
  ·rename_i a1 v1 h1 hv
   cases h1
   obtain⟨h2,rfl⟩:=OU h;unfold Lw at h2;simp only at h2
   split at h2
   ·rename_i n hn
    split at h2
    ·rename_i hlen;subst hlen;unfold WX at h2
     split at h2
     ·rename_i c e N3 O_ hg
      split at h2
      ·rename_i hc
       split at h2
       ·rename_i c' hl
        cases h2
        refine⟨_,.cells c' e false N3 O_,St.XO hg No,by simp,rfl,λt ht=>?_⟩;simp only[Lw,hn,if_true,WX,ht,hg,hc,hl,NP]
       ·cases h2
      ·cases h2
     ·cases h2
    ·cases h2
   ·cases h2
  ·cases h
 ·cases hb
def Xa {c:zm}:c.Af=true<->c=.a:=by cases c <;> simp[zm.Af]
def QT {c:zm}:c.lR=true<->c=.w:=by cases c <;> simp[zm.lR]
def vf {o:Oper}{e e':Env}(h:Sk X ex ops base i o e s=some (e',s'))(hw:cls X o.op≠.w) :
  s'.next=s.next/\s'.base=s.base/\∀id,(cls X o.op=.a->id≠base+i)->s'.look id=s.look id:=by
 rcases UP h with⟨_,_,rfl⟩|⟨_,v,_,⟨hc,s1,h1,rfl⟩|⟨hc,h1⟩⟩
 ·exact⟨rfl,rfl,λ_ _=>rfl⟩
 ·have hc:=Xa.1 hc;obtain⟨b,hb,rfl,_⟩:=gQ hc h1;refine⟨rfl,rfl,λid hid=>?_⟩;have ZB:=hid hc;show (St.new { s with next:=base+i } b).look id=_;rw[St.Uq _ _ _ hb,O3 (λe=>ZB e.symm)];rfl
 ·cases hk:cls X o.op with
  |a=>rw[hk] at hc;cases hc
  |w=>exact absurd hk hw
  |p=>obtain⟨rfl,_⟩:=gN hk _ _ _ h1;exact⟨rfl,rfl,λ_ _=>rfl⟩
  |r=>obtain rfl:=gK hk h1;exact⟨rfl,rfl,λ_ _=>rfl⟩
  |q=>obtain⟨rfl,_⟩:=CL hk h1;exact⟨rfl,rfl,λ_ _=>rfl⟩
def II {d:Option Tmp}{t:Tmp}(h:d≠some t):Env.get (Ye e d v) t=e.get t:=by
 cases d with
 |none=>rfl
 |some d =>
  show Env.get (Tr.set e d v) t=_;rw[Env.Sh,O3 (λe=>h (by rw[e]))]
def HJ {t:Tmp}:Env.get (Ye e (some t) v) t=v:=by
 show Env.get (Tr.set e t v) t=_;rw[Env.Sh,Of rfl]
structure DG (X:Cx)(ex:Ex)(ops:Array Oper)(base:Nat)(E:Nat->Env)(S:Nat->St):Prop where
 step:∀i o,ops[i]? = some o->Sk X ex ops base i o (E i) (S i)=some (E (i+1),S (i+1))
variable {E:Nat->Env}{S:Nat->St}
def DG.aR (h:DG X ex ops base E S){o:Oper}(ho:ops[i]? = some o):∃v,E (i+1)=Ye (E i) o.dst v:=by
 rcases UP (h.step i o ho) with⟨_,h1,_⟩|⟨_,v,h1,_⟩
 ·exact⟨_,h1⟩
 ·exact⟨_,h1⟩
def DG.EV (h:DG X ex ops base E S)(t:Tmp)(a:Nat):∀d,(∀i o,a<=i->i<a+d->ops[i]? = some o->o.dst≠some t)->a+d<=ops.size->Env.get (E (a+d)) t=Env.get (E a) t
 |0,_,_=>rfl
 |d+1,hn,hs=>by
  have hi:a+d<ops.size:=J;obtain⟨v,hv⟩:=h.aR (aqz hi);rw[show a+(d+1)=a+d+1 from rfl,hv,II (hn _ _ J J (aqz hi))];exact h.EV t a d (λi o h1 h2 h3=>hn i o h1 J h3) J
structure AS (X:Cx)(ops:Array Oper)(base:Nat)(E:Nat->Env):Prop where
 some:∀i,kS X ops i->∃b,lb X ops E i=some b/\(b<base\/base+ops.size<=b)
 ne:∀i j,kS X ops i->kS X ops j->i≠j->lb X ops E i≠lb X ops E j
def DG.Jf (h:DG X ex ops base E S){o:Oper}(ho:ops[i]? = some o)(hk:kS X ops i){b:Nat}(hb:lb X ops E i=some b) :
  ∃k k' v,(S i).look b=some k/\k'≠.gone/\S (i+1)=(S i).put b k'/\E (i+1)=Ye (E i) o.dst v/\∀t:St,t.get b=(S i).get b->Yn X ex (E i) o.op t=some (v,t.put b k'):=by
 obtain⟨o',U_,hs,hg,hc,_⟩:=U3 hk;rw[ho] at U_;cases U_;have SG:Tg X (E i) o.op=some b:=by unfold lb at hb;rw[ho] at hb;exact hb
 rcases UP (h.step i o ho) with⟨h1,_⟩|⟨_,v,h2,⟨Hl,_⟩|⟨_,h3⟩⟩
 ·simp[XE,hg] at h1
 ·rw[hc] at Hl;cases Hl
 ·obtain⟨k,k',h4,h5,h6,h7⟩:=qR hs SG h3;exact⟨k,k',v,h4,h5,h6,h2,h7⟩
def DG.between (h:DG X ex ops base E S)(hL:AS X ops base E)(m:Nat):∀d,m+d<=ops.size->(∀i,m<=i->i<m+d->¬kW X ops i) ->
  (S (m+d)).next=(S m).next/\(S (m+d)).base=(S m).base /\
   (∀id,(∀i,m<=i->i<m+d->kA X ops i->id≠base+i)->(∀i,m<=i->i<m+d->kS X ops i->lb X ops E i≠some id)->(S (m+d)).look id=(S m).look id) /\
   (∀i,m<=i->i<m+d->kA X ops i->(S (m+d)).look (base+i)=(S (i+1)).look (base+i)) /\
   ∀i b,m<=i->i<m+d->kS X ops i->lb X ops E i=some b->(S (m+d)).look b=(S (i+1)).look b
 |0,_,_=>⟨rfl,rfl,λ_ _ _=>rfl,λi h1 h2=>J,λi b h1 h2=>J⟩
 |d+1,hs,hw=>by
  have hi:m+d<ops.size:=J;have ho:=aqz hi;obtain⟨k1,k2,k3,k4,k5⟩:=h.between hL m d J (λi a b=>hw i a J);rw[show m+(d+1)=m+d+1 from rfl];by_cases hk:kS X ops (m+d)
  ·obtain⟨b,hb,zB⟩:=hL.some _ hk;obtain⟨k,k',v,g1,g2,g3,_,_⟩:=h.Jf ho hk hb;have Sn:∀id,id≠b->(S (m+d+1)).look id=(S (m+d)).look id:=λid ZB=>by
    rw[g3,St.WS,O3 (λe=>ZB e.symm)]
   refine⟨by rw[g3,<-k1];rfl,by rw[g3,<-k2];rfl,λid h1 h2=>?_,λi a c ha=>?_,λi b' a c LP SG=>?_⟩
   ·rw[Sn id (λe=>h2 (m+d) J J hk (by rw[hb,e]))];exact k3 id (λi a c=>h1 i a J) (λi a c=>h2 i a J)
   ·by_cases e:i=m+d
    ·subst e;rfl
    ·rw[Sn _ J];exact k4 i a J ha
   ·by_cases e:i=m+d
    ·subst e;rfl
    ·rw[Sn _ (λe'=>hL.ne i (m+d) LP hk e (by rw[SG,hb,e']))];exact k5 i b' a J LP SG
  ·obtain⟨g1,g2,g3⟩:=vf (h.step _ _ ho) (λhc=>hw (m+d) J J ⟨_,ho,hc,by
    cases hl:late X ops (m+d) with
    |false=>rfl
    |true=>exact absurd hl hk⟩)
   refine⟨by rw[g1,k1],by rw[g2,k2],λid h1 h2=>?_,λi a c ha=>?_,λi b' a c LP SG=>?_⟩
   ·rw[g3 id (λhc=>h1 _ J J ⟨_,ho,hc⟩)];exact k3 id (λi a c=>h1 i a J) (λi a c=>h2 i a J)
   ·by_cases e:i=m+d
    ·subst e;rfl
    ·rw[g3 _ (λ_=>J)];exact k4 i a J ha
   ·have ZB:i≠m+d:=λe=>hk (e ▸ LP)
    obtain⟨b2,U5,zB⟩:=hL.some _ LP;rw[SG] at U5;cases U5;rw[g3 _ (λ_=>J)];exact k5 i b' a J LP SG
def Nv {x y:Oper}(h:Ae ops x y=true) :
  (∀d,x.dst=some d->d∉Mb ops y)/\(∀d,x.dst=some d->y.dst≠some d)/\(∀d,y.dst=some d->d∉Mb ops x):=by
 refine⟨λd hd=>?_,λd hd=>?_,λd hd=>?_⟩ <;> simp[Ae,hd] at h
 ·exact h.1.1
 ·exact h.1.2
 ·exact h.2
structure Ok (X:Cx)(ops:Array Oper):Prop where
 edge:∀(j:Nat) o,ops[j]? = some o->∀e∈o.after.toList,Region.binds .any e=true->e.on<j
 pair:∀(i j:Nat) oi oj,i<j->ops[i]? = some oi->ops[j]? = some oj->Xh ops i j=true \/
  (Ae ops oi oj=true/\¬(kA X ops i/\kW X ops j)/\¬(kW X ops i/\kW X ops j)/\¬(kS X ops i/\kW X ops j)/\¬(kW X ops i/\kS X ops j))
def tL (h:okD X ops=true):Ok X ops:=by
 unfold okD at h;rw[ap8] at h;refine⟨λj o ho e he hb=>?_,λi j oi oj Ox hi hj=>?_⟩
 ·have YA:=(apV.1 ho).1;have:=h j (aqg.2 YA);rw[ho] at this;simp only[ahe,ap8] at this;have:=this.1.1 e he;rw[hb] at this
  simpa using this
 ·have YA:=(apV.1 hj).1;have:=h j (aqg.2 YA);rw[hj] at this;simp only[ahe,ap8] at this;have:=this.2 i (aqg.2 Ox);rw[hi] at this;simp only[eX,aq0,ahe] at this;rcases this with h1|⟨h1,h2⟩
  ·exact .inl h1
  ·have cw:∀{k ok},ops[k]? = some ok->kW X ops k->cls X ok.op=.w/\late X ops k=false:=λho ⟨o',U_,hc,hl⟩=>by rw[ho] at U_;cases U_;exact⟨hc,hl⟩
   have cs:∀{k ok},ops[k]? = some ok->kS X ops k->cls X ok.op=.w/\late X ops k=true:=λho hk=>by
    obtain⟨o',U_,_,_,hc,_⟩:=U3 hk;rw[ho] at U_;cases U_;exact⟨hc,hk⟩
   have ca:∀{k ok},ops[k]? = some ok->kA X ops k->cls X ok.op=.a:=λho ⟨o',U_,hc⟩=>by rw[ho] at U_;cases U_;exact hc
   refine .inr ⟨h1,λ⟨a,b⟩=>?_,λ⟨a,b⟩=>?_,λ⟨a,b⟩=>?_,λ⟨a,b⟩=>?_⟩
   ·rw[ca hi a,(cw hj b).1] at h2;simp only[(cw hj b).2] at h2;cases h2
   ·rw[(cw hi a).1,(cw hj b).1] at h2;simp only[(cw hi a).2] at h2;cases h2
   ·rw[(cs hi a).1,(cw hj b).1] at h2;simp only[(cw hj b).2,Bool.and_false] at h2;cases h2
   ·rw[(cw hi a).1,(cs hj b).1] at h2;simp only[(cw hi a).2,aqK] at h2;cases h2
def Ok.RI (h:Ok X ops):∀(j i:Nat),Xh ops i j=true->i<j:=by
 intro j
 induction j using Nat.strongRecOn with
 |_ j ih =>
  intro i hb;obtain⟨o,ho,e,he,hbd,hr⟩:=vd hb;have:=h.edge j o ho e he hbd;rcases hr with rfl|⟨h1,h2⟩
  ·exact this
  ·exact Nat.lt_trans (ih _ h1 i h2) h1
structure HI (X:Cx)(ops:Array Oper)(E:Nat->Env)(S:Nat->St)(Ub:Sg)(s0:St)(w0:World)(D:Nat->Bool)(m:Nat)(σ:Sg)(T:St)(w:World):Prop where
 gd:GD Ub s0 w0 σ T w
 mN:m<=ops.size
 DC:∀i,kW X ops i->(D i=true<->i<m)
 mw:m=0\/∃j,m=j+1/\kW X ops j
 t1:∀id,σ id≠none->(∀i,m<=i->D i=true->kA X ops i->id≠s0.next+i)->(∀i,D i=true->kS X ops i->lb X ops E i≠some id)->T.look id=(S m).look id
 t2:∀i,m<=i->D i=true->kA X ops i->σ (s0.next+i)≠none->T.look (s0.next+i)=(S (i+1)).look (s0.next+i)
 t3:T.next=(S m).next
 t4:∀i b,D i=true->kS X ops i->lb X ops E i=some b->σ b≠none->T.look b=(S (i+1)).look b
 u:∀i,kA X ops i->D i=false->σ (s0.next+i)=none
 CG:∀i,i<s0.next->s0.look i=none->(S m).look i=none
 yE:(S m).base=s0.base
 Bu:s0.next+ops.size<=(S m).next
structure AQ (ops:Array Oper)(D:Nat->Bool)(j:Nat)(o:Oper):Prop where
 closed:tM ops D
 op:ops[j]? = some o
 no:D j=false
 deps:∀e∈o.after.toList,Region.binds .any e=true->D e.on=true
def AQ.Xh {D:Nat->Bool}{j:Nat}{o:Oper}(h:AQ ops D j o)(hb:Xh ops i j=true):D i=true :=
 Ea h.closed j i (.inr λo' U_=>by rw[h.op] at U_;cases U_;exact h.deps) hb
def AQ.Jd {D:Nat->Bool}{j:Nat}{o:Oper}(h:AQ ops D j o)(hi:D i=true):Am.Xh ops j i=false:=by
 cases hb:Am.Xh ops j i with
 |false=>rfl
 |true =>
  have:=Ea h.closed i j (.inl hi) hb;rw[h.no] at this;cases this
variable {Ub:Sg}{s0:St}{w0:World}{D D':Nat->Bool}{m:Nat}{σ Yj:Sg}{T:St}{w w':World}
def Adds (D D':Nat->Bool)(j:Nat):Prop:=D' j=true/\∀i,i≠j->D' i=D i
def Adds.of {D D':Nat->Bool}{j:Nat}(h:Adds D D' j)(hi:D' i=true):i=j\/D i=true:=by
 by_cases e:i=j
 ·exact .inl e
 ·rw[h.2 i e] at hi;exact .inr hi
def Adds.false {D D':Nat->Bool}{j:Nat}(h:Adds D D' j)(hi:D' i=false):D i=false:=by
 by_cases e:i=j
 ·subst e;rw[h.1] at hi;cases hi
 ·rw[h.2 i e] at hi;exact hi
def AQ.AP {D:Nat->Bool}{j:Nat}{o:Oper}(hr:AQ ops D j o)(hp:cls X o.op≠.p)(ha:cls X o.op≠.a)(hl:late X ops j=false):∀i,D i=true->¬kS X ops i:=by
 intro i hi hk;obtain⟨oi,DT,_,_,_,h⟩:=U3 hk;have ZB:j≠i:=λe=>by
  rw[e] at hl;rw[show late X ops i=true from hk] at hl;cases hl
 rcases h j o ZB hr.op with hb|hb|hb|hb
 ·rw[hr.Jd hi] at hb;cases hb
 ·rw[hl] at hb;cases hb
 ·exact hp hb
 ·exact ha hb
def HI.keep (h:HI X ops E S Ub s0 w0 D m σ T w){j:Nat}{o:Oper}(hr:AQ ops D j o)(hD:Adds D D' j)(hk:¬kW X ops j)(hks:¬kS X ops j){R:St}(UG:∀i p b,σ i=some p->R.look i=some b->T.look i=some b)(hn:R.next=T.next)
  (k:Good σ R w Yj R w')(ha:kA X ops j->Yj=σ):HI X ops E S Ub s0 w0 D' m Yj (mix σ T R R) w':=by
 have hid:∀id,Yj id≠none->σ id=Yj id/\(mix σ T R R).look id=T.look id:=by
  intro id ZB;have YA:id<R.next:=by
   refine Nat.lt_of_not_le λDz=>ZB ?_
   rw[k.QO id (.inr Dz)];exact h.gd.fresh id (by rw[<-hn];exact Dz)
  have he:=k.QO id (.inl YA);refine⟨he.symm,?_⟩;rw[Pz]
  split
  ·rfl
  ·rename_i hc
   cases hs:σ id with
   |none=>exact absurd ⟨YA,.inl hs⟩ hc
   |some p =>
    cases hl:R.look id with
    |none=>exact absurd ⟨YA,.inr hl⟩ hc
    |some b=>exact (UG id p b hs hl).symm
 have hjw:∀i,kW X ops i->i≠j:=λi hi e=>hk (e ▸ hi)
 have aQ:∀i,D i=true->D' i=true:=λi hi=>by
  by_cases e:i=j
  ·subst e;exact hD.1
  ·rw[hD.2 i e];exact hi
 refine⟨frame h.gd UG hn k,h.mN,λi hi=>?_,h.mw,λid ZB Xx Bt=>?_,λi h1 h2 h3 h4=>?_,by rw[EA,hn];exact h.t3,λi b h1 h2 h3 h4=>?_,λi h1 h2=>?_,h.CG,h.yE,h.Bu⟩
 ·rw[hD.2 i (hjw i hi)];exact h.DC i hi
 ·obtain⟨e1,e2⟩:=hid id ZB;rw[e2];exact h.t1 id (by rw[e1];exact ZB) (λi h1 h2 h3=>Xx i h1 (aQ i h2) h3) (λi h1 h2=>Bt i (aQ i h1) h2)
 ·obtain⟨e1,e2⟩:=hid _ h4;rw[e2];rcases hD.of h2 with e|hd
  ·subst e;have:=h.u i h3 hr.no;rw[ha h3,this] at h4;exact absurd rfl h4
  ·exact h.t2 i h1 hd h3 (by rw[e1];exact h4)
 ·obtain⟨e1,e2⟩:=hid _ h4;rw[e2];rcases hD.of h1 with e|hd
  ·exact absurd (e ▸ h2) hks
  ·exact h.t4 i b hd h2 h3 (by rw[e1];exact h4)
 ·have:=h.u i h1 (hD.false h2);have YA:s0.next+i<R.next:=by
   obtain⟨o',U_,_⟩:=h1;have:=(apV.1 U_).1;have:=h.Bu;rw[hn,h.t3];omega
  rw[k.QO _ (.inl YA)];exact this
def HI.gR (h:HI X ops E S Ub s0 w0 D m σ T w)(ht:DG X ex ops s0.next E S)(hL:AS X ops s0.next E)(XP:Ok X ops)(RK:∀i,m<=i->kA X ops i->(S m).look (s0.next+i)=none){j:Nat}{o:Oper}(hr:AQ ops D j o)(hk:kW X ops j) :
  m<=j/\(S j).next=T.next/\(S j).base=s0.base/\(∀i,i<s0.next->s0.look i=none->(S j).look i=none)/\(∀i p b,σ i=some p->(S j).look i=some b->T.look i=some b) /\
   (∀i,j<i->kA X ops i->(S j).look (s0.next+i)=none)/\(∀id,σ id≠none->(S j).look id=none->(∀i,j<i->D i=true->kA X ops i->id≠s0.next+i)->T.look id=none):=by
 have DE:j<ops.size:=(apV.1 hr.op).1;have iM:cls X o.op=.w/\late X ops j=false:=by obtain⟨o',U_,h1,h2⟩:=hk;rw[hr.op] at U_;cases U_;exact⟨h1,h2⟩
 have F6:∀i,D i=true->¬kS X ops i:=hr.AP (by rw[iM.1];simp) (by rw[iM.1];simp) iM.2;have hmj:m<=j:=by
  refine Nat.le_of_not_lt λYA=>?_
  have:=(h.DC j hk).2 YA;rw[hr.no] at this;cases this
 have hnw:∀i,m<=i->i<j->¬kW X ops i:=by
  intro i h1 h2 G';obtain⟨oi,DT,_⟩:=id G';have hb:Xh ops i j=true:=by
   rcases XP.pair i j oi o h2 DT hr.op with hb|⟨_,_,ZB,_⟩
   ·exact hb
   ·exact absurd ⟨G',hk⟩ ZB
  have:=(h.DC i G').1 (hr.Xh hb);omega
 have hns:∀i,i<j->¬kS X ops i:=by
  intro i Ox hs;obtain⟨oi,DT,_⟩:=U3 hs;rcases XP.pair i j oi o Ox DT hr.op with hb|⟨_,_,_,ZB,_⟩
  ·exact F6 i (hr.Xh hb) hs
  ·exact ZB ⟨hs,hk⟩
 have haD:∀i,i<j->kA X ops i->D i=true:=by
  intro i h2 G';obtain⟨oi,DT,_⟩:=id G';rcases XP.pair i j oi o h2 DT hr.op with hb|⟨_,ZB,_⟩
  ·exact hr.Xh hb
  ·exact absurd ⟨G',hk⟩ ZB
 obtain⟨d,rfl⟩:∃d,j=m+d:=⟨j-m,J⟩;obtain⟨b1,b2,b3,b4,_⟩:=ht.between hL m d J hnw;have b3:∀id,(∀i,m<=i->i<m+d->kA X ops i->id≠s0.next+i)->(S (m+d)).look id=(S m).look id:=λid h1=>b3 id h1 λi _ h3 h4=>absurd h4 (hns i h3)
 have ht1:∀id,σ id≠none->(∀i,m<=i->D i=true->kA X ops i->id≠s0.next+i)->T.look id=(S m).look id:=λid h1 h2=>h.t1 id h1 h2 λi h3 h4=>absurd h4 (F6 i h3)
 have at_:∀id,(∃i,m<=i/\i<m+d/\kA X ops i/\id=s0.next+i)\/(S (m+d)).look id=(S m).look id:=by
  intro id;by_cases hx:∃i,m<=i/\i<m+d/\kA X ops i/\id=s0.next+i
  ·exact .inl hx
  ·exact .inr (b3 id λi h1 h2 h3 e=>hx ⟨i,h1,h2,h3,e⟩)
 have F5:∀i,m+d<i->kA X ops i->(S (m+d)).look (s0.next+i)=none:=by
  intro i hi ha;rw[b3 _ (λi' h1 h2 h3 e=>J)];exact RK i J ha
 refine⟨hmj,by rw[b1,h.t3],by rw[b2,h.yE],λi hi hl=>?_,λid p b hp hb=>?_,F5,λid ZB hl Xx=>?_⟩
 ·rw[b3 i λi' _ _ _ e=>by omega];exact h.CG i hi hl
 ·rcases at_ id with⟨i,h1,h2,h3,rfl⟩|he
  ·rw[h.t2 i h1 (haD i h2 h3) h3 (by rw[hp];simp),<-b4 i h1 h2 h3];exact hb
  ·rw[ht1 id (by rw[hp];simp) ?_,<-he]
   ·exact hb
   ·rintro i h1 h2 h3 rfl;have:=RK i h1 h3;rw[<-he,hb] at this;cases this
 ·rcases at_ id with⟨i,h1,h2,h3,rfl⟩|he
  ·rw[h.t2 i h1 (haD i h2 h3) h3 ZB,<-b4 i h1 h2 h3];exact hl
  ·by_cases hx:∃i,m<=i/\D i=true/\kA X ops i/\id=s0.next+i
   ·obtain⟨i,h1,h2,h3,rfl⟩:=hx;rcases Nat.lt_trichotomy i (m+d) with YA|heq|oN
    ·rw[h.t2 i h1 h2 h3 ZB,<-b4 i h1 YA h3];exact hl
    ·subst heq;rw[hr.no] at h2;cases h2
    ·exact absurd rfl (Xx i oN h2 h3)
   ·rw[ht1 id ZB λi h1 h2 h3 e=>hx ⟨i,h1,h2,h3,e⟩,<-he];exact hl
def HI.wr (h:HI X ops E S Ub s0 w0 D m σ T w)(ht:DG X ex ops s0.next E S)(hL:AS X ops s0.next E)(XP:Ok X ops)(RK:∀i,m<=i->kA X ops i->(S m).look (s0.next+i)=none){j:Nat}{o:Oper}(hr:AQ ops D j o)(hD:Adds D D' j)(hk:kW X ops j)
  (k:Good σ (S j) w Yj (S (j+1)) w'):HI X ops E S Ub s0 w0 D' (j+1) Yj (mix σ T (S j) (S (j+1))) w':=by
 obtain⟨a1,a2,a3,a4,a5,a6,a7⟩:=h.gR ht hL XP RK hr hk;have DE:j<ops.size:=(apV.1 hr.op).1;have iM:cls X o.op=.w/\late X ops j=false:=by obtain⟨o',U_,h1,h2⟩:=hk;rw[hr.op] at U_;cases U_;exact⟨h1,h2⟩
 have F6:∀i,D i=true->¬kS X ops i:=hr.AP (by rw[iM.1];simp) (by rw[iM.1];simp) iM.2;have Vq:s0.next+ops.size<=(S j).next:=by rw[a2,h.t3];exact h.Bu
 have aP:∀id,Yj id≠none->id<(S j).next->σ id=Yj id:=λid _ YA=>(k.QO id (.inl YA)).symm
 refine⟨frame h.gd a5 a2 k,DE,λi hi=>?_,.inr ⟨j,rfl,hk⟩,λid ZB Xx _=>?_,λi h1 h2 h3 h4=>?_,rfl,λi b h1 h2 _ _=>?_,λi h1 h2=>?_,λi hi hl=>?_,by rw[k.glob,a3],?_⟩
 ·have G':=hi;obtain⟨oi,DT,_⟩:=hi;rcases Nat.lt_trichotomy i j with YA|heq|oN
  ·rw[hD.2 i J];have:D i=true:=by
    rcases XP.pair i j oi o YA DT hr.op with hb|⟨_,_,ZB,_⟩
    ·exact hr.Xh hb
    ·exact absurd ⟨G',hk⟩ ZB
   simp[this];omega
  ·subst heq;simp[hD.1]
  ·rw[hD.2 i J];have:D i=false:=by
    cases hd:D i with
    |false=>rfl
    |true =>
     have hb:=hr.Jd hd;rcases XP.pair j i o oi oN hr.op DT with SG|⟨_,_,ZB,_⟩
     ·rw[hb] at SG;cases SG
     ·exact absurd ⟨hk,G'⟩ ZB
   simp[this];omega
 ·rw[Pz]
  split
  ·rename_i hc;have he:=aP id ZB hc.1;rcases hc.2 with hs|hl
   ·rw[he] at hs;exact absurd hs ZB
   ·rw[k.dead id hc.1 hl];refine a7 id (by rw[he];exact ZB) hl λi hi hd ha e=>Xx i hi ?_ ha e
    rw[hD.2 i J];exact hd
  ·rfl
 ·have akt:i<ops.size:=by obtain⟨o',U_,_⟩:=h3;exact (apV.1 U_).1
  have hd:D i=true:=by rw[hD.2 i J] at h2;exact h2
  have he:=aP _ h4 J;rw[Pz,Of ⟨J,.inr (a6 i J h3)⟩];exact h.t2 i J hd h3 (by rw[he];exact h4)
 ·rcases hD.of h1 with e|hd
  ·exact absurd (e ▸ h2) (KG hk)
  ·exact absurd h2 (F6 i hd)
 ·have akt:i<ops.size:=by obtain⟨o',U_,_⟩:=h1;exact (apV.1 U_).1
  rw[k.QO _ (.inl J)];exact h.u i h1 (hD.false h2)
 ·exact k.dead i J (a4 i hi hl)
 ·have:=k.next;omega
def HI.al (h:HI X ops E S Ub s0 w0 D m σ T w)(hL:AS X ops s0.next E)(XP:Ok X ops){j:Nat}{o:Oper}(hr:AQ ops D j o)(hD:Adds D D' j)(hk:cls X o.op=.a){b:Uf}(hb:b≠.gone)(hS:(S (j+1)).look (s0.next+j)=some b)
  (k:Good σ { T with next:=s0.next+j } w Yj (St.new { T with next:=s0.next+j } b) w') :
  HI X ops E S Ub s0 w0 D' m Yj (Nn (λi=>if i=s0.next+j then some b else T.look i) T.next) w':=by
 have DE:j<ops.size:=(apV.1 hr.op).1;have Vq:=h.Bu;have ur:kA X ops j:=⟨o,hr.op,hk⟩;have Sn:∀id,(Nn (λi=>if i=s0.next+j then some b else T.look i) T.next).look id=if id=s0.next+j then some b else T.look id:=by
  intro id;rw[Nm];intro c' hc
  split at hc
  ·cases hc;exact hb
  ·exact OW _ _ _ hc
 have Lv:∀id,id≠s0.next+j->Yj id=σ id:=λid ZB=>by
  refine k.QO id ?_;rcases Nat.lt_trichotomy id (s0.next+j) with YA|heq|oN
  ·exact .inl YA
  ·exact absurd heq ZB
  ·exact .inr (show s0.next+j+1<=id by omega)
 have hjw:∀i,kW X ops i->i≠j:=λi ⟨o',U_,hc,_⟩ e=>by
  subst e;rw[hr.op] at U_;cases U_;rw[hk] at hc;cases hc
 have hjs:¬kS X ops j:=λhs=>by
  obtain⟨o',U_,_,_,hc,_⟩:=U3 hs;rw[hr.op] at U_;cases U_;rw[hk] at hc;cases hc
 have aQ:∀i,D i=true->D' i=true:=λi hi=>by
  by_cases e:i=j
  ·subst e;exact hD.1
  ·rw[hD.2 i e];exact hi
 have hmj:m<=j:=by
  rcases h.mw with e|⟨l,rfl,hl⟩
  ·omega
  ·refine Nat.le_of_not_lt λYA=>?_
   have hDl:D l=true:=(h.DC l hl).2 J;have hjl:j≠l:=λe=>hjw l hl e.symm
   have hb:=hr.Jd hDl;obtain⟨ol,zw,_⟩:=id hl;rcases XP.pair j l o ol J hr.op zw with SG|⟨_,ZB,_⟩
   ·rw[hb] at SG;cases SG
   ·exact ZB ⟨ur,hl⟩
 refine⟨h.gd.TG hb J (by rw[h.t3];omega) k,h.mN,λi hi=>?_,h.mw,λid ZB Xx Bt=>?_,λi h1 h2 h3 h4=>?_,h.t3,λi b' h1 h2 h3 h4=>?_,λi h1 h2=>?_,h.CG,h.yE,h.Bu⟩
 ·rw[hD.2 i (hjw i hi)];exact h.DC i hi
 ·have aku:id≠s0.next+j:=Xx j hmj hD.1 ur;rw[Sn,O3 aku];exact h.t1 id (by rw[<-Lv id aku];exact ZB) (λi h1 h2 h3=>Xx i h1 (aQ i h2) h3) (λi h1 h2=>Bt i (aQ i h1) h2)
 ·by_cases e:i=j
  ·subst e;rw[Sn,Of rfl,hS]
  ·rw[Sn,O3 J];refine h.t2 i h1 ?_ h3 (by rw[<-Lv _ J];exact h4);rw[hD.2 i e] at h2;exact h2
 ·have Ox:i≠j:=λe=>hjs (e ▸ h2)
  obtain⟨b2,e2,zB⟩:=hL.some i h2;rw[h3] at e2;cases e2;rw[Sn,O3 J];exact h.t4 i b' (by rw[hD.2 i Ox] at h1;exact h1) h2 h3 (by rw[<-Lv _ J];exact h4)
 ·have:i≠j:=by rintro rfl;rw[hD.1] at h2;cases h2
  rw[Lv _ J];exact h.u i h1 (hD.false h2)
def HI.mX (h:HI X ops E S Ub s0 w0 D m σ T w)(ht:DG X ex ops s0.next E S)(hL:AS X ops s0.next E)(XP:Ok X ops){j:Nat}{o:Oper}(hr:AQ ops D j o)(hk:kS X ops j){b:Nat}(hb:lb X ops E j=some b)(hσ:σ b≠none):T.look b=(S j).look b:=by
 have DE:j<ops.size:=(apV.1 hr.op).1;obtain⟨b2,e2,zB⟩:=hL.some j hk;rw[hb] at e2;cases e2;obtain⟨oj,hoj,_,_,_,Xx⟩:=U3 hk;have hwD:∀i,kW X ops i->i<m:=by
  intro i hi;refine (h.DC i hi).1 ?_;obtain⟨oi,DT,hc,hl⟩:=id hi;have ZB:i≠j:=λe=>KG hi (e ▸ hk)
  rcases Xx i oi ZB DT with SG|SG|SG|SG
  ·exact hr.Xh SG
  ·rw[hl] at SG;cases SG
  ·rw[hc] at SG;cases SG
  ·rw[hc] at SG;cases SG
 have hmj:m<=j:=by
  rcases h.mw with e|⟨l,rfl,hl⟩
  ·omega
  ·refine Nat.le_of_not_lt λYA=>?_
   have ZB:l≠j:=λe=>KG hl (e ▸ hk)
   obtain⟨ol,zw,hc,Hm⟩:=id hl;rcases Xx l ol ZB zw with SG|SG|SG|SG
   ·have:=XP.RI j l SG;omega
   ·rw[Hm] at SG;cases SG
   ·rw[hc] at SG;cases SG
   ·rw[hc] at SG;cases SG
 rw[h.t1 b hσ (λi _ _ ur e=>by
   obtain⟨o',U_,_⟩:=ur;have:=(apV.1 U_).1;omega) (λi hi hs e=>by
   by_cases Ox:i=j
   ·subst Ox;rw[hr.no] at hi;cases hi
   ·exact hL.ne i j hs hk Ox (by rw[e,hb]))]
 obtain⟨d,hd⟩:∃d,j=m+d:=⟨j-m,J⟩;obtain⟨_,_,b3,_,_⟩:=ht.between hL m d J (λi h1 _ hw=>by have:=hwD i hw;omega);rw[hd];refine (b3 b (λi _ h2 ur e=>?_) (λi _ h2 hs e=>?_)).symm
 ·obtain⟨o',U_,_⟩:=ur;have:=(apV.1 U_).1;omega
 ·exact hL.ne i j hs hk J (by rw[e,hb])
def HI.st (h:HI X ops E S Ub s0 w0 D m σ T w)(hL:AS X ops s0.next E){j:Nat}{o:Oper}(hr:AQ ops D j o)(hD:Adds D D' j)(hk:kS X ops j){b:Nat}(hb:lb X ops E j=some b)(hσ:σ b≠none){k0 k':Uf}(hT:T.look b=some k0)(Lz:k'≠.gone)(hS:(S (j+1)).look b=some k')
  (k:Good σ T w Yj (T.put b k') w'):HI X ops E S Ub s0 w0 D' m Yj (mix σ T T (T.put b k')) w':=by
 have Lv:∀id,Yj id=σ id:=λid=>k.QO id (by
  show id<T.next\/T.next<=id;omega)
 have Sn:∀id,σ id≠none->(mix σ T T (T.put b k')).look id=if b=id then some k' else T.look id:=by
  intro id ZB;have YA:id<T.next:=Nat.lt_of_not_le λDz=>ZB (h.gd.fresh id Dz)
  rw[Pz];by_cases e:b=id
  ·subst e;rw[O3 (λhc=>by
    rcases hc.2 with h1|h1
    ·exact ZB h1
    ·rw[hT] at h1;cases h1),St.WS,Of rfl,Of rfl]
   cases k' <;> first|rfl|exact absurd rfl Lz
  ·rw[O3 e]
   split
   ·rfl
   ·rw[St.WS,O3 e]
 have hjw:∀i,kW X ops i->i≠j:=λi hi e=>KG hi (e ▸ hk)
 have hja:∀i,kA X ops i->i≠j:=λi ⟨o',U_,hc⟩ e=>by
  subst e;obtain⟨o2,Ic,_,_,Jg,_⟩:=U3 hk;rw[U_] at Ic;cases Ic;rw[hc] at Jg;cases Jg
 have aQ:∀i,D i=true->D' i=true:=λi hi=>by
  by_cases e:i=j
  ·subst e;exact hD.1
  ·rw[hD.2 i e];exact hi
 obtain⟨b2,e2,zB⟩:=hL.some j hk;rw[hb] at e2;cases e2;refine⟨frame h.gd (λ_ _ _ _ hb=>hb) rfl k,h.mN,λi hi=>?_,h.mw,λid ZB Xx Bt=>?_,λi h1 h2 h3 h4=>?_,h.t3,λi b' h1 h2 h3 h4=>?_,λi h1 h2=>?_,h.CG,h.yE,h.Bu⟩
 ·rw[hD.2 i (hjw i hi)];exact h.DC i hi
 ·have akv:σ id≠none:=by rw[<-Lv id];exact ZB
  rw[Sn id akv,O3 (λe=>Bt j hD.1 hk (by rw[hb,e]))];exact h.t1 id akv (λi h1 h2 h3=>Xx i h1 (aQ i h2) h3) (λi h1 h2=>Bt i (aQ i h1) h2)
 ·have h4':σ (s0.next+i)≠none:=by rw[<-Lv];exact h4
  have akt:i<ops.size:=by obtain⟨o',U_,_⟩:=h3;exact (apV.1 U_).1
  rw[Sn _ h4',O3 J];exact h.t2 i h1 (by rw[hD.2 i (hja i h3)] at h2;exact h2) h3 h4'
 ·have h4':σ b'≠none:=by rw[<-Lv];exact h4
  rw[Sn _ h4'];by_cases e:i=j
  ·subst e;rw[hb] at h3;cases h3;rw[Of rfl,hS]
  ·rw[O3 (λe'=>hL.ne i j h2 hk e (by rw[h3,hb,e']))];exact h.t4 i b' (by rw[hD.2 i e] at h1;exact h1) h2 h3 h4'
 ·rw[Lv];exact h.u i h1 (hD.false h2)
end
end Go.Am
namespace Go.Am
open Go
section
variable [Stat]
variable {X:Cx}{ex:Ex}{ops:Array Oper}{base:Nat}
def Sj (tr:List (Env×St))(i:Nat):Env:=((tr[i]?).getD (.nil,{ t:=.nil,base:=λ_=>none,next:=0 })).1
def WI (tr:List (Env×St))(i:Nat):St:=((tr[i]?).getD (.nil,{ t:=.nil,base:=λ_=>none,next:=0 })).2
def Qf:∀(l:List Oper) (i:Nat) (e:Env) (s:St) (tr:List (Env×St)),uw X ex ops base i l e s=some tr ->
  tr.length=l.length+1/\tr[0]? = some (e,s)/\∀(k:Nat) o,l[k]? = some o->Sk X ex ops base (i+k) o (Sj tr k) (WI tr k)=some (Sj tr (k+1),WI tr (k+1))
 |[],i,e,s,tr,h=>by simp only[uw] at h;cases h;simp
 |o::l,i,e,s,tr,h=>by
  simp only[uw] at h
  split at h
  ·rename_i e1 s1 h1
   split at h
   ·rename_i r h2
    cases h
    obtain⟨k1,k2,k3⟩:=Qf l (i+1) e1 s1 r h2;refine⟨by simp[k1],by simp,λk o' hk=>?_⟩
    cases k with
    |zero =>
     simp at hk;subst hk;have:Sj ((e,s)::r) (0+1)=e1/\WI ((e,s)::r) (0+1)=s1:=by simp[Sj,WI,k2]
     rw[this.1,this.2]
     simpa[Sj,WI] using h1
    |succ k =>
     have:=k3 k o' (by simpa using hk);rw[show i+(k+1)=i+1+k by omega]
     simpa[Sj,WI] using this
   ·cases h
  ·cases h
def F2:∀(tr:List (Env×St)),Fk tr=tr.getLast?
 |[]=>rfl
 |[x]=>rfl
 |x::y::l=>by
  show Fk (y::l)=_;rw[F2 (y::l),List.getLast?_cons_cons]
def Qe:∀(l:List Oper) (i j:Nat),j∈Zc X ops i l<->∃k o,l[k]? = some o/\j=i+k/\((cls X o.op).lR&&!late X ops j)=true
 |[],i,j=>by simp[Zc]
 |o::l,i,j=>by
  have ih:=Qe l (i+1) j;have key:(∃(k:Nat) (o':Oper),(o::l)[k]? = some o'/\j=i+k/\((cls X o'.op).lR&&!late X ops j)=true)<->(((cls X o.op).lR&&!late X ops i)=true/\j=i)\/∃(k:Nat) (o':Oper),l[k]? = some o'/\j=i+1+k/\((cls X o'.op).lR&&!late X ops j)=true:=by
   constructor
   ·rintro⟨k,o',h1,h2,h3⟩
    cases k with
    |zero =>
      simp at h1;subst h1;have e:j=i:=J;exact .inl ⟨e ▸ h3,e⟩
    |succ k=>exact .inr ⟨k,o',by simpa using h1,J,h3⟩
   ·rintro (⟨h1,h2⟩|⟨k,o',h1,h2,h3⟩)
    ·exact⟨0,o,by simp,J,h2 ▸ h1⟩
    ·exact⟨k+1,o',by simpa using h1,J,h3⟩
  rw[key];unfold Zc
  split
  ·rename_i hc;rw[ap9,ih]
   constructor
   ·rintro (h|h)
    ·exact .inl ⟨hc,h⟩
    ·exact .inr h
   ·rintro (h|h)
    ·exact .inl h.2
    ·exact .inr h
  ·rename_i hc;rw[ih]
   constructor
   ·exact .inr
   ·rintro (h|h)
    ·exact absurd h.1 hc
    ·exact h
def SZ:∀(l:List Oper) (i:Nat),(Zc X ops i l).Pairwise (·<·)
 |[],i=>by simp[Zc]
 |o::l,i=>by
  unfold Zc
  split
  ·refine List.pairwise_cons.2 ⟨λj hj=>?_,SZ l (i+1)⟩;obtain⟨k,o',_,h2,_⟩:=(Qe l (i+1) j).1 hj;omega
  ·exact SZ l (i+1)
def Si:∀(l:List Oper) (tr:List (Env×St)) (i:Nat),tr.length=l.length+1->∀k:Nat,k<l.length->late X ops (i+k)=true->∃(q:Nat) (o:Oper),l[k]? = some o/\(Tc X ops i l tr)[q]? = some (Tg X (Sj tr k) o.op) /\
  ∀(k':Nat) (o':Oper),k<k'->l[k']? = some o'->late X ops (i+k')=true->∃q':Nat,q<q'/\(Tc X ops i l tr)[q']? = some (Tg X (Sj tr k') o'.op)
 |[],tr,i,_,k,hk,_=>by simp at hk
 |o::l,[],i,h,k,hk,_=>by simp at h
 |o::l,(e,s)::tr,i,h,0,hk,hl=>by
  have ht:=Si l tr (i+1) (by simpa using h);unfold Tc;rw[Of (by simpa using hl)];refine⟨0,o,rfl,by simp[Sj],λk' o' h1 h2 h3=>?_⟩;obtain⟨k2,rfl⟩:∃k2,k'=k2+1:=⟨k'-1,J⟩;have h2':l[k2]? = some o':=by simpa using h2
  obtain⟨q,o2,g1,g2,_⟩:=ht k2 (apX.1 h2').1 (by rw[show i+1+k2=i+(k2+1) by omega];exact h3);rw[h2'] at g1;cases g1;refine⟨q+1,J,?_⟩;rw[aqv,g2];simp[Sj]
 |o::l,(e,s)::tr,i,h,k+1,hk,hl=>by
  have ht:=Si l tr (i+1) (by simpa using h);have Lz:k<l.length:=by simpa using hk
  obtain⟨q,o2,g1,g2,g3⟩:=ht k Lz (by rw[show i+1+k=i+(k+1) by omega];exact hl);unfold Tc;have tre:∀n,Sj ((e,s)::tr) (n+1)=Sj tr n:=λn=>by simp[Sj]
  split
  ·refine⟨q+1,o2,by simpa using g1,by rw[aqv,tre];exact g2,λk' o' h1 h2 h3=>?_⟩;obtain⟨k2,rfl⟩:∃k2,k'=k2+1:=⟨k'-1,J⟩;obtain⟨q',e1,e2⟩:=g3 k2 o' J (by simpa using h2) (by rw[show i+1+k2=i+(k2+1) by omega];exact h3);exact⟨q'+1,J,by rw[aqv,tre];exact e2⟩
  ·refine⟨q,o2,by simpa using g1,by rw[tre];exact g2,λk' o' h1 h2 h3=>?_⟩;obtain⟨k2,rfl⟩:∃k2,k'=k2+1:=⟨k'-1,J⟩;obtain⟨q',e1,e2⟩:=g3 k2 o' J (by simpa using h2) (by rw[show i+1+k2=i+(k2+1) by omega];exact h3);exact⟨q',e1,by rw[tre];exact e2⟩
def Ib {n:Nat}:∀(l:List (Option Nat)),NC base n l=true->(∀x∈l,∃b,x=some b/\(b<base\/base+n<=b))/\∀(q q':Nat) x y,q<q'->l[q]? = some x->l[q']? = some y->x≠y
 |[],_=>⟨λx hx=>(by cases hx),λq q' x y _ h=>by simp at h⟩
 |none::l,h=>by simp[NC] at h
 |some b::l,h=>by
  simp only[NC,ahe,aq0,decide_eq_true_eq,ap8,aqS,beq_eq_false_iff_ne,ne_eq] at h;obtain⟨⟨h1,h2⟩,h3⟩:=h;obtain⟨k1,k2⟩:=Ib l h3;refine⟨λx hx=>?_,λq q' x y hq hx hy=>?_⟩
  ·rcases ap9.1 hx with rfl|hx
   ·exact⟨b,rfl,h1⟩
   ·exact k1 x hx
  ·obtain⟨q'',rfl⟩:∃q'',q'=q''+1:=⟨q'-1,J⟩;rw[aqv] at hy
   cases q with
   |zero =>
    simp at hx;subst hx;exact λe=>h2 y (aqn hy) e.symm
   |succ q=>exact k2 q q'' x y J (by simpa using hx) hy
def KI {tr:List (Env×St)}:∀(ws:List Nat) (ss:List (Nat×St)),Sc tr ws=some ss->ss=ws.map λj=>(j+1,WI tr (j+1))
 |[],ss,h=>by simp only[Sc] at h;cases h;rfl
 |j::ws,ss,h=>by
  simp only[Sc] at h
  split at h
  ·rename_i e s r h1 h2
   cases h
   rw[KI ws r h2];simp[WI,h1]
  ·cases h
def Ia {ws as:List Nat}{ss:List (Nat×St)}{sH:List (Env×St)}:∀(l:List Oper) (tr:List (Env×St)) (i:Nat),Tn X ex ops base ws as ss sH i l tr=true->∀(k:Nat) o es,l[k]? = some o->tr[k]? = some es->XE ops es.1 o=true ->
  (cls X o.op=.r->∃v s',Yn X ex es.1 o.op es.2=some (v,s')/\WB X ex ops base (i+k) as sH es.1 o.op v (Ua ops ws ss (i+k))=true) /\
  (cls X o.op=.q->∀c vs us,o.op=.call c->Vx X es.1 c.args.toList=some vs->U2 X es.2 vs=some us->ZT vs=true\/SP X ops base (i+k) as sH vs us (Ua ops ws ss (i+k))=true)
 |[],tr,i,h,k,o,es,h1,h2,_=>by simp at h1
 |o::l,[],i,h,k,o',es,h1,h2,_=>by simp at h2
 |o::l,(e,s)::tr,i,h,0,o',es,h1,h2,h4=>by
  simp at h1 h2;subst h1;subst h2;simp only[Tn,ahe] at h;obtain⟨h,_⟩:=h;simp only[Nat.add_zero];refine⟨λhk=>?_,λhk c vs us hc SH LU=>?_⟩
  ·rw[hk] at h;simp only[h4,aqB,aqE] at h
   split at h
   ·rename_i v s' hv;exact⟨v,s',hv,h⟩
   ·cases h
  ·rw[hk] at h;simp only[h4,hc,SH,LU,aqB,aqE,aq0] at h;exact h
 |o::l,(e,s)::tr,i,h,k+1,o',es,h1,h2,h4=>by
  simp only[Tn,ahe] at h;have:=Ia l tr (i+1) h.2 k o' es (by simpa using h1) (by simpa using h2) h4;rw[show i+(k+1)=i+1+k by omega];exact this
def N_ {as:List Nat}{tr:List (Env×St)}{i:Nat}{e:Env}{o:Op}{v:AV}:∀(l:List (Nat×St)),WB X ex ops base i as tr e o v l=true->∀m s,(m,s)∈l->∃s',Yn X ex e o (TG ops base i m tr as s)=some (v,s')
 |[],_,m,s,hm=>by cases hm
 |(m',s1)::l,h,m,s,hm=>by
  unfold WB at h
  split at h
  ·rename_i u s' hu;simp only[ahe] at h;rcases ap9.1 hm with e|hm
   ·cases e
    have:=EY h.1;subst this;exact⟨_,hu⟩
   ·exact N_ l h.2 m s hm
  ·cases h
def Ma {as:List Nat}{tr:List (Env×St)}{i:Nat}{vs us:List AV}:∀(l:List (Nat×St)),SP X ops base i as tr vs us l=true->∀m s,(m,s)∈l->U2 X (TG ops base i m tr as s) vs=some us
 |[],_,m,s,hm=>by cases hm
 |(m',s1)::l,h,m,s,hm=>by
  unfold SP at h
  split at h
  ·rename_i u hu;simp only[ahe] at h;rcases ap9.1 hm with e|hm
   ·cases e
    have:=TX h.1;subst this;exact hu
   ·exact Ma l h.2 m s hm
  ·cases h
def F3:∀(l:List Oper) (i j:Nat),j∈Up X i l->∃k o,l[k]? = some o/\j=i+k/\cls X o.op=.a
 |[],i,j,h=>by simp[Up] at h
 |o::l,i,j,h=>by
  have ih:=F3 l (i+1) j;unfold Up at h;have lift:(∃(k:Nat) (o':Oper),l[k]? = some o'/\j=i+1+k/\cls X o'.op=.a)->∃(k:Nat) (o':Oper),(o::l)[k]? = some o'/\j=i+k/\cls X o'.op=.a :=
   λ⟨k,o',h1,h2,h3⟩=>⟨k+1,o',by simpa using h1,J,h3⟩
  split at h
  ·rename_i hc;rcases ap9.1 h with rfl|h
   ·exact⟨0,o,by simp,J,Xa.1 hc⟩
   ·exact lift (ih h)
  ·exact lift (ih h)
def Qd {i m:Nat}{tr:List (Env×St)}:∀(as:List Nat) (s:St),(∀j∈as,kA X ops j) ->
  (TG ops base i m tr as s).next=s.next/\∀id b,(TG ops base i m tr as s).look id=some b ->
   s.look id=some b\/∃j,m<=j/\kA X ops j/\Xh ops j i=true/\id=base+j/\(WI tr (j+1)).look id=some b
 |[],s,_=>⟨rfl,λid b h=>.inl h⟩
 |j::as,s,has=>by
  have abf:∀j∈as,kA X ops j:=λj hj=>has j (aab _ hj)
  unfold TG
  split
  ·rename_i hc;simp only[ahe,decide_eq_true_eq] at hc
   split
   ·rename_i e1 s1 h1;have RX:WI tr (j+1)=s1:=by simp[WI,h1]
    split
    ·rename_i b0 BW;obtain⟨k1,k2⟩:=Qd as (s.put (base+j) b0) abf;refine⟨k1,λid b hb=>?_⟩;rcases k2 id b hb with h3|h3
     ·rw[St.WS] at h3;by_cases e:base+j=id
      ·rw[Of e] at h3;refine .inr ⟨j,hc.1,has j (aba ..),hc.2,e.symm,?_⟩;rw[RX,<-e];unfold St.look;rw[BW]
       cases b0 <;> simp at h3 ⊢ <;> exact h3
      ·rw[O3 e] at h3;exact .inl h3
     ·exact .inr h3
    ·exact Qd as s abf
   ·exact Qd as s abf
  ·exact Qd as s abf
def EW {s:St}:∀(l:List Oper) (i:Nat),Fm X base s i l=true->∀(k:Nat) o,l[k]? = some o->cls X o.op=.a->s.look (base+(i+k))=none
 |[],i,_,k,o,h,_=>by simp at h
 |o::l,i,h,0,o',h1,h2=>by
  simp at h1;subst h1;simp only[Fm,ahe,aq0,h2] at h;have:=h.1;simp[zm.Af] at this;unfold St.look;rw[show base+(i+0)=base+i by omega,this]
 |o::l,i,h,k+1,o',h1,h2=>by
  simp only[Fm,ahe] at h;have:=EW l (i+1) h.2 k o' (by simpa using h1) h2;rw[show i+(k+1)=i+1+k by omega];exact this
def KH:∀(l:List (Nat×St)),Sb X ops base l=true->∀m s,(m,s)∈l->∀i,m<=i->kA X ops i->s.look (base+i)=none
 |[],_,m,s,hm=>by cases hm
 |(m',s1)::l,h,m,s,hm=>by
  simp only[Sb,ahe] at h;rcases ap9.1 hm with e|hm
  ·cases e
   rintro i hi ⟨o,ho,hc⟩;obtain⟨k,rfl⟩:∃k,i=m'+k:=⟨i-m',J⟩;exact EW _ _ h.1 k o (by rw[List.getElem?_drop];simpa using ho) hc
  ·exact KH l h.2 m s hm
def GN (W:Nat->Prop):∀j,(∀i,i<j->¬W i)\/∃i,i<j/\W i/\∀i',i<i'->i'<j->¬W i'
 |0=>.inl λi h=>J
 |j+1=>by
  by_cases hj:W j
  ·exact .inr ⟨j,J,hj,λi' h1 h2=>J⟩
  ·rcases GN W j with h|⟨i,h1,h2,h3⟩
   ·refine .inl λi hi=>?_
    by_cases e:i=j
    ·subst e;exact hj
    ·exact h i J
   ·refine .inr ⟨i,J,h2,λi' k1 k2=>?_⟩;by_cases e:i'=j
    ·subst e;exact hj
    ·exact h3 i' k1 J
def Wr (ops:Array Oper)(t:Tmp)(i:Nat):Prop:=∃o,ops[i]? = some o/\o.dst=some t
structure KE (ops:Array Oper)(E:Nat->Env)(D:Nat->Bool)(e:Env):Prop where
 hit:∀t i,D i=true->Wr ops t i->(∀i',i<i'->D i'=true->¬Wr ops t i')->e.get t=Env.get (E (i+1)) t
 aiA:∀t,(∀i,D i=true->¬Wr ops t i)->e.get t=Env.get (E 0) t
variable {E:Nat->Env}{S:Nat->St}{D D':Nat->Bool}{e:Env}
def KE.at (h:KE ops E D e)(ht:DG X ex ops base E S){t:Tmp}{j:Nat}(hj:j<=ops.size)(h1:∀i,i<j->Wr ops t i->D i=true)(h2:∀i,j<=i->D i=true->¬Wr ops t i):e.get t=Env.get (E j) t:=by
 rcases GN (Wr ops t) j with hn|⟨i,k1,k2,k3⟩
 ·rw[h.aiA t λi hi hw=>by
   by_cases Ox:i<j
   ·exact hn i Ox hw
   ·exact h2 i J hi hw]
  have:=ht.EV t 0 j (λi o _ hi ho hd=>hn i J ⟨o,ho,hd⟩) J;rw[ap4] at this;exact this.symm
 ·rw[h.hit t i (h1 i k1 k2) k2 λi' a b hw=>by
   by_cases Ox:i'<j
   ·exact k3 i' a Ox hw
   ·exact h2 i' J b hw]
  have:=ht.EV t (i+1) (j-(i+1)) (λi' o a b ho hd=>k3 i' J J ⟨o,ho,hd⟩) J;rw[show i+1+(j-(i+1))=j by omega] at this;exact this.symm
def KE.look (h:KE ops E D e)(ht:DG X ex ops base E S)(XP:Ok X ops){j:Nat}{o:Oper}(hr:AQ ops D j o){t:Tmp}(hl:t∈Mb ops o):e.get t=Env.get (E j) t:=by
 have hj:=(apV.1 hr.op).1;refine h.at ht (Nat.le_of_lt hj) (λi hi ⟨oi,DT,hd⟩=>?_) (λi hi gJ ⟨oi,DT,hd⟩=>?_)
 ·rcases XP.pair i j oi o hi DT hr.op with hb|⟨ha,_⟩
  ·exact hr.Xh hb
  ·exact absurd hl ((Nv ha).1 t hd)
 ·by_cases e:i=j
  ·subst e;rw[hr.no] at gJ;cases gJ
  ·rcases XP.pair j i o oi J hr.op DT with hb|⟨ha,_⟩
   ·rw[hr.Jd gJ] at hb;cases hb
   ·exact absurd hl ((Nv ha).2.2 t hd)
def KE.step (h:KE ops E D e)(XP:Ok X ops){j:Nat}{o:Oper}(hr:AQ ops D j o)(hD:Adds D D' j){v:AV}(hE:E (j+1)=Ye (E j) o.dst v):KE ops E D' (Ye e o.dst v):=by
 have hj:=(apV.1 hr.op).1;have wj:∀t,Wr ops t j->o.dst=some t:=λt ⟨o',U_,hd⟩=>by rw[hr.op] at U_;cases U_;exact hd
 refine⟨λt i hi hw aiB=>?_,λt RW=>?_⟩
 ·by_cases ht:o.dst=some t
  ·
   have Ox:i=j:=by
    rcases hD.of hi with e1|gJ
    ·exact e1
    ·obtain⟨oi,DT,hd⟩:=hw;rcases Nat.lt_trichotomy i j with YA|heq|oN
     ·exact absurd ⟨o,hr.op,ht⟩ (aiB j YA hD.1)
     ·exact heq
     ·rcases XP.pair j i o oi oN hr.op DT with hb|⟨ha,_⟩
      ·rw[hr.Jd gJ] at hb;cases hb
      ·exact absurd hd ((Nv ha).2.1 t ht)
   subst Ox;rw[hE,ht,HJ,HJ]
  ·have Ox:i≠j:=λe1=>ht (wj t (e1 ▸ hw))
   rw[II ht];have gJ:D i=true:=by rw[hD.2 i Ox] at hi;exact hi
   refine h.hit t i gJ hw λi' a b Lb=>aiB i' a ?_ Lb
   by_cases e1:i'=j
   ·subst e1;exact hD.1
   ·rw[hD.2 i' e1];exact b
 ·have ht:o.dst≠some t:=λht=>RW j hD.1 ⟨o,hr.op,ht⟩
  rw[II ht];refine h.aiA t λi hi hw=>RW i ?_ hw
  by_cases e1:i=j
  ·subst e1;exact hD.1
  ·rw[hD.2 i e1];exact hi
end
end Go.Am
namespace Go.Am
open Go
variable {v:AV}{w:World}{s s':St}
section
variable [Stat]
variable {X:Cx}{P:Program}{ex:Ex}{ops:Array Oper}
def yJ (hX:Full X P){r:Option Nat}{o:Oper}{e:Env}{a:Act}{σ:Sg}(G:Wp X σ)(H:HR σ s w)(hf:σ s.next=none)(E:SB σ e a.tmps)(hc:M4 o.op=false)(h:Yn X ex e o.op s=some (v,s'))
  {QU:Act->World->Prop}{Q:Exit->Act->World->Prop}(hn:∀u w' Yj,ZY Yj v u->Good σ s w Yj s' w'->QU (a.put o.dst u) w'):o.wpIn (FW r) 0 P a w QU Q:=by
 refine⟨Pd,?_⟩;rw[Oper.semAt_eq _ _ _ (λc hc=>by rw[hc] at h;simp[Yn] at h),S3];obtain⟨Yj,nx,u,w',h1,h2,h3,h4⟩:=CS (P:=P) hX.toVm G H hf E hc h;rw[h1];rcases h2 with rfl|⟨rfl,rfl⟩
 ·rw[Oper.uponIn_value];exact hn _ _ _ h3 h4
 ·rw[Oper.uponIn_skip];exact hn _ _ _ h3 h4
def CQ {o:Op}(h:cls X o≠.w)(h':cls X o≠.q):M4 o=false:=by
 cases o <;> try rfl
 rename_i c;obtain⟨callee,args,CP⟩:=c
 cases callee <;> first
  |rfl
  |(rename_i f
    exfalso
    cases f <;> simp only[cls] at h h' <;> first
     |exact h trivial
     |(split at h <;> simp_all)
     |simp_all)
def UQ {p q:Nat->Bool}:∀(l:List Nat),(∀x∈l,p x=true->q x=true)->X9 p l<=X9 q l
 |[],_=>api _
 |x::l,h=>by
  have ih:=UQ (p:=p) (q:=q) l λy hy=>h y (aab _ hy)
  have hx:=h x (aba ..);simp only[X9];by_cases hp:p x=true
  ·rw[Of hp,Of (hx hp)];omega
  ·rw[O3 hp];split <;> omega
def UD {p:Nat->Bool}:∀(l:List Nat) (n:Nat),n<=l.length->(∀x∈l.take n,p x=true)->(∀x∈l.drop n,p x=false)->X9 p l=n
 |[],n,h,_,_=>by simp at h;subst h;rfl
 |x::l,0,h,_,h2=>by
  have ih:=UD (p:=p) l 0 J No (λy hy=>h2 y (by simpa using aab _ hy));have:=h2 x No;simp only[X9,this,ih];rfl
 |x::l,n+1,h,h1,h2=>by
  have ih:=UD (p:=p) l n (by simpa using h) (λy hy=>h1 y (by simpa using .inr hy)) (λy hy=>h2 y (by simpa using hy));have:=h1 x No;simp only[X9,this,if_true,ih]
def AT {e e':Env}{o:Oper}(h:∀t∈Mb ops o,e.get t=e'.get t):XE ops e o=XE ops e' o:=by
 unfold XE
 cases hg:o.guard with
 |none=>rfl
 |some g =>
  obtain⟨j,b⟩:=g;simp only
  cases hj:ops[j]? with
  |none=>rfl
  |some oj =>
   simp only
   cases hd:oj.dst with
   |none=>rfl
   |some d =>
    simp only;rw[h d (by simp[Mb,hg,hj,hd])]
def yI {o:Oper}{t:Tmp}(h:Operand.tmp t∈o.op.operands.toList):t∈Mb ops o:=by
 unfold Mb;rw[aqm];exact .inl (List.mem_filterMap.2 ⟨_,h,rfl⟩)
structure DI (X:Cx)(ops:Array Oper)(E:Nat->Env)(S:Nat->St)(Ub:Sg)(s0:St)(w0:World)(n0 sz:Nat)(D:Nat->Bool)(a:Act)(w:World):Prop where
 ex:∃m σ T e,HI X ops E S Ub s0 w0 D m σ T w/\KE ops E D e/\SB σ e a.tmps/\Wp X σ/\DF n0 σ w a.defers
 size:a.tmps.size=sz
variable {E:Nat->Env}{S:Nat->St}{Ub:Sg}{s0:St}{w0:World}{n0 sz:Nat}{D D':Nat->Bool}{a:Act}{w:World}
def DI.step (hX:Full X P)(hE:KK X P ex)(ht:DG X ex ops s0.next E S)(hL:AS X ops s0.next E)(XP:Ok X ops)(DV:n0<=w0.heap.size)(yH:∀o∈ops.toList,Ig sz o.dst)
  (RK:∀m,m=0\/(∃j,m=j+1/\kW X ops j)->∀i,m<=i->kA X ops i->(S m).look (s0.next+i)=none)
  (CO:∀(D:Nat->Bool) m j o v s',AQ ops D j o->(∀i,kW X ops i->(D i=true<->i<m))->(m=0\/∃j,m=j+1/\kW X ops j)->cls X o.op=.r\/cls X o.op=.q->XE ops (E j) o=true->Yn X ex (E j) o.op (S j)=some (v,s') ->
   ∃R mZ,Yn X ex (E j) o.op R=some (v,mZ)/\R.next=(S m).next/\∀id b,R.look id=some b->(S m).look id=some b\/∃i,m<=i/\kA X ops i/\Am.Xh ops i j=true/\id=s0.next+i/\(S (i+1)).look id=some b)
  (h:DI X ops E S Ub s0 w0 n0 sz D a w){j:Nat}{o:Oper}(hr:AQ ops D j o)(hD:Adds D D' j){r:Option Nat}{QU:Act->World->Prop}{Q:Exit->Act->World->Prop}
  (Vq:∀a' w',DI X ops E S Ub s0 w0 n0 sz D' a' w'->QU a' w') :
  if Region.wanted o (yielded ops a.tmps) then o.wpIn (FW r) 0 P a w QU Q else (∀f,o.about P w a.eval=some f->(FW r).fn f)/\QU (a.put o.dst Go.undef) w:=by
 obtain⟨⟨m,σ,T,e,hH,hK,gS,hG,pZ⟩,Vt⟩:=h;have DE:j<ops.size:=(apV.1 hr.op).1;have hdj:Ig a.tmps.size o.dst:=by
  rw[Vt];exact yH o (by
   have:=(apV.1 hr.op).2;rw[<-this];simp)
 have Sn:∀t∈Mb ops o,e.get t=Env.get (E j) t:=λt htl=>hK.look ht XP hr htl
 have CN:∀s,Yn X ex e o.op s=Yn X ex (E j) o.op s:=λs=>mY λt hto=>Sn t (yI hto)
 have uf:=RK m hH.mw;have hwt:Region.wanted o (yielded ops a.tmps)=XE ops (E j) o:=by rw[CM gS,AT Sn]
 rw[hwt];have fin:∀{m':Nat} {Yj:Sg} {T':St} {w':World} {v:AV} {u:Value},HI X ops E S Ub s0 w0 D' m' Yj T' w'->E (j+1)=Ye (E j) o.dst v->Sg.le σ Yj->ZY Yj v u->DF n0 Yj w' a.defers ->
   DI X ops E S Ub s0 w0 n0 sz D' (a.put o.dst u) w':=by
  intro m' Yj T' w' v u h1 h2 h3 h4 h5;refine⟨⟨m',Yj,T',Ye e o.dst v,h1,hK.step XP hr hD h2,Ie (gS.mono h3) hdj h4,hG.mono h3,by rw[put_defers];exact h5⟩,by rw[yG,Vt]⟩
 rcases UP (ht.step j o hr.op) with⟨h1,h2,h3⟩|⟨h1,v,h2,⟨hc,s1,h3,h4⟩|⟨hc,h3⟩⟩
 ·
  rw[h1];simp only[aqa,if_false];refine⟨Pd,Vq _ _ ?_⟩;by_cases hs:kS X ops j
  ·exfalso;obtain⟨o2,Ic,_,hg,_⟩:=U3 hs;rw[hr.op] at Ic;cases Ic;simp[XE,hg] at h1
  by_cases hw:kW X ops j
  ·obtain⟨a1,a2,a3,a4,a5,a6,a7⟩:=hH.gR ht hL XP uf hr hw;have hHR:HR σ (S j) w:=hH.gd.hr.sub a5;have:=hH.wr ht hL XP uf hr hD hw (Yj:=σ) (w':=w) (by rw[h3];exact Good.refl hHR);exact fin this h2 (Sg.le_refl _) Qg pZ
  ·have:=hH.keep hr hD hw hs (R:=T) (λ_ _ _ _ hb=>hb) rfl (Good.refl hH.gd.hr) (λ_=>rfl);exact fin this h2 (Sg.le_refl _) Qg pZ
 ·
  rw[h1];simp only[if_true];have hc:=Xa.1 hc;obtain⟨b,hb,rfl,Xx⟩:=gQ hc h3;have h5:=Xx { T with next:=s0.next+j } rfl;rw[<-CN] at h5;have hS:(S (j+1)).look (s0.next+j)=some b:=by
   rw[h4];show (St.new { S j with next:=s0.next+j } b).look (s0.next+j)=some b;rw[St.Uq _ _ _ hb,Of rfl]
  refine yJ hX hG (hH.gd.hr.congr (t:={ T with next:=s0.next+j }) λ_=>rfl) (hH.u j ⟨o,hr.op,hc⟩ hr.no) gS (CQ (X:=X) (by rw[hc];simp) (by rw[hc];simp)) h5 λu w' Yj hv g=>Vq _ _ ?_
  have:=hH.al hL XP hr hD hc hb hS g;exact fin this h2 g.ext.le hv (pZ.good g)
 ·rw[h1];simp only[if_true];have adU:cls X o.op≠.w->¬kW X ops j:=λZB ⟨o2,Ic,Jg,_⟩=>by rw[hr.op] at Ic;cases Ic;exact ZB Jg
  have gO:cls X o.op≠.w->¬kS X ops j:=λZB hs=>by
   obtain⟨o2,Ic,_,_,Jg,_⟩:=U3 hs;rw[hr.op] at Ic;cases Ic;exact ZB Jg
  have adV:cls X o.op≠.a->kA X ops j->σ=σ->False:=λZB ⟨o2,Ic,Jg⟩ _=>by rw[hr.op] at Ic;cases Ic;exact ZB Jg
  cases hk:cls X o.op with
  |a=>rw[hk] at hc;cases hc
  |p =>
   obtain⟨_,Xx⟩:=gN hk _ _ _ h3;have h5:=Xx T;rw[<-CN] at h5;refine yJ hX hG hH.gd.hr (hH.gd.fresh _ (api _)) gS (CQ (X:=X) (by rw[hk];simp) (by rw[hk];simp)) h5 λu w' Yj hv g=>Vq _ _ ?_
   have:=hH.keep hr hD (adU (by rw[hk];simp)) (gO (by rw[hk];simp)) (R:=T) (λ_ _ _ _ hb=>hb) rfl g (λe=>(adV (by rw[hk];simp) e rfl).elim);exact fin this h2 g.ext.le hv (pZ.good g)
  |r =>
   have F6:∀i,D i=true->¬kS X ops i:=hr.AP (by rw[hk];simp) (by rw[hk];simp) (by
    cases hl:late X ops j with
    |false=>rfl
    |true=>exact absurd hl (gO (by rw[hk];simp)))
   obtain⟨R,mZ,h5,h6,h7⟩:=CO D m j o v _ hr hH.DC hH.mw (.inl hk) h1 h3;have:=gK hk h5;subst this;rw[<-CN] at h5;have UG:∀i p b,σ i=some p->mZ.look i=some b->T.look i=some b:=by
    intro i p b hp hb;rcases h7 i b hb with h8|⟨i',k1,k2,k3,rfl,k4⟩
    ·rw[hH.t1 i (by rw[hp];simp) ?_ λi' k1 k2=>absurd k2 (F6 i' k1)]
     ·exact h8
     ·rintro i' k1 k2 k3 rfl;rw[uf i' k1 k3] at h8;cases h8
    ·rw[hH.t2 i' k1 (hr.Xh k3) k2 (by rw[hp];simp)];exact k4
   have hn:mZ.next=T.next:=by rw[h6,hH.t3]
   have I:Inv X σ mZ w n0 e a:=⟨hH.gd.hr.sub UG,λi hi=>hH.gd.fresh i (by rw[<-hn];exact hi),hG,gS,pZ,aqM DV hH.gd.ext.size⟩;refine KJ hX hE I h5 λu w' Yj hv g=>Vq _ _ ?_
   have:=hH.keep hr hD (adU (by rw[hk];simp)) (gO (by rw[hk];simp)) UG hn g (λe=>(adV (by rw[hk];simp) e rfl).elim);exact fin this h2 g.ext.le hv (pZ.good g)
  |q =>
   have F6:∀i,D i=true->¬kS X ops i:=hr.AP (by rw[hk];simp) (by rw[hk];simp) (by
    cases hl:late X ops j with
    |false=>rfl
    |true=>exact absurd hl (gO (by rw[hk];simp)))
   obtain⟨R,mZ,h5,h6,h7⟩:=CO D m j o v _ hr hH.DC hH.mw (.inr hk) h1 h3;have:=(CL hk h5).1;subst this;rw[<-CN] at h5;have UG:∀i p b,σ i=some p->mZ.look i=some b->T.look i=some b:=by
    intro i p b hp hb;rcases h7 i b hb with h8|⟨i',k1,k2,k3,rfl,k4⟩
    ·rw[hH.t1 i (by rw[hp];simp) ?_ λi' k1 k2=>absurd k2 (F6 i' k1)]
     ·exact h8
     ·rintro i' k1 k2 k3 rfl;rw[uf i' k1 k3] at h8;cases h8
    ·rw[hH.t2 i' k1 (hr.Xh k3) k2 (by rw[hp];simp)];exact k4
   have hn:mZ.next=T.next:=by rw[h6,hH.t3]
   have I:Inv X σ mZ w n0 e a:=⟨hH.gd.hr.sub UG,λi hi=>hH.gd.fresh i (by rw[<-hn];exact hi),hG,gS,pZ,aqM DV hH.gd.ext.size⟩;refine KJ hX hE I h5 λu w' Yj hv g=>Vq _ _ ?_
   have:=hH.keep hr hD (adU (by rw[hk];simp)) (gO (by rw[hk];simp)) UG hn g (λe=>(adV (by rw[hk];simp) e rfl).elim);exact fin this h2 g.ext.le hv (pZ.good g)
  |w =>
   by_cases hs:kS X ops j
   ·obtain⟨b,hb,_⟩:=hL.some j hs;obtain⟨k0,k',v',g1,g2,g3,g4,g5⟩:=ht.Jf hr.op hs hb;have Ik:Tg X (E j) o.op=some b:=by unfold lb at hb;rw[hr.op] at hb;exact hb
    have hσ:σ b≠none:=by
     obtain⟨o2,Ic,W_,_⟩:=U3 hs;rw[hr.op] at Ic;cases Ic
     cases uE:o.op <;> rw[uE] at W_ <;> simp only[Tf] at W_ <;> try (cases W_;done)
     rename_i tt aa xx;rw[uE] at Ik;simp only[Tg] at Ik
     split at Ik
     ·rename_i b1 o1 ha
      cases Ik
      have ha':eval X e aa=some (.ptr b o1):=by
       rw[<-ha];exact eval_congr λt qn=>Sn t (yI (by rw[uE,qn];simp[Op.operands]))
      obtain⟨p,hp,_⟩:=WT (TP hG gS ha');rw[hp];simp
     ·cases Ik
    have hf:=hH.mX ht hL XP hr hs hb hσ;have hTk:T.look b=some k0:=by rw[hf];exact g1
    have RJ:T.get b=(S j).get b:=by
     have h5:=hTk;have h6:=g1;unfold St.look at h5 h6
     cases hx:T.get b with
     |none=>rw[hx] at h5;cases h5
     |some x =>
      cases hy:(S j).get b with
      |none=>rw[hy] at h6;cases h6
      |some y =>
       rw[hx] at h5;rw[hy] at h6
       cases x <;> cases y <;> simp only at h5 h6 <;> first|(cases h5;done)|(cases h6;done)|(rw[h5,h6])
    have h5:=g5 T RJ;rw[<-CN] at h5;have I:Inv X σ T w n0 e a:=⟨hH.gd.hr,hH.gd.fresh,hG,gS,pZ,aqM DV hH.gd.ext.size⟩;refine KJ hX hE I h5 λu w' Yj hv g=>Vq _ _ ?_
    have:=hH.st hL hr hD hs hb hσ hTk g2 (by rw[g3,St.WS,Of rfl];cases k' <;> first|rfl|exact absurd rfl g2) g;exact fin this g4 g.ext.le hv (pZ.good g)
   ·have hw:kW X ops j:=⟨o,hr.op,hk,by
     cases hl:late X ops j with
     |false=>rfl
     |true=>exact absurd hl hs⟩
    obtain⟨a1,a2,a3,a4,a5,a6,a7⟩:=hH.gR ht hL XP uf hr hw;have hHR:HR σ (S j) w:=hH.gd.hr.sub a5;rw[<-CN] at h3;have I:Inv X σ (S j) w n0 e a:=⟨hHR,λi hi=>hH.gd.fresh i (by rw[<-a2];exact hi),hG,gS,pZ,aqM DV hH.gd.ext.size⟩;refine KJ hX hE I h3 λu w' Yj hv g=>Vq _ _ ?_
    have:=hH.wr ht hL XP uf hr hD hw g;exact fin this h2 g.ext.le hv (pZ.good g)
def DI.run (hX:Full X P)(hE:KK X P ex)(ht:DG X ex ops s0.next E S)(hL:AS X ops s0.next E)(XP:Ok X ops)(DV:n0<=w0.heap.size)(yH:∀o∈ops.toList,Ig sz o.dst)
  (RK:∀m,m=0\/(∃j,m=j+1/\kW X ops j)->∀i,m<=i->kA X ops i->(S m).look (s0.next+i)=none)
  (CO:∀(D:Nat->Bool) m j o v s',AQ ops D j o->(∀i,kW X ops i->(D i=true<->i<m))->(m=0\/∃j,m=j+1/\kW X ops j)->cls X o.op=.r\/cls X o.op=.q->XE ops (E j) o=true->Yn X ex (E j) o.op (S j)=some (v,s') ->
   ∃R mZ,Yn X ex (E j) o.op R=some (v,mZ)/\R.next=(S m).next/\∀id b,R.look id=some b->(S m).look id=some b\/∃i,m<=i/\kA X ops i/\Am.Xh ops i j=true/\id=s0.next+i/\(S (i+1)).look id=some b)
  {r:Option Nat}{Q:Exit->Act->World->Prop}(aaB:∀D a w,(∀i,i<ops.size->D i=true)->DI X ops E S Ub s0 w0 n0 sz D a w->Q .normal a w) :
  ∀(fuel t:Nat) (listed:Array Bool) (a:Act) (w:World),listed.size=ops.size->tM ops (λi=>listed.getD i false)->left (λi=>listed.getD i false) ops.size<=fuel->DI X ops E S Ub s0 w0 n0 sz (λi=>listed.getD i false) a w ->
   wpOpsIn (FW r) 0 P ops Q (Region.linearise.go .any ops fuel t listed []) a w:=by
 intro fuel
 induction fuel with
 |zero =>
  intro t listed a w hs qu hl hI;simp only[Region.linearise.go,List.reverse_nil,wpOpsIn];exact aaB _ _ _ (CK J) hI
 |succ fuel ih =>
  intro t listed a w hs qu hl hI;simp only[Region.linearise.go];generalize CJ:((List.range ops.size).filter λi=>!listed.getD i true&&((ops[i]?).map (·.after.all λe=>!Region.binds .any e||listed.getD e.on false)).getD false)=rs
  cases hi:rs[t%rs.length]? with
  |none =>
   have alb:rs=[]:=by
    cases rs with
    |nil=>rfl
    |cons x xs =>
     have YA:t%(x::xs).length<(x::xs).length:=Nat.mod_lt _ No;rw[aaa YA] at hi;cases hi
   simp only[List.reverse_nil,wpOpsIn];refine aaB _ _ _ (λi hi=>?_) hI
   induction i using Nat.strongRecOn with
   |_ i ihi =>
    cases hD:listed.getD i false with
    |true=>rfl
    |false =>
     exfalso;have ho:=aqz hi;have:i∈rs:=by
      rw[<-CJ,List.mem_filter];refine⟨aqg.2 hi,?_⟩;have h1:listed.getD i true=false:=by
       rw[aqu,aqz J] at hD ⊢
       simpa using hD
      rw[h1,ho];simp only[aqF,aqr,aqG,aq6];rw[<-Array.all_toList,ap8];intro e he
      cases hb:Region.binds .any e with
      |false=>rfl
      |true =>
       have YA:=XP.edge i _ ho e he hb;simp only[aqB,aqE];exact ihi e.on YA J
     rw[alb] at this;cases this
  |some j =>
   simp only;have hj:=aqn hi;rw[<-CJ,List.mem_filter] at hj;obtain⟨hj1,hj2⟩:=hj;have DE:j<ops.size:=aqg.1 hj1;have ho:=aqz DE;rw[ho] at hj2;simp only[ahe,aqS,aqG,aq6] at hj2;have RW:listed.getD j false=false:=by
    have:=hj2.1;rw[aqu,aqz J] at this ⊢
    simpa using this
   have ac1:∀e∈(ops[j]).after.toList,Region.binds .any e=true->listed.getD e.on false=true:=by
    have:=hj2.2;rw[<-Array.all_toList,ap8] at this;intro e he hb;have:=this e he;rw[hb] at this
    simpa using this
   have hr:AQ ops (λi=>listed.getD i false) j ops[j]:=⟨qu,ho,RW,ac1⟩;have RJ:∀i,(listed.setIfInBounds j true).getD i false=if i=j then true else listed.getD i false:=by
    intro i;simp only[aqu,aq4];by_cases e:j=i
    ·subst e;simp[hs,DE]
    ·rw[O3 e,O3 (λh=>e h.symm)]
   have hD:Adds (λi=>listed.getD i false) (λi=>(listed.setIfInBounds j true).getD i false) j:=by
    refine⟨by simp only[RJ,if_true],λi Ox=>by simp only[RJ,O3 Ox]⟩
   rw[linearise_go_acc,List.reverse_singleton,List.singleton_append];simp only[wpOpsIn,ho];refine hI.step hX hE ht hL XP DV yH RK CO hr hD λa' w' qh=>ih _ _ a' w' (by simpa using hs) ?_ ?_ qh
   ·intro i o gJ DT e he hb;rcases hD.of gJ with rfl|gJ
    ·rw[ho] at DT;cases DT;by_cases hej:e.on=i
     ·simp only[RJ,Of hej]
     ·simp only[RJ,O3 hej];exact ac1 e he hb
    ·have:=qu i o gJ DT e he hb;by_cases hej:e.on=j
     ·simp only[RJ,Of hej]
     ·simp only[RJ,O3 hej];exact this
   ·have:=yF (D:=λi=>listed.getD i false) (D':=λi=>(listed.setIfInBounds j true).getD i false) RW hD.1 (λi Ox=>hD.2 i Ox) DE;omega
def adW (hX:Full X P):AO X P:=by
 intro ex hE r ops e e' s s' a w σ n0 t Q h XP yH I hQ;have XP:=tL XP;unfold N' at h
 split at h
 ·rename_i tr htr;simp only at h
  split at h
  ·rename_i ss hss
   split at h
   ·rename_i Je;simp only[ahe] at Je;obtain⟨⟨F5,agX⟩,agY⟩:=Je;have Je:=And.intro agX agY;obtain⟨k1,k2,k3⟩:=Qf _ _ _ _ _ htr;have k1:tr.length=ops.size+1:=by simpa using k1
    have ht:DG X ex ops s.next (Sj tr) (WI tr):=⟨λi o ho=>by
     have:=k3 i o (by simpa using ho)
     simpa using this⟩
    have Mu:WI tr 0={ s with next:=s.next+ops.size }:=by simp[WI,k2]
    have hE0:Sj tr 0=e:=by simp[Sj,k2]
    have agZ:=KI _ _ hss;have LN:∀j,j∈Zc X ops 0 ops.toList<->kW X ops j:=by
     intro j;rw[Qe]
     constructor
     ·rintro⟨k,o,h1,rfl,h3⟩;simp only[ahe,aqS] at h3;exact⟨o,by simpa using h1,QT.1 h3.1,h3.2⟩
     ·rintro⟨o,h1,h3,h4⟩;exact⟨j,o,by simpa using h1,J,by simp[QT.2 h3,h4]⟩
    have hL:AS X ops s.next (Sj tr):=by
     obtain⟨l1,l2⟩:=Ib _ F5;have YA:∀i,kS X ops i->i<ops.toList.length:=λi hi=>by
      obtain⟨o,ho,_⟩:=U3 hi
      simpa using (apV.1 ho).1
     have VK:∀i o,ops.toList[i]? = some o->lb X ops (Sj tr) i=Tg X (Sj tr i) o.op:=λi o ho=>by
      unfold lb;rw[show ops[i]? = some o by simpa using ho]
     refine⟨λi hi=>?_,λi j hi hj Ox=>?_⟩
     ·obtain⟨q,o,e1,e2,_⟩:=Si (X:=X) (ops:=ops) ops.toList tr 0 (by simpa using k1) i (YA i hi) (by rw[ap4];exact hi);obtain⟨b,hb,hr⟩:=l1 _ (aqn e2);exact⟨b,by rw[VK i o e1];exact hb,hr⟩
     ·have key:∀i j,kS X ops i->kS X ops j->i<j->lb X ops (Sj tr) i≠lb X ops (Sj tr) j:=by
       intro i j hi hj Ox;obtain⟨q,o,e1,e2,e3⟩:=Si (X:=X) (ops:=ops) ops.toList tr 0 (by simpa using k1) i (YA i hi) (by rw[ap4];exact hi);have hjo:=aaa (YA j hj);obtain⟨q',e4,e5⟩:=e3 j _ Ox hjo (by rw[ap4];exact hj);rw[VK i o e1,VK j _ hjo];exact l2 q q' _ _ e4 e2 e5
      rcases Nat.lt_trichotomy i j with h1|h1|h1
      ·exact key i j hi hj h1
      ·exact absurd h1 Ox
      ·exact λe=>key j i hj hi h1 e.symm
    have SE:∀m,m=0\/(∃j,m=j+1/\kW X ops j)->(m,WI tr m)∈(0,{ s with next:=s.next+ops.size })::ss:=by
     rintro m (rfl|⟨j,rfl,hj⟩)
     ·rw[Mu];exact aba ..
     ·refine aab _ ?_;rw[agZ];exact ap0.2 ⟨j,(LN j).2 hj,rfl⟩
    have CO:∀(D:Nat->Bool) m j o v s',AQ ops D j o->(∀i,kW X ops i->(D i=true<->i<m))->(m=0\/∃j,m=j+1/\kW X ops j)->cls X o.op=.r\/cls X o.op=.q->XE ops (Sj tr j) o=true->Yn X ex (Sj tr j) o.op (WI tr j)=some (v,s') ->
      ∃R mZ,Yn X ex (Sj tr j) o.op R=some (v,mZ)/\R.next=(WI tr m).next/\∀id b,R.look id=some b->(WI tr m).look id=some b\/∃i,m<=i/\kA X ops i/\Am.Xh ops i j=true/\id=s.next+i/\(WI tr (i+1)).look id=some b:=by
     intro D m j o v s1 hr Mt hm hk hw uE;have DE:j<ops.size:=(apV.1 hr.op).1;have htj:tr[j]? = some (Sj tr j,WI tr j):=by
      rw[aaa J];simp[Sj,WI,aaa (show j<tr.length by omega)]
     obtain⟨q1,q2⟩:=Ia _ _ _ Je.1 j o _ (by simpa using hr.op) htj hw;rw[ap4] at q1 q2;have TD:(m,WI tr m)∈Ua ops (Zc X ops 0 ops.toList) ((0,({ s with next:=s.next+ops.size }:St))::ss) j:=by
      have pY:X9 (λi=>Am.Xh ops i j) (Zc X ops 0 ops.toList)<=X9 D (Zc X ops 0 ops.toList):=UQ _ λx _ hb=>hr.Xh hb
      have hhi:X9 D (Zc X ops 0 ops.toList)<=X9 (λi=>!Am.Xh ops j i) (Zc X ops 0 ops.toList):=UQ _ λx _ hb=>by simp[hr.Jd hb]
      have CH:((0,({ s with next:=s.next+ops.size }:St))::ss)[X9 D (Zc X ops 0 ops.toList)]? = some (m,WI tr m):=by
       rcases hm with rfl|⟨q,rfl,hq⟩
       ·have:X9 D (Zc X ops 0 ops.toList)=0:=UD _ 0 (apW _) No λx hx=>by
         have:=Mt x ((LN x).1 (by simpa using hx))
         cases hd:D x with
         |false=>rfl
         |true=>have:=this.1 hd;omega
        rw[this,Mu];rfl
       ·obtain⟨n,hn⟩:=List.getElem?_of_mem ((LN q).2 hq);have F6:=(apX.1 hn).1;have F4:=SZ (X:=X) (ops:=ops) ops.toList 0;have qz:=List.pairwise_iff_getElem.1 F4;have hnq:=(apX.1 hn).2;have:X9 D (Zc X ops 0 ops.toList)=n+1:=by
         refine UD _ (n+1) F6 (λx hx=>?_) λx hx=>?_
         ·obtain⟨i,hi,hxi⟩:=aqd.1 hx;have QD:i<n+1:=by rw[aqO] at hi;omega
          rw[List.getElem_take] at hxi;have hxw:=(LN x).1 (by rw[<-hxi];exact adm _);refine (Mt x hxw).2 ?_;by_cases e:i=n
          ·subst e;rw[hnq] at hxi;omega
          ·have:=qz i n J F6 J;rw[hnq] at this;omega
         ·obtain⟨i,hi,hxi⟩:=aqd.1 hx;rw[List.getElem_drop] at hxi;rw[List.length_drop] at hi;have hxw:=(LN x).1 (by rw[<-hxi];exact adm _);have:=qz n (n+1+i) F6 J J;rw[hnq,hxi] at this
          cases hd:D x with
          |false=>rfl
          |true=>have:=(Mt x hxw).1 hd;omega
        rw[this,aqv,agZ,aqc,hn];rfl
      unfold Ua;refine aqn (i:=X9 D (Zc X ops 0 ops.toList)-X9 (λi=>Am.Xh ops i j) (Zc X ops 0 ops.toList)) ?_;rw[List.getElem?_drop,show X9 (λi=>Am.Xh ops i j) (Zc X ops 0 ops.toList)+(X9 D (Zc X ops 0 ops.toList)-X9 (λi=>Am.Xh ops i j) (Zc X ops 0 ops.toList))=X9 D (Zc X ops 0 ops.toList) by omega,
       List.getElem?_take,Of J]
      exact CH
     have hR:=Qd (ops:=ops) (X:=X) (base:=s.next) (i:=j) (m:=m) (tr:=tr) (Up X 0 ops.toList) (WI tr m) (λi hi=>by
      obtain⟨k,o',h1,h2,h3⟩:=F3 _ _ _ hi;exact⟨o',by rw[h2];simpa using h1,h3⟩)
     rcases hk with hk|hk
     ·obtain⟨v',s2,h1,h2⟩:=q1 hk;simp only at h1;rw[uE] at h1;cases h1;obtain⟨s3,h3⟩:=N_ _ h2 m _ TD;exact⟨_,s3,h3,hR.1,hR.2⟩
     ·obtain⟨_,c,vs,us,hc,SH,LU,Xx⟩:=CL hk uE;rcases q2 hk c vs us hc SH LU with h1|h1
      ·refine⟨WI tr m,_,Xx _ ?_,rfl,λid b hb=>.inl hb⟩;unfold U2 at LU ⊢;rw[Of h1] at LU ⊢;exact LU
      ·exact⟨_,_,Xx _ (Ma _ h1 m _ TD),hR.1,hR.2⟩
    have hI0:DI X ops (Sj tr) (WI tr) σ s w n0 a.tmps.size (λi=>(Array.replicate ops.size false).getD i false) a w:=by
     have hf:∀i,(Array.replicate ops.size false).getD i false=false:=by
      intro i;rw[aqu,Array.getElem?_replicate]
      split <;> rfl
     refine⟨⟨0,σ,{ s with next:=s.next+ops.size },e,⟨⟨I.hr.congr (λ_=>rfl),?_,λ_ _=>rfl,Nat.le_add_right ..,λi hi=>I.fresh i (aqM (Nat.le_add_right ..) hi),λ_ _ h=>h,λi p h1 h2=>(by rw[h2] at h1;cases h1)⟩,
      apW _,λi _=>by simp[hf],.inl rfl,λid _ _ _=>by rw[Mu],λi _ hd=>(by rw[hf] at hd;cases hd),by rw[Mu],λi b hd=>(by rw[hf] at hd;cases hd),λi hk _=>?_,λi hi hl=>by rw[Mu];exact hl,by rw[Mu],by rw[Mu];exact api _⟩,⟨λt i hd=>(by rw[hf] at hd;cases hd),λt _=>by rw[hE0]⟩,I.env,I.glob,I.df⟩,rfl⟩
     ·exact⟨Sg.le_refl _,λ_ _ h=>.inl h,api _,λ_ _ _=>rfl,λc _ ⟨i,p,b,h1,h2,h3,h4⟩=>⟨i,p,b,h1,h2,h3,h4⟩,rfl,rfl,rfl⟩
     ·exact I.fresh _ (Nat.le_add_right ..)
    refine DI.run (sz:=a.tmps.size) hX hE ht hL XP I.n0 yH (λm hm i hi hk=>KH _ Je.2 m _ (SE m hm) i hi hk) CO ?_ ops.size t _ a w No ?_ ?_ hI0
    ·
     rintro D a1 w1 Xx ⟨⟨m,G3,T,e1,hH,hK,gS,hG,pZ⟩,Vt⟩;have L_:=F2 tr;rw[h] at L_;have hn:tr.getLast? = some (Sj tr ops.size,WI tr ops.size):=by
      rw[List.getLast?_eq_getElem?,k1];simp[Sj,WI,aaa (show ops.size<tr.length by omega)]
     rw[hn] at L_;simp only[Option.some.injEq,Prod.mk.injEq] at L_;obtain⟨rfl,rfl⟩:=L_;have hnw:∀i,m<=i->i<m+(ops.size-m)->¬kW X ops i:=λi h1 h2 hk=>by
      have:=(hH.DC i hk).1 (Xx i (by have:=hH.mN;omega));omega
     have yY:m+(ops.size-m)=ops.size:=by have:=hH.mN;omega
     obtain⟨b1,b2,b3,b4,b5⟩:=ht.between hL m (ops.size-m) J hnw;rw[yY] at b1 b2 b3 b4 b5;have ltS:∀i,kS X ops i->i<ops.size:=λi hi=>by
      obtain⟨o,ho,_⟩:=U3 hi;exact (apV.1 ho).1
     have hmS:∀i,kS X ops i->m<=i:=λi hi=>by
      rcases hH.mw with e|⟨l,rfl,hl⟩
      ·omega
      ·refine Nat.le_of_not_lt λYA=>?_
       have ZB:l≠i:=λe=>KG hl (e ▸ hi)
       obtain⟨oi,DT,_,_,_,ag0⟩:=U3 hi;obtain⟨ol,zw,hc,Hm⟩:=id hl;rcases ag0 l ol ZB zw with hb|hb|hb|hb
       ·have:=XP.RI i l hb;omega
       ·rw[Hm] at hb;cases hb
       ·rw[hc] at hb;cases hb
       ·rw[hc] at hb;cases hb
     have g:Good σ s w G3 (WI tr ops.size) w1:=hH.gd.good (λi p hp=>by
      by_cases hx:∃i',m<=i'/\i'<ops.size/\kA X ops i'/\i=s.next+i'
      ·obtain⟨i',h1,h2,h3,rfl⟩:=hx;rw[hH.t2 i' h1 (Xx i' h2) h3 (by rw[hp];simp),<-b4 i' h1 h2 h3]
      ·by_cases hy:∃i',kS X ops i'/\lb X ops (Sj tr) i'=some i
       ·obtain⟨i',h1,h2⟩:=hy;rw[hH.t4 i' i (Xx i' (ltS i' h1)) h1 h2 (by rw[hp];simp),b5 i' i (hmS i' h1) (ltS i' h1) h1 h2]
       ·rw[b3 i (λi' h1 h2 h3 e=>hx ⟨i',h1,h2,h3,e⟩) (λi' _ _ h3 e=>hy ⟨i',h3,e⟩)];exact hH.t1 i (by rw[hp];simp) (λi' h1 h2 h3 e=>hx ⟨i',h1,by
         obtain⟨o,ho,_⟩:=h3;exact (apV.1 ho).1,h3,e⟩) (λi' _ h3 e=>hy ⟨i',h3,e⟩))
      (λi hi hl=>by
       by_cases hy:∃i',kS X ops i'/\lb X ops (Sj tr) i'=some i
       ·exfalso;obtain⟨i',h1,h2⟩:=hy;obtain⟨o,ho,_⟩:=U3 h1;obtain⟨k0,_,_,g1,_⟩:=ht.Jf ho h1 h2;have uD:=hmS i' h1;obtain⟨d,hd⟩:∃d,i'=m+d:=⟨i'-m,J⟩;have QD:=ltS i' h1;obtain⟨_,_,c3,_,_⟩:=ht.between hL m d J (λq q1 q2=>hnw q q1 J);rw[<-hd] at c3;rw[c3 i (λq _ q2 _ e=>J) (λq _ q2 hq e=>hL.ne q i' hq h1 J (by rw[e,h2])),hH.CG i hi hl] at g1
        cases g1
       ·rw[b3 i (λi' _ _ _ e=>J) (λi' _ _ h3 e=>hy ⟨i',h3,e⟩)];exact hH.CG i hi hl) (by rw[b1,hH.t3]) (by rw[b2,hH.yE]) I.fresh
     refine hQ _ _ ⟨G3,g,⟨g.hr,g.fresh I.fresh,hG,λtt=>?_,pZ,aqM I.n0 g.ext.size⟩,Vt⟩;rw[<-hK.at ht (api _) (λi hi _=>Xx i hi) (λi hi _ ⟨o,ho,_⟩=>by
      have:=(apV.1 ho).1;omega)]
     exact gS tt
    ·intro j o hd;simp only at hd;rw[aqu,Array.getElem?_replicate] at hd
     split at hd <;> cases hd
    ·have:∀(D:Nat->Bool) n,left D n<=n:=by
      intro D n
      induction n with
      |zero=>exact api _
      |succ n ih=>simp only[left];split <;> omega
     exact this _ _
   ·cases h
  ·cases h
 ·cases h
def adX (hX:Full X P){n:Nat}{f:FuncId}(KF:X.ext f=none){args:List AV}(h:run X n f args s=some (v,s')){σ:Sg}{us:Array Value}
  (H:HR σ s w)(F:SY σ s)(G:Wp X σ)(hv:ZZ σ args us.toList):Calls P f us w λen w'=>∃u Yj,en=.returned u/\ZY Yj v u/\Good σ s w Yj s' w' :=
 mW hX (adW hX) KF h H F G hv
end
end Go.Am
namespace Go.Am
open Go
section
variable (X:Cx)
noncomputable def X0:Ex:=λc e s =>
 open Classical in if h:∃r n,∀m,n<=m->exec X m c e s=some r then some (Classical.choose h) else none
variable {X}
def ME {c:Code}{e:Env}{s:St}{r:Out×Env×St}:X0 X c e s=some r<->∃n,∀m,n<=m->exec X m c e s=some r:=by
 unfold X0
 constructor
 ·intro h
  split at h
  ·rename_i hx
   cases h
   exact Classical.choose_spec hx
  ·cases h
 ·rintro⟨n,hn⟩;have hx:∃r n,∀m,n<=m->exec X m c e s=some r:=⟨r,n,hn⟩;rw[dif_pos hx];obtain⟨n',uu⟩:=Classical.choose_spec hx;have h1:=hn (max n n') (Nat.le_max_left ..);have h2:=uu (max n n') (Nat.le_max_right ..);rw[h1] at h2;exact congrArg some (aqb h2).symm
def Ex.le (a b:Ex):Prop:=∀c e s r,a c e s=some r->b c e s=some r
structure Zl {α:Type}(X:Cx)(F:Ex->Option α):Prop where
 mono:∀a b,Ex.le a b->∀r,F a=some r->F b=some r
 cont:∀r,F (X0 X)=some r->∃n,∀m,n<=m->F (exec X m)=some r
def Zl.const {α:Type}(v:Option α):Zl X (λ_=>v):=⟨λ_ _ _ _ h=>h,λ_ h=>⟨0,λ_ _=>h⟩⟩
def Zl.app (c:Code)(e:Env)(s:St):Zl X (λex=>ex c e s):=⟨λa b h r hr=>h c e s r hr,λr h=>ME.1 h⟩
def Zl.bind {α β:Type}{A:Ex->Option α}{B:α->Ex->Option β}(hA:Zl X A)(hB:∀x,Zl X (B x)):Zl X (λex=>(A ex).bind λx=>B x ex):=by
 refine⟨λa b h r hr=>?_,λr hr=>?_⟩
 ·cases ha:A a with
  |none=>simp[ha] at hr
  |some x =>
   simp only[ha,Option.bind_some] at hr;simp only[hA.mono a b h x ha,Option.bind_some];exact (hB x).mono a b h r hr
 ·cases ha:A (X0 X) with
  |none=>simp[ha] at hr
  |some x =>
   simp only[ha,Option.bind_some] at hr;obtain⟨n,hn⟩:=hA.cont x ha;obtain⟨k,hk⟩:=(hB x).cont r hr;refine⟨max n k,λm hm=>?_⟩;simp only[hn m J,Option.bind_some];exact hk m J
def Zl.of {α:Type}{F G:Ex->Option α}(h:∀ex,F ex=G ex)(hG:Zl X G):Zl X F:=by
 have:F=G:=funext h;rw[this];exact hG
def En (f:FuncId)(args:List AV)(s:St):Zl X (λex=>ND X ex f args s):=by
 unfold ND
 split
 ·rename_i fn iW
  split
  ·rename_i c hc;refine Zl.of (G:=λex=>(ex c (Zr 0 args .nil) s).bind λx=>match x with
    |(.norm,e,s')=>(match Uh X fn e s' with|some v=>some (v,s')|none=>none)
    |(.ret,e,s')=>(match Uh X fn e s' with|some v=>some (v,s')|none=>none)
    |_=>none) (λex=>?_) (Zl.bind (Zl.app _ _ _) λx=>Zl.const _)
   cases ex c (Zr 0 args .nil) s with
   |none=>rfl
   |some x=>obtain⟨o,e,s'⟩:=x;cases o <;> rfl
  ·exact Zl.const _
 ·exact Zl.const _
def Fq (f:FuncId)(args:List AV)(st:Bool):Zl X (λex=>X7 X ex f args st):=by
 refine Zl.of (G:=λex=>(ND X ex f args (Ym X)).bind λx=>if st then Ya X x.2 Ui x.1 else if flat x.1 then some x.1 else Xe X x.2 Ui x.1) (λex=>?_) (Zl.bind (En _ _ _) λx=>Zl.const _);unfold X7
 cases ND X ex f args (Ym X) <;> rfl
def rf (f:FuncId)(args:List AV)(s:St):Zl X (λex=>NL X ex f args s):=by
 unfold NL
 split
 ·rename_i us LU;refine Zl.of (G:=λex=>(X7 X ex f us (ZT args)).bind λv=>some (v,s)) (λex=>?_) (Zl.bind (Fq _ _ _) λx=>Zl.const _)
  cases X7 X ex f us (ZT args) <;> rfl
 ·exact Zl.const _
def Ln (f:FuncId)(args:List AV)(s:St):Zl X (λex=>TY X ex f args s):=by
 unfold TY
 split
 ·exact Zl.const _
 ·split
  ·exact rf _ _ _
  ·exact En _ _ _
def vH (l:Nat)(args:List AV)(s:St):Zl X (λex=>Fo ex l args s):=by
 unfold Fo
 split
 ·rename_i p env params assign body hg
  split
  ·rename_i hlen;refine Zl.of (G:=λex=>(ex assign ((params.zip args).foldl (λe (t,a)=>Tr.set e t a) env) s).bind λx=>match x with
    |(.norm,eZ,s1)=>(match s1.get l with
     |some (.loop 0 p1 e1 q1 a1 b1)=>(ex body eZ (s1.put l (.loop 1 p1 e1 q1 a1 b1))).bind λy=>(match y.2.2.get l with
      |some (.loop _ _ e2 q2 a2 b2)=>MJ l y.1 e2 q2 a2 b2 y.2.2
      |_=>none)
     |_=>none)
    |_=>none) (λex=>?_) (Zl.bind (Zl.app _ _ _) λx=>?_)
   ·simp only
    cases ex assign ((params.zip args).foldl (λe (t,a)=>Tr.set e t a) env) s with
    |none=>rfl
    |some x =>
     obtain⟨o,e1,s1⟩:=x
     cases o <;> simp only[Option.bind_some]
     split
     ·rename_i p1 e2 q1 a1 b1 h1;simp only[h1]
      cases ex body e1 (s1.put l (.loop 1 p1 e2 q1 a1 b1)) with
      |none=>rfl
      |some y=>obtain⟨o2,e3,s3⟩:=y;rfl
     ·rename_i ZB
      split
      ·rename_i h;exact absurd h (ZB _ _ _ _ _)
      ·rfl
   ·obtain⟨o,e1,s1⟩:=x
    cases o <;> simp only <;> try exact Zl.const _
    split
    ·exact Zl.bind (Zl.app _ _ _) λy=>Zl.const _
    ·exact Zl.const _
  ·exact Zl.const _
 ·exact Zl.const _
def re (f:AV)(args:List AV)(s:St):Zl X (λex=>Fy X ex f args s):=by
 unfold Fy
 split
 ·exact Ln _ _ _
 ·exact vH _ _ _
 ·exact Zl.const _
def Ni (e:Env)(o:Op)(s:St):Zl X (λex=>Yn X ex e o s):=by
 cases o <;> try exact Zl.const _
 case next it b=>cases b <;> exact Zl.const _
 case call c =>
  obtain⟨callee,args,CP⟩:=c
  cases callee with
  |builtin b=>exact Zl.const _
  |invoke _ _=>exact Zl.const _
  |value f =>
   simp only[Yn]
   split
   ·exact re _ _ _
   ·exact Zl.const _
def Iw (ops:Array Oper):∀(l:List Oper) (e:Env) (s:St),Zl X (λex=>J' X ex ops l e s)
 |[],e,s=>Zl.const _
 |o::l,e,s=>by
  unfold J'
  split
  ·refine Zl.of (G:=λex=>(Yn X ex e o.op s).bind λx=>J' X ex ops l (Ye e o.dst x.1) x.2) (λex=>?_) (Zl.bind (Ni _ _ _) λx=>Iw ops l _ _)
   cases Yn X ex e o.op s <;> rfl
  ·exact Iw ops l _ _
def q_ (ops:Array Oper)(base i:Nat)(o:Oper)(e:Env)(s:St):Zl X (λex=>Sk X ex ops base i o e s):=by
 unfold Sk
 split
 ·split
  ·refine Zl.of (G:=λex=>(Yn X ex e o.op { s with next:=base+i }).bind λx=>some (Ye e o.dst x.1,{ x.2 with next:=s.next })) (λex=>?_) (Zl.bind (Ni _ _ _) λx=>Zl.const _)
   cases Yn X ex e o.op { s with next:=base+i } <;> rfl
  ·refine Zl.of (G:=λex=>(Yn X ex e o.op s).bind λx=>some (Ye e o.dst x.1,x.2)) (λex=>?_) (Zl.bind (Ni _ _ _) λx=>Zl.const _)
   cases Yn X ex e o.op s <;> rfl
 ·exact Zl.const _
def vG (ops:Array Oper)(base:Nat):∀(l:List Oper) (i:Nat) (e:Env) (s:St),Zl X (λex=>uw X ex ops base i l e s)
 |[],i,e,s=>Zl.const _
 |o::l,i,e,s=>by
  refine Zl.of (G:=λex=>(Sk X ex ops base i o e s).bind λx=>(uw X ex ops base (i+1) l x.1 x.2).bind λr=>some ((e,s)::r)) (λex=>?_)
   (Zl.bind (q_ _ _ _ _ _ _) λx=>Zl.bind (vG ops base l _ _ _) λr=>Zl.const _)
  simp only[uw]
  cases Sk X ex ops base i o e s with
  |none=>rfl
  |some x =>
   simp only[Option.bind_some]
   cases uw X ex ops base (i+1) l x.1 x.2 <;> rfl
def tst (b:Bool):Option Unit:=if b then some () else none
def nZ (a b:Bool):tst (a&&b)=(tst a).bind λ_=>tst b:=by
 cases a <;> cases b <;> rfl
def Nh (ops:Array Oper)(base i:Nat)(as:List Nat)(tr:List (Env×St))(e:Env)(o:Op)(v:AV):∀l:List (Nat×St),Zl X (λex=>tst (WB X ex ops base i as tr e o v l))
 |[]=>Zl.const _
 |(m,s)::l=>by
  refine Zl.of (G:=λex=>(Yn X ex e o (TG ops base i m tr as s)).bind λx=>(tst (same x.1 v)).bind λ_=>tst (WB X ex ops base i as tr e o v l)) (λex=>?_)
   (Zl.bind (Ni _ _ _) λx=>Zl.bind (Zl.const _) λ_=>Nh ops base i as tr e o v l)
  simp only[WB]
  cases Yn X ex e o (TG ops base i m tr as s) with
  |none=>rfl
  |some x=>simp only[Option.bind_some];rw[nZ]
def HB (ops:Array Oper)(base:Nat)(ws as:List Nat)(ss:List (Nat×St))(sH:List (Env×St)):∀(l:List Oper) (tr:List (Env×St)) (i:Nat),Zl X (λex=>tst (Tn X ex ops base ws as ss sH i l tr))
 |[],tr,i=>by cases tr <;> exact Zl.const _
 |o::l,[],i=>Zl.const _
 |o::l,(e,s)::tr,i=>by
  simp only[Tn];refine Zl.of (λex=>nZ _ _) (Zl.bind ?_ λ_=>HB ops base ws as ss sH l tr (i+1))
  split
  ·cases hw:XE ops e o with
   |false=>exact Zl.const _
   |true =>
    simp only[aqB,aqE];refine Zl.of (G:=λex=>(Yn X ex e o.op s).bind λx=>tst (WB X ex ops base i as sH e o.op x.1 (Ua ops ws ss i))) (λex=>?_) (Zl.bind (Ni _ _ _) λx=>Nh _ _ _ _ _ _ _ _ _)
    cases Yn X ex e o.op s <;> rfl
  ·exact Zl.const _
  ·exact Zl.const _
def qZ (ops:Array Oper)(e:Env)(s:St):Zl X (λex=>N' X ex ops e s):=by
 refine Zl.of (G:=λex=>(uw X ex ops s.next 0 ops.toList e { s with next:=s.next+ops.size }).bind λtr=>match Sc tr (Zc X ops 0 ops.toList) with
  |some ss=>(tst (Tn X ex ops s.next (Zc X ops 0 ops.toList) (Up X 0 ops.toList) ((0,{ s with next:=s.next+ops.size })::ss) tr 0 ops.toList tr)).bind λ_ =>
   if NC s.next ops.size (Tc X ops 0 ops.toList tr)&&Sb X ops s.next ((0,{ s with next:=s.next+ops.size })::ss) then Fk tr else none
  |none=>none) (λex=>?_) (Zl.bind (vG _ _ _ _ _ _) λtr=>?_)
 ·unfold N'
  cases uw X ex ops s.next 0 ops.toList e { s with next:=s.next+ops.size } with
  |none=>rfl
  |some tr =>
   simp only[Option.bind_some]
   cases Sc tr (Zc X ops 0 ops.toList) with
   |none=>rfl
   |some ss =>
    simp only
    cases Tn X ex ops s.next (Zc X ops 0 ops.toList) (Up X 0 ops.toList) ((0,{ s with next:=s.next+ops.size })::ss) tr 0 ops.toList tr <;> simp[tst]
 ·split
  ·exact Zl.bind (HB _ _ _ _ _ _ _ _ _) λ_=>Zl.const _
  ·exact Zl.const _
def Lm (c:Code)(e:Env)(s:St):Zl X (λex=>WO X ex c e s):=by
 cases c <;> try exact Zl.const _
 case region id ops d =>
  cases d with
  |true =>
   refine Zl.of (G:=λex=>(N' X ex ops e s).bind λx=>some (.norm,x.1,x.2)) (λex=>?_) (Zl.bind (qZ _ _ _) λx=>Zl.const _);simp only[WO,if_true]
   cases N' X ex ops e s <;> rfl
  |false =>
   refine Zl.of (G:=λex=>(J' X ex ops ops.toList e s).bind λx=>some (.norm,x.1,x.2)) (λex=>?_) (Zl.bind (Iw _ _ _ _) λx=>Zl.const _);simp only[WO,aqa,if_false]
   cases J' X ex ops ops.toList e s <;> rfl
 case seq a b =>
  refine Zl.of (G:=λex=>(ex a e s).bind λx=>match x with
   |(.norm,e,s)=>ex b e s
   |r=>some r) (λex=>?_) (Zl.bind (Zl.app _ _ _) λx=>?_)
  ·simp only[WO]
   cases ex a e s with
   |none=>rfl
   |some x=>obtain⟨o,e1,s1⟩:=x;cases o <;> rfl
  ·obtain⟨o,e1,s1⟩:=x
   cases o
   ·exact Zl.app _ _ _
   ·exact Zl.const _
   ·exact Zl.const _
 case cond c a b =>
  simp only[WO]
  split
  ·exact Zl.app _ _ _
  ·exact Zl.app _ _ _
  ·exact Zl.const _
 case block id b =>
  refine Zl.of (G:=λex=>(ex b e s).bind λx=>match x with
   |(.exit i,e,s)=>if i=id then some (.norm,e,s) else some (.exit i,e,s)
   |r=>some r) (λex=>?_) (Zl.bind (Zl.app _ _ _) λx=>Zl.const _)
  simp only[WO]
  cases ex b e s with
  |none=>rfl
  |some x=>obtain⟨o,e1,s1⟩:=x;cases o <;> rfl
 case loop b =>
  refine Zl.of (G:=λex=>(ex b e s).bind λx=>match x with
   |(.norm,e,s)=>ex (.loop b) e s
   |r=>some r) (λex=>?_) (Zl.bind (Zl.app _ _ _) λx=>?_)
  ·simp only[WO]
   cases ex b e s with
   |none=>rfl
   |some x=>obtain⟨o,e1,s1⟩:=x;cases o <;> rfl
  ·obtain⟨o,e1,s1⟩:=x
   cases o
   ·exact Zl.app _ _ _
   ·exact Zl.const _
   ·exact Zl.const _
 case scope b=>exact Zl.app _ _ _
 case rangeFunc f params assign body =>
  simp only[WO]
  split
  ·rename_i g first cap hf
   split
   ·refine Zl.of (G:=λex=>(TY X ex g (first++[.fn (.yield s.next) [] []]++cap) (s.new (.loop 0 none e params.toList assign body))).bind λx=>match x.2.get s.next with
     |some (.loop st p _ _ _ _)=>if st=1 then none else J_ p e (x.2.put s.next .gone)
     |_=>none) (λex=>?_) (Zl.bind (Ln _ _ _) λx=>Zl.const _)
    cases TY X ex g (first++[.fn (.yield s.next) [] []]++cap) (s.new (.loop 0 none e params.toList assign body)) <;> rfl
   ·exact Zl.const _
  ·exact Zl.const _
def nY:∀n,Ex.le (exec X n) (exec X (n+1))
 |0=>by intro c e s r h;simp[exec] at h
 |n+1=>λc e s r h=>(Lm c e s).mono _ _ (nY n) r h
def bG {n m:Nat}(h:n<=m):Ex.le (exec X n) (exec X m):=by
 induction h with
 |refl=>exact λ_ _ _ _ h=>h
 |step _ ih=>exact λc e s r hr=>nY _ c e s r (ih c e s r hr)
def xq (n:Nat):Ex.le (exec X n) (X0 X):=λc e s r h=>ME.2 ⟨n,λm hm=>bG hm c e s r h⟩
def Vb (c:Code)(e:Env)(s:St):X0 X c e s=WO X (X0 X) c e s:=by
 cases h:X0 X c e s with
 |some r =>
  obtain⟨n,hn⟩:=ME.1 h;have:=hn (n+1) (Nat.le_succ n);exact ((Lm c e s).mono _ _ (xq n) r this).symm
 |none =>
  cases h':WO X (X0 X) c e s with
  |none=>rfl
  |some r =>
   obtain⟨n,hn⟩:=(Lm c e s).cont r h';have:X0 X c e s=some r:=ME.2 ⟨n+1,λm hm=>by
    obtain⟨k,rfl⟩:∃k,m=k+1:=⟨m-1,J⟩;exact hn k J⟩
   rw[h] at this;cases this
def jC {f:FuncId}{args:List AV}{s:St}{r:AV×St}(h:TY X (X0 X) f args s=some r):∃n,run X n f args s=some r:=by
 obtain⟨n,hn⟩:=(Ln f args s).cont r h;exact⟨n,hn n (api n)⟩
end
end Go.Am
namespace Go.Am
open Go
inductive Wv where
 |t (n:Nat)
 |v (a:AV)
inductive Mm where
 |Qq (x:Wv)
 |pick (c a b:Wv)
 |al (z:List AV) (t:TypeId)
 |box (t:TypeId) (x:Wv)
 |Sr (x:Wv)
 |Mx (n:Nat) (x:Wv)
 |st (n:Nat) (a x:Wv)
 |fa (o:Nat) (x:Wv)
 |bin (op:BinOp) (t:TypeId) (cst:Bool) (x y:Wv)
 |ext (x:Wv) (i:Nat)
 |call (f:FuncId) (args:List Wv)
 |Rg (f:Wv) (args:List Wv)
 |un (op:UnOp) (x:Wv)
 |sS (x:Wv)
 |QE (x:Wv)
 |akY (x:Wv)
 |iS (x i:Wv)
 |FI (n:Nat) (x i:Wv)
 |eL (len n:Nat) (x i:Wv)
 |sls (x:Wv) (lo hi:Option Wv)
 |sll (n:Nat) (x:Wv) (lo hi:Option Wv)
 |fd1 (o:Nat) (x:Wv)
 |fdn (o n:Nat) (x:Wv)
 |RR (z:List AV) (ps:List (Nat×Nat×Wv))
 |Uc (t:TypeId) (n len:Nat) (z:List AV) (ps:List (Nat×Nat×Wv))
 |app (t:TypeId) (n bytes:Nat) (d x:Wv)
 |mkf (f:FuncId) (a b:List Wv)
 |raw (o:Op)
structure RO where
 d:Option Nat
 g:Option (Nat×Bool)
 at_:Option Nat
 w:Bool
 op:Mm
inductive RC where
 |ops (l:List RO)
 |Uu (n:Nat) (l:List RO)
 |seq (a b:RC)
 |cond (c:Wv) (a b:RC)
 |block (id:Nat) (b:RC)
 |loop (b:RC)
 |exit (id:Nat)
 |ret
 |skip
 |raw (c:Code)
section
variable (X:Cx)
noncomputable def UN (f:FuncId)(args:List AV)(s:St):Option (AV×St):=TY X (X0 X) f args s
noncomputable def Kx (f:AV)(args:List AV)(s:St):Option (AV×St):=Fy X (X0 X) f args s
def Xp (e:Env):Wv->AV
 |.t n=>e.get n
 |.v a=>a
def Nq (e:Env)(l:List Wv):List AV:=l.map (Xp e)
def mk (base:Nat)(at_:Option Nat)(c:List AV)(t:TypeId)(s:St):AV×St:=match at_ with
 |none=>(.ptr s.next 0,s.new (.cells c t false 0 0))
 |some i=>(.ptr (base+i) 0,s.put (base+i) (.cells c t false 0 0))
def Sr (x:AV)(s:St):Option AV:=match x with
 |.ptr b o=>cell s b o
 |.fp c o=>c[o]?
 |_=>none
def Mx (n:Nat)(x:AV)(s:St):Option AV:=match x with
 |.ptr b o=>match s.cells b with
  |some c=>match Xi n o c with
   |some r=>some (.agg r)
   |none=>none
  |none=>none
 |.fp c o=>match Xi n o c with
  |some r=>some (.agg r)
  |none=>none
 |_=>none
def st (n:Nat)(a v:AV)(s:St):Option St:=match a with
 |.ptr b o=>if v.cells.length=n then WX s b o v.cells else none
 |_=>none
def faR (o:Nat)(x:AV):Option AV:=match x with
 |.ptr b o'=>some (.ptr b (o'+o))
 |.fp c o'=>some (.fp c (o'+o))
 |_=>none
def wg (c a b:AV):Option AV:=match c with
 |.bool p=>some (bif p then a else b)
 |_=>none
def abI (x:AV)(i:Nat):Option AV:=match x with
 |.XQ vs=>vs[i]?
 |_=>none
def wa:AV->Option AV
 |.str l=>some (.int .i64 l.length)
 |_=>none
def U1:AV->Option AV
 |.ZQ=>some (.int .i64 0)
 |.sl _ _ n _ _=>some (.int .i64 n)
 |.fz es=>some (.int .i64 es.length)
 |_=>none
def ady (s:St):AV->Option AV
 |.O'=>some (.int .i64 0)
 |.fm ks _=>some (.int .i64 ks.length)
 |.map r=>match s.get r with
  |some (.map es _)=>some (.int .i64 es.length)
  |_=>none
 |_=>none
def kE (x i:AV):Option AV:=match x,i with
 |.str b,.int _ i=>if 0<=i then
   match b[i.toNat]? with|some c=>some (.int .u8 c.toNat)|none=>none
  else none
 |_,_=>none
def UJ (n:Nat)(x i:AV):Option AV:=match x,i with
 |.sl b o len _ _,.int _ i=>if 0<=i/\i<len then some (.ptr b (o+i.toNat*n)) else none
 |.fz es,.int _ i=>if 0<=i then match es[i.toNat]? with
   |some x=>if x.cells.length=n/\n≠0 then some (.fp x.cells 0) else none
   |none=>none
  else none
 |_,_=>none
def v9 (len n:Nat)(x i:AV):Option AV:=match x,i with
 |.ptr b o,.int _ i=>if 0<=i/\i<len then some (.ptr b (o+i.toNat*n)) else none
 |.fp c o,.int _ i=>if 0<=i/\i<len then some (.fp c (o+i.toNat*n)) else none
 |_,_=>none
def Lq (e:Env)(x:Option Wv):Option AV:=x.map (Xp e)
def sy (x:AV)(lo hi:Option AV):Option AV:=match x with
 |.str b=>match Yv hi b.length b.length with
  |some h=>match Yv lo 0 h with
   |some l=>some (.str ((b.take h).drop l))
   |none=>none
  |none=>none
 |_=>none
def Dh (n:Nat)(x:AV)(lo hi:Option AV):Option AV:=match x with
 |.sl b o len cap Vl=>match Yv hi len (cap.getD len) with
  |some h=>match Yv lo 0 h with
   |some l=>some (.sl b (o+l*n) (h-l) (cap.map (·-l)) (if Vl=n then n else 0))
   |none=>none
  |none=>none
 |.ZQ=>match Yv hi 0 0 with
  |some h=>match Yv lo 0 h with
   |some _=>some .ZQ
   |none=>none
  |none=>none
 |.fz es=>match Yv hi es.length es.length with
  |some h=>match Yv lo 0 h with
   |some l=>if es.all (λx=>x.cells.length==n) then some (.fz ((es.take h).drop l)) else none
   |none=>none
  |none=>none
 |_=>none
def abP (o:Nat)(x:AV):Option AV:=match x with
 |.agg cs=>cs[o]?
 |_=>none
def aj1 (o n:Nat)(x:AV):Option AV:=match x with
 |.agg cs=>match Xi n o cs with
  |some r=>some (.agg r)
  |none=>none
 |_=>none
def Rd (e:Env)(cells:List AV):List (Nat×Nat×Wv)->Option (List AV)
 |[]=>some cells
 |(off,n,x)::rest=>if (Xp e x).cells.length=n/\off+n<=cells.length then
   match lay off (Xp e x).cells cells with
   |some c=>Rd e c rest
   |none=>none
  else none
def kC (t:TypeId)(n bytes:Nat)(d x:AV)(s:St):Option (AV×St):=match VH n x s with
 |some (m,new) =>
  if new.length≠m*n\/(WV d+m)*bytes>2^40\/WV d+m>2^40 then none
  else if m=0 then match d with
   |.ZQ=>some (d,s)
   |.sl ..=>some (d,s)
   |.fz _=>some (d,s)
   |_=>none
  else match d with
  |.ZQ=>some (.sl s.next 0 m none n,s.new (.cells new t false 0 0))
  |.sl b o len cap Vl=>match s.cells b with
   |some c=>match Xi (len*n) o c with
    |some old =>
     match cap with
     |some k=>if len+m<=k then
       if Vl=n then match WX s b (o+len*n) new with
        |some s'=>some (.sl b o (len+m) (some k) n,s')
        |none=>none
       else none
      else some (.sl s.next 0 (len+m) none n,s.new (.cells (old++new) t false 0 0))
     |none=>match s.get b with
      |some (.cells _ e0 false N3 O_) =>
       if Vl=n/\O_<=o+len*n/\e0=t/\new.all Zu=true then
        some (.sl s.next 0 (len+m) none n,(s.put b .gone).new (.cells (old++new) t false (N3-o) (O_-o)))
       else none
      |_=>none
    |none=>none
   |none=>none
  |_=>none
 |none=>none
noncomputable def mJ (base:Nat)(at_:Option Nat)(e:Env)(o:Op)(s:St):Option (AV×St):=match at_ with
 |none=>Yn X (X0 X) e o s
 |some i=>match Yn X (X0 X) e o { s with next:=base+i } with
  |some (v,s')=>some (v,{ s' with next:=s.next })
  |none=>none
noncomputable def Ws (base:Nat)(at_:Option Nat)(e:Env)(s:St):Mm->Option (AV×St)
 |.Qq x=>some (Xp e x,s)
 |.pick c a b=>Zh (wg (Xp e c) (Xp e a) (Xp e b)) s
 |.al z t=>some (mk base at_ z t s)
 |.box t x=>some (mk base at_ (Xp e x).cells t s)
 |.Sr x=>Zh (Sr (Xp e x) s) s
 |.Mx n x=>Zh (Mx n (Xp e x) s) s
 |.st n a x=>NP (st n (Xp e a) (Xp e x) s)
 |.fa o x=>Zh (faR o (Xp e x)) s
 |.bin op t cst x y=>Zh (Xj X op t cst (Xp e x) (Xp e y)) s
 |.ext x i=>Zh (abI (Xp e x) i) s
 |.call f args=>UN X f (Nq e args) s
 |.Rg f args=>Kx X (Xp e f) (Nq e args) s
 |.un op x=>Zh (unA op (Xp e x)) s
 |.sS x=>Zh (wa (Xp e x)) s
 |.QE x=>Zh (U1 (Xp e x)) s
 |.akY x=>Zh (ady s (Xp e x)) s
 |.iS x i=>Zh (kE (Xp e x) (Xp e i)) s
 |.FI n x i=>Zh (UJ n (Xp e x) (Xp e i)) s
 |.eL len n x i=>Zh (v9 len n (Xp e x) (Xp e i)) s
 |.sls x lo hi=>Zh (sy (Xp e x) (Lq e lo) (Lq e hi)) s
 |.sll n x lo hi=>Zh (Dh n (Xp e x) (Lq e lo) (Lq e hi)) s
 |.fd1 o x=>Zh (abP o (Xp e x)) s
 |.fdn o n x=>Zh (aj1 o n (Xp e x)) s
 |.RR z ps=>Zh ((Rd e z ps).map .agg) s
 |.Uc t n len z ps=>match Rd e z ps with
  |some c=>match at_ with
   |none=>some (.sl s.next 0 len (some len) n,s.new (.cells c t false 0 0))
   |some i=>some (.sl (base+i) 0 len (some len) n,s.put (base+i) (.cells c t false 0 0))
  |none=>none
 |.app t n bytes d x=>kC t n bytes (Xp e d) (Xp e x) s
 |.mkf f a b=>some (.fn (.func f) (Nq e a) (Nq e b),s)
 |.raw o=>mJ X base at_ e o s
def Re (e:Env):Option (Nat×Bool)->Bool
 |none=>true
 |some (t,b)=>match e.get t with
  |.bool p=>p==b
  |_=>false
noncomputable def wA (base:Nat):List RO->Env->St->Option (Env×St)
 |[],e,s=>some (e,s)
 |o::l,e,s=>match (bif Re e o.g then Ws X base o.at_ e s o.op else some (undef,s)) with
  |some (v,s')=>wA base l (Ye e o.d v) s'
  |none=>none
def VO (base:Nat)(s:St)(l:List RO):Bool:=l.all λo=>match o.at_ with
 |some i=>(s.get (base+i)).isNone
 |none=>true
noncomputable def PA (base:Nat):List RO->Env->St->Option (Env×St)
 |[],e,s=>some (e,s)
 |o::l,e,s=>match (bif Re e o.g then Ws X base o.at_ e s o.op else some (undef,s)) with
  |some (v,s')=>if !o.w||VO base s' l then PA base l (Ye e o.d v) s' else none
  |none=>none
abbrev Fl:=Option (Out×Env×St)
def SK (b:Env->St->Fl):Nat->Env->St->Fl
 |0,_,_=>none
 |n+1,e,s=>match b e s with
  |some (.norm,e,s)=>SK b n e s
  |r=>r
noncomputable def LZ (b:Env->St->Fl):Env->St->Fl:=λe s =>
 open Classical in if h:∃r n,SK b n e s=some r then some (Classical.choose h) else none
noncomputable def den:RC->Env->St->Fl
 |.ops l,e,s=>match wA X 0 l e s with
  |some (e,s)=>some (.norm,e,s)
  |none=>none
 |.Uu n l,e,s=>if VO s.next s l then match PA X s.next l e { s with next:=s.next+n } with
  |some (e,s)=>some (.norm,e,s)
  |none=>none
  else none
 |.seq a b,e,s=>match den a e s with
  |some (.norm,e,s)=>den b e s
  |r=>r
 |.cond c a b,e,s=>match Xp e c with
  |.bool p=>bif p then den a e s else den b e s
  |_=>none
 |.block id b,e,s=>match den b e s with
  |some (.exit i,e,s)=>if i=id then some (.norm,e,s) else some (.exit i,e,s)
  |r=>r
 |.loop b,e,s=>LZ (den b) e s
 |.exit id,e,s=>some (.exit id,e,s)
 |.ret,e,s=>some (.ret,e,s)
 |.skip,e,s=>some (.norm,e,s)
 |.raw c,e,s=>X0 X c e s
def Ov:Operand->Option Wv
 |.tmp t=>some (.t t)
 |.const v=>(ofV 3 v).map .v
 |.global g=>if g<X.glob then some (.v (.ptr g 0)) else none
 |.func f=>some (.v (.fn (.func f) [] []))
def Dc:List Operand->Option (List Wv)
 |[]=>some []
 |x::l=>match Ov X x,Dc l with
  |some a,some r=>some (a::r)
  |_,_=>none
def bh:Option Operand->Option (Option Wv)
 |none=>some none
 |some x=>(Ov X x).map some
def Ej (place:Nat->Option (Nat×Nat)):List (Nat×Operand)->Option (List (Nat×Nat×Wv))
 |[]=>some []
 |(i,x)::l=>match place i,Ov X x,Ej place l with
  |some (off,n),some a,some r=>some ((off,n,a)::r)
  |_,_,_=>none
def a_:Op->Option Mm
 |.move x|.assign x=>(Ov X x).map .Qq
 |.pick c a b=>match Ov X c,Ov X a,Ov X b with
  |some c,some a,some b=>some (.pick c a b)
  |_,_,_=>none
 |.alloc t=>(zero X t).map λz=>.al z.cells t
 |.box t x=>(Ov X x).map (.box t)
 |.load t x=>match Ys X t,size X t,Ov X x with
  |some true,some n,some a=>some (.Mx n a)
  |some false,_,some a=>some (.Sr a)
  |_,_,_=>none
 |.store t a x=>match size X t,Ov X a,Ov X x with
  |some n,some a,some x=>some (.st n a x)
  |_,_,_=>none
 |.fieldAddr t x f=>match X.Zd t,Ov X x with
  |some (.struct fs),some a=>match fs[f]? with
   |some fd=>match size X fd.type with
    |some (_+1)=>some (.fa fd.offset a)
    |_=>none
   |none=>none
  |_,_=>none
 |.binOp op t x y _=>match Ov X x,Ov X y with
  |some a,some b=>some (.bin op t (TI x||TI y) a b)
  |_,_=>none
 |.extract x i=>(Ov X x).map λa=>.ext a i
 |.unOp op _ x=>(Ov X x).map (.un op)
 |.call { callee:=.builtin .len,args,argTypes,.. }=>match args.toList,argTypes[0]? with
  |[x],some t=>match X.Zd t,Ov X x with
   |some .string,some a=>some (.sS a)
   |some (.slice _),some a=>some (.QE a)
   |some (.map _ _),some a=>some (.akY a)
   |_,_=>none
  |_,_=>none
 |.call { callee:=.builtin .append,args,argTypes,.. }=>match args.toList,argTypes[0]?,argTypes[1]? with
  |[d,x],some t,some u=>match X.Zd t,X.Zd u,Ov X d,Ov X x with
   |some (.slice elem),some ud,some a,some b=>match X.inf elem,size X elem,(match ud with|.slice _=>true|.string=>true|_=>false) with
    |some ei,some n,true=>if ei.bytes>2^20\/n=0\/ei.bytes=0\/GR ei.zero n=true\/X.spec elem=true then none else some (.app elem n ei.bytes a b)
    |_,_,_=>none
   |_,_,_,_=>none
  |_,_,_=>none
 |.index t x i=>match X.Zd t,Ov X x,Ov X i with
  |some .string,some a,some b=>some (.iS a b)
  |_,_,_=>none
 |.indexAddr t x i=>match X.Zd t,Ov X x,Ov X i with
  |some (.slice e),some a,some b=>(size X e).map λn=>.FI n a b
  |some (.array len e),some a,some b=>(size X e).map λn=>.eL len n a b
  |_,_,_=>none
 |.slice t x lo hi none=>match X.Zd t,Ov X x,bh X lo,bh X hi with
  |some .string,some a,some l,some h=>some (.sls a l h)
  |some (.slice e),some a,some l,some h=>(size X e).map λn=>.sll n a l h
  |_,_,_,_=>none
 |.field t x f=>match X.Zd t,Ov X x with
  |some (.struct fs),some a=>match fs[f]? with
   |some fd=>match Ys X fd.type,size X fd.type with
    |some true,some n=>some (.fdn fd.offset n a)
    |some false,_=>some (.fd1 fd.offset a)
    |_,_=>none
   |none=>none
  |_,_=>none
 |.build t ps=>match zero X t,X.Zd t with
  |some (.agg z),some (.struct fs)=>match MW X fs.toList with
   |some pl=>(Ej X (λi=>pl[i]?) ps.toList).map (.RR z)
   |none=>none
  |some (.agg z),some (.array _ elem)=>match size X elem with
   |some n=>(Ej X (λi=>some (i*n,n)) ps.toList).map (.RR z)
   |none=>none
  |_,_=>none
 |.buildSlice t len ps=>match X.Zd t with
  |some (.slice elem)=>match size X elem,zero X elem with
   |some n,some z=>if z.cells.length=n/\n≠0/\len*n<=2^24 then (Ej X (λi=>some (i*n,n)) ps.toList).map (.Uc elem n len (UC len z.cells)) else none
   |_,_=>none
  |_=>none
 |.makeFunc (.func g) a b=>match Dc X a.toList,Dc X b.toList with
  |some x,some y=>some (.mkf g x y)
  |_,_=>none
 |.call { callee:=.value (.func f),args,.. }=>(Dc X args.toList).map (.call f)
 |.call { callee:=.value (.tmp t),args,.. }=>(Dc X args.toList).map (.Rg (.t t))
 |_=>none
def vA (o:Op):Mm:=match a_ X o with
 |some r=>r
 |none=>.raw o
def rcG (ops:Array Oper):Option (Nat×Bool)->Option (Option (Nat×Bool))
 |none=>some none
 |some (j,b)=>match ops[j]? with
  |some o=>match o.dst with
   |some d=>some (some (d,b))
   |none=>none
  |none=>none
def Ux (ops:Array Oper)(draw:Bool):Nat->List Oper->Option (List RO)
 |_,[]=>some []
 |i,o::l=>match rcG ops o.guard,Ux ops draw (i+1) l with
  |some g,some r=>some ({ d:=o.dst,g,at_:=if draw&&(cls X o.op).Af then some i else none,w:=draw&&(cls X o.op).lR,op:=vA X o.op }::r)
  |_,_=>none
def aac (ops:Array Oper):Bool :=
 let ws:=Zc X ops 0 ops.toList
 let as:=Up X 0 ops.toList
 !MI X ops&&(List.range ops.size).all λi=>match ops[i]? with
  |some o=>!((cls X o.op).isR||(match cls X o.op with|.q=>true|_=>false)) ||
   ((as.all λk=>!decide (k<i)||Xh ops k i)&&(ws.all λk=>Xh ops k i||Xh ops i k))
  |none=>true
def rc:Code->RC
 |.skip=>.skip
 |.label _=>.skip
 |.region id ops d=>if d then (if aac X ops&&okD X ops then match Ux X ops true 0 ops.toList with
   |some l=>.Uu ops.size l
   |none=>.raw (.region id ops d)
   else .raw (.region id ops d))
  else match Ux X ops false 0 ops.toList with
   |some l=>.ops l
   |none=>.raw (.region id ops d)
 |.seq a b=>.seq (rc a) (rc b)
 |.cond c a b=>match Ov X c with
  |some x=>.cond x (rc a) (rc b)
  |none=>.raw (.cond c a b)
 |.block id b=>.block id (rc b)
 |.loop b=>.loop (rc b)
 |.scope b=>rc b
 |.exit id=>.exit id
 |.ret=>.ret
 |c=>.raw c
end
end Go.Am
namespace Go.Am
open Go
variable {e:Env}{s:St}{t:TypeId}{v:AV}{n:Nat}
section
variable [Stat]
variable {X:Cx}
def YR {x:Operand}{a:Wv}(h:Ov X x=some a)(e:Env):eval X e x=some (Xp e a):=by
 cases x <;> simp only[Ov] at h
 ·cases h;rfl
 ·rename_i v
  cases hv:ofV 3 v with
  |none=>rw[hv] at h;cases h
  |some y=>rw[hv] at h;cases h;exact hv
 ·split at h
  ·rename_i hg;cases h;simp only[eval,hg,if_true,Xp]
  ·cases h
 ·cases h;rfl
def MD {l:List Operand}:∀{r:List Wv},Dc X l=some r->∀e,Vx X e l=some (Nq e r):=by
 induction l with
 |nil=>intro r h e;simp only[Dc] at h;cases h;rfl
 |cons x l ih =>
  intro r h e;simp only[Dc] at h
  split at h
  ·rename_i a r' h1 h2
   cases h
   simp only[Vx,YR h1 e,ih h2 e];rfl
  ·cases h
def Xc {v:Option AV}{r:AV×St}(h:Zh v s=some r):∃x,v=some x/\r=(x,s):=by
 unfold Zh at h
 split at h
 ·cases h;exact⟨_,rfl,rfl⟩
 ·cases h
def bq {a v:AV}(ht:Ys X t=some false)(h:Sr a s=some v):UA X t a s=some v:=by
 unfold Sr at h
 split at h
 ·simp only[UA,ht];exact h
 ·simp only[UA,ht];exact h
 ·cases h
def bj {a v:AV}(ht:Ys X t=some true)(hn:size X t=some n)(h:Mx n a s=some v):UA X t a s=some v:=by
 unfold Mx at h
 split at h
 ·simp only[UA,ht,hn]
  split at h
  ·rename_i c hc;rw[hc];exact h
  ·cases h
 ·simp only[UA,ht,hn];exact h
 ·cases h
def Ek (e:Env):NJ X e none=some none:=rfl
def MC {x:Option Operand}{a:Option Wv}(h:bh X x=some a)(e:Env):NJ X e x=some (Lq e a):=by
 cases x with
 |none=>simp only[bh] at h;cases h;rfl
 |some x =>
  simp only[bh] at h
  cases hx:Ov X x with
  |none=>rw[hx] at h;cases h
  |some y=>rw[hx] at h;cases h;simp only[NJ,YR hx e];rfl
def Pw {place:Nat->Option (Nat×Nat)}{e:Env}:∀{l:List (Nat×Operand)} {r:List (Nat×Nat×Wv)},Ej X place l=some r->∃vs,Vw X e l=some vs/\∀z c,Rd e z r=some c->Ko place z vs=some c
 |[],r,h=>by simp only[Ej] at h;cases h;exact⟨[],rfl,λz c h=>h⟩
 |(i,x)::l,r,h=>by
  simp only[Ej] at h
  split at h
  ·rename_i off n a r' h1 h2 h3
   cases h
   obtain⟨vs,k1,k2⟩:=Pw (e:=e) h3;refine⟨(i,Xp e a)::vs,by simp only[Vw,YR h2 e,k1],λz c hz=>?_⟩;simp only[Rd] at hz;simp only[Ko,h1]
   split at hz
   ·rename_i hc;rw[Of hc]
    split at hz
    ·rename_i c' hl;rw[hl];exact k2 _ _ hz
    ·cases hz
   ·cases hz
  ·cases h
def jB {t u elem:TypeId}{ei:TypeInfo}{d x r:AV}{s s':St}(hu:X.Zd t=some (.slice elem))(hi:X.inf elem=some ei)(hs:size X elem=some n)(h1:¬(ei.bytes>2^20\/n=0\/ei.bytes=0\/GR ei.zero n=true\/X.spec elem=true))
  (h:kC elem n ei.bytes d x s=some (r,s')):MN X t d x s=some (r,s'):=by
 unfold kC at h;unfold MN;simp only[hu,hi,hs]
 split at h
 ·rename_i m new xP;rw[xP];simp only
  split at h
  ·cases h
  ·rename_i hc;rw[O3 (by
    intro hx;rcases hx with hx|hx|hx|hx|hx|hx|hx|hx
    ·exact hc (.inl hx)
    ·exact hc (.inr (.inl hx))
    ·exact h1 (.inl hx)
    ·exact hc (.inr (.inr hx))
    ·exact h1 (.inr (.inl hx))
    ·exact h1 (.inr (.inr (.inl hx)))
    ·exact h1 (.inr (.inr (.inr (.inl hx))))
    ·exact h1 (.inr (.inr (.inr (.inr hx)))))]
   exact h
 ·cases h
def Nf {base:Nat}{s s':St}{o:Op}(h:Ws X base none e s (vA X o)=some (v,s')):Yn X (X0 X) e o s=some (v,s'):=by
 unfold vA at h
 split at h
 ·rename_i r hr;unfold a_ at hr
  split at hr
  ·rename_i x
   cases hx:Ov X x with
   |none=>rw[hx] at hr;cases hr
   |some a =>
    rw[hx] at hr;cases hr;simp only[Ws] at h;simp only[Yn,YR hx e,Zh];exact h
  ·rename_i x
   cases hx:Ov X x with
   |none=>rw[hx] at hr;cases hr
   |some a =>
    rw[hx] at hr;cases hr;simp only[Ws] at h;simp only[Yn,YR hx e,Zh];exact h
  ·rename_i c a b
   split at hr
   ·rename_i c' a' b' h1 h2 h3
    cases hr
    simp only[Ws] at h;obtain⟨x,hx,T8⟩:=Xc h;simp only[Yn,YR h1 e];unfold wg at hx
    split at hx
    ·rename_i p hp;rw[hp]
     cases p <;> simp only[YR h2 e,YR h3 e,Zh] <;> cases hx <;> exact congrArg some T8.symm
    ·cases hx
   ·cases hr
  ·rename_i t
   cases hz:zero X t with
   |none=>rw[hz] at hr;cases hr
   |some z =>
    rw[hz] at hr;cases hr;simp only[Ws,mk] at h;simp only[Yn,hz,Vc];exact h
  ·rename_i t x
   cases hx:Ov X x with
   |none=>rw[hx] at hr;cases hr
   |some a =>
    rw[hx] at hr;cases hr;simp only[Ws,mk] at h;simp only[Yn,YR hx e,Vc];exact h
  ·rename_i t x
   split at hr
   ·rename_i n a h1 h2 h3
    cases hr
    simp only[Ws] at h;obtain⟨y,hy,T8⟩:=Xc h;simp only[Yn,YR h3 e,bj h1 h2 hy,Zh];exact congrArg some T8.symm
   ·rename_i n a h1 h3
    cases hr
    simp only[Ws] at h;obtain⟨y,hy,T8⟩:=Xc h;simp only[Yn,YR h3 e,bq h1 hy,Zh];exact congrArg some T8.symm
   ·cases hr
  ·rename_i t a x
   split at hr
   ·rename_i n a' x' h1 h2 h3
    cases hr
    simp only[Ws] at h;simp only[Yn,YR h2 e,YR h3 e];have:Lw X t (Xp e a') (Xp e x') s=st n (Xp e a') (Xp e x') s:=by
     unfold Lw st;rw[h1]
     cases Xp e a' <;> rfl
    rw[this];exact h
   ·cases hr
  ·rename_i t x f
   split at hr
   ·rename_i fs a h1 h2
    split at hr
    ·rename_i fd hf
     split at hr
     ·rename_i n hn
      cases hr
      simp only[Ws] at h;obtain⟨y,hy,T8⟩:=Xc h;simp only[Yn,YR h2 e];have:Rm X t (Xp e a) f=some y:=by
       unfold faR at hy;unfold Rm;rw[h1]
       split at hy
       ·rename_i b o' hb;rw[hb];simp only[hf,hn];exact hy
       ·rename_i c o' hb;rw[hb];simp only[hf,hn];exact hy
       ·cases hy
      simp only[this,Zh];exact congrArg some T8.symm
     ·cases hr
    ·cases hr
   ·cases hr
  ·rename_i op t x y yt
   split at hr
   ·rename_i a b h1 h2
    cases hr
    simp only[Ws] at h;simp only[Yn,YR h1 e,YR h2 e];exact h
   ·cases hr
  ·rename_i x i
   cases hx:Ov X x with
   |none=>rw[hx] at hr;cases hr
   |some a =>
    rw[hx] at hr;cases hr;simp only[Ws] at h;obtain⟨y,hy,T8⟩:=Xc h;simp only[Yn,YR hx e];unfold abI at hy
    split at hy
    ·rename_i vs SH;rw[SH];simp only[hy,Zh];exact congrArg some T8.symm
    ·cases hy
  ·rename_i op t x
   cases hx:Ov X x with
   |none=>rw[hx] at hr;cases hr
   |some a =>
    rw[hx] at hr;cases hr;simp only[Ws] at h;simp only[Yn,YR hx e];exact h
  ·rename_i args CP
   split at hr
   ·rename_i x t Nr CH;have hev:∀a,Ov X x=some a->Vx X e args.toList=some [Xp e a]:=λa ha=>by
     rw[Nr];simp only[Vx,YR ha e]
    split at hr
    ·rename_i a hu ha
     cases hr
     simp only[Ws] at h;obtain⟨y,hy,T8⟩:=Xc h;simp only[Yn,hev a ha,XX,CH,hu];unfold wa at hy
     split at hy
     ·rename_i l hl;rw[hl];cases hy;exact congrArg some T8.symm
     ·cases hy
    ·rename_i a hu ha
     cases hr
     simp only[Ws] at h;obtain⟨y,hy,T8⟩:=Xc h;simp only[Yn,hev a ha,XX,CH,hu];unfold U1 at hy
     split at hy
     ·rename_i hl;rw[hl];cases hy;exact congrArg some T8.symm
     ·rename_i hl;rw[hl];cases hy;exact congrArg some T8.symm
     ·rename_i hl;rw[hl];cases hy;exact congrArg some T8.symm
     ·cases hy
    ·rename_i a hu ha
     cases hr
     simp only[Ws] at h;obtain⟨y,hy,T8⟩:=Xc h;simp only[Yn,hev a ha,XX,CH,hu];unfold ady at hy
     split at hy
     ·rename_i hl;rw[hl];cases hy;exact congrArg some T8.symm
     ·rename_i hl;rw[hl];cases hy;exact congrArg some T8.symm
     ·rename_i r hl;rw[hl];simp only
      split at hy
      ·rename_i es ro hg;rw[hg];cases hy;exact congrArg some T8.symm
      ·cases hy
     ·cases hy
    ·cases hr
   ·cases hr
  ·rename_i args CP
   split at hr
   ·rename_i d x t u Nr CH hau
    split at hr
    ·rename_i elem ud a b hu iN ha hb;have hev:Vx X e args.toList=some [Xp e a,Xp e b]:=by
      rw[Nr];simp only[Vx,YR ha e,YR hb e]
     split at hr
     ·rename_i ei n hi hs XP
      split at hr
      ·cases hr
      ·rename_i hc
       cases hr
       simp only[Ws] at h;simp only[Yn,hev,XX,CH,hau,iN];have:=jB (u:=u) hu hi hs hc h
       cases ud <;> simp only[aqa] at XP <;> first|exact this|cases XP
     ·cases hr
    ·cases hr
   ·cases hr
  ·rename_i t x i
   split at hr
   ·rename_i a b hu ha hb
    cases hr
    simp only[Ws] at h;obtain⟨y,hy,T8⟩:=Xc h;simp only[Yn,YR ha e,YR hb e];have:Fp X t (Xp e a) (Xp e b)=some y:=by
     unfold kE at hy
     split at hy
     ·rename_i l k i' hl QD;rw[hl,QD];simp only[Fp,hu];exact hy
     ·cases hy
    simp only[this,Zh];exact congrArg some T8.symm
   ·cases hr
  ·rename_i t x i
   split at hr
   ·rename_i el a b hu ha hb
    cases hs:size X el with
    |none=>rw[hs] at hr;cases hr
    |some n =>
     rw[hs] at hr;cases hr;simp only[Ws] at h;obtain⟨y,hy,T8⟩:=Xc h;simp only[Yn,YR ha e,YR hb e];have:Vj X t (Xp e a) (Xp e b)=some y:=by
      unfold UJ at hy
      split at hy
      ·rename_i b' o len cap Vl k i' hl QD;rw[hl,QD];simp only[Vj,hu,hs];exact hy
      ·rename_i es k i' hl QD;rw[hl,QD];simp only[Vj,hu,hs]
       split at hy
       ·rename_i h0;rw[Of h0]
        split at hy
        ·rename_i x' L7;rw[L7];exact hy
        ·cases hy
       ·cases hy
      ·cases hy
     simp only[this,Zh];exact congrArg some T8.symm
   ·rename_i len el a b hu ha hb
    cases hs:size X el with
    |none=>rw[hs] at hr;cases hr
    |some n =>
     rw[hs] at hr;cases hr;simp only[Ws] at h;obtain⟨y,hy,T8⟩:=Xc h;simp only[Yn,YR ha e,YR hb e];have:Vj X t (Xp e a) (Xp e b)=some y:=by
      unfold v9 at hy
      split at hy
      ·rename_i b' o k i' hl QD;rw[hl,QD];simp only[Vj,hu,hs];exact hy
      ·rename_i c o k i' hl QD;rw[hl,QD];simp only[Vj,hu,hs];exact hy
      ·cases hy
     simp only[this,Zh];exact congrArg some T8.symm
   ·cases hr
  ·rename_i t x lo hi
   split at hr
   ·rename_i a l h' hu ha hl hh
    cases hr
    simp only[Ws] at h;obtain⟨y,hy,T8⟩:=Xc h;simp only[Yn,YR ha e,MC hl e,MC hh e,Ek];have:O1 X t (Xp e a) (Lq e l) (Lq e h') none=some y:=by
     unfold sy at hy
     split at hy
     ·rename_i b hb;rw[hb];simp only[O1,hu]
      split at hy
      ·rename_i h2 e2;rw[e2];exact hy
      ·cases hy
     ·cases hy
    simp only[this,Zh];exact congrArg some T8.symm
   ·rename_i el a l h' hu ha hl hh
    cases hs:size X el with
    |none=>rw[hs] at hr;cases hr
    |some n =>
     rw[hs] at hr;cases hr;simp only[Ws] at h;obtain⟨y,hy,T8⟩:=Xc h;simp only[Yn,YR ha e,MC hl e,MC hh e,Ek];have:O1 X t (Xp e a) (Lq e l) (Lq e h') none=some y:=by
      unfold Dh at hy
      split at hy
      ·rename_i hb;rw[hb];simp only[O1,hu,hs];exact hy
      ·rename_i hb;rw[hb];simp only[O1,hu,hs]
       split at hy
       ·rename_i h2 e2;rw[e2];exact hy
       ·cases hy
      ·rename_i es hb;rw[hb];simp only[O1,hu,hs]
       split at hy
       ·rename_i h2 e2;rw[e2];exact hy
       ·cases hy
      ·cases hy
     simp only[this,Zh];exact congrArg some T8.symm
   ·cases hr
  ·rename_i t x f
   split at hr
   ·rename_i fs a hu ha
    split at hr
    ·rename_i fd hf
     split at hr
     ·rename_i n Dl hs
      cases hr
      simp only[Ws] at h;obtain⟨y,hy,T8⟩:=Xc h;unfold aj1 at hy
      split at hy
      ·rename_i cs FO
       cases hg:Xi n fd.offset cs with
       |none=>rw[hg] at hy;cases hy
       |some r =>
        rw[hg] at hy;cases hy;simp only[Yn,YR ha e,FO,hu,hf,Rz,Dl,hs,hg,Zh];exact congrArg some T8.symm
      ·cases hy
     ·rename_i Dl
      cases hr
      simp only[Ws] at h;obtain⟨y,hy,T8⟩:=Xc h;unfold abP at hy
      split at hy
      ·rename_i cs FO;simp only[Yn,YR ha e,FO,hu,hf,Rz,Dl,hy,Zh];exact congrArg some T8.symm
      ·cases hy
     ·cases hr
    ·cases hr
   ·cases hr
  ·rename_i t ps
   split at hr
   ·rename_i z fs hz hu
    split at hr
    ·rename_i pl Tp
     cases hp:Ej X (λi=>pl[i]?) ps.toList with
     |none=>rw[hp] at hr;cases hr
     |some r' =>
      rw[hp] at hr;cases hr;obtain⟨vs,k1,k2⟩:=Pw (e:=e) hp;simp only[Ws] at h;obtain⟨y,hy,T8⟩:=Xc h
      cases Mw:Rd e z r' with
      |none=>rw[Mw] at hy;cases hy
      |some c =>
       rw[Mw] at hy;cases hy;simp only[Yn,k1,FF,hz,hu,Tp,k2 _ _ Mw,Zh];exact congrArg some T8.symm
    ·cases hr
   ·rename_i z len el hz hu
    split at hr
    ·rename_i n hs
     cases hp:Ej X (λi=>some (i*n,n)) ps.toList with
     |none=>rw[hp] at hr;cases hr
     |some r' =>
      rw[hp] at hr;cases hr;obtain⟨vs,k1,k2⟩:=Pw (e:=e) hp;simp only[Ws] at h;obtain⟨y,hy,T8⟩:=Xc h
      cases Mw:Rd e z r' with
      |none=>rw[Mw] at hy;cases hy
      |some c =>
       rw[Mw] at hy;cases hy;simp only[Yn,k1,FF,hz,hu,hs,k2 _ _ Mw,Zh];exact congrArg some T8.symm
    ·cases hr
   ·cases hr
  ·rename_i t len ps
   split at hr
   ·rename_i el hu
    split at hr
    ·rename_i n z hs hz
     split at hr
     ·rename_i hc
      cases hp:Ej X (λi=>some (i*n,n)) ps.toList with
      |none=>rw[hp] at hr;cases hr
      |some r' =>
       rw[hp] at hr;cases hr;obtain⟨vs,k1,k2⟩:=Pw (e:=e) hp;simp only[Ws] at h
       split at h
       ·rename_i c Mw;simp only[Yn,k1,T0,hu,hs,hz,Of hc,k2 _ _ Mw];exact h
       ·cases h
     ·cases hr
    ·cases hr
   ·cases hr
  ·rename_i g a b
   split at hr
   ·rename_i x y hx hy
    cases hr
    simp only[Ws] at h;simp only[Yn,MD hx e,MD hy e];exact h
   ·cases hr
  ·rename_i f args CP
   cases hx:Dc X args.toList with
   |none=>rw[hx] at hr;cases hr
   |some l =>
    rw[hx] at hr;cases hr;simp only[Ws,UN] at h;simp only[Yn,eval,MD hx e,Fy,aqQ,aqw];exact h
  ·rename_i t args CP
   cases hx:Dc X args.toList with
   |none=>rw[hx] at hr;cases hr
   |some l =>
    rw[hx] at hr;cases hr;simp only[Ws,Kx,Xp] at h;simp only[Yn,eval,MD hx e];exact h
  ·cases hr
 ·simp only[Ws,mJ] at h;exact h
def a9 {base i:Nat}{s s':St}{o:Op}(hc:cls X o=.a)(h:Ws X base (some i) e s (vA X o)=some (v,s')) :
  ∃s1,Yn X (X0 X) e o { s with next:=base+i }=some (v,s1)/\s'={ s1 with next:=s.next }:=by
 unfold vA at h
 split at h
 ·rename_i r hr;unfold a_ at hr
  split at hr <;> try (simp only[cls] at hc;done)
  all_goals try (simp only[cls] at hc;cases hc;done)
  ·rename_i t
   cases hz:zero X t with
   |none=>rw[hz] at hr;cases hr
   |some z =>
    rw[hz] at hr;cases hr;simp only[Ws,mk] at h
    cases h
    refine⟨_,by simp only[Yn,hz,Vc];rfl,rfl⟩
  ·rename_i t x
   cases hx:Ov X x with
   |none=>rw[hx] at hr;cases hr
   |some a =>
    rw[hx] at hr;cases hr;simp only[Ws,mk] at h
    cases h
    refine⟨_,by simp only[Yn,YR hx e,Vc];rfl,rfl⟩
  ·rename_i t len ps
   split at hr
   ·rename_i el hu
    split at hr
    ·rename_i n z hs hz
     split at hr
     ·rename_i hcc
      cases hp:Ej X (λi=>some (i*n,n)) ps.toList with
      |none=>rw[hp] at hr;cases hr
      |some r' =>
       rw[hp] at hr;cases hr;obtain⟨vs,k1,k2⟩:=Pw (e:=e) hp;simp only[Ws] at h
       split at h
       ·rename_i c Mw
        cases h
        refine⟨_,by simp only[Yn,k1,T0,hu,hs,hz,Of hcc,k2 _ _ Mw];rfl,rfl⟩
       ·cases h
     ·cases hr
    ·cases hr
   ·cases hr
  ·simp only[cls] at hc
   split at hc <;> cases hc
  ·cases hr
 ·simp only[Ws,mJ] at h
  split at h
  ·rename_i v1 s1 h1
   cases h
   exact⟨s1,h1,rfl⟩
  ·cases h
def Ei {ops:Array Oper}{o:Oper}{g:Option (Nat×Bool)}(h:rcG ops o.guard=some g)(e:Env):Re e g=XE ops e o:=by
 unfold XE
 cases hg:o.guard with
 |none=>rw[hg] at h;simp only[rcG] at h;cases h;rfl
 |some jb =>
  obtain⟨j,b⟩:=jb;rw[hg] at h;simp only[rcG] at h
  split at h
  ·rename_i oj hj
   split at h
   ·rename_i d hd
    cases h
    simp only[Re,hj,hd]
    cases e.get d <;> rfl
   ·cases h
  ·cases h
def Iu {ops:Array Oper}{base:Nat}{r:Env×St}:∀(l:List Oper) (i:Nat) (l':List RO) (e:Env) (s:St),Ux X ops false i l=some l'->wA X base l' e s=some r->J' X (X0 X) ops l e s=some r
 |[],i,l',e,s,h,hr=>by simp only[Ux] at h;cases h;simpa only[wA,J'] using hr
 |o::l,i,l',e,s,h,hr=>by
  simp only[Ux] at h
  split at h
  ·rename_i g r' h1 h2
   cases h
   simp only[wA,aqK,aqa,if_false] at hr;simp only[J',<-Ei h1 e]
   cases hw:Re e g with
   |false =>
    rw[hw] at hr;simp only[cond_false] at hr;simp only[aqa,if_false];exact Iu l (i+1) r' _ _ h2 hr
   |true =>
    rw[hw] at hr;simp only[cond_true] at hr;simp only[if_true]
    split at hr
    ·rename_i v s1 hv;rw[Nf hv];exact Iu l (i+1) r' _ _ h2 hr
    ·cases hr
  ·cases h
mutual
def Pv:∀a:AV,same a a=true
 |.bool _|.int _ _|.zr _ _|.str _|.U4|.ptr _ _|.ZQ|.sl ..|.O'|.map _|.VC|.Tz=>by simp[same]
 |.fn f x y=>by simp[same,Wu x,Wu y]
 |.iface t x=>by simp[same,Pv x]
 |.agg a=>by simp[same,Wu a]
 |.XQ a=>by simp[same,Wu a]
 |.fz a=>by simp[same,Wu a]
 |.fp a o=>by simp[same,Wu a]
 |.fm a b=>by simp[same,Wu a,Wu b]
def Wu:∀a:List AV,V_ a a=true
 |[]=>by simp[V_]
 |x::l=>by simp[V_,Pv x,Wu l]
end
def Eh {ops:Array Oper}{base:Nat}{r:Env×St}:∀(l:List Oper) (i:Nat) (l':List RO) (e:Env) (s:St),Ux X ops true i l=some l'->PA X base l' e s=some r ->
  ∃tr,uw X (X0 X) ops base i l e s=some tr/\Fk tr=some r/\∀(k:Nat) o,l[k]? = some o->(cls X o.op).lR=true->∀k',k<k'->∀o',l[k']? = some o'->(cls X o'.op).Af=true->(WI tr (k+1)).get (base+(i+k'))=none
 |[],i,l',e,s,h,hr=>by
  simp only[Ux] at h;cases h;simp only[PA] at hr;cases hr;exact⟨[(e,s)],rfl,rfl,λk o ho=>by simp at ho⟩
 |o::l,i,l',e,s,h,hr=>by
  simp only[Ux] at h
  split at h
  ·rename_i g r' h1 h2
   cases h
   simp only[PA,aqr] at hr;have key:∀v s1,Sk X (X0 X) ops base i o e s=some (Ye e o.dst v,s1)->(if (!(cls X o.op).lR||VO base s1 r')=true then PA X base r' (Ye e o.dst v) s1 else none)=some r ->
     ∃tr,uw X (X0 X) ops base i (o::l) e s=some tr/\Fk tr=some r/\∀(k:Nat) o1,(o::l)[k]? = some o1->(cls X o1.op).lR=true->∀k',k<k'->∀o',(o::l)[k']? = some o'->(cls X o'.op).Af=true->(WI tr (k+1)).get (base+(i+k'))=none:=by
    intro v s1 W_ hif
    split at hif
    ·rename_i Je;obtain⟨tr,g1,g2,g3⟩:=Eh l (i+1) r' _ _ h2 hif;obtain⟨k1,k2,_⟩:=Qf _ _ _ _ _ g1;refine⟨(e,s)::tr,by simp only[uw,W_,g1],?_,λk o1 ho1 hw k' hk o' U_ ha=>?_⟩
     ·cases tr with
      |nil=>simp at k1
      |cons x y=>exact g2
     ·obtain⟨iO,rfl⟩:∃q,k'=q+1:=⟨k'-1,J⟩;have hts:∀n,WI ((e,s)::tr) (n+1)=WI tr n:=λn=>by simp[WI]
      rw[hts]
      cases k with
      |zero =>
       simp at ho1;subst ho1;have RX:WI tr 0=s1:=by simp[WI,k2]
       rw[RX];rw[hw] at Je;simp only[aqB,aqE] at Je;have chk:∀(l:List Oper) (i:Nat) (r':List RO),Ux X ops true i l=some r'->VO base s1 r'=true->∀(q:Nat) o',l[q]? = some o'->(cls X o'.op).Af=true->s1.get (base+(i+q))=none:=by
        intro l
        induction l with
        |nil=>intro i r' _ _ q o' U_;simp at U_
        |cons x l ih =>
         intro i r' vz hn q o' U_ ha;simp only[Ux] at vz
         split at vz
         ·rename_i g2 r2 e1 e2
          cases vz
          simp only[VO,List.all_cons,ahe] at hn
          cases q with
          |zero =>
           simp at U_;subst U_;have:=hn.1;simp only[aqr,ha,if_true,aq1] at this
           simpa using this
          |succ q =>
           have:=ih (i+1) r2 e2 hn.2 q o' (by simpa using U_) ha;rw[show i+(q+1)=i+1+q by omega];exact this
         ·cases vz
       have:=chk l (i+1) r' h2 Je iO o' (by simpa using U_) ha;rw[show i+(iO+1)=i+1+iO by omega];exact this
      |succ k =>
       have:=g3 k o1 (by simpa using ho1) hw iO J o' (by simpa using U_) ha;rw[show i+(iO+1)=i+1+iO by omega];exact this
    ·cases hif
   have JH:=Ei h1 e
   cases hw:Re e g with
   |false =>
    rw[hw] at hr JH;simp only[cond_false] at hr;refine key undef s ?_ hr;simp only[Sk,<-JH,aqa,if_false]
   |true =>
    rw[hw] at hr JH;simp only[cond_true] at hr
    split at hr
    ·rename_i v s1 hv;refine key v s1 ?_ hr;simp only[Sk,<-JH,if_true];by_cases ha:(cls X o.op).Af=true
     ·rw[Of ha] at hv;obtain⟨s2,e1,e2⟩:=a9 (Xa.1 ha) hv;rw[Xa.1 ha];simp only[e1,e2]
     ·rw[O3 ha] at hv;have:=Nf hv
      cases hk:cls X o.op <;> rw[hk] at ha <;> first|exact absurd rfl ha|simp only[this]
    ·cases hr
  ·cases h
def Nd {ops:Array Oper}{base:Nat}{s:St}:∀(l:List Oper) (i:Nat) (r':List RO),Ux X ops true i l=some r'->VO base s r'=true->∀(q:Nat) o',l[q]? = some o'->(cls X o'.op).Af=true->s.get (base+(i+q))=none
 |[],i,r',_,_,q,o',U_,_=>by simp at U_
 |x::l,i,r',vz,hn,q,o',U_,ha=>by
  simp only[Ux] at vz
  split at vz
  ·rename_i g2 r2 e1 e2
   cases vz
   simp only[VO,List.all_cons,ahe] at hn
   cases q with
   |zero =>
    simp at U_;subst U_;have:=hn.1;simp only[aqr,ha,if_true,aq1] at this
    simpa using this
   |succ q =>
    have:=Nd l (i+1) r2 e2 hn.2 q o' (by simpa using U_) ha;rw[show i+(q+1)=i+1+q by omega];exact this
  ·cases vz
end
end Go.Am
namespace Go.Am
open Go
variable {e:Env}{s:St}
section
variable [Stat]
variable {X:Cx}{ops:Array Oper}{base:Nat}
def Lj {tr:List (Env×St)}:∀(ws:List Nat),(∀j∈ws,j+1<tr.length)->Sc tr ws=some (ws.map λj=>(j+1,WI tr (j+1)))
 |[],_=>rfl
 |j::ws,h=>by
  have hj:=h j (aba ..);simp only[Sc,aaa hj,Lj ws λk hk=>h k (aab _ hk),aqe,WI,aq6]
def Nb (h:MI X ops=false):∀(l:List Oper) (i:Nat) (tr:List (Env×St)),Tc X ops i l tr=[]
 |[],i,tr=>by cases tr <;> rfl
 |o::l,i,[]=>rfl
 |o::l,i,(e,s)::tr=>by
  have:late X ops i=false:=by simp[late,h]
  simp only[Tc,this,aqa,if_false];exact Nb h l (i+1) tr
def Is {ex:Ex}{ws as:List Nat}{ss:List (Nat×St)}{sH:List (Env×St)}:∀(l:List Oper) (tr:List (Env×St)) (i:Nat),
  (∀(k:Nat) o es,l[k]? = some o->tr[k]? = some es->XE ops es.1 o=true ->
   (cls X o.op=.r->∃v s',Yn X ex es.1 o.op es.2=some (v,s')/\WB X ex ops base (i+k) as sH es.1 o.op v (Ua ops ws ss (i+k))=true) /\
   (cls X o.op=.q->∃c vs us,o.op=.call c/\Vx X es.1 c.args.toList=some vs/\U2 X es.2 vs=some us/\SP X ops base (i+k) as sH vs us (Ua ops ws ss (i+k))=true)) ->
  Tn X ex ops base ws as ss sH i l tr=true
 |[],tr,i,_=>by cases tr <;> rfl
 |o::l,[],i,_=>rfl
 |o::l,(e,s)::tr,i,h=>by
  simp only[Tn,ahe];refine⟨?_,Is l tr (i+1) λk o' es h1 h2 h3=>by
   have:=h (k+1) o' es (by simpa using h1) (by simpa using h2) h3;rw[show i+(k+1)=i+1+k by omega] at this;exact this⟩
  have h0:=h 0 o (e,s) rfl rfl;simp only[Nat.add_zero] at h0
  cases hw:XE ops e o with
  |false=>cases cls X o.op <;> simp
  |true =>
   obtain⟨q1,q2⟩:=h0 hw
   cases hk:cls X o.op with
   |p=>rfl
   |a=>rfl
   |w=>rfl
   |r =>
    obtain⟨v,s',e1,e2⟩:=q1 hk;simp only[e1,e2,Bool.or_true]
   |q =>
    obtain⟨c,vs,us,e1,e2,e3,e4⟩:=q2 hk;simp only[e1,e2,e3,e4,Bool.or_true]
def Li:∀(l:List (Nat×St)),(∀m s,(m,s)∈l->∀i,m<=i->kA X ops i->s.get (base+i)=none)->Sb X ops base l=true
 |[],_=>rfl
 |(m,s)::l,h=>by
  simp only[Sb,ahe];refine⟨?_,Li l λm' s' hm=>h m' s' (aab _ hm)⟩;have h0:=h m s (aba ..);have:∀(l:List Oper) (i:Nat),m<=i->(∀k:Nat,l[k]? = ops[i+k]?)->Fm X base s i l=true:=by
   intro l
   induction l with
   |nil=>intro i _ _;rfl
   |cons o l ih =>
    intro i hi hl;simp only[Fm,ahe,aq0,aqS];refine⟨?_,ih (i+1) J λk=>by
     have:=hl (k+1);rw[show i+1+k=i+(k+1) by omega,<-this];simp⟩
    cases ha:(cls X o.op).Af with
    |false=>exact .inl rfl
    |true =>
     right
     rw[h0 i hi ⟨o,by have:=hl 0;simpa using this.symm,Xa.1 ha⟩];rfl
  refine this (ops.toList.drop m) m (api m) λk=>?_
  rw[List.getElem?_drop,aqq]
variable {E:Nat->Env}{S:Nat->St}{ex:Ex}
def DG.nN (h:DG X ex ops base E S){i:Nat}{o:Oper}(ho:ops[i]? = some o)(hw:cls X o.op≠.w) :
  (cls X o.op≠.a->S (i+1)=S i)/\(cls X o.op=.a->S (i+1)=S i\/∃b,b≠.gone/\S (i+1)=(S i).put (base+i) b):=by
 rcases UP (h.step i o ho) with⟨_,_,h3⟩|⟨_,v,_,⟨hc,s1,h3,h4⟩|⟨hc,h3⟩⟩
 ·exact⟨λ_=>h3,λ_=>.inl h3⟩
 ·have hc:=Xa.1 hc;obtain⟨b,hb,rfl,_⟩:=gQ hc h3;exact⟨λZB=>absurd hc ZB,λ_=>.inr ⟨b,hb,by rw[h4];rfl⟩⟩
 ·refine⟨λ_=>?_,λha=>?_⟩
  ·cases hk:cls X o.op with
   |a=>rw[hk] at hc;cases hc
   |w=>exact absurd hk hw
   |p=>exact (gN hk _ _ _ h3).1
   |r=>exact gK hk h3
   |q=>exact (CL hk h3).1
  ·rw[ha] at hc;cases hc
def Bi (i:Nat)(o:Oper)(l:List Oper):Up X i (o::l)=if (cls X o.op).Af then i::Up X (i+1) l else Up X (i+1) l:=rfl
def Bn {tr:List (Env×St)}(ht:DG X ex ops base (Sj tr) (WI tr))(hlen:tr.length=ops.size+1)(XP:Ok X ops){i m:Nat}(hi:i<ops.size)(uD:m<=i)(hnw:∀k o,m<=k->k<i->ops[k]? = some o->cls X o.op≠.w)
  (ha:∀k,k<i->kA X ops k->Xh ops k i=true)(RK:∀k,m<=k->kA X ops k->(WI tr m).get (base+k)=none) :
  TG ops base i m tr (Up X 0 ops.toList) (WI tr m)=WI tr i:=by
 have skip:∀(as:List Nat) (s:St),(∀j∈as,¬(m<=j/\Xh ops j i=true))->TG ops base i m tr as s=s:=by
  intro as
  induction as with
  |nil=>intro s _;rfl
  |cons j as ih =>
   intro s h;have hj:=h j (aba ..);unfold TG;rw[O3 (by simpa using hj)];exact ih s λk hk=>h k (aab _ hk)
 have keep:∀n,m<=n->n<=i->∀k,n<=k->kA X ops k->(WI tr n).get (base+k)=none:=by
  intro n hn
  induction hn with
  |refl=>intro _ k hk ur;exact RK k hk ur
  |step yY ih =>
   rename_i n;intro hni k hk ur;have RW:n<ops.size:=J;have ho:=aqz RW;obtain⟨e1,e2⟩:=ht.nN ho (hnw n _ yY J ho);by_cases xA:cls X (ops[n]).op=.a
   ·rcases e2 xA with e|⟨b,_,e⟩
    ·rw[e];exact ih J k J ur
    ·rw[e,St.Z7,O3 J];exact ih J k J ur
   ·rw[e1 xA];exact ih J k J ur
 have run:∀d n,n+d=i->m<=n->TG ops base i m tr (Up X n (ops.toList.drop n)) (WI tr n)=WI tr i:=by
  intro d
  induction d with
  |zero =>
   intro n hn _;have:n=i:=J;subst this;refine skip _ _ λj hj hc=>?_
   obtain⟨k,o,_,rfl,_⟩:=F3 _ _ _ hj;have:=XP.RI n (n+k) hc.2;omega
  |succ d ih =>
   intro n hn yY;have RW:n<ops.size:=J;have ho:=aqz RW;have Br:ops.toList.drop n=ops[n]::ops.toList.drop (n+1):=by
    rw[aea (by simpa using RW)];simp
   rw[Br];obtain⟨e1,e2⟩:=ht.nN ho (hnw n _ yY J ho);rw[Bi];by_cases xA:(cls X (ops[n]).op).Af=true
   ·rw[Of xA];have hk:kA X ops n:=⟨_,ho,Xa.1 xA⟩;unfold TG;rw[Of (by simp[yY,ha n J hk])];have o4:tr[n+1]? = some (Sj tr (n+1),WI tr (n+1)):=by
     rw[aaa J];simp[Sj,WI,aaa (show n+1<tr.length by omega)]
    rw[o4];simp only;rcases e2 (Xa.1 xA) with e|⟨b,_,e⟩
    ·rw[e,keep n yY J n (api n) hk];simp only;rw[<-e];exact ih (n+1) J J
    ·rw[e,St.Z7,Of rfl];simp only;rw[<-e];exact ih (n+1) J J
   ·rw[O3 xA,<-e1 (λh=>xA (Xa.2 h))];exact ih (n+1) J J
 have pass:∀n,n<=m->TG ops base i m tr (Up X n (ops.toList.drop n)) (WI tr m)=TG ops base i m tr (Up X m (ops.toList.drop m)) (WI tr m):=by
  intro n hn;obtain⟨d,hd⟩:∃d,n+d=m:=⟨m-n,J⟩;clear hn
  induction d generalizing n with
  |zero =>
    have:n=m:=J;subst this;rfl
  |succ d ih =>
   have RW:n<ops.size:=J;have Br:ops.toList.drop n=ops[n]::ops.toList.drop (n+1):=by
    rw[aea (by simpa using RW)];simp
   rw[<-ih (n+1) J,Br,Bi]
   split
   ·conv=>lhs;unfold TG
    rw[O3 F_]
   ·rfl
 have:=pass 0 (apW m);rw[aqy] at this;rw[this];exact run (i-m) m J (api m)
def af {l:List RO}{r:Env×St}(vz:Ux X ops true 0 ops.toList=some l)(ae:aac X ops=true)(agi:okD X ops=true)(hn:VO s.next s l=true)
  (hr:PA X s.next l e { s with next:=s.next+ops.size }=some r):N' X (X0 X) ops e s=some r:=by
 have XP:=tL agi;unfold aac at ae;simp only[ahe,aqS,ap8,aqg] at ae;obtain⟨hlr,Xx⟩:=ae;obtain⟨tr,g1,g2,g3⟩:=Eh _ _ _ _ _ vz hr;obtain⟨k1,k2,k3⟩:=Qf _ _ _ _ _ g1;have k1:tr.length=ops.size+1:=by simpa using k1
 have ht:DG X (X0 X) ops s.next (Sj tr) (WI tr):=⟨λi o ho=>by
  have:=k3 i o (by simpa using ho)
  simpa using this⟩
 have Mu:WI tr 0={ s with next:=s.next+ops.size }:=by simp[WI,k2]
 have F5:∀i,late X ops i=false:=λi=>by simp[late,hlr]
 have LN:∀j,j∈Zc X ops 0 ops.toList<->∃o,ops[j]? = some o/\cls X o.op=.w:=by
  intro j;rw[Qe]
  constructor
  ·rintro⟨k,o,h1,rfl,h3⟩;simp only[ahe] at h3;exact⟨o,by simpa using h1,QT.1 h3.1⟩
  ·rintro⟨o,h1,h3⟩;exact⟨j,o,by simpa using h1,J,by simp[QT.2 h3,F5]⟩
 have agj:∀j,kA X ops j->j∈Up X 0 ops.toList:=by
  have:∀(l:List Oper) (i k:Nat) o,l[k]? = some o->cls X o.op=.a->i+k∈Up X i l:=by
   intro l
   induction l with
   |nil=>intro i k o h;simp at h
   |cons x l ih =>
    intro i k o h hc;unfold Up
    cases k with
    |zero=>simp at h;subst h;rw[Of (Xa.2 hc)];exact aba ..
    |succ k =>
     have:=ih (i+1) k o (by simpa using h) hc;rw[show i+(k+1)=i+1+k by omega]
     split
     ·exact aab _ this
     ·exact this
  rintro j ⟨o,ho,hc⟩;have:=this ops.toList 0 j o (by simpa using ho) hc
  simpa using this
 have agk:=Lj (tr:=tr) (Zc X ops 0 ops.toList) λj hj=>by
  obtain⟨o,ho,_⟩:=(LN j).1 hj;have:=(apV.1 ho).1;omega
 unfold N';rw[g1];simp only[agk];have D_:∀m,m=0\/(∃j,m=j+1/\j∈Zc X ops 0 ops.toList)->∀i,m<=i->kA X ops i->(WI tr m).get (s.next+i)=none:=by
  rintro m (rfl|⟨j,rfl,hj⟩) i hi ⟨o,ho,hc⟩
  ·rw[Mu];have:=Nd _ _ _ vz hn i o (by simpa using ho) (Xa.2 hc);rw[ap4] at this;exact this
  ·obtain⟨oj,hoj,hcj⟩:=(LN j).1 hj;have:=g3 j oj (by simpa using hoj) (QT.2 hcj) i J o (by simpa using ho) (Xa.2 hc)
   simpa using this
 have hss:∀m s1,(m,s1)∈(0,({ s with next:=s.next+ops.size }:St))::((Zc X ops 0 ops.toList).map λj=>(j+1,WI tr (j+1)))->(m=0\/∃j,m=j+1/\j∈Zc X ops 0 ops.toList)/\s1=WI tr m:=by
  intro m s1 hm;rcases ap9.1 hm with e|hm
  ·cases e;exact⟨.inl rfl,Mu.symm⟩
  ·obtain⟨j,hj,e⟩:=ap0.1 hm
   cases e
   exact⟨.inr ⟨j,rfl,hj⟩,rfl⟩
 have hnA:Sb X ops s.next ((0,({ s with next:=s.next+ops.size }:St))::((Zc X ops 0 ops.toList).map λj=>(j+1,WI tr (j+1))))=true:=Li _ λm s1 hm i hi hk=>by
  obtain⟨h1,rfl⟩:=hss m s1 hm;exact D_ m h1 i hi hk
 have Je:Tn X (X0 X) ops s.next (Zc X ops 0 ops.toList) (Up X 0 ops.toList) ((0,({ s with next:=s.next+ops.size }:St))::((Zc X ops 0 ops.toList).map λj=>(j+1,WI tr (j+1)))) tr 0 ops.toList tr=true:=by
  refine Is _ _ _ λi o es ho htr hw=>?_
  have U_:ops[i]? = some o:=by simpa using ho
  have hi:i<ops.size:=(apV.1 U_).1;have hes:es=(Sj tr i,WI tr i):=by simp[Sj,WI,htr]
  subst hes;simp only at hw;rw[ap4];have uE:cls X o.op≠.a->∃v,Yn X (X0 X) (Sj tr i) o.op (WI tr i)=some (v,WI tr (i+1)):=λZB=>by
   rcases UP (ht.step i o U_) with⟨h1,_⟩|⟨_,v,_,⟨hc,_⟩|⟨_,h3⟩⟩
   ·rw[hw] at h1;cases h1
   ·exact absurd (Xa.1 hc) ZB
   ·exact⟨v,h3⟩
  have Fx:cls X o.op=.r\/cls X o.op=.q->∃m,Ua ops (Zc X ops 0 ops.toList) ((0,({ s with next:=s.next+ops.size }:St))::((Zc X ops 0 ops.toList).map λj=>(j+1,WI tr (j+1)))) i=[(m,WI tr m)] /\
    TG ops s.next i m tr (Up X 0 ops.toList) (WI tr m)=WI tr i:=by
   intro hk;have W_:=Xx i hi;rw[U_] at W_;simp only at W_;have aG:(Up X 0 ops.toList).all (λk=>!decide (k<i)||Xh ops k i)=true/\(Zc X ops 0 ops.toList).all (λk=>Xh ops k i||Xh ops i k)=true:=by
    rcases hk with hk|hk <;> rw[hk] at W_ <;> simpa[zm.isR] using W_
   obtain⟨ha,mS⟩:=aG;rw[ap8] at ha mS;have hab:∀k,k<i->kA X ops k->Xh ops k i=true:=λk G' ur=>by
    have:=ha k (agj k ur)
    simpa[G'] using this
   have jo:∀k∈Zc X ops 0 ops.toList,(Xh ops k i=true<->k<i)/\(Xh ops i k=true<->i<k):=by
    intro k qQ;have:=mS k qQ;simp only[aq0] at this;rcases this with h1|h1
    ·have:=XP.RI i k h1;refine⟨⟨λ_=>this,λ_=>h1⟩,⟨λh2=>?_,λh2=>J⟩⟩;have:=XP.RI k i h2;omega
    ·have:=XP.RI k i h1;refine⟨⟨λh2=>?_,λh2=>J⟩,⟨λ_=>this,λ_=>h1⟩⟩;have:=XP.RI i k h2;omega
   have ZB:∀k∈Zc X ops 0 ops.toList,k≠i:=λk qQ e=>by
    obtain⟨o2,Ic,Jg⟩:=(LN k).1 qQ;rw[e,U_] at Ic;cases Ic;rcases hk with hk|hk <;> rw[hk] at Jg <;> cases Jg
   have agl:X9 (λj=>!Xh ops i j) (Zc X ops 0 ops.toList)=X9 (λj=>Xh ops j i) (Zc X ops 0 ops.toList):=by
    refine Nat.le_antisymm (UQ _ λx hx h=>?_) (UQ _ λx hx h=>?_)
    ·have h1:Xh ops i x=false:=by simpa using h
     refine ((jo x hx).1).2 (Nat.lt_of_not_le λhle=>?_);have:=((jo x hx).2).2 (by have:=ZB x hx;omega);rw[h1] at this;cases this
    ·have h1:=((jo x hx).1).1 h;simp only[aqS]
     cases hb:Xh ops i x with
     |false=>rfl
     |true=>have:=((jo x hx).2).1 hb;omega
   unfold Ua;rw[agl];generalize hq:X9 (λj=>Xh ops j i) (Zc X ops 0 ops.toList)=q;have F4:=List.pairwise_iff_getElem.1 (SZ (X:=X) (ops:=ops) ops.toList 0);have hql:q<=(Zc X ops 0 ops.toList).length:=by
    rw[<-hq];generalize Zc X ops 0 ops.toList=L
    induction L with
    |nil=>exact api _
    |cons x L ih=>simp only[X9,ap1];split <;> omega
   have Lh:∀n (hn:n<(Zc X ops 0 ops.toList).length),(n<q<->(Zc X ops 0 ops.toList)[n]<i):=by
    obtain⟨p,zl,xR,qf⟩:∃p,p<=(Zc X ops 0 ops.toList).length/\(∀n (hn:n<(Zc X ops 0 ops.toList).length),n<p->(Zc X ops 0 ops.toList)[n]<i)/\(∀n (hn:n<(Zc X ops 0 ops.toList).length),p<=n->¬(Zc X ops 0 ops.toList)[n]<i):=by
     rcases GN (λn=>∃hn:n<(Zc X ops 0 ops.toList).length,(Zc X ops 0 ops.toList)[n]<i) (Zc X ops 0 ops.toList).length with h|⟨n0,h1,⟨h2,h3⟩,h4⟩
     ·exact⟨0,apW _,λn _ hn=>J,λn hn _ YA=>h n hn ⟨hn,YA⟩⟩
     ·refine⟨n0+1,h1,λn hn YA=>?_,λn hn hle YA=>h4 n J hn ⟨hn,YA⟩⟩;by_cases e:n=n0
      ·subst e;exact h3
      ·have:=F4 n n0 hn h2 J;omega
    have ja:p=q:=by
     rw[<-hq];refine (UD _ p zl (λx hx=>?_) (λx hx=>?_)).symm
     ·obtain⟨n,hn,rfl⟩:=aqd.1 hx;rw[List.getElem_take];have uu:n<p/\n<(Zc X ops 0 ops.toList).length:=by rw[aqO] at hn;omega
      exact ((jo _ (adm uu.2)).1).2 (xR n uu.2 uu.1)
     ·obtain⟨n,hn,rfl⟩:=aqd.1 hx;rw[List.getElem_drop];rw[List.length_drop] at hn;have:=qf (p+n) J J
      cases hb:Xh ops (Zc X ops 0 ops.toList)[p+n] i with
      |false=>rfl
      |true=>exact absurd (((jo _ (adm J)).1).1 hb) this
    subst ja;exact λn hn=>⟨xR n hn,λYA=>Nat.lt_of_not_le λhle=>qf n hn hle YA⟩
   have fin:∀m,(m=0\/∃j,m=j+1/\j∈Zc X ops 0 ops.toList)->m<=i->(∀k∈Zc X ops 0 ops.toList,k<i->k<m) ->
     TG ops s.next i m tr (Up X 0 ops.toList) (WI tr m)=WI tr i:=λm hm uD hwm =>
    Bn ht k1 XP hi uD (λk ok h1 h2 agm hc=>by
     have:=hwm k ((LN k).2 ⟨ok,agm,hc⟩) h2;omega) hab (λk h1 h2=>D_ m hm k h1 h2)
   cases q with
   |zero =>
    refine⟨0,by simp[Mu],fin 0 (.inl rfl) (apW _) λk qQ G'=>?_⟩;obtain⟨n,hn,rfl⟩:=aqd.1 qQ;have:=(Lh n hn).2 G';omega
   |succ q =>
    have hqn:q<(Zc X ops 0 ops.toList).length:=J;have hqi:=(Lh q hqn).1 J;refine⟨(Zc X ops 0 ops.toList)[q]+1,?_,fin _ (.inr ⟨_,rfl,adm _⟩) J λk qQ G'=>?_⟩
    ·rw[List.drop_take];rw[show q+1+1-(q+1)=1 by omega,aq5,aea (by simpa using hqn)];simp
    ·obtain⟨n,hn,rfl⟩:=aqd.1 qQ;have hnq:=(Lh n hn).2 G';by_cases e:n=q
     ·subst e;omega
     ·have:=F4 n q hn hqn J;omega
  refine⟨λhk=>?_,λhk=>?_⟩
  ·obtain⟨v,hv⟩:=uE (by rw[hk];simp);obtain⟨m,ux,hm2⟩:=Fx (.inl hk);refine⟨v,_,hv,?_⟩;rw[ux];simp only[WB,hm2,hv,Pv,Bool.and_self]
  ·obtain⟨v,hv⟩:=uE (by rw[hk];simp);obtain⟨m,ux,hm2⟩:=Fx (.inr hk);obtain⟨_,c,vs,us,e1,e2,e3,_⟩:=CL hk hv;refine⟨c,vs,us,e1,e2,e3,?_⟩;rw[ux];simp only[SP,hm2,e3,Wu,Bool.and_self]
 rw[Nb hlr];simp only[NC,Je,hnA,Bool.and_self,if_true];exact g2
def Lg {b:Env->St->Fl}{r:Out×Env×St}:∀(n:Nat) (e:Env) (s:St),SK b n e s=some r->∀m,n<=m->SK b m e s=some r
 |0,e,s,h,m,_=>by simp[SK] at h
 |n+1,e,s,h,m,hm=>by
  obtain⟨k,rfl⟩:∃k,m=k+1:=⟨m-1,J⟩;simp only[SK] at h ⊢
  split at h
  ·exact Lg n _ _ h k J
  ·exact h
def TW {b:Env->St->Fl}{r:Out×Env×St}:LZ b e s=some r<->∃n,SK b n e s=some r:=by
 unfold LZ
 constructor
 ·intro h
  split at h
  ·rename_i hx
   cases h
   exact Classical.choose_spec hx
  ·cases h
 ·rintro⟨n,hn⟩;have hx:∃r n,SK b n e s=some r:=⟨r,n,hn⟩;rw[dif_pos hx];obtain⟨n',uu⟩:=Classical.choose_spec hx;have h1:=Lg n e s hn (max n n') (Nat.le_max_left ..);have h2:=Lg n' e s uu (max n n') (Nat.le_max_right ..);rw[h1] at h2;exact congrArg some (aqb h2).symm
def dC (b:Env->St->Fl)(e:Env)(s:St):LZ b e s=match b e s with
  |some (.norm,e,s)=>LZ b e s
  |r=>r:=by
 cases hb:b e s with
 |none =>
  cases h:LZ b e s with
  |none=>rfl
  |some r =>
   obtain⟨n,hn⟩:=TW.1 h
   cases n with
   |zero=>simp[SK] at hn
   |succ n=>simp only[SK,hb] at hn;cases hn
 |some x =>
  obtain⟨o,e1,s1⟩:=x
  cases o with
  |norm =>
   simp only
   cases h:LZ b e1 s1 with
   |some r =>
    obtain⟨n,hn⟩:=TW.1 h;exact TW.2 ⟨n+1,by simp only[SK,hb];exact hn⟩
   |none =>
    cases h':LZ b e s with
    |none=>rfl
    |some r =>
     obtain⟨n,hn⟩:=TW.1 h'
     cases n with
     |zero=>simp[SK] at hn
     |succ n =>
      simp only[SK,hb] at hn;rw[TW.2 ⟨n,hn⟩] at h;cases h
  |exit i=>exact TW.2 ⟨1,by simp only[SK,hb]⟩
  |ret=>exact TW.2 ⟨1,by simp only[SK,hb]⟩
def jW:∀(c:Code) (e:Env) (s:St) (r:Out×Env×St),den X (rc X c) e s=some r->X0 X c e s=some r:=by
 intro c
 induction c with
 |skip=>intro e s r h;simp only[rc,den] at h;rw[Vb];exact h
 |label l=>intro e s r h;simp only[rc,den] at h;rw[Vb];exact h
 |exit i=>intro e s r h;simp only[rc,den] at h;rw[Vb];exact h
 |ret=>intro e s r h;simp only[rc,den] at h;rw[Vb];exact h
 |region id ops d =>
  intro e s r h;simp only[rc] at h
  split at h
  ·rename_i hd
   split at h
   ·rename_i hc;simp only[ahe] at hc
    split at h
    ·rename_i l hl;simp only[den] at h
     split at h
     ·rename_i hn
      split at h
      ·rename_i e1 s1 h1
       cases h
       rw[Vb];simp only[WO,hd,if_true,af hl hc.1 hc.2 hn h1]
      ·cases h
     ·cases h
    ·exact h
   ·exact h
  ·rename_i hd
   split at h
   ·rename_i l hl;simp only[den] at h
    split at h
    ·rename_i e1 s1 h1
     cases h
     rw[Vb];simp only[WO,O3 hd,Iu _ _ _ _ _ hl h1]
    ·cases h
   ·exact h
 |seq a b iha ihb =>
  intro e s r h;simp only[rc,den] at h;rw[Vb];simp only[WO]
  split at h
  ·rename_i e1 s1 h1;rw[iha _ _ _ h1];exact ihb _ _ _ h
  ·rename_i ZB;rw[iha _ _ _ h];obtain⟨o,e1,s1⟩:=r
   cases o with
   |norm=>exact absurd h (ZB _ _)
   |_=>rfl
 |cond c a b iha ihb =>
  intro e s r h;simp only[rc] at h
  split at h
  ·rename_i x hx;simp only[den] at h;rw[Vb];simp only[WO,YR hx e]
   split at h
   ·rename_i p hp;rw[hp]
    cases p
    ·exact ihb _ _ _ h
    ·exact iha _ _ _ h
   ·cases h
  ·exact h
 |block id b ih =>
  intro e s r h;simp only[rc,den] at h;rw[Vb];simp only[WO]
  split at h
  ·rename_i i e1 s1 h1;rw[ih _ _ _ h1];exact h
  ·rename_i ZB;rw[ih _ _ _ h];obtain⟨o,e1,s1⟩:=r
   cases o with
   |exit i=>exact absurd h (ZB _ _ _)
   |_=>rfl
 |loop b ih =>
  intro e s r h;simp only[rc,den] at h;obtain⟨n,hn⟩:=TW.1 h;clear h
  induction n generalizing e s with
  |zero=>simp[SK] at hn
  |succ n ihn =>
   simp only[SK] at hn;rw[Vb];simp only[WO]
   split at hn
   ·rename_i e1 s1 h1;rw[ih _ _ _ h1];exact ihn _ _ hn
   ·rename_i ZB;rw[ih _ _ _ hn];obtain⟨o,e1,s1⟩:=r
    cases o with
    |norm=>exact absurd hn (ZB _ _)
    |_=>rfl
 |scope b ih =>
  intro e s r h;simp only[rc] at h;rw[Vb];simp only[WO];exact ih _ _ _ h
 |rangeFunc f ps a b _ _=>intro e s r h;simpa only[rc,den] using h
 |goto l=>intro e s r h;simpa only[rc,den] using h
 |refuse w=>intro e s r h;simpa only[rc,den] using h
end
end Go.Am
