/- A part of the proof of a statement of this seat: the machine on which the program is read, and what it computes; for every input. -/
import Derived.Test.YtkmaeondbkpajaaGreatDoorN34
import Derived.Test.YtkmaeondbkpajaaGreatDoorN02
import Derived.Test.YtkmaeondbkpajaaGreatDoorTie
import Derived.Test.YtkmaeondbkpajaaGreatDoorCards
import Derived.ProofKit
import Derived.OpenShut
import Derived.LaidMore
import Derived.LaidLaws
import Derived.Lay
import Derived.Below
import Derived.Shelf.Vars
import Derived.SevenTiedAt
import Derived.Stop.Joined
set_option linter.all false
namespace Go.Am
open Go Go.Proofs Go.Proofs.YtkmaeondbkpajaaGreatDoor Go.RowKit
set_option maxRecDepth 100000
def FL:List (String×DataW Unit):=Rows.triggerMinimalRow.laid
def Dn:List Int:=[1,10,100,1000,10000,100000,1000000,10000000,100000000,1000000000,10000000000,100000000000,1000000000000,10000000000000,100000000000000,1000000000000000,10000000000000000,100000000000000000,1000000000000000000,10000000000000000000]
structure Iy (W:World)(m:Int):Prop where
 g0:W.heap[0]? = some (.cells #[.int .i64 m] 3)
 g1:∃cs:Array Value,W.heap[1]? = some (.cells cs 313)/\cs.toList=Dn.map (.int .u64 ·)
 g2:∃a s,W.heap[2]? = some (.cells #[.iface 332 (.pointer (some a))] 153)/\W.cell? a=some (.string s)/\s.data.toList=[105,110,118,97,108,105,100,32,115,121,110,116,97,120]
 g3:∃a s,W.heap[3]? = some (.cells #[.iface 332 (.pointer (some a))] 153)/\W.cell? a=some (.string s)/\s.data.toList=[118,97,108,117,101,32,111,117,116,32,111,102,32,114,97,110,103,101]
 size:8<=W.heap.size
theorem Fv {W:World}(Qy:W.ShapedOpen Tryz.prog){g t n:Nat}(hg:g<Tryz.prog.globals.size)(h0:(((begin Tryz.prog (fun _ _=>0) default).world.heap[g]?).bind Obj.row?).map (fun x=>(x.1.size,x.2))=some (n,t)):∃cs,W.heap[g]? = some (.cells cs t)/\cs.size=n:=by
 obtain⟨⟨z,t'⟩,h1,h2⟩:=afL.1 h0
 cases h2
 obtain⟨cs,h3,h4,_⟩:=Qy.1 g z _ hg h1;exact⟨cs,h3,h4⟩
noncomputable def dj:String:=(Tryz.prog.typeName? 2 334).getD default
theorem wF (nm:String)(h0:Tryz.prog.typeName? 3 332=some nm)(u:TypeId)(h:Tryz.prog.typeName? 3 u=some nm):u=332:=by
 refine typeName_ptr_named (P:=Tryz.prog) (nm:=dj) (by kernel_rfl) (by kernel_rfl) (by decide +kernel) u ?_;rw[h,<-h0]
 kernel_rfl
theorem KB {n:String}{g k:Nat}(h:Tryz.prog.globalNamed n=some g)(h':Tryz.prog.globalNamed n=some k):k=g:=Option.some.inj (h'.symm.trans h)
theorem wE:Tryz.prog.cellsOf 334=1:=by kernel_rfl
theorem kM:Tryz.prog.cellsOf 280=1:=by kernel_rfl
theorem kL:Tryz.prog.cellsOf 313=20:=by kernel_rfl
theorem kK {H:Type}{enc:TypeId×Value->H}{W:World}{base:Nat}{sp:Nat->Bool}{held:Bool}{fuel:Nat}{cs:List Value}{zs:List Int}{p:List MemPlace}
  (h:DataW.trod enc Tryz.prog W base sp held fuel 313 cs=some (.agg (zs.map fun z=>.lit (.int .u64 z)),p)):cs=zs.map (.int .u64 ·):=by
 obtain⟨xs,m,_,ex,hlen,hl,sf⟩:=DataW.trod_array Tryz.underlying313 h;rw[kL] at hlen;have e1:(zs.map fun z=>(DataW.lit (.int .u64 z):DataW H))=xs.map (·.1):=DataW.agg.inj (Prod.mk.inj ex).1;have di:zs.length=xs.length:=by have:=congrArg List.length e1;simpa using this
 refine List.ext_getElem? fun i=>?_
 by_cases hi:i<20
 ·have hE:=sf i hi;rw[kM,ae3,aaa (by omega)] at hE;obtain⟨z,e2,e3,_⟩:=DataW.trod_int Tryz.underlying280 hE;have e4:(zs.map fun z=>(DataW.lit (.int .u64 z):DataW H))[i]? = (xs.map (·.1))[i]? := by rw[e1]
  rw[afs,afs,aaa (by omega:i<xs.length),e3] at e4;obtain⟨z',nP,hzz⟩:=afL.1 e4
  cases hzz
  rw[afs,nP];have h0:((cs.drop i).take 1)[0]? = some (.int .u64 z):=by rw[e2];rfl
  simpa using h0
 ·rw[afz (by omega),afz (by rw[ae7,di];have:xs.length=20:=hl;omega)]
theorem wW {W:World}(hL:laidMetH Tryz.prog FL W)(Qy:W.ShapedOpen Tryz.prog):∃m,Iy W m:=by
 rw[MakeChecks.laidMetH_plain _ _ _ (by kernel_rfl)] at hL;obtain⟨ps,⟨_,_,_,_,_,_,_,_,_,_,⟨g7,_,cs7,_,_,_,hg7,_,hv7,_,⟨g1,t1,cs1,f1,p1,q1,wD,f_,Ix,hd1,⟨_,_,_,_,_,_,_,_,_,_,⟨g3,t3,cs3,f3,p3,q3,hg3,ht3,qM,hd3,⟨g2,t2,cs2,f2,p2,q2,r_,ht2,LR,rH,_,e2⟩,e3⟩,e4⟩,e1⟩,e5⟩,e6⟩,_,Yv⟩:=hL;obtain rfl:=KB wD (k:=1) (by kernel_rfl);obtain rfl:=KB hg3 (k:=3) (by kernel_rfl);obtain rfl:=KB r_ (k:=2) (by kernel_rfl);obtain rfl:=Option.some.inj ((show (Tryz.prog.globals[1]?).map (·.type)=some 313 by kernel_rfl).symm.trans f_);obtain rfl:=Option.some.inj ((show (Tryz.prog.globals[3]?).map (·.type)=some 153 by kernel_rfl).symm.trans ht3);obtain rfl:=Option.some.inj ((show (Tryz.prog.globals[2]?).map (·.type)=some 153 by kernel_rfl).symm.trans ht2);obtain⟨c0,k0,z0⟩:=Fv (g:=0) (t:=3) (n:=1) Qy (of_decide_eq_true (by kernel_rfl)) (by kernel_rfl);obtain⟨c1,k1,z1⟩:=Fv (g:=1) (t:=313) (n:=20) Qy (of_decide_eq_true (by kernel_rfl)) (by kernel_rfl);obtain⟨c2,k2,z2⟩:=Fv (g:=2) (t:=153) (n:=1) Qy (of_decide_eq_true (by kernel_rfl)) (by kernel_rfl);obtain⟨c3,k3,z3⟩:=Fv (g:=3) (t:=153) (n:=1) Qy (of_decide_eq_true (by kernel_rfl)) (by kernel_rfl);obtain⟨c7,k7,z7⟩:=Fv (g:=7) (t:=340) (n:=32) Qy (of_decide_eq_true (by kernel_rfl)) (by kernel_rfl);obtain⟨m,hm⟩:=cell_of_shapedOpen_int (P:=Tryz.prog) (g:=0) (t:=3) (zero:=#[.int .i64 0]) Qy (of_decide_eq_true (by kernel_rfl)) (by kernel_rfl) rfl (by kernel_rfl) (by kernel_rfl) Tryz.underlying3;have same:∀{g:Nat} {c cs:Array Value} {t:TypeId},W.heap[g]? = some (.cells c t)->(∀i,W.cell? ⟨g,i,none⟩=cs[i]?)->c=cs:=fun {g c cs t} hk hc=>by
  refine Array.ext_getElem? fun i=>?_
  rw[<-hc i];simp[World.cell?,hk]
 refine⟨m,?_,⟨c1,k1,?_⟩,?_,?_,?_⟩
 ·have:c0=#[.int .i64 m]:=by
   have h0:c0[0]? = some (.int .i64 m):=by rw[<-hm];simp[World.cell?,k0]
   match c0,z0,h0 with
   |⟨[x]⟩,_,h0=>simp at h0;rw[h0]
  rw[k0,this]
 ·have:=same k1 (World.var?_cell wD Ix);subst this;exact kK (zs:=Dn) hd1
 ·have:=same k2 (World.var?_cell r_ LR);subst this;obtain⟨a,s,Mx,xL,hs,_,_⟩:=errorString_of_trod Tryz.underlying153 (wF _ (by kernel_rfl)) Tryz.underlying332 Tryz.underlying334 rfl rfl Tryz.underlying9 wE dh rH (fun u v he=>by
   refine (Yv 2 0 ?_).2 u v ?_
   ·rw[e6,e5,e1,e4,e3,e2];have VU:MemPlace.cell 2 0∈MemPlace.row ⟨2,0,none⟩ c2.size:=by
     rw[z2];exact afe.2 ⟨0,by simp,rfl⟩
    simp only[afb];simp[VU]
   ·have:c2[0]? = some (.iface u v):=by
     rw[<-afj,he];rfl
    simpa[World.cell?,k2] using this)
  have:c2=#[.iface 332 (.pointer (some a))]:=Array.eq_one_of_toList Mx;subst this;exact⟨a,s,k2,xL,hs⟩
 ·have:=same k3 (World.var?_cell hg3 qM);subst this;obtain⟨a,s,Mx,xL,hs,_,_⟩:=errorString_of_trod Tryz.underlying153 (wF _ (by kernel_rfl)) Tryz.underlying332 Tryz.underlying334 rfl rfl Tryz.underlying9 wE dh hd3 (fun u v he=>by
   refine (Yv 3 0 ?_).2 u v ?_
   ·rw[e6,e5,e1,e4,e3];have VU:MemPlace.cell 3 0∈MemPlace.row ⟨3,0,none⟩ c3.size:=by
     rw[z3];exact afe.2 ⟨0,by simp,rfl⟩
    simp only[afb];simp[VU]
   ·have:c3[0]? = some (.iface u v):=by
     rw[<-afj,he];rfl
    simpa[World.cell?,k3] using this)
  have:c3=#[.iface 332 (.pointer (some a))]:=Array.eq_one_of_toList Mx;subst this;exact⟨a,s,k3,xL,hs⟩
 ·have:=(adm.1 k7).1;omega
end Go.Am
namespace Go.Am
open Go Go.Proofs Go.Proofs.YtkmaeondbkpajaaGreatDoor Go.RowKit
set_option maxRecDepth 100000
def bsize (W:World)(i:Nat):Nat:=match W.heap[i]? with
 |some (.cells cc _ _)=>cc.size
 |_=>0
def Wg (W:World):Sg:={ m:=fun i=>if i<8 then some ⟨i,0,bsize W i⟩ else none,fz:=fun b=>W.heap[b]? }
theorem Ai [Stat] {σ:Sg}{W:World}{i:Nat}{c:List AV}{cc:Array Value}{t:TypeId}(hr:Z5 σ c cc.toList)(hk:W.heap[i]? = some (.cells cc t)):BR σ ⟨i,0,bsize W i⟩ (.cells c t true 0 0) (.cells cc t):=by
 have hs:bsize W i=cc.size:=by unfold bsize;rw[hk]
 have hl:c.length=cc.size:=by rw[hr.length];exact afd
 refine⟨by simp only[hs],by simp only[hs,hl];omega,rfl,fun j a ha=>?_,fun h=>(by cases h),fun _=>⟨rfl,by simp only[hs,hl]⟩⟩;obtain⟨v,h1,h2⟩:=hr.get j a ha;refine⟨v,?_,h2⟩;rw[ad4,<-afj];exact h1
theorem JF {σ:Sg}{k:IntKind}:∀zs:List Int,Z5 σ (zs.map (AV.int k ·)) (zs.map (Value.int k ·))
 |[]=>rfl
 |z::zs=>⟨_,_,rfl,rfl,JF zs⟩
theorem D5 {W:World}{a:Addr}{s:ByteArray}{l:List UInt8}(h:W.cell? a=some (.string s))(hs:s.data.toList=l):Z6 (Wg W).bare (.iface 332 (.fp [.str l] 0)) (.iface 332 (.pointer (some a))):=by
 obtain⟨h1,cc,e,fz,h2,h3⟩:=QB h;refine⟨_,rfl,a.block,a.off,[.string s],cc,e,fz,?_,h2,⟨_,_,rfl,⟨s,rfl,hs⟩,rfl⟩,fun i u hu=>?_⟩
 ·cases a;simp only at h1;subst h1;rfl
 ·cases i with
  |zero=>cases hu;exact h3
  |succ i=>simp at hu
variable [Z3]
theorem D4 (i:Nat):(YH U).look i=nQ i:=by
 have:(YH U).get i=nQ i:=by rw[HJ,O9]
 unfold St.look;rw[this];unfold nQ
 cases xu i <;> rfl
theorem B3 {W:World}(G:Iy W Z3.val){i:Nat}{b:UK}(h:nQ i=some b):i<4/\b.own=false/\∃o,W.heap[i]? = some o/\BR (Wg W).bare ⟨i,0,bsize W i⟩ b o:=by
 match i,h with
 |0,h=>cases h;exact⟨by omega,rfl,_,G.g0,Ai ⟨_,_,rfl,rfl,rfl⟩ G.g0⟩
 |1,h =>
  cases h
  obtain⟨cs,h1,h2⟩:=G.g1;exact⟨by omega,rfl,_,h1,Ai (by rw[h2];exact JF Dn) h1⟩
 |2,h =>
  cases h
  obtain⟨a,s,h1,h2,h3⟩:=G.g2;exact⟨by omega,rfl,_,h1,Ai ⟨_,_,rfl,D5 h2 h3,rfl⟩ h1⟩
 |3,h =>
  cases h
  obtain⟨a,s,h1,h2,h3⟩:=G.g3;exact⟨by omega,rfl,_,h1,Ai ⟨_,_,rfl,D5 h2 h3,rfl⟩ h1⟩
 |n+4,h=>cases h
theorem La {W:World}{i:Nat}{p:Pl}(h:Wg W i=some p):i<8/\p=⟨i,0,bsize W i⟩:=by
 have h:(if i<8 then some (⟨i,0,bsize W i⟩:Pl) else none)=some p:=h
 split at h
 ·rename_i hi
  cases h;exact⟨hi,rfl⟩
 ·cases h
theorem Ah {W:World}(G:Iy W Z3.val)(c:Nat):¬SO (Wg W) (YH U) c:=by
 rintro⟨i,p,b,_,h2,h3,_⟩;rw[D4] at h2;rw[(B3 G h2).2.1] at h3
 cases h3
theorem nh {W:World}(G:Iy W Z3.val):HR (Wg W) (YH U) W where
 lt i p h:=by
  obtain⟨hi,rfl⟩:=La h;have:=G.size;show i<_;omega
 JA i p b h hb:=by
  obtain⟨hi,rfl⟩:=La h;rw[D4] at hb;obtain⟨_,_,o,h1,h2⟩:=B3 G hb;exact⟨o,h1,h2.mono (Sg.VM _)⟩
 inj i j p q b c h1 h2 _ _ h5:=by
  obtain⟨_,rfl⟩:=La h1;obtain⟨_,rfl⟩:=La h2;exact h5
 fz c o h:=⟨h,Ah G c⟩
theorem gk {W:World}:Va (Wg W) (YH U):=fun i hi=>by
 rw[K6,K5] at hi;show (if i<8 then _ else none)=none;rw[if_neg (by omega)]
theorem abb {W:World}(G:Iy W Z3.val):XX U (Wg W):=fun g hg=>by
 rw[K5] at hg;refine⟨bsize W g,if_pos hg,fun b hb=>?_⟩;rw[O9] at hb;obtain⟨_,h1,o,h2,h3⟩:=B3 G hb;exact⟨h1,o,h2,h3⟩
theorem wV {W:World}(G:Iy W Z3.val){f:FuncId}(OZ:U.ext f=none){args:List AV}{us:Array Value}{v:AV}(hv:Z5 (Wg W).bare args us.toList)(h:Zv U f args=some v) :
  Calls Tryz.prog f us W fun e W'=>∃u Y',e=.returned u/\Z6 Y' v u/\Below W.heap.size W W':=by
 have h1:=G_ h (YH U);obtain⟨n,h2⟩:=ym h1;refine (lR jV OZ h2 (nh G) gk (abb G) (hv.mono (Sg.VM _) _ _)).mono ?_;rintro e W' ⟨u,Y',he,hr,hg⟩;exact⟨u,Y',he,hr,hg.ext.os,hg.ext.tape,hg.ext.output,hg.ext.size,fun k hk=>hg.ext.keep k hk (Ah G k)⟩
end Go.Am
