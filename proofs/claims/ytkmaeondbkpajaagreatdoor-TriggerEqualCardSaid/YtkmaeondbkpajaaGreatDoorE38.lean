/- A part of the proof. -/
import Derived.Test.YtkmaeondbkpajaaGreatDoorE37
import Derived.Test.YtkmaeondbkpajaaGreatDoorTie
import Derived.Test.YtkmaeondbkpajaaGreatDoorCards
import Derived.ProofKit
import Derived.OpenShut
import Derived.LaidMore
import Derived.LaidLaws
import Derived.Lay
import Derived.Below
import Derived.Shelf.Vars
import Derived.SevenTiedAt
import Derived.Stop.Joined
set_option linter.all false
set_option maxRecDepth 100000
namespace Go.Am
open Go Go.Proofs Go.Proofs.YtkmaeondbkpajaaGreatDoor Go.RowKit
def xC:List (String×DataW Unit):=Rows.triggerEqualRow.laid
def sN:List Int:=[1,10,100,1000,10000,100000,1000000,10000000,100000000,1000000000,10000000000,100000000000,1000000000000,10000000000000,100000000000000,1000000000000000,10000000000000000,100000000000000000,1000000000000000000,10000000000000000000]
structure B9 (W:World)(m:Int):Prop where
 g0:W.heap[0]? = some (.cells #[.int .i64 m] 3)
 g1:∃cs:Array Value,W.heap[1]? = some (.cells cs 313)/\cs.toList=sN.map (.int .u64 ·)
 g2:∃a s,W.heap[2]? = some (.cells #[.iface 332 (.pointer (some a))] 153)/\W.cell? a=some (.string s)/\s.data.toList=[105,110,118,97,108,105,100,32,115,121,110,116,97,120]
 g3:∃a s,W.heap[3]? = some (.cells #[.iface 332 (.pointer (some a))] 153)/\W.cell? a=some (.string s)/\s.data.toList=[118,97,108,117,101,32,111,117,116,32,111,102,32,114,97,110,103,101]
 size:8<=W.heap.size
def xB {W:World}(SI:W.ShapedOpen Tryz.prog){g t n:Nat}(hg:g<Tryz.prog.globals.size)(h0:(((begin Tryz.prog (λ_ _=>0) default).world.heap[g]?).bind Obj.row?).map (λx=>(x.1.size,x.2))=some (n,t)):∃cs,W.heap[g]? = some (.cells cs t)/\cs.size=n:=by
 obtain⟨⟨z,t'⟩,h1,h2⟩:=aqU.1 h0
 cases h2
 obtain⟨cs,h3,h4,_⟩:=SI.1 g z _ hg h1;exact⟨cs,h3,h4⟩
noncomputable def ahJ:String:=(Tryz.prog.typeName? 2 334).getD default
def fD (nm:String)(h0:Tryz.prog.typeName? 3 332=some nm)(u:TypeId)(h:Tryz.prog.typeName? 3 u=some nm):u=332:=by
 refine typeName_ptr_named (P:=Tryz.prog) (nm:=ahJ) It It (by decide +kernel) u ?_;rw[h,<-h0]
 kernel_rfl
def Fs {n:String}{g k:Nat}(h:Tryz.prog.globalNamed n=some g)(h':Tryz.prog.globalNamed n=some k):k=g:=aqb (h'.symm.trans h)
def fC:Tryz.prog.cellsOf 334=1:=It
def aer:Tryz.prog.cellsOf 280=1:=It
def aes:Tryz.prog.cellsOf 313=20:=It
def aet {H:Type}{enc:TypeId×Value->H}{W:World}{base:Nat}{sp:Nat->Bool}{held:Bool}{fuel:Nat}{cs:List Value}{zs:List Int}{p:List MemPlace}
  (h:DataW.trod enc Tryz.prog W base sp held fuel 313 cs=some (.agg (zs.map λz=>.lit (.int .u64 z)),p)):cs=zs.map (.int .u64 ·):=by
 obtain⟨xs,m,_,ex,hlen,hl,Dn⟩:=DataW.trod_array Tryz.underlying313 h;rw[aes] at hlen;have e1:(zs.map λz=>(DataW.lit (.int .u64 z):DataW H))=xs.map (·.1):=DataW.agg.inj (Prod.mk.inj ex).1;have hzl:zs.length=xs.length:=by have:=congrArg List.length e1;simpa using this
 refine List.ext_getElem? λi=>?_
 by_cases hi:i<20
 ·have hE:=Dn i hi;rw[aer,ap3,aaa J] at hE;obtain⟨z,e2,e3,_⟩:=DataW.trod_int Tryz.underlying280 hE;have e4:(zs.map λz=>(DataW.lit (.int .u64 z):DataW H))[i]? = (xs.map (·.1))[i]? := by rw[e1]
  rw[aqc,aqc,aaa (by omega:i<xs.length),e3] at e4;obtain⟨z',uJ,hzz⟩:=aqU.1 e4
  cases hzz
  rw[aqc,uJ];have h0:((cs.drop i).take 1)[0]? = some (.int .u64 z):=by rw[e2];rfl
  simpa using h0
 ·rw[aqA J,aqA (by rw[ala,hzl];have:xs.length=20:=hl;omega)]
def fB {W:World}(hL:laidMetH Tryz.prog xC W)(SI:W.ShapedOpen Tryz.prog):∃m,B9 W m:=by
 rw[MakeChecks.laidMetH_plain _ _ _ It] at hL;obtain⟨ps,⟨_,_,_,_,_,_,_,_,_,_,⟨g7,_,cs7,_,_,_,hg7,_,hv7,_,⟨g1,t1,cs1,f1,p1,q1,l9,ht1,NO,hd1,⟨_,_,_,_,_,_,_,_,_,_,⟨g3,t3,cs3,f3,p3,q3,hg3,ht3,hv3,hd3,⟨g2,t2,cs2,f2,p2,q2,hg2,ht2,F7,mL,_,e2⟩,e3⟩,e4⟩,e1⟩,e5⟩,e6⟩,_,XP⟩:=hL;obtain rfl:=Fs l9 (k:=1) It;obtain rfl:=Fs hg3 (k:=3) It;obtain rfl:=Fs hg2 (k:=2) It;obtain rfl:=aqb ((show (Tryz.prog.globals[1]?).map (·.type)=some 313 by kernel_rfl).symm.trans ht1);obtain rfl:=aqb ((show (Tryz.prog.globals[3]?).map (·.type)=some 153 by kernel_rfl).symm.trans ht3);obtain rfl:=aqb ((show (Tryz.prog.globals[2]?).map (·.type)=some 153 by kernel_rfl).symm.trans ht2);obtain⟨c0,k0,z0⟩:=xB (g:=0) (t:=3) (n:=1) SI (of_decide_eq_true It) It;obtain⟨c1,k1,z1⟩:=xB (g:=1) (t:=313) (n:=20) SI (of_decide_eq_true It) It;obtain⟨c2,k2,z2⟩:=xB (g:=2) (t:=153) (n:=1) SI (of_decide_eq_true It) It;obtain⟨c3,k3,z3⟩:=xB (g:=3) (t:=153) (n:=1) SI (of_decide_eq_true It) It;obtain⟨c7,k7,z7⟩:=xB (g:=7) (t:=340) (n:=32) SI (of_decide_eq_true It) It;obtain⟨m,hm⟩:=cell_of_shapedOpen_int (P:=Tryz.prog) (g:=0) (t:=3) (zero:=#[.int .i64 0]) SI (of_decide_eq_true It) It rfl It It Tryz.underlying3;have same:∀{g:Nat} {c cs:Array Value} {t:TypeId},W.heap[g]? = some (.cells c t)->(∀i,W.cell? ⟨g,i,none⟩=cs[i]?)->c=cs:=λ{g c cs t} hk hc=>by
  refine Array.ext_getElem? λi=>?_
  rw[<-hc i];simp[World.cell?,hk]
 refine⟨m,?_,⟨c1,k1,?_⟩,?_,?_,?_⟩
 ·have:c0=#[.int .i64 m]:=by
   have h0:c0[0]? = some (.int .i64 m):=by rw[<-hm];simp[World.cell?,k0]
   match c0,z0,h0 with
   |⟨[x]⟩,_,h0=>simp at h0;rw[h0]
  rw[k0,this]
 ·have:=same k1 (World.var?_cell l9 NO);subst this;exact aet (zs:=sN) hd1
 ·have:=same k2 (World.var?_cell hg2 F7);subst this;obtain⟨a,s,FO,xA,hs,_,_⟩:=errorString_of_trod Tryz.underlying153 (fD _ It) Tryz.underlying332 Tryz.underlying334 rfl rfl Tryz.underlying9 fC aeu mL (λu v he=>by
   refine (XP 2 0 ?_).2 u v ?_
   ·rw[e6,e5,e1,e4,e3,e2];have SE:MemPlace.cell 2 0∈MemPlace.row ⟨2,0,none⟩ c2.size:=by
     rw[z2];exact ap0.2 ⟨0,by simp,rfl⟩
    simp only[aqm];simp[SE]
   ·have:c2[0]? = some (.iface u v):=by
     rw[<-aqq,he];rfl
    simpa[World.cell?,k2] using this)
  have:c2=#[.iface 332 (.pointer (some a))]:=Array.eq_one_of_toList FO;subst this;exact⟨a,s,k2,xA,hs⟩
 ·have:=same k3 (World.var?_cell hg3 hv3);subst this;obtain⟨a,s,FO,xA,hs,_,_⟩:=errorString_of_trod Tryz.underlying153 (fD _ It) Tryz.underlying332 Tryz.underlying334 rfl rfl Tryz.underlying9 fC aeu hd3 (λu v he=>by
   refine (XP 3 0 ?_).2 u v ?_
   ·rw[e6,e5,e1,e4,e3];have SE:MemPlace.cell 3 0∈MemPlace.row ⟨3,0,none⟩ c3.size:=by
     rw[z3];exact ap0.2 ⟨0,by simp,rfl⟩
    simp only[aqm];simp[SE]
   ·have:c3[0]? = some (.iface u v):=by
     rw[<-aqq,he];rfl
    simpa[World.cell?,k3] using this)
  have:c3=#[.iface 332 (.pointer (some a))]:=Array.eq_one_of_toList FO;subst this;exact⟨a,s,k3,xA,hs⟩
 ·have:=(apV.1 k7).1;omega
end Go.Am
namespace Go.Am
open Go Go.Proofs Go.Proofs.YtkmaeondbkpajaaGreatDoor Go.RowKit
variable {i:Nat}
def bsize (W:World)(i:Nat):Nat:=match W.heap[i]? with
 |some (.cells cc _ _)=>cc.size
 |_=>0
def Ub (W:World):Sg:={ m:=λi=>if i<8 then some ⟨i,0,bsize W i⟩ else none,fz:=λb=>W.heap[b]? }
def nI [Stat] {σ:Sg}{W:World}{c:List AV}{cc:Array Value}{t:TypeId}(hr:ZZ σ c cc.toList)(hk:W.heap[i]? = some (.cells cc t)):BR σ ⟨i,0,bsize W i⟩ (.cells c t true 0 0) (.cells cc t):=by
 have hs:bsize W i=cc.size:=by unfold bsize;rw[hk]
 have hl:c.length=cc.size:=by rw[hr.length];exact aqj
 refine⟨by simp only[hs],by simp only[hs,hl];omega,rfl,λj a ha=>?_,λh=>(by cases h),λ_=>⟨rfl,by simp only[hs,hl]⟩⟩;obtain⟨v,h1,h2⟩:=hr.get j a ha;refine⟨v,?_,h2⟩;rw[ap4,<-aqq];exact h1
def D1 {σ:Sg}{k:IntKind}:∀zs:List Int,ZZ σ (zs.map (AV.int k ·)) (zs.map (Value.int k ·))
 |[]=>rfl
 |z::zs=>⟨_,_,rfl,rfl,D1 zs⟩
def uN {W:World}{a:Addr}{s:ByteArray}{l:List UInt8}(h:W.cell? a=some (.string s))(hs:s.data.toList=l):ZY (Ub W).bare (.iface 332 (.fp [.str l] 0)) (.iface 332 (.pointer (some a))):=by
 obtain⟨h1,cc,e,fz,h2,h3⟩:=MV h;refine⟨_,rfl,a.block,a.off,[.string s],cc,e,fz,?_,h2,⟨_,_,rfl,⟨s,rfl,hs⟩,rfl⟩,λi u hu=>?_⟩
 ·cases a;simp only at h1;subst h1;rfl
 ·cases i with
  |zero=>cases hu;exact h3
  |succ i=>simp at hu
variable [Z8]
def uM (i:Nat):(Ym U).look i=gbU i:=by
 have:(Ym U).get i=gbU i:=by rw[Ba,KZ]
 unfold St.look;rw[this];unfold gbU
 cases ik i <;> rfl
def qH {W:World}(G:B9 W Z8.val){b:Uf}(h:gbU i=some b):i<4/\b.own=false/\∃o,W.heap[i]? = some o/\BR (Ub W).bare ⟨i,0,bsize W i⟩ b o:=by
 match i,h with
 |0,h=>cases h;exact⟨J,rfl,_,G.g0,nI ⟨_,_,rfl,rfl,rfl⟩ G.g0⟩
 |1,h =>
  cases h
  obtain⟨cs,h1,h2⟩:=G.g1;exact⟨J,rfl,_,h1,nI (by rw[h2];exact D1 sN) h1⟩
 |2,h =>
  cases h
  obtain⟨a,s,h1,h2,h3⟩:=G.g2;exact⟨J,rfl,_,h1,nI ⟨_,_,rfl,uN h2 h3,rfl⟩ h1⟩
 |3,h =>
  cases h
  obtain⟨a,s,h1,h2,h3⟩:=G.g3;exact⟨J,rfl,_,h1,nI ⟨_,_,rfl,uN h2 h3,rfl⟩ h1⟩
 |n+4,h=>cases h
def Gs {W:World}{p:Pl}(h:Ub W i=some p):i<8/\p=⟨i,0,bsize W i⟩:=by
 have h:(if i<8 then some (⟨i,0,bsize W i⟩:Pl) else none)=some p:=h
 split at h
 ·rename_i hi
  cases h;exact⟨hi,rfl⟩
 ·cases h
def nH {W:World}(G:B9 W Z8.val)(c:Nat):¬P0 (Ub W) (Ym U) c:=by
 rintro⟨i,p,b,_,h2,h3,_⟩;rw[uM] at h2;rw[(qH G h2).2.1] at h3
 cases h3
def hr0 {W:World}(G:B9 W Z8.val):HR (Ub W) (Ym U) W where
 lt i p h:=by
  obtain⟨hi,rfl⟩:=Gs h;have:=G.size;show i<_;omega
 DS i p b h hb:=by
  obtain⟨hi,rfl⟩:=Gs h;rw[uM] at hb;obtain⟨_,_,o,h1,h2⟩:=qH G hb;exact⟨o,h1,h2.mono (Sg.TM _)⟩
 inj i j p q b c h1 h2 _ _ h5:=by
  obtain⟨_,rfl⟩:=Gs h1;obtain⟨_,rfl⟩:=Gs h2;exact h5
 fz c o h:=⟨h,nH G c⟩
def agA {W:World}:SY (Ub W) (Ym U):=λi hi=>by
 rw[Gf,Ge] at hi;show (if i<8 then _ else none)=none;rw[O3 J]
def akV {W:World}(G:B9 W Z8.val):Wp U (Ub W):=λg hg=>by
 rw[Ge] at hg;refine⟨bsize W g,Of hg,λb hb=>?_⟩;rw[KZ] at hb;obtain⟨_,h1,o,h2,h3⟩:=qH G hb;exact⟨h1,o,h2,h3⟩
def d_ {W:World}(G:B9 W Z8.val){f:FuncId}(KF:U.ext f=none){args:List AV}{us:Array Value}{v:AV}(hv:ZZ (Ub W).bare args us.toList)(h:ZE U f args=some v) :
  Calls Tryz.prog f us W λe W'=>∃u Yj,e=.returned u/\ZY Yj v u/\Below W.heap.size W W':=by
 have h1:=Ai h (Ym U);obtain⟨n,h2⟩:=jC h1;refine (adX aeV KF h2 (hr0 G) agA (akV G) (hv.mono (Sg.TM _) _ _)).mono ?_;rintro e W' ⟨u,Yj,he,hr,hg⟩;exact⟨u,Yj,he,hr,hg.ext.os,hg.ext.tape,hg.ext.output,hg.ext.size,λk hk=>hg.ext.keep k hk (nH G k)⟩
end Go.Am
