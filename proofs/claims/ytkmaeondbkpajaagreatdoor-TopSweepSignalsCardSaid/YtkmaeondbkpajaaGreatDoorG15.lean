/- A part of the proof of a statement of this seat: the machine on which the program is read, and what it computes; for every input. -/
import Derived.Test.YtkmaeondbkpajaaGreatDoorG05
import Derived.Test.YtkmaeondbkpajaaGreatDoorG12
import Derived.Test.YtkmaeondbkpajaaGreatDoorG13
import Derived.Test.YtkmaeondbkpajaaGreatDoorG14
import Derived.Test.YtkmaeondbkpajaaGreatDoorG03
set_option linter.all false
namespace Go.Am
open Go
variable [ZZ]
set_option maxRecDepth 100000
set_option maxHeartbeats 8000000
def Yn (now last:Int)(first:Bool):AV:=.agg [.int .i64 now,.int .i64 last,.bool first]
def XC (n k:Int):Bool:=Zn n k==1
def HQ (n:Int):Prop:=0<=n/\n<65536
theorem aeM (now last:Int)(first:Bool)(k:Int)(h:HQ now)(h2:0<=k)(h3:k<64):Zw U 180 [Yn now last first,.int .i64 k]=some (.bool (XC now k)):=by
 refine ZI ahI (by kernel_rfl) rfl ?_;have:=CT k.toNat h.1;have h4:=h.2;simp only[go_sem,aeN,Yn,Jo _ _ _ _ h2 (show k<=64 by omega),L2 _ _ _ this.1 (by omega)];rfl
theorem aeO (now last:Int)(first:Bool)(k:Int)(h:HQ last)(h2:0<=k)(h3:k<64):Zw U 183 [Yn now last first,.int .i64 k]=some (.bool (XC last k)):=by
 refine ZI ahJ (by kernel_rfl) rfl ?_;have:=CT k.toNat h.1;have h4:=h.2;simp only[go_sem,aeP,Yn,Jo _ _ _ _ h2 (show k<=64 by omega),L2 _ _ _ this.1 (by omega)];rfl
theorem FV (c:UInt8)(l:X6)(h:c.toNat<128):Uq (c::l)=(c.toNat,1):=by
 unfold Uq;simp only[List.getElem?_cons_zero,akk];rw[if_pos h]
theorem qG {e:Env}{s:St}{k:Nat}{b:X6}(h:Env.get e k=.str b):YK U (Yo U) e (.range 9 (.tmp k)) s=some (.ptr s.next 0,s.new (.iter b 0)):=by
 have h9:U.Zj 9=some .string:=by kernel_rfl
 simp only[YK,eval,h,h9]
theorem qF {e:Env}{s:St}{k r pos:Nat}(h:Env.get e k=.ptr r 0)(hs:s.get r=some (.iter [] pos)):YK U (Yo U) e (.next (.tmp k) true) s=some (.XF [.bool false],s):=by
 simp only[YK,eval,h,hs]
theorem qD {e:Env}{s:St}{k r pos:Nat}{c:UInt8}{b:X6}(h:Env.get e k=.ptr r 0)(hs:s.get r=some (.iter (c::b) pos))(hc:c.toNat<128) :
  YK U (Yo U) e (.next (.tmp k) true) s=some (.XF [.bool true,.int .i64 pos,.int .i32 c.toNat],s.put r (.iter b (pos+1))):=by
 simp only[YK,eval,h,hs,FV c b hc,List.drop_succ_cons,ajS]
theorem Sk {e:Env}{s:St}{k:Nat}{j:IntKind}{n:Int}(h:Env.get e k=.int j n):YK U (Yo U) e (.convert 3 21 (.tmp k)) s=some (.int .i32 (IntKind.i32.wrap n),s):=by
 have h3:U.Zj 3=some (.int .i64):=by kernel_rfl
 have h21:U.Zj 21=some (.int .i32):=by kernel_rfl
 simp only[YK,eval,h,Tv,h3,h21]
theorem abH (pat:X6)(sym:Int)(hs:HQ sym)(hp:pat.length<=16)(Ya:∀c∈pat,c=48\/c=49\/c=120):Zw U 186 [.str pat,.int .i64 sym]=some (.bool (ur sym 0 pat)):=by
 refine ZI ahK (by kernel_rfl) rfl ?_;have Sq:=hs.1;have Se:=hs.2;have hrg:=@qG _ (k:=7) (b:=pat);simp only[go_sem,aeQ,hrg];refine Ym (σ:=Nat) (fun i=>pat.length-i) (fun i=>some (AV.bool (ur sym i (pat.drop i)))) (fun i e s=>i<=pat.length/\Env.get e 8=.ptr 8 0/\Env.get e 1=.int .i64 sym/\s.get 8=some (.iter (pat.drop i) i)) 0 ?_ rfl ?_
 ·rintro L i e s ⟨hi,h8,h1,hit⟩ ih;by_cases hd:i<pat.length
  ·rw[abc hd] at hit;have hc:=Ya pat[i] (ajc hd);have aeR:pat[i].toNat<128:=by rcases hc with h|h|h <;> rw[h] <;> decide
   have hn:=qD h8 hit aeR;have hb:=CT i Sq;have abI:=MW sym (i:Int);have e1:=Jo 3 false sym (i:Int) (by omega) (by omega);rw[ajD] at e1;have e2:=L2 3 true (sym / 2^i) hb.1 (by omega);have oR:sym / 2^i%2=Zn sym (i:Int):=rfl;rw[oR] at e2;have tX:IntKind.i64.wrap (48+Zn sym (i:Int))=48+Zn sym (i:Int):=by rw[wrap_i64] <;> omega
   have Gx:IntKind.i32.wrap (48+Zn sym (i:Int))=48+Zn sym (i:Int):=by rcases abI with h|h <;> rw[h] <;> decide
   rw[abc hd,ur,cD];have next:∀e',Env.get e' 8=.ptr 8 0->Env.get e' 1=.int .i64 sym->SC U (Oe U [.tmp 4]) [K.bk 0,K.sq ((RC.ops [⟨some 4,none,none,false,.Qb (.v (.bool true))⟩]).seq RC.ret)] L e' (s.put 8 (.iter (pat.drop (i+1)) (i+1)))=some (AV.bool (ur sym (i+1) (pat.drop (i+1)))) :=
    fun e' q8 q1=>ih (i+1) _ _ (by omega) ⟨by omega,q8,q1,by rw[Z0,if_pos rfl]⟩
   rcases hc with h|h|h <;> rw[h] at hn ⊢
   ·have jg:((48:UInt8).toNat:Int)=48:=rfl;rw[jg] at hn;rcases abI with hz|hz <;> rw[hz] at e2 tX Gx ⊢
    ·simp only[go_sem,Qz,h8,h1,hn,e1,e2,oR,hz,tX,Sk (k:=21) (j:=.i64) (n:=48+0),Gx];refine next _ ?_ ?_ <;> simp only[go_sem,h8,h1]
    ·simp only[go_sem,Qz,h8,h1,hn,e1,e2,oR,hz,tX,Sk (k:=21) (j:=.i64) (n:=48+1),Gx];rfl
   ·have jg:((49:UInt8).toNat:Int)=49:=rfl;rw[jg] at hn;rcases abI with hz|hz <;> rw[hz] at e2 tX Gx ⊢
    ·simp only[go_sem,Qz,h8,h1,hn,e1,e2,oR,hz,tX,Sk (k:=21) (j:=.i64) (n:=48+0),Gx];rfl
    ·simp only[go_sem,Qz,h8,h1,hn,e1,e2,oR,hz,tX,Sk (k:=21) (j:=.i64) (n:=48+1),Gx];refine next _ ?_ ?_ <;> simp only[go_sem,h8,h1]
   ·have jg:((120:UInt8).toNat:Int)=120:=rfl;rw[jg] at hn;simp only[go_sem,Qz,h8,h1,hn];refine next _ ?_ ?_ <;> simp only[go_sem,h8,h1]
  ·have:i=pat.length:=by omega
   subst this;rw[ajy] at hit;have hn:=qF h8 hit;simp only[go_sem,Qz,h8,h1,hn];rw[ajy];rfl
 ·refine⟨aji _,?_,?_,?_⟩ <;> simp only[go_sem,ajS]
theorem jJ (c:Bool)(a b:Bool):WO U .eql 4 c (.bool a) (.bool b)=some (.bool (a==b)):=by
 cases c <;> cases a <;> cases b <;> kernel_rfl
theorem zq (c:Bool)(a b:Bool):WO U .neq 4 c (.bool a) (.bool b)=some (.bool (a != b)):=by
 cases c <;> cases a <;> cases b <;> kernel_rfl
structure ZX.Cz (c:ZX):Prop where
 a:0<=c.a/\c.a<16
 b:0<=c.b/\c.b<16
 mi:0<=c.mi/\c.mi<=255
 ma:0<=c.ma/\c.ma<=255
 pat:c.pat.length<=16
 acb:∀x∈c.pat,x=48\/x=49\/x=120
theorem ZX.wf.Cz {c:ZX}(h:c.wf):c.Cz:=by
 cases c
 rw[ZX.wf] at h;obtain⟨ha,hb,hm,hM,hp,hp',-⟩:=h;exact⟨ha,hb,hm,hM,hp,hp'⟩
def JZ (lv:Bool)(c:ZX)(st:Int)(h w first:Bool):Int×Bool :=
 bif !(h==lv) then (0,(w==lv)&&decide (st>=c.mi)&&decide (st<=c.ma))
 else bif first then (c.ma+1,false) else bif !(w==lv) then (1,false) else (min (st+1) (c.ma+1),false)
def PI (c:ZX)(st:Int)(h w first:Bool):Int×Bool :=
 let s1:=min ((bif first||h != w then 0 else st)+1) (c.mi+1)
 (s1,s1==c.mi)
def S6 (c:ZX)(st:Int)(h w hb wb:Bool):Int×Bool :=
 let s1:=bif h != w then 0 else min (st+1) c.mi
 (s1,hb&&!wb&&decide (s1<c.mi))
def PU (st:Int)(h w hb first:Bool):Int×Bool :=
 bif !h then (0,w&&st==2) else bif !first&&!hb&&(!w||st==2) then (2,false) else (1,false)
def iG (d:Kd)(c:ZX)(st now last:Int)(first:Bool):Int×Bool :=
 let h:=XC now c.a
 let w:=XC last c.a
 match d with
 |.high=>(st,h)
 |.low=>(st,!h)
 |.Ja=>(st,h&&!w)
 |.fall=>(st,!h&&w)
 |.pattern=>(st,ur now 0 c.pat)
 |.enter=>(st,ur now 0 c.pat&&!ur last 0 c.pat)
 |.Vj=>JZ true c st h w first
 |.gap=>JZ false c st h w first
 |.idle=>PI c st h w first
 |.setup=>S6 c st h w (XC now c.b) (XC last c.b)
 |.Um=>PU st h w (XC now c.b) first
 |_=>(st,false)
section
variable (c:ZX)(hc:c.Cz)(st now last:Int)(first:Bool)(hn:HQ now)(hl:HQ last)(hs:0<=st/\st<=256)
include hc hn hl
theorem bV:Zw U 180 [.agg [.int .i64 now,.int .i64 last,.bool first],.int .i64 c.a]=some (.bool (XC now c.a)):=aeM now last first c.a hn hc.a.1 (by have:=hc.a.2;omega)
theorem h_b:Zw U 180 [.agg [.int .i64 now,.int .i64 last,.bool first],.int .i64 c.b]=some (.bool (XC now c.b)):=aeM now last first c.b hn hc.b.1 (by have:=hc.b.2;omega)
theorem w_a:Zw U 183 [.agg [.int .i64 now,.int .i64 last,.bool first],.int .i64 c.a]=some (.bool (XC last c.a)):=aeO now last first c.a hl hc.a.1 (by have:=hc.a.2;omega)
theorem w_b:Zw U 183 [.agg [.int .i64 now,.int .i64 last,.bool first],.int .i64 c.b]=some (.bool (XC last c.b)):=aeO now last first c.b hl hc.b.1 (by have:=hc.b.2;omega)
theorem aiA:Zw U 179 [Zt c,Yn now last first]=some (.bool (XC now c.a)):=by
 refine ZI ah3 (by kernel_rfl) (by simp[ZO,Zf,still,Yn]) ?_;have e1:=bV c hc now last first hn hl
 rw[ZN,Yn];simp +contextual only[go_sem,afc,ZX.cells,ZW,e1]
theorem aiB:Zw U 181 [Zt c,Yn now last first]=some (.bool (!XC now c.a)):=by
 refine ZI ah4 (by kernel_rfl) (by simp[ZO,Zf,still,Yn]) ?_;have e1:=bV c hc now last first hn hl
 rw[ZN,Yn];simp +contextual only[go_sem,afd,ZX.cells,ZW,e1]
theorem aiC:Zw U 182 [Zt c,Yn now last first]=some (.bool (XC now c.a&&!XC last c.a)):=by
 refine ZI ah5 (by kernel_rfl) (by simp[ZO,Zf,still,Yn]) ?_;have e1:=bV c hc now last first hn hl
 have e2:=w_a c hc now last first hn hl
 rw[ZN,Yn];simp +contextual only[go_sem,afe,ZX.cells,ZW,e1,e2]
theorem aiD:Zw U 184 [Zt c,Yn now last first]=some (.bool (!XC now c.a&&XC last c.a)):=by
 refine ZI ah6 (by kernel_rfl) (by simp[ZO,Zf,still,Yn]) ?_;have e1:=bV c hc now last first hn hl
 have e2:=w_a c hc now last first hn hl
 rw[ZN,Yn];simp +contextual only[go_sem,aff,ZX.cells,ZW,e1,e2]
theorem aiE:Zw U 185 [Zt c,Yn now last first]=some (.bool (ur now 0 c.pat)):=by
 refine ZI ah7 (by kernel_rfl) (by simp[ZO,Zf,still,Yn]) ?_;have e1:=abH c.pat now hn hc.pat hc.acb;rw[ZN,Yn];simp +contextual only[go_sem,afg,ZX.cells,ZW,e1]
theorem aiF:Zw U 187 [Zt c,Yn now last first]=some (.bool (ur now 0 c.pat&&!ur last 0 c.pat)):=by
 refine ZI ah8 (by kernel_rfl) (by simp[ZO,Zf,still,Yn]) ?_;have e1:=abH c.pat now hn hc.pat hc.acb;have e2:=abH c.pat last hl hc.pat hc.acb;rw[ZN,Yn];simp +contextual only[go_sem,afh,ZX.cells,ZW,e1,e2]
omit hc hn hl in
theorem qi {g:FuncId}{b:Bool}(hg:Zw U g [Zt c,Yn now last first]=some (.bool b)):Zw U 216 [Zt c,.int .i64 st,Yn now last first,.fp [.fn (.func g) [] []] 0]=some (.XF [.int .i64 st,.bool b]):=by
 refine ZI aia (by kernel_rfl) (by simp[ZO,Zf,still,Yn]) ?_;rw[ZN,Yn] at hg ⊢;simp only[ZX.cells] at hg ⊢;simp +contextual only[go_sem,afl,ZW,hg]
include hs
theorem afO (lv:Bool):Zw U 217 [Zt c,.int .i64 st,Yn now last first,.fp [.bool lv] 0]=some (.XF [.int .i64 (JZ lv c st (XC now c.a) (XC last c.a) first).1,.bool (JZ lv c st (XC now c.a) (XC last c.a) first).2]):=by
 refine ZI aib (by kernel_rfl) (by simp[ZO,Zf,still,Yn]) ?_;have e1:=bV c hc now last first hn hl
 have e2:=w_a c hc now last first hn hl
 have hM:=hc.ma;have w1:IntKind.i64.wrap (c.ma+1)=c.ma+1:=by rw[wrap_i64] <;> omega
 have w2:IntKind.i64.wrap (st+1)=st+1:=by rw[wrap_i64] <;> omega
 rw[ZN,Yn,JZ]
 cases hh:XC now c.a==lv <;> cases hw:XC last c.a==lv <;> cases first
 all_goals simp (maxSteps:=2000000) +contextual only[go_sem,afm,ZX.cells,ZW,e1,e2,jJ,hh,hw,w1,w2,JE]
 all_goals rfl
theorem aiG:Zw U 189 [Zt c,.int .i64 st,Yn now last first]=some (.XF [.int .i64 (PI c st (XC now c.a) (XC last c.a) first).1,.bool (PI c st (XC now c.a) (XC last c.a) first).2]):=by
 refine ZI ah9 (by kernel_rfl) (by simp[ZO,Zf,still,Yn]) ?_;have e1:=bV c hc now last first hn hl
 have e2:=w_a c hc now last first hn hl
 have hM:=hc.mi;have w1:IntKind.i64.wrap (c.mi+1)=c.mi+1:=by rw[wrap_i64] <;> omega
 have w2:IntKind.i64.wrap (st+1)=st+1:=by rw[wrap_i64] <;> omega
 have w3:IntKind.i64.wrap (0+1)=0+1:=by decide
 rw[ZN,Yn,PI]
 cases hh:XC now c.a != XC last c.a <;> cases first
 all_goals simp (maxSteps:=2000000) +contextual only[go_sem,afi,ZX.cells,ZW,e1,e2,zq,hh,w1,w2,w3,JE]
 all_goals rfl
theorem aiH:Zw U 191 [Zt c,.int .i64 st,Yn now last first]=some (.XF [.int .i64 (S6 c st (XC now c.a) (XC last c.a) (XC now c.b) (XC last c.b)).1,.bool (S6 c st (XC now c.a) (XC last c.a) (XC now c.b) (XC last c.b)).2]):=by
 refine ZI ah_ (by kernel_rfl) (by simp[ZO,Zf,still,Yn]) ?_;have e1:=bV c hc now last first hn hl
 have e2:=w_a c hc now last first hn hl
 have e3:=h_b c hc now last first hn hl
 have e4:=w_b c hc now last first hn hl
 have w2:IntKind.i64.wrap (st+1)=st+1:=by rw[wrap_i64] <;> omega
 rw[ZN,Yn,S6]
 cases hh:XC now c.a != XC last c.a <;> cases h3:XC now c.b <;> cases h4:XC last c.b
 all_goals simp (maxSteps:=2000000) +contextual only[go_sem,afj,ZX.cells,ZW,e1,e2,e3,e4,zq,hh,h3,h4,w2,JE]
 all_goals rfl
theorem aiI:Zw U 193 [Zt c,.int .i64 st,Yn now last first]=some (.XF [.int .i64 (PU st (XC now c.a) (XC last c.a) (XC now c.b) first).1,.bool (PU st (XC now c.a) (XC last c.a) (XC now c.b) first).2]):=by
 refine ZI ah' (by kernel_rfl) (by simp[ZO,Zf,still,Yn]) ?_;have e1:=bV c hc now last first hn hl
 have e2:=w_a c hc now last first hn hl
 have e3:=h_b c hc now last first hn hl
 rw[ZN,Yn,PU]
 cases hh:XC now c.a <;> cases h2:XC last c.a <;> cases h3:XC now c.b <;> cases first <;> cases h4:(st==2)
 all_goals simp (maxSteps:=2000000) +contextual only[go_sem,afk,ZX.cells,ZW,e1,e2,e3,hh,h2,h3,h4]
 all_goals rfl
theorem qJ (d:Kd)(hd:d.leaf=true)(s:St):MN U (Qu d) [Zt c,.int .i64 st,Yn now last first] s=some (.XF [.int .i64 (iG d c st now last first).1,.bool (iG d c st now last first).2],s):=by
 have q1:=qi c st now last first (aiA c hc now last first hn hl)
 have q2:=qi c st now last first (aiB c hc now last first hn hl)
 have q3:=qi c st now last first (aiC c hc now last first hn hl)
 have q4:=qi c st now last first (aiD c hc now last first hn hl)
 have q5:=qi c st now last first (aiE c hc now last first hn hl)
 have q6:=qi c st now last first (aiF c hc now last first hn hl)
 have q7:=afO c hc st now last first hn hl hs true
 have q8:=afO c hc st now last first hn hl hs false
 have q9:=aiG c hc st now last first hn hl hs
 have cV:=aiH c hc st now last first hn hl hs
 have jD:=aiI c hc st now last first hn hl hs
 cases d <;> first|cases hd|skip
 all_goals simp only[Qu,QL,ajP,ajG,ajz,q1,q2,q3,q4,q5,q6,q7,q8,q9,cV,jD,Vy,iG]
end
end Go.Am
namespace Go.Am
open Go
variable [ZZ]
set_option maxRecDepth 100000
set_option maxHeartbeats 8000000
mutual
def Wd:ZX->List ZX
 |.mk k a b mi ma p nl kids=>bif XJ k then ZQ kids else [.mk k a b mi ma p nl kids]
def ZQ:List ZX->List ZX
 |[]=>[]
 |c::l=>Wd c++ZQ l
end
theorem QV {k:X6}{a b mi ma:Int}{p:X6}{nl:Bool}{kids:List ZX}(h:(ZX.mk k a b mi ma p nl kids).wf):XJ k=(YL (Zy k)).kids:=by
 rw[ZX.wf] at h;have hk:=h.2.2.2.2.2.2.1;rw[RM k hk];generalize Zy k=d at *
 cases d <;> first|rfl|(simp[Kd.known] at hk)
theorem DX:∀c:ZX,c.wf->Wd c≠[]:=by
 intro c
 induction c using ZX.ind with
 |h k a b mi ma p nl kids ih =>
 intro h;have Gy:=QV h;rw[ZX.wf] at h;obtain⟨-,-,-,-,-,-,-,-,-,Zv,-,-,hk⟩:=h;rw[Wd]
 cases hc:XJ k with
 |false=>simp
 |true =>
  rw[hc] at Gy
  cases kids with
  |nil=>exact absurd rfl (Zv Gy.symm)
  |cons x l =>
   rw[cond_true,ZQ];intro e;exact ih x (aba ..) (hk x (aba ..)) (List.append_eq_nil_iff.1 e).1
def YD (l:List ZX):List AV:=l.flatMap fun c=>(Zt c).cells
theorem Gl (l:List ZX):(YD l).length=l.length*7:=KM Zt 7 RK l
theorem J9 (l:List ZX):(YD l).all Zx=true:=by
 rw[ajq];intro x hx;obtain⟨c,_,hc⟩:=List.mem_flatMap.1 hx;rw[ZN,RJ,ZX.cells] at hc;simp only[ajo,List.not_mem_nil,or_false] at hc;rcases hc with rfl|rfl|rfl|rfl|rfl|rfl|rfl
 all_goals first|rfl|exact ZW ..
theorem DW (l:List ZX)(s:St):WV 7 (.fz (l.map Zt)) s=some (l.length,YD l):=by
 have:(l.map Zt).all (fun x=>x.cells.length==7)=true:=by
  rw[ajq];intro x hx;obtain⟨c,_,rfl⟩:=ajs.1 hx;rw[ZN];rfl
 simp only[WV,this,YD,aje,List.flatMap_map];rfl
theorem af0:∀c:ZX,c.wf->(Wd c).length<=2^20->Zw U 137 [Zt c]=some (.fz ((Wd c).map Zt)):=by
 intro c
 induction c using ZX.ind with
 |h kind a b mi ma pat nl kids ih =>
 intro QZ hL;have hcw:=QZ;rw[ZX.wf] at hcw;obtain⟨-,-,-,-,-,-,-,-,-,-,-,hk8,hkw⟩:=hcw;refine ZI af1 (by kernel_rfl) (by simp[ZO,Zf]) ?_;have h213:=bH (.mk kind a b mi ma pat nl kids);rw[show (ZX.mk kind a b mi ma pat nl kids).kind=kind from rfl] at h213;have iQ:=DX _ QZ;rw[Wd] at hL iQ ⊢
 cases Gy:XJ kind with
 |false =>
  rw[Gy] at h213 hL;simp only[cond_false,aju,List.map_nil];rw[Zt] at h213 ⊢;simp only[go_sem,bG,h213,ZW,ZR,VW]
 |true =>
  rw[Gy] at h213 hL iQ;simp only[cond_true] at hL iQ ⊢;rw[Zt] at h213 ⊢;simp only[go_sem,bG,h213,ZW,ZR,ZJ,Yt];refine Ym (σ:=Nat×List ZX) (fun x=>kids.length-x.1) (fun x=>some (.fz ((ZQ kids).map Zt))) (fun x e s=>x.1<=kids.length/\x.2++ZQ (kids.drop x.1)=ZQ kids/\Env.get e 12=ZG nl (VJ kids)/\Env.get e 13=.int .i64 kids.length/\Env.get e 14=.int .i64 x.1/\8<s.next/\Fr s /\
   ∃v,Env.get e 3=v/\ZF s 9 78 7 x.2.length (YD x.2) v) (0,[]) ?_ rfl ?_
  ·rintro L ⟨i,acc⟩ e s ⟨hi,Ls,SB,jA,qe,hn,SA,v,g3,hv⟩ IH;simp only at hi Ls qe hv IH ⊢;have Qf:=hv.Xg;have Ub:=hv.Zx;by_cases hd:i<kids.length
   ·have hx:(VJ kids)[i]? = some (Zt kids[i]):=by rw[UA,aaa hd];rfl
    have hw:=ZE hd (by omega);rw[abc hd,ZQ] at Ls;have hlen:acc.length+((Wd kids[i]).length+(ZQ (kids.drop (i+1))).length)=(ZQ kids).length:=by rw[<-Ls];simp
    have hc:=ih kids[i] (ajc hd) (hkw _ (ajc hd)) (by omega);have jz:(Wd kids[i]).length≠0:=fun e=>DX _ (hkw _ (ajc hd)) (List.eq_nil_of_length_eq_zero e)
    have hsc:=DW (Wd kids[i]);have vV:=Gl (Wd kids[i]);have hcn:=J9 (Wd kids[i]);rw[ZN] at hx hc;simp only[ZX.cells] at hx hc;rw[YF (WL hd)] at SB;have Un:(acc.length+(Wd kids[i]).length)*88<=1099511627776:=by omega
    have VD:acc.length+(Wd kids[i]).length<=1099511627776:=by omega
    simp only[go_sem,DV,g3,SB,jA,qe,Z9,hd,hx,hc,ZW,ZR,ZD,Nat.reducePow,Qf,Ub,Un,VD,hsc,vV,jz,not_false_eq_true];have Cy:∀y z,ZF ((s.new y).put s.next z) 9 78 7 acc.length (YD acc) v:=fun y z=>hv.mono (by rw[Z_,Z'];omega) fun j _ hj=>by rw[Z0,if_neg (by omega),ZY,if_neg (by omega)]
    obtain⟨s1,e1,e2,e3,e4,e5⟩:=(Cy (.cells [.str [],.int .i64 0,.int .i64 0,.int .i64 0,.int .i64 0,.str [],.ZM] 78 false 0 0) (.cells kids[i].cells 78 false 0 0)).app (by rw[Z_,Z'];omega) jz vV hcn;simp only[ZX.cells] at e1;rw[e1];simp only[go_sem,hw,qe];refine IH (i+1,acc++Wd kids[i]) _ _ (by simp only;omega) ⟨by simp only;omega,by simp only[ajQ];exact Ls,?_,?_,?_,?_,e5 ((SA.new _).put (by rw[Z'];omega) _),.sl (s.next+1) 0 (acc.length+(Wd kids[i]).length) none 7,?_,?_⟩
    case refine_6 =>
     simp only[ajh,YD,List.flatMap_append];exact e3
    all_goals try simp only[go_sem,SB,jA,hw,YF (WL hd)]
    rw[e2,Z_,Z'];omega
   ·have:i=kids.length:=by omega
    subst this;rw[ajy,ZQ,ajG] at Ls;subst Ls;simp only[go_sem,DV,g3,SB,jA,qe,Z9,ajp,Ub];rw[hv.WK U IZ IY (by omega) RK (d:=39) (fun a=>P5 _ _ _)]
    cases hq:ZQ kids with
    |nil=>exact absurd hq iQ
    |cons x y=>rfl
  ·refine⟨aji _,by rw[ajS,ajP],?_,?_,?_,?_,?_,.ZM,?_,ZF.nil _ _ _ _⟩
   case refine_5 =>
    repeat first|exact Fr.own|apply Fr.new|apply Fr.put|apply Fr.upto
    all_goals simp only[go_sem]
   all_goals simp only[go_sem]
   all_goals rfl
end Go.Am
namespace Go.Am
open Go
variable [ZZ]
set_option maxRecDepth 100000
set_option maxHeartbeats 8000000
noncomputable def cH:Code:=NT 67 0
theorem ad9:Rd U cH=some (15,[(o 32 (.fa 1 (.t 4)),none),
 (o 33 (.TB (.t 32)),none),
 (o 34 (.P7 7 (.t 10)),none),
 (⟨some 35,none,some 3,false,.SE 78 7 1 [(.str []),(.int .i64 0),(.int .i64 0),(.int .i64 0),(.int .i64 0),(.str []),.ZM] [(0,7,(.t 34))]⟩,none),
 (⟨some 36,none,none,true,.app 78 7 88 (.t 33) (.t 35)⟩,none),
 (o 37 (.fa 2 (.t 4)),none),
 (o 38 (.TB (.t 37)),some (0,1)),
 (o 39 (.fa 8 (.t 11)),none),
 (o 40 (.TB (.t 39)),some (0,1)),
 (⟨some 41,none,some 9,false,.SE 218 1 1 [.Wt] [(0,1,(.t 40))]⟩,none),
 (⟨some 42,none,none,true,.app 218 1 8 (.t 38) (.t 41)⟩,none),
 (o 43 (.fa 1 (.t 4)),none),
 (⟨none,none,none,true,.st 1 (.t 43) (.t 36)⟩,none),
 (o 44 (.fa 2 (.t 4)),none),
 (⟨none,none,none,true,.st 1 (.t 44) (.t 42)⟩,none)]):=by kernel_rfl
noncomputable def CV:RC:=(sO [YQ 25 3 24 23] (sQ (cS 25 (.exit 2)) (sQ (.block 3 (sO [Y0 26 7 22 24,Zh 27 7 26,Qk 10 0 0 0 0 78,Yw 7 10 27] (sO [om 28 5,ZP 29 0 10,ZS 30 29,EJ 31 215 28 30,o 11 (.al [bF,bF,bF,bF,bF,bF,.Wt,.Wt,.Wt] 220),Yw 9 11 31] (sQ (.raw cH) (oP [om 45 6,ZP 46 7 11,ZS 47 46,Zh 48 7 10,EK 49 47 48,Qn 50 3 1 1 0 0 1 49,VE 51 3 1 8 45 50,om 6 51]))))) (oP [Yz 52 3 24 1,om 24 52]))))
noncomputable def ym:RC:=(sO [YQ 18 3 17 16] (sQ (cS 18 (.exit 0)) (sQ (.block 1 (sO [Y0 19 7 15 17,Zh 20 7 19,Qk 8 0 0 0 0 78,Yw 7 8 20] (sO [Zh 21 7 8,YO 22 137 21,YS 23 22,Zz 24 0] (.block 2 (.loop CV))))) (oP [Yz 53 3 17 1,om 17 53]))))
noncomputable def r92:RC:=(sO [uF 2 128,WS 3] (sO [om 12 0,o 13 (.N_ [.ZM,.ZM,.ZM] [(0,1,(.t 12))]),uF 4 128,Yw 3 4 13] (sO [Ps 14 136,om 5 14] (sO [WS 6] (sQ (sO [om 15 0,YS 16 15,Zz 17 0] (.block 0 (.loop ym))) (sO [Zh 54 3 4,om 55 6,Yw 3 2 54,om 3 55] .ret))))))
theorem k92:Zb 67=some ([.cell 2 128,.tmp 3],r92):=by kernel_rfl
noncomputable def cG:Code:=NT 69 0
theorem adx:Rd U cG=some (9,[(om 16 1,none),
 (o 17 (.TK (.t 16)),none),
 (⟨some 18,none,some 2,false,.raw (.makeSlice 48 (.tmp 17) (.tmp 17))⟩,none),
 (om 19 1,none),
 (o 20 (.TK (.t 19)),some (0,0)),
 (⟨some 21,none,some 5,false,.raw (.makeSlice 72 (.tmp 20) (.tmp 20))⟩,none),
 (⟨some 9,none,some 6,false,.al [.ZM] 72⟩,none),
 (om 8 18,none),
 (⟨none,none,none,true,.st 1 (.t 9) (.t 21)⟩,none)]):=by kernel_rfl
noncomputable def cE:Code:=NT 69 1
theorem aeB:Rd U cE=some (23,[(om 31 8,none),
 (om 32 10,none),
 (o 33 (.TB (.t 9)),some (0,2)),
 (om 34 10,none),
 (o 35 (.fa 2 (.t 3)),none),
 (o 36 (.TB (.t 35)),none),
 (om 37 10,none),
 (o 38 (.Ff 1 (.t 36) (.t 37)),none),
 (o 39 (.TB (.t 38)),none),
 (o 40 (.P7 7 (.t 11)),none),
 (om 41 1,none),
 (om 42 10,none),
 (o 43 (.Ff 1 (.t 41) (.t 42)),none),
 (o 44 (.TB (.t 43)),none),
 (o 45 (.P7 3 (.t 5)),none),
 (⟨some 46,none,none,true,.Ks (.t 39) [(.t 40),(.t 44),(.t 45)]⟩,none),
 (om 30 46,none),
 (o 47 (.ext (.t 30) 0),none),
 (o 48 (.ext (.t 30) 1),none),
 (o 49 (.Ff 1 (.t 31) (.t 32)),none),
 (⟨none,none,none,true,.st 1 (.t 49) (.t 47)⟩,none),
 (o 50 (.Ff 1 (.t 33) (.t 34)),none),
 (⟨none,none,none,true,.st 1 (.t 50) (.t 48)⟩,none)]):=by kernel_rfl
noncomputable def CO:RC:=(sO [YQ 26 3 25 24] (sQ (cS 26 (.exit 0)) (sQ (.block 1 (sO [om 27 25,Y0 28 7 23 25,Zh 29 7 28,Qk 11 0 0 0 0 78,om 10 27,Yw 7 11 29] (.raw cE))) (oP [Yz 51 3 25 1,om 25 51]))))
noncomputable def C_:RC:=(sO [YQ 56 3 55 54] (sQ (cS 56 (.exit 2)) (sQ (.block 3 (sO [Y0 57 7 53 55,Zh 58 7 57,Qk 15 0 0 0 0 78,Yw 7 15 58] (oP [om 59 13,Zh 60 7 15,o 61 (.aE 141 [] [(.t 12),(.t 9)]),YI 62 140 60 61,o 63 (.SE 4 1 1 [bF] [(0,1,(.t 62))]),VE 64 4 1 1 59 63,om 13 64]))) (oP [Yz 65 3 55 1,om 55 65]))))
noncomputable def r93:RC:=(sO [Yy 3 128 0,Yy 5 137 2,WS 6,WS 7] (sQ (.raw cG) (sQ (sO [ZP 22 1 3,ZS 23 22,YS 24 23,Zz 25 0] (.block 0 (.loop CO))) (sO [o 12 (.al [(iI 0)] 3),oS (.st 1 (.t 12) (vI (-1)))] (sO [WS 13] (sQ (sO [ZP 52 0 3,ZS 53 52,YS 54 53,Zz 55 0] (.block 2 (.loop C_))) (sO [om 66 8,om 67 13,om 6 66,om 7 67] .ret)))))))
theorem k93:Zb 69=some ([.tmp 6,.tmp 7],r93):=by kernel_rfl
theorem ZF.stay {s s1:St}{B:Nat}{t t':TypeId}{n n' i i':Nat}{cs pZ:List AV}{v v':AV}(h:ZF s B t n i cs v)(h':ZF s B t' n' i' pZ v')(ht:t≠t')(hn:s.next<=s1.next)
  (hg:∀j,j<s.next->v'≠.sl j 0 i' none n'->s1.get j=s.get j):ZF s1 B t n i cs v:=by
 rcases h with⟨h0,h1,h2⟩|⟨h0,h1,b,h2,h3,h4,h5⟩
 ·exact .inl ⟨h0,h1,h2⟩
 ·exact .inr ⟨h0,h1,b,h2,by omega,h4,by rw[hg b h3 (h'.other h5 ht)];exact h5⟩
structure CRow (s:St)(v:AV)(l:List ZX):Prop where
 len:SZ v=some (.int .i64 l.length)
 elem:∀i (h:i<l.length),∃x,UC 7 v (.int .i64 (i:Int))=some x/\∀s',(∀j,j<s.next->s'.get j=s.get j)->P7 7 x s'=some (Zt l[i])
 plain:Zx v=true
 cells:v.cells=[v]
def XI (c:ZX):Int:=match Zy c.kind with
 |.setup=>c.mi
 |_=>0
theorem yy (c:ZX)(hd:(Zy c.kind).leaf=true)(s:St):MN U (Ta (Zy c.kind)) [Zt c] s=some (.int .i64 (XI c),s):=by
 unfold XI
 cases hk:Zy c.kind <;> rw[hk] at hd <;> first|cases hd|skip
 all_goals simp only[Ta,QL,ajP,ajG,af9,af_,Vy]
def XD (c:ZX):AV:=Qu (Zy c.kind)
theorem Ko (c:ZX):(XD c).cells=[XD c]:=by unfold XD;cases Zy c.kind <;> rfl
theorem So (c:ZX):Zx (XD c)=true:=by unfold XD;cases Zy c.kind <;> rfl
theorem AB (d:Kd):Zx (Qv d)=true/\Zx (Ta d)=true/\Zx (Qu d)=true:=by cases d <;> exact⟨rfl,rfl,rfl⟩
structure F92 (s0:St)(v:AV)(acc:List ZX)(e:Env)(s:St):Prop where
 t2:Env.get e 2=.ptr s0.next 0
 t4:Env.get e 4=.ptr (s0.next+1) 0
 t5:Env.get e 5=.fm Lx Lw
 nx:s0.next+2<=s.next
 fr:Fr s
 old:∀j,j<s0.next->s.get j=s0.get j
 g2:s.get s0.next=some (.cells [.ZM,.ZM,.ZM] 128 false 0 0)
 rows:∃lv sv st,s.get (s0.next+1)=some (.cells [v,lv,sv] 128 false 0 0)/\Env.get e 6=st/\ZF s (s0.next+2) 78 7 acc.length (YD acc) lv /\
  ZF s (s0.next+2) 218 1 acc.length (acc.map XD) sv/\ZF s (s0.next+2) 3 1 acc.length (ints (acc.map XI)) st
theorem l92 {β:Type}{fin:Fl->β}{ks:List K}{Zu:β->Prop}(s0:St)(v:AV)(hv:Zx v=true/\v.cells=[v])(acc:List ZX)(L:List ZX)(hL:L≠[])(hw:∀c∈L,(Zy c.kind).leaf=true)(hlen:acc.length+L.length<=2^20)(x15 x16 x17:AV)
  (hk:∀e s,F92 s0 v (acc++L) e s->Env.get e 15=x15->Env.get e 16=x16->Env.get e 17=x17->Zu (goN U fin ks e s)){e:Env}{s:St}
  (hI:F92 s0 v acc e s)(h15:Env.get e 15=x15)(h16:Env.get e 16=x16)(h17:Env.get e 17=x17)(h22:Env.get e 22=.fz (L.map Zt))(h23:Env.get e 23=.int .i64 L.length)(h24:Env.get e 24=.int .i64 (0:Nat)) :
  Zu (SC U fin (.bk 2::ks) CV e s):=by
 obtain⟨v1,v2⟩:=hv;refine YG (σ:=Nat) (fun i=>L.length-i) (fun i e s=>i<=L.length/\F92 s0 v (acc++L.take i) e s/\Env.get e 15=x15/\Env.get e 16=x16/\Env.get e 17=x17/\Env.get e 22=.fz (L.map Zt)/\Env.get e 23=.int .i64 L.length/\Env.get e 24=.int .i64 (i:Nat)) 0 ?_
  ⟨aji _,by rw[List.take_zero,ajG];exact hI,h15,h16,h17,h22,h23,h24⟩
 clear hI h15 h16 h17 h22 h23 h24 e s;rintro Lp i e s ⟨hi,hF,h15,h16,h17,h22,h23,h24⟩ IH;by_cases hd:i<L.length
 ·have hx:(L.map Zt)[i]? = some (Zt L[i]):=by rw[ajv,aaa hd];rfl
  have Qp:=ZE hd (by omega);have Qa:=hw _ (ajc hd);obtain⟨t2,t4,t5,nx,fr,old,g2,lv,sv,st,g4,t6,R1,R2,R3⟩:=hF;have hal:(acc++L.take i).length=acc.length+i:=by rw[ajh,aj2];omega
  rw[hal] at R1 R2 R3;have Fv:=N2 L[i].kind;have WY:=yy L[i] Qa;obtain⟨n1,n2,n3⟩:=AB (Zy L[i].kind);have ad8:Qu (Zy L[i].kind)=XD L[i]:=rfl;rw[VX] at Fv;rw[ad8] at Fv n3;rw[ZN] at hx WY;simp only[ZX.cells] at hx WY;have ne:∀k,(s.next+k=s0.next+1)=False:=fun k=>by simp;omega
  have ne':(s.next=s0.next+1)=False:=by simp;omega
  have Un:(acc.length+(i+1))*88<=1099511627776:=by omega
  have VD:acc.length+(i+1)<=1099511627776:=by omega
  have CU:(acc.length+(i+1))*8<=1099511627776:=by omega
  have la1:=R1.Xg;have la2:=R2.Xg;have la3:=R3.Xg;have dw:=R1.Zx;have ia:=R2.Zx;have na3:=R3.Zx;have LC:=fr.at;have sf:∀k,(s.next=s.next+(k+1))=False:=fun k=>by simp
  have sg:∀k,(s.next+(k+1)=s.next)=False:=fun k=>by simp
  simp only[go_sem,CV,t4,t5,t6,h22,h23,h24,Z9,hd,hx,ZW,Fv,n1,n2,n3,UZ ad9,g4,ne,ne',LC,la1,la2,la3,dw,ia,na3,Un,VD,CU,ZD,Nat.reducePow,ajB,v1,ajj,ajf,sf,sg,Option.isNone_none];have RS:∀(y1 y2 y3 y4 y5:Vr) {t:TypeId} {n k:Nat} {cs:List AV} {w:AV},ZF s (s0.next+2) t n k cs w->ZF ((((((s.new y1).put s.next y2).new y3).put (s.next+1) y4).upto (s.next+17)).put (s.next+5) y5) (s0.next+2) t n k cs w:=fun y1 y2 y3 y4 y5 _ _ _ _ _ h =>
   h.mono (by simp only[Z_,ZV];omega) fun j _ hj=>by simp only[Z0,ZH,ZY,Z_,Z'];rw[if_neg (by omega),if_neg (by omega),if_neg (by omega),if_neg (by omega),if_neg (by omega)]
  have GS:∀(y1 y2 y3 y4 y5:Vr) (j:Nat),j<s.next->((((((s.new y1).put s.next y2).new y3).put (s.next+1) y4).upto (s.next+17)).put (s.next+5) y5).get j=s.get j:=fun y1 y2 y3 y4 y5 j hj=>by
   simp only[Z0,ZH,ZY,Z_,Z'];rw[if_neg (by omega),if_neg (by omega),if_neg (by omega),if_neg (by omega),if_neg (by omega)]
  have FS:∀(y1 y2 y3 y4 y5:Vr),Fr ((((((s.new y1).put s.next y2).new y3).put (s.next+1) y4).upto (s.next+17)).put (s.next+5) y5):=fun y1 y2 y3 y4 y5 =>
   (((((fr.new _).put (by simp only[Z'];omega) _).new _).put (by simp only[Z',Z_];omega) _).upto (by simp only[Z',Z_];omega)).put (by simp only[ZV];omega) _
  generalize hY1:Vr.cells [.str [],.int .i64 0,.int .i64 0,.int .i64 0,.int .i64 0,.str [],.ZM] 78 false 0 0=Y1;generalize hY3:Vr.cells [.bool false,.bool false,.bool false,.bool false,.bool false,.bool false,.Wt,.Wt,.Wt] 220 false 0 0=Y3;generalize hY4:Vr.cells [AV.bool (YL (Zy L[i].kind)).a,AV.bool (YL (Zy L[i].kind)).b,AV.bool (YL (Zy L[i].kind)).mi,AV.bool (YL (Zy L[i].kind)).ma,AV.bool (YL (Zy L[i].kind)).pat,AV.bool (YL (Zy L[i].kind)).kids,Qv (Zy L[i].kind),Ta (Zy L[i].kind),XD L[i]] 220 false 0 0=Y4;generalize hY5:Vr.cells [AV.str L[i].kind,AV.int IntKind.i64 L[i].a,AV.int IntKind.i64 L[i].b,AV.int IntKind.i64 L[i].mi,AV.int IntKind.i64 L[i].ma,AV.str L[i].pat,ZG L[i].nl (VJ L[i].kids)] 78 false 0 0=Y5;obtain⟨s1,e1,JB,er1,eg1,ef1⟩:=(RS Y1 Y5 Y3 Y4 Y5 R1).Il (by simp only[Z_,ZV];omega) (m:=1) (new:=L[i].cells) (by omega) rfl (by simp only[ZX.cells,go_sem,ZW]);simp only[ZX.cells] at e1;have k4:s1.get (s0.next+1)=some (.cells [v,lv,sv] 128 false 0 0):=by rw[eg1 _ (by simp only[Z_,ZV];omega) (R1.Bt (.inr (by omega))),GS _ _ _ _ _ _ (by omega),g4]
  have kt:s1.get (s.next+1)=some Y4:=by
   rw[eg1 _ (by simp only[Z_,ZV];omega) (R1.Bt (.inl (by omega)))];simp only[Z0,ZH,↓reduceIte];rw[if_neg (by omega)]
  have kx:s1.get s.next=some Y5:=by
   rw[eg1 _ (by simp only[Z_,ZV];omega) (R1.Bt (.inl (by omega)))];simp only[Z0,ZH,ZY,Z_,Z',↓reduceIte];rw[if_neg (by omega),if_neg (by omega),if_neg (by omega)]
  have k9:s1.get (s.next+11)=none:=by
   rw[eg1 _ (by simp only[Z_,ZV];omega) (R1.Bt (.inl (by omega)))];simp only[Z0,ZH,ZY,Z_,Z'];rw[if_neg (by omega),if_neg (by omega),if_neg (by omega),if_neg (by omega),if_neg (by omega)];exact LC 11
  simp only[Z_,ZV] at JB;rw[<-hY4] at kt;rw[<-hY5] at kx;simp only[go_sem,e1,k4,kt,kx,k9,t4,t6,JB,g4,ne,ne',la2,ia,VD,CU,ZD,Nat.reducePow,ajB,ajj,ajf,sf,sg,n1,n2,n3,Option.isNone_none,Ko];have R2':ZF s1 (s0.next+2) 218 1 (acc.length+i) ((acc++L.take i).map XD) sv :=
   (RS Y1 Y5 Y3 Y4 Y5 R2).stay (RS Y1 Y5 Y3 Y4 Y5 R1) (by decide) (by rw[JB];simp only[Z_,ZV];omega) fun j hj hv=>eg1 j (by simp only[Z_,ZV] at hj ⊢;omega) hv
  have R3':ZF s1 (s0.next+2) 3 1 (acc.length+i) (ints ((acc++L.take i).map XI)) st :=
   (RS Y1 Y5 Y3 Y4 Y5 R3).stay (RS Y1 Y5 Y3 Y4 Y5 R1) (by decide) (by rw[JB];simp only[Z_,ZV];omega) fun j hj hv=>eg1 j (by simp only[Z_,ZV] at hj ⊢;omega) hv
  generalize hY6:Vr.cells [XD L[i]] 218 false 0 0=Y6;have P1:∀{t:TypeId} {n k:Nat} {cs:List AV} {w:AV},ZF s1 (s0.next+2) t n k cs w->(∀lo,s1.get (s.next+11)=lo->lo=none)->ZF (s1.put (s.next+11) Y6) (s0.next+2) t n k cs w:=fun {t n k cs w} h _=>by
   rcases h with⟨h0,h1,h2⟩|⟨h0,h1,b,h2,h3,h4,h5⟩
   ·exact .inl ⟨h0,h1,h2⟩
   ·refine .inr ⟨h0,h1,b,h2,h3,h4,?_⟩;have:s.next+11≠b:=fun e=>by rw[<-e,k9] at h5;cases h5
    rw[Z0,if_neg this];exact h5
  have Q2:=P1 R2' (fun lo h=>by rw[<-h,k9]);have Q3:=P1 R3' (fun lo h=>by rw[<-h,k9]);have Q1:=P1 er1 (fun lo h=>by rw[<-h,k9]);obtain⟨s2,e2,uu,er2,eg2,ef2⟩:=Q2.Il (by rw[Z_,JB];omega) (m:=1) (new:=[XD L[i]]) (by omega) rfl (by simp[So]);rw[Z_,JB] at e2 uu er2 eg2;have j4:s2.get (s0.next+1)=some (.cells [v,lv,sv] 128 false 0 0):=by rw[eg2 _ (by omega) (R2.Bt (.inr (by omega))),Z0,if_neg (by omega),k4]
  have jt:s2.get (s.next+1)=s1.get (s.next+1):=by rw[eg2 _ (by omega) (R2.Bt (.inl (by omega))),Z0,if_neg (by omega)]
  have jx:s2.get s.next=s1.get s.next:=by rw[eg2 _ (by omega) (R2.Bt (.inl (by omega))),Z0,if_neg (by omega)]
  rw[kt] at jt;rw[kx] at jx;have nf:∀k,(s0.next+1=s.next+k)=False:=fun k=>by simp;omega
  have nf':(s0.next+1=s.next)=False:=by simp;omega
  have hp8:cellOf (some Y4) 8=some (XD L[i]):=by rw[<-hY4];rfl
  simp only[go_sem,hp8,e2,j4,jt,jx,k4,kt,kx,t4,t6,JB,uu,g4,ne,ne',nf,nf',la3,na3,VD,CU,ZD,Nat.reducePow,ajB,ajj,ajf,sf,sg,n1,n2,n3,v1,v2,dw,ia,WY,ZW];have V3:ZF s2 (s0.next+2) 3 1 (acc.length+i) (ints ((acc++L.take i).map XI)) st :=
   Q3.stay Q2 (by decide) (by rw[uu,Z_,JB];omega) fun j hj hv=>eg2 j (by rw[Z_,JB] at hj;omega) hv
  have V1:ZF s2 (s0.next+2) 78 7 (acc.length+i+1) (YD (acc++L.take i)++L[i].cells) (.sl (s.next+17) 0 (acc.length+i+1) none 7) :=
   Q1.stay Q2 (by decide) (by rw[uu,Z_,JB];omega) fun j hj hv=>eg2 j (by rw[Z_,JB] at hj;omega) hv
  generalize hZ1:Vr.cells [v,.sl (s.next+17) 0 (acc.length+(i+1)) none 7,sv] 128 false 0 0=Z1;generalize hZ2:Vr.cells [v,.sl (s.next+17) 0 (acc.length+(i+1)) none 7,.sl (s.next+18) 0 (acc.length+(i+1)) none 1] 128 false 0 0=Z2;generalize hZ3:Vr.cells [.int .i64 (XI L[i])] 3 false 0 0=Z3;have TS:∀{t:TypeId} {n k:Nat} {cs:List AV} {w:AV},ZF s2 (s0.next+2) t n k cs w->ZF (((s2.put (s0.next+1) Z1).put (s0.next+1) Z2).new Z3) (s0.next+2) t n k cs w:=fun h =>
   h.mono (by simp only[Z_,Z'];omega) fun j hj yh=>by rw[ZY,Z_,Z_,if_neg (by omega),Z0,if_neg (by omega),Z0,if_neg (by omega)]
  obtain⟨s3,e3,en3,er3,eg3,ef3⟩:=(TS V3).Il (by simp only[Z_,Z'];omega) (m:=1) (new:=[.int .i64 (XI L[i])]) (by omega) rfl rfl;simp only[Z_,Z',uu] at e3 en3 er3 eg3;rw[e3];simp only[go_sem,h24,Qp];have xp:∀{t:TypeId} {n k:Nat} {cs:List AV} {w:AV} {s':St},ZF s' (s0.next+2) t n k cs w->∀j,j<s0.next+2->w≠.sl j 0 k none n:=fun h j hj=>h.Bt (.inr hj)
  have G:∀j,j<s0.next+1->s3.get j=s.get j:=fun j hj=>by
   rw[eg3 j (by omega) (xp V3 j (by omega)),ZY,Z_,Z_,if_neg (by omega),Z0,if_neg (by omega),Z0,if_neg (by omega),eg2 j (by omega) (xp R2 j (by omega)),Z0,if_neg (by omega),eg1 j (by simp only[Z_,ZV];omega) (xp R1 j (by omega)),GS _ _ _ _ _ j (by omega)]
  have G4:s3.get (s0.next+1)=some Z2:=by
   rw[eg3 _ (by omega) (xp V3 _ (by omega)),ZY,Z_,Z_,if_neg (by omega),Z0,if_pos rfl]
  have KA:acc++L.take (i+1)=(acc++L.take i)++[L[i]]:=by rw[ajC hd,ajQ]
  have mW:(acc++L.take (i+1)).length=acc.length+i+1:=by rw[KA,ajh,hal];rfl
  refine IH (i+1) _ _ (by omega) ⟨by omega,⟨?_,?_,?_,by rw[en3];omega,?_,fun j hj=>by rw[G j (by omega),old j hj],by rw[G _ (by omega),g2],_,_,.sl (s.next+20) 0 (acc.length+i+1) none 1,by rw[G4,<-hZ2],?_,?_,?_,?_⟩,?_,?_,?_,?_,?_,?_⟩
  case refine_4 =>
   refine ef3 (((ef2 ?_).put (by rw[uu];omega) _).put (by rw[Z_,uu];omega) _ |>.new _);exact (ef1 (FS _ _ _ _ _)).put (by rw[JB];omega) _
  case refine_6 =>
   rw[mW,KA,YD,List.flatMap_append];refine ((TS V1).stay (TS V3) (by decide) (by rw[en3,Z',Z_,Z_,uu];omega) fun j hj hv=>eg3 j (by simp only[Z_,Z',uu] at hj;omega) hv:ZF s3 _ _ _ _ (YD (acc++L.take i)++L[i].cells) _) |> fun h=>?_
   simpa[YD,ZN,RJ,ajf] using h
  case refine_7 =>
   rw[mW,KA,ajA];exact (TS er2).stay (TS V3) (by decide) (by rw[en3,Z',Z_,Z_,uu];omega) fun j hj hv=>eg3 j (by simp only[Z_,Z',uu] at hj;omega) hv
  case refine_8 =>
   rw[mW,KA,ajA,ints,ajA];exact er3
  all_goals simp only[go_sem,t2,t4,t5,h15,h16,h17,h22,h23]
 ·have:i=L.length:=by omega
  subst this;rw[List.take_length] at hF;simp only[go_sem,CV,h23,h24,Z9,ajp];refine hk _ _ ⟨?_,?_,?_,hF.nx,hF.fr,hF.old,hF.g2,?_⟩ ?_ ?_ ?_
  case refine_4 =>
   obtain⟨lv,sv,st,g4,t6,R⟩:=hF.rows;exact⟨lv,sv,st,g4,by simp only[go_sem,t6],R⟩
  all_goals simp only[go_sem,hF.t2,hF.t4,hF.t5,h15,h16,h17]
theorem Vu:∀(a b:List ZX),ZQ (a++b)=ZQ a++ZQ b
 |[],b=>by simp[ZQ]
 |c::a,b=>by rw[ajz,ZQ,ZQ,Vu a b,ajQ]
theorem PG {c:ZX}:∀{l:List ZX},c∈ZQ l->∃x∈l,c∈Wd x
 |[],h=>by simp[ZQ] at h
 |x::l,h=>by
  rw[ZQ,ajX] at h;rcases h with h|h
  ·exact⟨x,aba ..,h⟩
  ·obtain⟨y,h1,h2⟩:=PG h;exact⟨y,aab _ h1,h2⟩
theorem PF:∀c:ZX,c.wf->∀x∈Wd c,x.wf/\(Zy x.kind).leaf=true:=by
 intro c
 induction c using ZX.ind with
 |h k a b mi ma p nl kids ih =>
 intro h x hx;have Gy:=QV h;have h':=h;rw[ZX.wf] at h';obtain⟨-,-,-,-,-,-,Ct,-,-,-,-,-,hk⟩:=h';rw[Wd] at hx
 cases hc:XJ k with
 |true =>
  rw[hc] at hx;obtain⟨y,h1,h2⟩:=PG hx;exact ih y h1 (hk y h1) x h2
 |false =>
  rw[hc] at hx;simp only[cond_false,ajm] at hx;subst hx;refine⟨h,?_⟩;rw[RM k Ct] at hc;show (Zy k).leaf=true
  simpa using hc
def P92 (s0:St)(v:AV)(l:List ZX)(r:Option (AV×St)):Prop:=∃s' lv sv st,r=some (.XF [.agg [v,lv,sv],st],s')/\Fr s'/\s0.next+2<=s'.next/\(∀j,j<s0.next->s'.get j=s0.get j) /\
   ZF s' (s0.next+2) 78 7 (ZQ l).length (YD (ZQ l)) lv/\ZF s' (s0.next+2) 218 1 (ZQ l).length ((ZQ l).map XD) sv/\ZF s' (s0.next+2) 3 1 (ZQ l).length (ints ((ZQ l).map XI)) st
theorem c92 (s0:St)(v:AV)(l:List ZX)(hl:∀c∈l,c.wf)(J8:l.length<=2^20)(hlen:(ZQ l).length<=2^20)(hr:CRow s0 v l)(hf:Fr s0) :
  ∃s' lv sv st,SH U 67 [v] s0=some (.XF [.agg [v,lv,sv],st],s')/\Fr s'/\s0.next+2<=s'.next/\(∀j,j<s0.next->s'.get j=s0.get j) /\
   ZF s' (s0.next+2) 78 7 (ZQ l).length (YD (ZQ l)) lv/\ZF s' (s0.next+2) 218 1 (ZQ l).length ((ZQ l).map XD) sv/\ZF s' (s0.next+2) 3 1 (ZQ l).length (ints ((ZQ l).map XI)) st:=by
 have key:∃s' lv sv st,go U (Rs U [.cell 2 128,.tmp 3]) [] r92 (Zc 0 [v] .nil) s0=some (.XF [.agg [v,lv,sv],st],s')/\Fr s'/\s0.next+2<=s'.next/\(∀j,j<s0.next->s'.get j=s0.get j) /\
   ZF s' (s0.next+2) 78 7 (ZQ l).length (YD (ZQ l)) lv/\ZF s' (s0.next+2) 218 1 (ZQ l).length ((ZQ l).map XD) sv/\ZF s' (s0.next+2) 3 1 (ZQ l).length (ints ((ZQ l).map XI)) st:=by
  have v1:=hr.plain;have v2:=hr.cells;have v3:=hr.len;simp (maxSteps:=2000000) +contextual only[go_sem,r92,v1,v2,v3,bQ];show P92 s0 v l _;refine YG (σ:=Nat) (Zu:=P92 s0 v l)
   (fun i=>l.length-i) (fun i e s=>i<=l.length/\F92 s0 v (ZQ (l.take i)) e s/\Env.get e 15=v/\Env.get e 16=.int .i64 l.length/\Env.get e 17=.int .i64 (i:Nat)) 0 ?_ ?_
  ·rintro L i e s ⟨hi,hF,h15,h16,h17⟩ IH;by_cases hd:i<l.length
   ·obtain⟨t2,t4,t5,nx,fr,old,g2,lv,sv,st,g4,t6,R1,R2,R3⟩:=hF;obtain⟨x,aV,Cs⟩:=hr.elem i hd;have Cs:=Cs s old;have Qp:=ZE hd (by omega);have Sh:=ajc hd;have Lu:ZQ l=ZQ (l.take i)++(Wd l[i]++ZQ (l.drop (i+1))):=by
     conv=>lhs;rw[<-List.take_append_drop i l,Vu,abc hd,ZQ]
    have LA:(ZQ (l.take i)).length+((Wd l[i]).length+(ZQ (l.drop (i+1))).length)=(ZQ l).length:=by rw[Lu];simp
    have hc:=af0 l[i] (hl _ Sh) (by omega);have KA:ZQ (l.take (i+1))=ZQ (l.take i)++Wd l[i]:=by
     rw[ajC hd,Vu];simp[ZQ]
    rw[ZN] at Cs hc;simp only[ZX.cells] at Cs hc;simp (maxSteps:=2000000) +contextual only[go_sem,ym,h15,h16,h17,Z9,hd,aV,Cs,hc,ZW,aje];refine l92 s0 v ⟨v1,v2⟩ (ZQ (l.take i)) (Wd l[i]) (DX _ (hl _ Sh)) (fun c hc=>(PF _ (hl _ Sh) c hc).2) (by omega) v (.int .i64 l.length) (.int .i64 (i:Nat)) ?_ ⟨?_,?_,?_,?_,?_,?_,?_,lv,sv,st,?_,?_,?_,?_,?_⟩ ?_ ?_ ?_ ?_ ?_ ?_
    case refine_1 =>
     intro e' s' jy q15 q16 q17;simp (maxSteps:=2000000) +contextual only[go_sem,q17,Qp];refine IH (i+1) _ _ (by omega) ⟨by omega,?_,?_,?_,?_⟩
     ·rw[KA];obtain⟨lv',sv',st',y4,y6,yR⟩:=jy.rows;exact⟨by simp +contextual only[go_sem,jy.t2],by simp +contextual only[go_sem,jy.t4],by simp +contextual only[go_sem,jy.t5],jy.nx,jy.fr,jy.old,jy.g2,lv',sv',st',y4,by simp +contextual only[go_sem,y6],yR⟩
     all_goals simp +contextual only[go_sem,q15,q16,q17]
    case refine_5=>simp only[Z_,Z'];omega
    case refine_6=>exact (fr.new _).put (by rw[Z'];omega) _
    case refine_7 =>
     intro j hj;rw[Z0,if_neg (by omega),ZY,if_neg (by omega),old j hj]
    case refine_8=>rw[Z0,if_neg (by omega),ZY,if_neg (by omega),g2]
    case refine_9=>rw[Z0,if_neg (by omega),ZY,if_neg (by omega),g4]
    case refine_11=>exact R1.mono (by simp only[Z_,Z'];omega) fun j _ hj=>by rw[Z0,if_neg (by omega),ZY,if_neg (by omega)]
    case refine_12=>exact R2.mono (by simp only[Z_,Z'];omega) fun j _ hj=>by rw[Z0,if_neg (by omega),ZY,if_neg (by omega)]
    case refine_13=>exact R3.mono (by simp only[Z_,Z'];omega) fun j _ hj=>by rw[Z0,if_neg (by omega),ZY,if_neg (by omega)]
    all_goals simp +contextual only[go_sem,t2,t4,t5,t6,h15,h16,h17]
    all_goals rfl
   ·have:i=l.length:=by omega
    subst this;rw[List.take_length] at hF;obtain⟨t2,t4,t5,nx,fr,old,g2,lv,sv,st,g4,t6,R1,R2,R3⟩:=hF;have dw:=R1.Zx;have ia:=R2.Zx;simp (maxSteps:=2000000) +contextual only[go_sem,ym,h15,h16,h17,t2,t4,t6,g2,g4,Z9,ajp,dw,ia,v1];refine⟨_,lv,sv,st,rfl,fr.put (by omega) _,by rw[Z_];exact nx,fun j hj=>by rw[Z0,if_neg (by omega),old j hj],?_,?_,?_⟩
    ·exact R1.mono (by rw[Z_];omega) fun j hj _=>by rw[Z0,if_neg (by omega)]
    ·exact R2.mono (by rw[Z_];omega) fun j hj _=>by rw[Z0,if_neg (by omega)]
    ·exact R3.mono (by rw[Z_];omega) fun j hj _=>by rw[Z0,if_neg (by omega)]
  ·refine⟨aji _,⟨?_,?_,?_,?_,?_,?_,?_,.ZM,.ZM,.ZM,?_,?_,ZF.nil _ _ _ _,ZF.nil _ _ _ _,ZF.nil _ _ _ _⟩,?_,?_,?_⟩
   case refine_5=>exact ((hf.new _).new _).put (by simp only[Z'];omega) _
   case refine_6 =>
    intro j hj;simp only[Z0,ZY,Z'];rw[if_neg (by omega),if_neg (by omega),if_neg (by omega)]
   all_goals simp +contextual only[go_sem]
   all_goals first|rfl|omega|(rw[if_neg (by omega)])|skip
 obtain⟨s',lv,sv,st,h1,h2⟩:=key;exact⟨s',lv,sv,st,V_ k92 (by kernel_rfl) h1,h2⟩
mutual
def jd:ZX->List Bool->Bool
 |.mk k _ _ _ _ _ _ kids,hs=>bif XJ k then (match Zy k with
   |.Lv=>!(uL kids hs false true).1
   |.I_=>(uL kids hs false true).1
   |_=>(uL kids hs false true).2) else hs.headD false
def uL:List ZX->List Bool->Bool->Bool->Bool×Bool
 |[],_,s,a=>(s,a)
 |c::l,hs,s,a=>uL l (hs.drop (Wd c).length) (s||jd c hs) (a&&jd c hs)
end
theorem c9 (args:List AV)(s:St):XR U (Zw U 140 args) 140 args s=SH U 140 args s:=(XL U 140 args s).symm
theorem afN (args:List AV)(s:St):XR U (Zw U 141 args) 141 args s=SH U 141 args s:=(XL U 141 args s).symm
theorem aiy {p q b n:Nat}{cap:Option Nat}{H:List Bool}{k:Nat}{s:St}(p_:p≠q)(je:p≠b)(hk:k<H.length)(hn:H.length=n)(qf:n<=2^30)
  (hp:s.get p=some (.cells [.int .i64 ((k:Int)-1)] 3 false 0 0))(hq:s.get q=some (.cells [.sl b 0 n cap 1] 72 false 0 0))(hb:s.get b=some (.cells (ZB H) 4 false 0 0)) :
  SH U 141 [.ptr p 0,.ptr q 0] s=some (.bool H[k],s.put p (.cells [.int .i64 (k:Int)] 3 false 0 0)):=by
 refine V_ aid (by kernel_rfl) ?_;have hw:IntKind.i64.wrap ((k:Int)-1+1)=(k:Int):=by rw[wrap_i64] <;> omega
 have hx:(ZB H)[k]? = some (.bool H[k]):=by rw[EO,aaa hk];rfl
 have Cl:k<n:=by omega
 simp only[go_sem,afn,hp,hq,hb,hw,p_,je,hx,Cl,ajr,ajj]
def aca (p:Nat)(s0:St)(v:Bool)(m:Nat)(r:Option (AV×St)):Prop :=
 ∃s',r=some (.bool v,s')/\s'.get p=some (.cells [.int .i64 ((m:Int)-1)] 3 false 0 0)/\(∀j,j<s0.next->j≠p->s'.get j=s0.get j)/\s0.next<=s'.next/\Fr s'
theorem agH (p q b n:Nat)(cap:Option Nat)(H:List Bool)(p_:p≠q)(je:p≠b)(hn:H.length=n)(qf:n<=2^30):∀c:ZX,c.wf->∀(k:Nat) (s:St),Fr s->p<s.next->q<s.next->b<s.next ->
  s.get p=some (.cells [.int .i64 ((k:Int)-1)] 3 false 0 0)->s.get q=some (.cells [.sl b 0 n cap 1] 72 false 0 0)->s.get b=some (.cells (ZB H) 4 false 0 0)->k+(Wd c).length<=n ->
  aca p s (jd c (H.drop k)) (k+(Wd c).length) (SH U 140 [Zt c,.fn (.func 141) [] [.ptr p 0,.ptr q 0]] s):=by
 intro c
 induction c using ZX.ind with
 |h kind a bb mi ma pat nl kids ih =>
 intro QZ k s0 SA dy hq0 x9 hp hq hb Ct;have h213:=bH (.mk kind a bb mi ma pat nl kids);rw[show (ZX.mk kind a bb mi ma pat nl kids).kind=kind from rfl] at h213;have hcw:=QZ;rw[ZX.wf] at hcw;obtain⟨-,-,-,-,-,-,jK,-,-,-,-,hk8,hkw⟩:=hcw
 suffices hgo:aca p s0 (jd (.mk kind a bb mi ma pat nl kids) (H.drop k)) (k+(Wd (.mk kind a bb mi ma pat nl kids)).length) (go U (Rs U [.tmp 4]) [] eo (Zc 0 [Zt (.mk kind a bb mi ma pat nl kids),.fn (.func 141) [] [.ptr p 0,.ptr q 0]] .nil) s0) by
  obtain⟨s',h1,h2⟩:=hgo;exact⟨s',V_ aic (by kernel_rfl) h1,h2⟩
 rw[Wd] at Ct ⊢;rw[jd]
 cases Gy:XJ kind with
 |false =>
  rw[Gy] at h213 Ct;simp only[cond_false,ajR] at Ct ⊢;have hk:k<H.length:=by omega
  have Vg:=@aiy _ p q b n cap H k (s0.new (.cells (ZX.mk kind a bb mi ma pat nl kids).cells 78 false 0 0)) p_ je hk hn qf (by rw[ZY,if_neg (by omega)];exact hp) (by rw[ZY,if_neg (by omega)];exact hq) (by rw[ZY,if_neg (by omega)];exact hb);have hhd:(H.drop k).headD false=H[k]:=by rw[abc hk];rfl
  rw[hhd];rw[Zt] at h213 ⊢;simp only[ZX.cells,ZX.kind,ZX.a,ZX.b,ZX.mi,ZX.ma,ZX.pat,ZX.nl,ZX.kids] at Vg;simp only[go_sem,eo,h213,ZW,ZR,afN,Vg];refine⟨_,rfl,?_,?_,?_,?_⟩
  ·rw[Z0,if_pos rfl,show ((k+1:Nat):Int)-1=(k:Int) by omega]
  ·intro j hj hjp;rw[Z0,if_neg (fun e=>hjp e.symm),ZY,if_neg (by omega)]
  ·rw[Z_,Z'];omega
  ·exact (SA.new _).put (by rw[Z'];omega) _
 |true =>
  rw[Gy] at h213 Ct;simp only[cond_true] at Ct ⊢;rw[Zt] at h213 ⊢;have ne:∀k,(s0.next+1+k=s0.next)=False:=fun k=>by simp;omega
  simp only[go_sem,eo,h213,ZW,ZR,ZJ,Yt];refine YG (σ:=Nat) (fun i=>kids.length-i) (fun i e s=>i<=kids.length/\(∃sm al,uL (kids.drop i) (H.drop (k+(ZQ (kids.take i)).length)) sm al=uL kids (H.drop k) false true/\Env.get e 5=.bool sm/\Env.get e 6=.bool al) /\
   Env.get e 1=.fn (.func 141) [] [.ptr p 0,.ptr q 0]/\Env.get e 2=.ptr s0.next 0/\Env.get e 16=ZG nl (VJ kids)/\Env.get e 17=.int .i64 kids.length/\Env.get e 18=.int .i64 (i:Nat) /\
   Fr s/\s0.next<s.next/\s.get s0.next=some (.cells [.str kind,.int .i64 a,.int .i64 bb,.int .i64 mi,.int .i64 ma,.str pat,ZG nl (VJ kids)] 78 false 0 0)/\(∀j,j<s0.next->j≠p->s.get j=s0.get j) /\
   s.get p=some (.cells [.int .i64 (((k+(ZQ (kids.take i)).length:Nat):Int)-1)] 3 false 0 0)) 0 ?_ ?_
  ·rintro L i e s ⟨hi,⟨sm,al,hj,g5,g6⟩,g1,g2,Gt,j3,Gd,fr,UL,hs,hold,Lu⟩ IH;by_cases hd:i<kids.length
   ·have hx:(VJ kids)[i]? = some (Zt kids[i]):=by rw[UA,aaa hd];rfl
    have hw:=ZE hd (by omega);have Sh:=ajc hd;have KA:ZQ (kids.take (i+1))=ZQ (kids.take i)++Wd kids[i]:=by
     rw[ajC hd,Vu];simp[ZQ]
    have aat:ZQ kids=ZQ (kids.take i)++(Wd kids[i]++ZQ (kids.drop (i+1))):=by
     conv=>lhs;rw[<-List.take_append_drop i kids,Vu,abc hd,ZQ]
    have LA:(ZQ (kids.take i)).length+((Wd kids[i]).length+(ZQ (kids.drop (i+1))).length)=(ZQ kids).length:=by rw[aat];simp
    have hQ:∀y z j,j<s.next->((s.new y).put s.next z).get j=s.get j:=fun y z j hj=>by rw[Z0,if_neg (by omega),ZY,if_neg (by omega)]
    obtain⟨s',e1,e2,e3,e4,e5⟩:=ih kids[i] Sh (hkw _ Sh) (k+(ZQ (kids.take i)).length) ((s.new (.cells [.str [],.int .i64 0,.int .i64 0,.int .i64 0,.int .i64 0,.str [],.ZM] 78 false 0 0)).put s.next (.cells kids[i].cells 78 false 0 0))
     ((fr.new _).put (by rw[Z'];omega) _) (by rw[Z_,Z'];omega) (by rw[Z_,Z'];omega) (by rw[Z_,Z'];omega)
     (by rw[hQ _ _ _ (by omega)];exact Lu) (by rw[hQ _ _ _ (by omega),hold _ hq0 (fun e=>p_ e.symm)];exact hq) (by rw[hQ _ _ _ (by omega),hold _ x9 (fun e=>je e.symm)];exact hb) (by omega)
    rw[ZN] at hx e1;simp only[ZX.cells] at hx e1;rw[YF (WL hd)] at Gt;simp only[go_sem,CG,g1,g5,g6,Gt,j3,Gd,Z9,hd,hx,ZW,c9,e1,hw];rw[Z_,Z'] at e4;rw[abc hd,uL,List.drop_drop] at hj;refine IH (i+1) _ _ (by omega) ⟨by omega,⟨sm||jd kids[i] (H.drop (k+(ZQ (kids.take i)).length)),al&&jd kids[i] (H.drop (k+(ZQ (kids.take i)).length)),?_,?_,?_⟩,?_,?_,?_,?_,?_,e5,by omega,?_,?_,?_⟩
    case refine_1 =>
     rw[KA,ajh,<-ajf];exact hj
    case refine_9=>rw[e3 _ (by rw[Z_,Z'];omega) (by omega),hQ _ _ _ (by omega),hs]
    case refine_10=>exact fun j hj hjp=>by rw[e3 _ (by rw[Z_,Z'];omega) hjp,hQ _ _ _ (by omega),hold j hj hjp]
    case refine_11=>rw[KA,ajh,<-ajf];exact e2
    all_goals simp only[go_sem,g1,g2,g5,g6,Gt,j3,Gd,hw,YF (WL hd)]
    all_goals first|(cases sm <;> rfl)|(cases al <;> rfl)|skip
   ·have:i=kids.length:=by omega
    subst this;rw[ajy,uL] at hj;rw[List.take_length] at Lu;rw[<-hj];obtain⟨h0,h1,h2,h3,h4,h5,h6,h7,h8,h9,h10,h11,h12,h13,h14⟩:=RP kind;have Qa:=RM kind jK;rw[Gy] at Qa;have aiz:∀v,v=(match Zy kind with|.Lv=>!sm|.I_=>sm|_=>al)->aca p s0 (match Zy kind with|.Lv=>!(sm,al).1|.I_=>(sm,al).1|_=>(sm,al).2) (k+(ZQ kids).length) (some (.bool v,s)):=fun v hv =>
     ⟨s,by rw[hv],Lu,hold,by omega,fr⟩
    generalize Zy kind=dd at *
    cases dd <;> first|(simp[Kd.leaf] at Qa;done)|skip
    all_goals simp only[reduceCtorEq,decide_true,decide_false] at h12 h14
    all_goals simp only[go_sem,CG,g2,g5,g6,Gt,j3,Gd,hs,Z9,ajp,h12,h14]
    all_goals first|exact aiz _ rfl|(exfalso;simp[Kd.known] at jK)
  ·refine⟨aji _,⟨false,true,?_,?_,?_⟩,?_,?_,?_,?_,?_,SA.new _,by rw[Z'];omega,?_,?_,?_⟩
   case refine_1=>rw[ajS,List.take_zero,ZQ];rfl
   case refine_10=>exact fun j hj hjp=>by rw[ZY,if_neg (by omega)]
   case refine_11=>rw[ZY,if_neg (by omega),List.take_zero,ZQ];exact hp
   all_goals simp only[go_sem]
   all_goals rfl
end Go.Am
namespace Go.Am
open Go
variable [ZZ]
set_option maxRecDepth 100000
set_option maxHeartbeats 8000000
theorem sT {base i a:Nat}{e:Env}{s:St}{n:Nat}(h:Env.get e a=.int .i64 (n:Int))(hn:n<=2^20) :
  WU U base (some i) e s (.raw (.makeSlice 48 (.tmp a) (.tmp a)))=some (.sl (base+i) 0 n (some n) 1,s.put (base+i) (.cells (ints (List.replicate n 0)) 3 false 0 0)):=by
 have h40:U.Zj 48=some (.slice 3):=by kernel_rfl
 have hz:zero U 3=some (.int .i64 0):=by kernel_rfl
 have hi:(U.inf 3).map (fun i=>(i.bytes,i.size))=some (8,1):=by kernel_rfl
 have e1:ints (List.replicate n 0)=List.replicate n (.int .i64 0):=by simp[ints]
 cases hj:U.inf 3 with
 |none=>rw[hj] at hi;cases hi
 |some j =>
  rw[hj] at hi;simp only[aki,Option.some.injEq,Prod.mk.injEq] at hi;obtain⟨h1,h2⟩:=hi;rw[e1,<-UJ];simp only[WU,sS,YK,eval,h,h40,hj,hz];rw[if_pos ⟨by omega,by omega,by rw[h1];omega,by omega,by rw[h2];rfl,by omega⟩,h2];rfl
theorem sR {base i a:Nat}{e:Env}{s:St}{n:Nat}(h:Env.get e a=.int .i64 (n:Int))(hn:n<=2^20) :
  WU U base (some i) e s (.raw (.makeSlice 72 (.tmp a) (.tmp a)))=some (.sl (base+i) 0 n (some n) 1,s.put (base+i) (.cells (ZB (List.replicate n false)) 4 false 0 0)):=by
 have h40:U.Zj 72=some (.slice 4):=by kernel_rfl
 have hz:zero U 4=some (.bool false):=by kernel_rfl
 have hi:(U.inf 4).map (fun i=>(i.bytes,i.size))=some (1,1):=by kernel_rfl
 have e1:ZB (List.replicate n false)=List.replicate n (.bool false):=by simp[ZB]
 cases hj:U.inf 4 with
 |none=>rw[hj] at hi;cases hi
 |some j =>
  rw[hj] at hi;simp only[aki,Option.some.injEq,Prod.mk.injEq] at hi;obtain⟨h1,h2⟩:=hi;rw[e1,<-UJ];simp only[WU,sS,YK,eval,h,h40,hj,hz];rw[if_pos ⟨by omega,by omega,by rw[h1];omega,by omega,by rw[h2];rfl,by omega⟩,h2];rfl
theorem ints_set (l:List Int)(i:Nat)(x:Int):(ints l).set i (.int .i64 x)=ints (l.set i x):=by rw[ints,ints,List.map_set]
theorem sP (l:List Bool)(i:Nat)(x:Bool):(ZB l).set i (.bool x)=ZB (l.set i x):=by rw[ZB,ZB,List.map_set]
def VU (now last:Int)(first:Bool)(c:ZX)(st:Int):Int×Bool:=iG (Zy c.kind) c st now last first
def Ye (now last:Int)(first:Bool):List ZX->List Int->List Int
 |c::l,st::Za=>(VU now last first c st).1::Ye now last first l Za
 |_,_=>[]
def Yk (now last:Int)(first:Bool):List ZX->List Int->List Bool
 |c::l,st::Za=>(VU now last first c st).2::Yk now last first l Za
 |_,_=>[]
theorem OC (now last:Int)(first:Bool):∀(l:List ZX) (Za:List Int),Za.length=l.length->(Ye now last first l Za).length=l.length
 |[],[],_=>rfl
 |c::l,st::Za,h=>by rw[Ye,ajk,OC now last first l Za (by simpa using h)];rfl
theorem Rf (now last:Int)(first:Bool):∀(l:List ZX) (Za:List Int),Za.length=l.length->(Yk now last first l Za).length=l.length
 |[],[],_=>rfl
 |c::l,st::Za,h=>by rw[Yk,ajk,Rf now last first l Za (by simpa using h)];rfl
theorem Eo (now last:Int)(first:Bool):∀(l:List ZX) (Za:List Int) (i:Nat) (h1:i<l.length) (h2:i<Za.length) (h3:i<(Ye now last first l Za).length),(Ye now last first l Za)[i]=(VU now last first l[i] Za[i]).1
 |c::l,st::Za,0,_,_,_=>rfl
 |c::l,st::Za,i+1,h1,h2,h3=>by
  simp only[Ye,List.getElem_cons_succ];exact Eo now last first l Za i (by simpa using h1) (by simpa using h2) _
theorem En (now last:Int)(first:Bool):∀(l:List ZX) (Za:List Int) (i:Nat) (h1:i<l.length) (h2:i<Za.length) (h3:i<(Yk now last first l Za).length),(Yk now last first l Za)[i]=(VU now last first l[i] Za[i]).2
 |c::l,st::Za,0,_,_,_=>rfl
 |c::l,st::Za,i+1,h1,h2,h3=>by
  simp only[Yk,List.getElem_cons_succ];exact En now last first l Za i (by simpa using h1) (by simpa using h2) _
def outs:List ZX->List Bool->List Bool
 |[],_=>[]
 |c::l,hs=>jd c hs::outs l (hs.drop (Wd c).length)
section
variable (C L:List ZX)(Za:List Int)(now last:Int)(first:Bool)
structure F93 (n i:Nat)(N:List Int)(B:List Bool)(e:Env)(s:St):Prop where
 t1:Env.get e 1=.fz (ints Za)
 t3:Env.get e 3=.ptr 8 0
 t5:Env.get e 5=.ptr 9 0
 t8:Env.get e 8=.sl 12 0 n (some n) 1
 t9:Env.get e 9=.ptr 16 0
 fr:Fr s
 nx:19<=s.next
 g8:s.get 8=some (.cells [.fz (C.map Zt),.fz (L.map Zt),.fz (L.map XD)] 128 false 0 0)
 g9:s.get 9=some (.cells [.int .i64 now,.int .i64 last,.bool first] 137 false 0 0)
 SB:s.get 12=some (.cells (ints (part N 0 n i)) 3 false 0 0)
 zb:s.get 15=some (.cells (ZB (part B false n i)) 4 false 0 0)
 Gt:s.get 16=some (.cells [.sl 15 0 n (some n) 1] 72 false 0 0)
theorem agI {β:Type}{fin:Fl->β}{ks:List K}{Zu:β->Prop}(hL:∀c∈L,c.wf/\(Zy c.kind).leaf=true)(hs:∀x∈Za,0<=x/\x<=256)(hlen:Za.length=L.length)(hL2:L.length<=2^20)(hn:HQ now)(hl:HQ last)
  (hk:∀e s,F93 C L Za now last first L.length L.length (Ye now last first L Za) (Yk now last first L Za) e s->Zu (goN U fin ks e s)){e:Env}{s:St}
  (hI:F93 C L Za now last first L.length 0 (Ye now last first L Za) (Yk now last first L Za) e s)(h23:Env.get e 23=.fz (L.map Zt))(h24:Env.get e 24=.int .i64 L.length)(h25:Env.get e 25=.int .i64 (0:Nat)) :
  Zu (SC U fin (.bk 0::ks) CO e s):=by
 have lN:=OC now last first L Za hlen
 have lB:=Rf now last first L Za hlen
 refine YG (σ:=Nat) (fun i=>L.length-i) (fun i e s=>i<=L.length/\F93 C L Za now last first L.length i (Ye now last first L Za) (Yk now last first L Za) e s/\Env.get e 23=.fz (L.map Zt)/\Env.get e 24=.int .i64 L.length/\Env.get e 25=.int .i64 (i:Nat)) 0 ?_ ⟨aji _,hI,h23,h24,h25⟩;clear hI h23 h24 h25 e s;rintro Lp i e s ⟨hi,hF,h23,h24,h25⟩ IH;by_cases hd:i<L.length
 ·obtain⟨t1,t3,t5,t8,t9,fr,nx,g8,g9,SB,zb,Gt⟩:=hF;have hx:(L.map Zt)[i]? = some (Zt L[i]):=by rw[ajv,aaa hd];rfl
  have hxs:(L.map XD)[i]? = some (XD L[i]):=by rw[ajv,aaa hd];rfl
  have aJ:i<Za.length:=by omega
  have hxt:(ints Za)[i]? = some (.int .i64 Za[i]):=by rw[SW,aaa aJ];rfl
  have Qp:=ZE hd (by omega);have Sh:=ajc hd;obtain⟨w1,w2⟩:=hL _ Sh;have WY:∀s,MN U (XD L[i]) [Zt L[i],.int .i64 Za[i],Yn now last first] s=some (.XF [.int .i64 (VU now last first L[i] Za[i]).1,.bool (VU now last first L[i] Za[i]).2],s) :=
   fun s=>qJ L[i] w1.Cz Za[i] now last first hn hl (hs _ (ajc aJ)) _ w2 s
  rw[<-Eo now last first L Za i hd aJ (by omega),<-En now last first L Za i hd aJ (by omega)] at WY;have dQ:lay i [.int .i64 ((Ye now last first L Za)[i]'(by omega))] (ints (part (Ye now last first L Za) 0 L.length i))=some (ints (part (Ye now last first L Za) 0 L.length (i+1))):=by
   rw[MF _ _ _ (by rw[Zl,AU _ _ lN hi];exact hd),ints_set,AT _ _ lN hd]
  have jH:lay i [.bool ((Yk now last first L Za)[i]'(by omega))] (ZB (part (Yk now last first L Za) false L.length i))=some (ZB (part (Yk now last first L Za) false L.length (i+1))):=by
   rw[MF _ _ _ (by rw[Wm,AU _ _ lB hi];exact hd),sP,AT _ _ lB hd]
  rw[Yn] at WY;rw[ZN] at hx WY;simp only[ZX.cells] at hx WY;generalize (Ye now last first L Za)[i]'(by omega)=vN at *;generalize (Yk now last first L Za)[i]'(by omega)=vB at *;have ne:∀k,k<19->(s.next=k)=False:=fun k hk=>by simp;omega
  have ne':∀j k,k<19->(s.next+j=k)=False:=fun j k hk=>by simp;omega
  simp only[go_sem,CO,t1,t3,t5,t8,t9,g8,g9,SB,zb,Gt,h23,h24,h25,Z9,hd,hx,hxs,hxt,ZW,Ko,So,UZ aeB,ne,ne',WY,dQ,jH,Qp,ajj,ajr];have Zv:∀k,k<19->¬s.next=k:=fun k hk=>by omega
  refine IH (i+1) _ _ (by omega) ⟨by omega,⟨?_,?_,?_,?_,?_,?_,?_,?_,?_,?_,?_,?_⟩,?_,?_,?_⟩
  case refine_6 =>
   repeat first|exact fr|apply Fr.new|apply Fr.put|apply Fr.upto
   all_goals simp only[Z_,Z',ZV]
   all_goals omega
  case refine_7=>simp only[Z_,Z',ZV];omega
  all_goals simp only[go_sem,t1,t3,t5,t8,t9,h23,h24,h25,Qp,g8,g9,Gt,Nat.reduceEqDiff,Zv,ne,Nat.reduceLT]
 ·have:i=L.length:=by omega
  subst this;simp only[go_sem,CO,h23,h24,h25,Z9,ajp];obtain⟨t1,t3,t5,t8,t9,fr,nx,g8,g9,SB,zb,Gt⟩:=hF;refine hk _ _ ⟨?_,?_,?_,?_,?_,fr,nx,g8,g9,SB,zb,Gt⟩
  all_goals simp only[go_sem,t1,t3,t5,t8,t9]
end
end Go.Am
namespace Go.Am
open Go
variable [ZZ]
set_option maxRecDepth 100000
set_option maxHeartbeats 8000000
section
variable (C:List ZX)(N:List Int)(B:List Bool)
theorem agG {β:Type}{fin:Fl->β}{ks:List K}{Zu:β->Prop}(p:Nat)(hp:19<=p)(hC:∀c∈C,c.wf)(hC2:C.length<=2^20)(hB:B.length=(ZQ C).length)(hB2:B.length<=2^20)
  (hk:∀e s v,Env.get e 8=.sl 12 0 B.length (some B.length) 1->Env.get e 13=v->ZF s (p+1) 4 1 (outs C B).length (ZB (outs C B)) v->s.get 12=some (.cells (ints N) 3 false 0 0)->Zu (goN U fin ks e s)){e:Env}{s:St}
  (h8:Env.get e 8=.sl 12 0 B.length (some B.length) 1)(h9:Env.get e 9=.ptr 16 0)(h12:Env.get e 12=.ptr p 0)(h13:Env.get e 13=.ZM)(h53:Env.get e 53=.fz (C.map Zt))(h54:Env.get e 54=.int .i64 C.length)(h55:Env.get e 55=.int .i64 (0:Nat))
  (fr:Fr s)(nx:p<s.next)(gp:s.get p=some (.cells [.int .i64 (-1)] 3 false 0 0))(SB:s.get 12=some (.cells (ints N) 3 false 0 0))(zb:s.get 15=some (.cells (ZB B) 4 false 0 0))(Gt:s.get 16=some (.cells [.sl 15 0 B.length (some B.length) 1] 72 false 0 0)) :
  Zu (SC U fin (.bk 2::ks) C_ e s):=by
 refine YG (σ:=Nat) (fun i=>C.length-i) (fun i e s=>i<=C.length/\Env.get e 8=.sl 12 0 B.length (some B.length) 1/\Env.get e 9=.ptr 16 0/\Env.get e 12=.ptr p 0/\Env.get e 53=.fz (C.map Zt)/\Env.get e 54=.int .i64 C.length/\Env.get e 55=.int .i64 (i:Nat) /\
  Fr s/\p<s.next/\s.get p=some (.cells [.int .i64 (((ZQ (C.take i)).length:Int)-1)] 3 false 0 0)/\s.get 12=some (.cells (ints N) 3 false 0 0)/\s.get 15=some (.cells (ZB B) 4 false 0 0)/\s.get 16=some (.cells [.sl 15 0 B.length (some B.length) 1] 72 false 0 0) /\
  ∃v acc,Env.get e 13=v/\acc.length=i/\ZF s (p+1) 4 1 i (ZB acc) v/\acc++outs (C.drop i) (B.drop (ZQ (C.take i)).length)=outs C B) 0 ?_
  ⟨aji _,h8,h9,h12,h53,h54,h55,fr,nx,by rw[List.take_zero,ZQ,gp];rfl,SB,zb,Gt,.ZM,[],h13,rfl,ZF.nil _ _ _ _,by rw[List.take_zero,ZQ];rfl⟩
 clear h8 h9 h12 h13 h53 h54 h55 fr nx gp SB zb Gt e s;rintro Lp i e s ⟨hi,h8,h9,h12,h53,h54,h55,fr,nx,gp,SB,zb,Gt,v,acc,h13,Ls,hv,ho⟩ IH;by_cases hd:i<C.length
 ·have hx:(C.map Zt)[i]? = some (Zt C[i]):=by rw[ajv,aaa hd];rfl
  have hw:=ZE hd (by omega);have Sh:=ajc hd;have KA:ZQ (C.take (i+1))=ZQ (C.take i)++Wd C[i]:=by
   rw[ajC hd,Vu];simp[ZQ]
  have aat:ZQ C=ZQ (C.take i)++(Wd C[i]++ZQ (C.drop (i+1))):=by
   conv=>lhs;rw[<-List.take_append_drop i C,Vu,abc hd,ZQ]
  have LA:(ZQ (C.take i)).length+((Wd C[i]).length+(ZQ (C.drop (i+1))).length)=(ZQ C).length:=by rw[aat];simp
  have hQ:∀y z j,j<s.next->((s.new y).put s.next z).get j=s.get j:=fun y z j hj=>by rw[Z0,if_neg (by omega),ZY,if_neg (by omega)]
  obtain⟨s',e1,e2,e3,e4,e5⟩:=agH p 16 15 B.length (some B.length) B (by omega) (by omega) rfl (by omega) C[i] (hC _ Sh) (ZQ (C.take i)).length ((s.new (.cells [.str [],.int .i64 0,.int .i64 0,.int .i64 0,.int .i64 0,.str [],.ZM] 78 false 0 0)).put s.next (.cells C[i].cells 78 false 0 0))
   ((fr.new _).put (by rw[Z'];omega) _) (by rw[Z_,Z'];omega) (by rw[Z_,Z'];omega) (by rw[Z_,Z'];omega)
   (by rw[hQ _ _ _ (by omega)];exact gp) (by rw[hQ _ _ _ (by omega)];exact Gt) (by rw[hQ _ _ _ (by omega)];exact zb) (by omega)
  rw[Z_,Z'] at e3 e4;rw[ZN] at hx e1;simp only[ZX.cells] at hx e1;have Qf:=hv.Xg;have Ub:=hv.Zx;have Un:(i+1)*1<=1099511627776:=by omega
  have VD:i+1<=1099511627776:=by omega
  simp only[go_sem,C_,h9,h12,h13,h53,h54,h55,Z9,hd,hx,ZW,c9,e1,hw,ZD,Nat.reducePow,ajB,Qf,Ub,Un,VD];generalize hjv:jd C[i] (B.drop (ZQ (C.take i)).length)=jv at *;have Cy:ZF (s'.new (.cells [.bool jv] 4 false 0 0)) (p+1) 4 1 i (ZB acc) v:=hv.mono (by rw[Z'];omega) fun j hj yh=>by
   rw[ZY,if_neg (by omega),e3 j (by omega) (by omega),hQ _ _ _ yh]
  obtain⟨s1,f1,f2,f3,f4,f5⟩:=Cy.Il (by rw[Z'];omega) (m:=1) (new:=[.bool jv]) (by omega) rfl rfl;rw[Z'] at f1 f2 f3 f4;rw[f1];have low:∀j,j<p+1->s1.get j=s'.get j:=fun j hj=>by rw[f4 j (by omega) (Cy.Bt (.inr hj)),ZY,if_neg (by omega)]
  simp only[go_sem,h55,hw];rw[abc hd,outs,hjv,List.drop_drop] at ho;refine IH (i+1) _ _ (by omega) ⟨by omega,?_,?_,?_,?_,?_,?_,f5 (e5.new _),by rw[f2];omega,?_,?_,?_,?_,.sl (s'.next+1) 0 (i+1) none 1,acc++[jv],?_,?_,?_,?_⟩
  case refine_7=>rw[low p (by omega),e2,KA,ajh]
  case refine_8=>rw[low 12 (by omega),e3 _ (by omega) (by omega),hQ _ _ _ (by omega),SB]
  case refine_9=>rw[low 15 (by omega),e3 _ (by omega) (by omega),hQ _ _ _ (by omega),zb]
  case refine_10=>rw[low 16 (by omega),e3 _ (by omega) (by omega),hQ _ _ _ (by omega),Gt]
  case refine_12=>rw[ajh,Ls];rfl
  case refine_13=>rw[ZB,ajA];exact f3
  case refine_14=>rw[KA,ajh,ajQ];exact ho
  all_goals simp only[go_sem,h8,h9,h12,h53,h54,hw]
 ·have:i=C.length:=by omega
  subst this;rw[ajy,outs,ajG] at ho;rw[<-ho] at hk;simp only[go_sem,C_,h54,h55,Z9,ajp];refine hk _ _ v ?_ ?_ (by rw[Ls];exact hv) SB
  all_goals simp only[go_sem,h8,h13]
end
theorem Ib:∀(C:List ZX) (B:List Bool),(outs C B).length=C.length
 |[],_=>rfl
 |c::l,B=>by rw[outs,ajk,Ib l,ajk]
def P93 (N:List Int)(O:List Bool)(r:Option (AV×St)):Prop:=∃s' v B,r=some (.XF [.sl 12 0 N.length (some N.length) 1,v],s')/\s'.get 12=some (.cells (ints N) 3 false 0 0)/\ZF s' B 4 1 O.length (ZB O) v
theorem g93 (C:List ZX)(Za:List Int)(now last:Int)(first:Bool)(hC:∀c∈C,c.wf)(hC2:C.length<=2^20)(hs:∀x∈Za,0<=x/\x<=256)(hlen:Za.length=(ZQ C).length)(hL2:(ZQ C).length<=2^20)(hn:HQ now)(hl:HQ last) :
  P93 (Ye now last first (ZQ C) Za) (outs C (Yk now last first (ZQ C) Za)) (go U (Rs U [.tmp 6,.tmp 7]) [] r93 (Zc 0 [.agg [.fz (C.map Zt),.fz ((ZQ C).map Zt),.fz ((ZQ C).map XD)],.fz (ints Za),Yn now last first] .nil) (Yl U)):=by
 have lN:=OC now last first (ZQ C) Za hlen
 have lB:=Rf now last first (ZQ C) Za hlen
 have hLw:∀c∈ZQ C,c.wf/\(Zy c.kind).leaf=true:=fun c hc=>by
  obtain⟨x,h1,h2⟩:=PG hc;exact PF x (hC x h1) c h2
 rw[Yn];have m1:=fun (e:Env) (s:St) (h:Env.get e 17=.int .i64 ((ZQ C).length:Int))=>@sT _ 10 2 17 e s _ h hL2
 have m2:=fun (e:Env) (s:St) (h:Env.get e 20=.int .i64 ((ZQ C).length:Int))=>@sR _ 10 5 20 e s _ h hL2
 simp only[go_sem,r93,UZ adx,Zl,hlen,m1,m2,aje];refine agI C (ZQ C) Za now last first (Zu:=P93 (Ye now last first (ZQ C) Za) (outs C (Yk now last first (ZQ C) Za))) hLw hs hlen hL2 hn hl ?_ ⟨?_,?_,?_,?_,?_,?_,?_,?_,?_,?_,?_,?_⟩ ?_ ?_ ?_
 case refine_1 =>
  rintro e s ⟨t1,t3,t5,t8,t9,fr,nx,g8,g9,SB,zb,Gt⟩;rw[EN _ _ lN] at SB;rw[EN _ _ lB] at zb;have ne:∀k,k<19->(s.next=k)=False:=fun k hk=>by simp;omega
  rw[<-lB] at t8 Gt;simp only[go_sem,t3,g8,ne,Nat.reduceLT,aje];refine agG C (Ye now last first (ZQ C) Za) (Yk now last first (ZQ C) Za) (Zu:=P93 (Ye now last first (ZQ C) Za) (outs C (Yk now last first (ZQ C) Za))) s.next nx hC hC2 lB (by omega) ?_ ?_ ?_ ?_ ?_ ?_ ?_ ?_ ?_ ?_ ?_ ?_ ?_ ?_
  case refine_1 =>
   intro e' s' v q8 yw hv pV;have el:(Yk now last first (ZQ C) Za).length=(Ye now last first (ZQ C) Za).length:=by rw[lB,lN]
   rw[el] at q8;simp only[go_sem,q8,yw];exact⟨s',v,_,rfl,pV,hv⟩
  case refine_9 =>
   repeat first|exact fr|apply Fr.new|apply Fr.put|apply Fr.upto
   all_goals simp only[Z_,Z',ZV]
   all_goals omega
  case refine_10=>simp only[Z_,Z'];omega
  all_goals simp only[go_sem,t8,t9,SB,zb,Gt,ne,Nat.reduceLT]
  all_goals rfl
 case refine_7 =>
  repeat first|exact Fr.own|apply Fr.new|apply Fr.put|apply Fr.upto
  all_goals simp only[go_sem]
 all_goals simp only[go_sem,rX]
 all_goals rfl
end Go.Am
namespace Go.Am
open Go
variable [ZZ]
set_option maxRecDepth 100000
set_option maxHeartbeats 8000000
theorem uJ {s:St}{b d n:Nat}{cap:Option Nat}{t:TypeId}{l:List AV}(hn:n=l.length)(hg:s.get b=some (.cells l t false 0 0))(F1:YB U t=some false)(Wh:size U t=some 1)(Ub:l.all Zx=true)(hf:YT (Xy U s d) l=some l) :
  Xy U s (d+1) (.sl b 0 n cap 1)=some (.fz l):=by
 subst hn;simp only[Xy,hg,ajj,Wi,F1,Wh];rw[if_pos ⟨trivial,by omega,fun _=>⟨trivial,Ub⟩⟩,Vt,hf]
theorem rZ (s:St)(d:Nat)(l:List Int):YT (Xy U s (d+1)) (ints l)=some (ints l):=Vl fun x hx=>by
 obtain⟨b,_,rfl⟩:=ajs.1 hx;rfl
theorem Nt (s:St)(d:Nat)(l:List Bool):YT (Xy U s (d+1)) (ZB l)=some (ZB l):=Vl fun x hx=>by
 obtain⟨b,_,rfl⟩:=ajs.1 hx;rfl
theorem ZF.Nt {s:St}{B:Nat}{l:List Bool}{v:AV}(h:ZF s B 4 1 l.length (ZB l) v)(d:Nat):Xy U s (d+2) v=some (ZG true (ZB l)):=by
 rcases h with⟨h0,rfl,_⟩|⟨h0,h1,b,_,_,rfl,hg⟩
 ·have:l=[]:=ajI.1 h0;subst this;rfl
 ·rw[uJ (Wm l).symm hg tg tf (T4 l) (Go.Am.Nt s d l)]
  cases l with
  |nil=>simp at h0
  |cons x l=>rfl
theorem EP {s:St}{d:Nat}{a b a' b':AV}(h1:Xy U s d a=some a')(h2:Xy U s d b=some b'):Xy U s (d+1) (.XF [a,b])=some (.XF [a',b']):=by
 have e:YT (Xy U s d) [a,b]=some [a',b']:=by
  rw[YT,h1,YT,h2,YT]
 rw[Xy,e]
theorem adb (C:List ZX)(Za:List Int)(now last:Int)(first:Bool)(hC:∀c∈C,c.wf)(hC2:C.length<=2^20)(hs:∀x∈Za,0<=x/\x<=256)(hlen:Za.length=(ZQ C).length)(hL2:(ZQ C).length<=2^20)(hn:HQ now)(hl:HQ last)(s:St) :
  Tq U 69 (some [.agg [.fz (C.map Zt),.fz ((ZQ C).map Zt),.fz ((ZQ C).map XD)],.fz (ints Za),Yn now last first]) s =
   some (.XF [.fz (ints (Ye now last first (ZQ C) Za)),ZG true (ZB (outs C (Yk now last first (ZQ C) Za)))],s):=by
 refine Ri U s ?_;obtain⟨s',v,B,h1,h2,h3⟩:=g93 C Za now last first hC hC2 hs hlen hL2 hn hl
 obtain⟨fn,c,f1,f2,f3,f4⟩:=Ox k93;have hB:=Ma U f1 f2 f3 f4 h1;unfold UN;rw[hB];have Lt:flat (.XF [.sl 12 0 (Ye now last first (ZQ C) Za).length (some (Ye now last first (ZQ C) Za).length) 1,v])=false:=rfl;have e1:=uJ (d:=38) (cap:=some (Ye now last first (ZQ C) Za).length) (Zl _).symm h2 DP DO (VB _) (rZ _ _ _);have e2:=h3.Nt 37;have e3:=EP e1 e2;have hd:U2=38+1+1:=rfl;simp only[ajn,if_false,Lt];rw[hd];exact e3
end Go.Am
namespace Go.Am
open Go
variable [ZZ]
set_option maxRecDepth 100000
set_option maxHeartbeats 4000000
end Go.Am
namespace Go.Am
open Go
variable [ZZ]
set_option maxRecDepth 100000
set_option maxHeartbeats 8000000
def r4:RC:=(sO [Yy 4 106 1,XW 6] (sQ (sO [Ps 10 8,VO 11 10,om 12 11,Kt 13 12 7 4,AO 14 12 72 13 12,Uj 15 12 14,Yj 16 12 15,om 17 16,X8 18 17 2,AO 19 17 22 18 60,Uj 20 17 19,Yj 21 17 20] (cT 21 (sO [Ps 22 8,om 6 22] .ret))) (sO [om 24 0,Zh 25 7 4,YO 26 82 25,om 27 2,Mh 28 39 24 26 27,om 23 28,Yd 29 23 0,Yd 30 23 1,om 7 29,om 8 30] (sQ (.Sf 8 [om 31 0,YO 32 73 31,om 33 0,Zh 34 7 4,o 35 (.call 74 [(.t 33),(.t 34),(vI 1)]),⟨some 36,none,some 5,false,.SE 3 1 2 [(iI 0),(iI 0)] [(0,1,(.t 32)),(1,1,(.t 35))]⟩,YO 37 25 36,om 9 37]) (sQ (sO [om 38 9,U4 39 3 38 0] (cT 39 (oP [om 40 0,om 41 2,YI 42 31 40 41,om 9 42]))) (sQ (sO [om 43 9,Vh 44 3 43 0] (cT 44 (sO [om 45 7,YS 46 45,U4 47 3 46 0,om 48 47,VP 49 48 8,VP 50 48 9,oT 51 48 (.bin .eql 3 false (.t 49) (.t 50)),X4 52 48 51,om 6 52] .ret))) (sO [om 53 8,U4 54 26 53 0,om 55 54,VP 56 55 7,Pr 57 55 7 4,VP 58 55 2,Mg 59 55 30 57 58,Mg 60 55 44 56 59,X4 61 55 60,om 6 61] .ret)))))))
end Go.Am
