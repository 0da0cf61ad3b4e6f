/- A part of the proof of a statement of this seat: the machine on which the program is read, and what it computes; for every input. -/
import Derived.Test.YtikiipfbkfgmbaaGreatDoorZ04
import Derived.Test.YtikiipfbkfgmbaaGreatDoorZ06
import Derived.Test.YtikiipfbkfgmbaaGreatDoorZ05
import Derived.Test.YtikiipfbkfgmbaaGreatDoorZ00
set_option linter.all false
namespace Go.Am
open Go
variable [Z4]
set_option maxRecDepth 100000
set_option maxHeartbeats 8000000
def aoz:RC:=(sO [YN 20 3 19 18] (sQ (cS 20 (.exit 0)) (sQ (.block 1 (sO [om 21 19,Zk 22 1 17 19,Z0 23 22,om 9 21,om 10 23] (sQ (sO [ZX 24 2 2,Z0 25 24,om 26 7,Zk 27 1 25 26,Z0 28 27,om 29 10,Zk 30 1 28 29,Z0 31 30] (cT 31 (oP [om 32 8,om 33 9,RQ 34 3 1 1 0 0 1 33,VT 35 3 1 8 32 34,om 8 35]))) (oP [ZX 36 1 2,Z0 37 36,om 38 7,Zk 39 1 37 38,Z0 40 39,om 41 10,Zk 42 1 40 41,Z0 43 42,om 7 43])))) (oP [YE 44 3 19 1,om 19 44]))))
def r57:RC:=(sO [Zi 2 69 0,WY 4,ZA 5 0] (sQ (sO [Zr 11 3 2,om 12 1,Zb 13 123 11 12,om 6 13] (sO [om 14 6,TY 15 26 14 0] (cT 15 (sO [om 16 6,WY 4,om 5 16] .ret)))) (sO [ZA 7 0] (sO [WY 8] (sQ (sO [om 17 1,YU 18 17,ZA 19 0] (.block 0 (.loop aoz))) (sO [om 45 8,om 4 45,ZA 5 0] .ret))))))
theorem k57:Ze 57=some ([.tmp 4,.tmp 5],r57):=by kernel_rfl
def aoO:RC:=(sO [YN 39 3 38 37] (sQ (cS 39 (.exit 0)) (sQ (.block 1 (sO [om 40 38,Zk 41 1 36 38,Z0 42 41,om 4 40,om 5 42] (sQ (.TP 19 [om 43 5,YU 44 43,ZX 45 0 1,Z0 46 45,DP 47 3 1 46,Oe 48 3 44 47,om 49 48,Uj 50 49 2 1,XH 51 49 50,Yo 52 49 4,oF 53 49 (.Jb 1 (.t 51) (.t 52)),XH 54 49 53,oF 55 49 (.SW (.t 54)),Uj 56 49 0 1,XH 57 49 56,oF 58 49 (.bin .shl 3 true (vI 1) (.t 57)),oF 59 49 (.bin .neq 3 false (.t 55) (.t 58)),Yp 60 49 59,om 6 60]) (sO [om 61 5,o 62 (.mkf 126 [] [(.t 1)]),Zb 63 125 61 62,om 7 63] (sO [om 64 6,Wh 65 116 64 2,om 66 7,Wh 67 116 66 10,o 68 (.U3 26 1 2 [(iI 0),(iI 0)] [(0,1,(.t 65)),(1,1,(.t 67))]),Zc 69 89 68,om 8 69] (sO [om 70 8,TY 71 26 70 0] (cT 71 (sO [om 72 8,om 2 72] .ret)))))))) (oP [YE 73 3 38 1,om 38 73]))))
def r58:RC:=(sO [Zi 1 69 0,ZA 2 0] (sQ (sQ (.TP 24 [ZX 9 0 1,Z0 10 9,Gf 11 124 10 1 4,ZX 12 1 1,Z0 13 12,YU 14 13,VR 15 3 14 0,Wh 16 116 15 12,ZX 17 1 1,Z0 18 17,YU 19 18,VM 20 3 19 256,Wh 21 116 20 5,ZX 22 2 1,Z0 23 22,YU 24 23,ZX 25 1 1,Z0 26 25,YU 27 26,Oe 28 3 24 27,Wh 29 116 28 2,⟨some 30,none,some 21,false,.U3 26 1 4 [(iI 0),(iI 0),(iI 0),(iI 0)] [(0,1,(.t 11)),(1,1,(.t 16)),(2,1,(.t 21)),(3,1,(.t 29))]⟩,Zc 31 89 30,om 3 31]) (sO [om 32 3,TY 33 26 32 0] (cT 33 (sO [om 34 3,om 2 34] .ret)))) (sQ (sO [ZX 35 1 1,Z0 36 35,YU 37 36,ZA 38 0] (.block 0 (.loop aoO))) (sO [ZA 2 0] .ret))))
theorem k58:Ze 58=some ([.tmp 2],r58):=by kernel_rfl
def anq:RC:=(sO [Zi 2 69 0,ZA 4 0] (sQ (sO [Zr 6 3 2,Zc 7 58 6,om 5 7] (sO [om 8 5,TY 9 26 8 0] (cT 9 (sO [om 10 5,om 4 10] .ret)))) (sO [ZX 11 0 2,Z0 12 11,om 13 1,Zb 14 91 12 13,om 4 14] .ret)))
theorem an7:Ze 123=some ([.tmp 4],anq):=by kernel_rfl
def anJ:RC:=(sO [Zj 3] (sO [om 4 0,o 5 (.bin .lss 3 true (.t 4) (vI 0)),om 6 5,Yo 7 6 0,Uj 8 6 1 1,XH 9 6 8,oF 10 6 (.SW (.t 9)),zm 11 6 3 7 10,Yp 12 6 11,om 3 12] .ret))
theorem an4:Ze 126=some ([.tmp 3],anJ):=by kernel_rfl
def afn:RC:=(sO [WY 2] (sQ (sO [om 3 0,o 4 (.bin .eql 43 true (.t 3) (.v .ZW))] (cT 4 (sO [WY 2] .ret))) (sO [o 5 (.U3 4 1 0 [] []),om 6 0,VT 7 4 1 1 5 6,om 2 7] .ret)))
theorem ai4:Ze 173=some ([.tmp 2],afn):=by kernel_rfl
def af2:RC:=(sO [WY 2] (sQ (sO [om 3 0,o 4 (.bin .eql 40 true (.t 3) (.v .ZW))] (cT 4 (sO [WY 2] .ret))) (sO [o 5 (.U3 3 1 0 [] []),om 6 0,VT 7 3 1 8 5 6,om 2 7] .ret)))
theorem ajK:Ze 215=some ([.tmp 2],af2):=by kernel_rfl
def d_:RC:=(sO [Zj 4] (sO [om 9 0,Yb 10 9,ZX 11 2 10,Z0 12 11,om 13 1,Zk 14 1 12 13,Z0 15 14,om 5 15] (sQ (.TP 24 [om 16 0,Yb 17 16,ZX 18 1 17,Z0 19 18,om 20 1,Zk 21 1 19 20,Z0 22 21,om 23 0,Yb 24 23,ZX 25 3 24,Z0 26 25,om 27 5,Zk 28 1 26 27,Z0 29 28,om 30 0,Yb 31 30,ZX 32 5 31,Z0 33 32,om 34 5,Zk 35 1 33 34,Z0 36 35,TL 37 3 29 36,om 6 22,om 7 37]) (sQ (sO [om 38 6,om 39 7,YN 40 3 38 39] (cT 40 (sO [Zj 4] .ret))) (sO [om 41 0,Yb 42 41,ZX 43 0 42,Z0 44 43,om 45 7,Zk 46 1 44 45,Z0 47 46,om 8 47] (sQ (.TP 16 [om 48 0,Yb 49 48,ZX 50 0 49,Z0 51 50,om 52 6,om 53 0,Yb 54 53,ZX 55 0 54,Z0 56 55,om 57 7,om 58 8,om 59 1,Zk 60 1 51 52,⟨none,none,none,true,.st 1 (.t 60) (.t 58)⟩,Zk 61 1 56 57,⟨none,none,none,true,.st 1 (.t 61) (.t 59)⟩]) (sQ (.TP 16 [om 62 0,Yb 63 62,ZX 64 1 63,Z0 65 64,om 66 8,om 67 0,Yb 68 67,ZX 69 1 68,Z0 70 69,om 71 1,om 72 6,om 73 7,Zk 74 1 65 66,⟨none,none,none,true,.st 1 (.t 74) (.t 72)⟩,Zk 75 1 70 71,⟨none,none,none,true,.st 1 (.t 75) (.t 73)⟩]) (sO [om 76 0,Yb 77 76,ZX 78 5 77,Z0 79 78,om 80 5,Zk 81 1 79 80,Z0 82 81,YE 83 3 82 1,Zk 84 1 79 80,YT 1 84 83] (sO [om 85 0,Yb 86 85,ZX 87 5 86,Z0 88 87,om 89 5,Zk 90 1 88 89,Z0 91 90,VR 92 3 91 1,om 4 92] .ret)))))))))
theorem aip:Ze 216=some ([.tmp 4],d_):=by kernel_rfl
end Go.Am
namespace Go.Am
open Go
variable [Z4]
set_option maxRecDepth 100000
set_option maxHeartbeats 4000000
def SV (a:Yi):AV:=ZG a.TH (a.next.map Zn)
def Vy (a:Yi):AV:=ZG a.S6 (a.ZD.map Zv)
theorem WJ (a:Yi):Wd a=.agg [.int .i64 a.lines,SV a,Vy a]:=rfl
theorem VJ (a:Yi):still (Wd a)=true:=by simp[Wd,still,ZU,X7]
theorem Sf {nl:Bool}{l:List (Bool×List Int)}{i:Nat}(h:i<l.length):Ud 1 (ZG nl (l.map Zn)) (.int .i64 (i:Int))=some (.fp [ZG l[i].1 (ints l[i].2)] 0):=by
 have:=Vr 1 nl (l.map Zn) .i64 i (Zn l[i]) (by omega) (by rw[amn,alV,aaa h];rfl) (by rw[Zn,Zu];rfl) (by decide);rw[Zn,Zu] at this;exact this
theorem Se {nl:Bool}{l:List (Bool×List Bool)}{i:Nat}(h:i<l.length):Ud 1 (ZG nl (l.map Zv)) (.int .i64 (i:Int))=some (.fp [ZG l[i].1 (ZM l[i].2)] 0):=by
 have:=Vr 1 nl (l.map Zv) .i64 i (Zv l[i]) (by omega) (by rw[amn,alV,aaa h];rfl) (by rw[Zv,Zu];rfl) (by decide);rw[Zv,Zu] at this;exact this
theorem F6 {nl:Bool}{l:List Int}{i:Nat}(h:i<l.length):Ud 1 (ZG nl (ints l)) (.int .i64 (i:Int))=some (.fp [.int .i64 l[i]] 0) :=
 Vr 1 nl (ints l) .i64 i (.int .i64 l[i]) (by omega) (by rw[amn,RM,aaa h];rfl) rfl (by decide)
theorem NO {nl:Bool}{l:List Bool}{i:Nat}(h:i<l.length):Ud 1 (ZG nl (ZM l)) (.int .i64 (i:Int))=some (.fp [.bool l[i]] 0) :=
 Vr 1 nl (ZM l) .i64 i (.bool l[i]) (by omega) (by rw[amn,Du,aaa h];rfl) rfl (by decide)
def RA (lines:Int):Int:=2^lines.toNat
def zn (m n:Int):List (Bool×List Int)->List (Bool×List Bool)->Int
 |[],_=>0
 |r::l,f=>br ((r.2.length:Int) != m||(((f.headD (true,[])).2.length:Int) != m)) 2 <| br (r.2.any fun x=>outside x 0 (n-1)) 10 <| zn m n l f.tail
def ckA (a:Yi):Int :=
 br (outside a.lines 1 4) 3 <| br ((a.next.length:Int)==0) 12 <| br (decide ((a.next.length:Int)>256)) 5 <| br ((a.ZD.length:Int) != a.next.length) 2 <| zn (RA a.lines) a.next.length a.next a.ZD
def eb (a:Yi):List AV:=[.int .i64 a.lines,ZG a.TH (a.next.map Zn),ZG a.S6 (a.ZD.map Zv)]
theorem an3 (x:Int)(a:Yi)(hn:a.next.length<=2^40):ZE U 126 [.int .i64 x,.fp (eb a) 0]=some (.bool (outside x 0 ((a.next.length:Int)-1))):=by
 refine ZR an4 (by kernel_rfl) (by simp[ZU,still]) ?_;have ln:=ZI a.TH (a.next.map Zn);rw[agC] at ln;have hp:outside x 0 ((a.next.length:Int)-1)=(decide (x<0)||decide (x>=(a.next.length:Int))):=by
  unfold outside
  congr 1
  congr 1
  apply propext;omega
 rw[hp];unfold eb
 cases h:decide (x<0) <;> simp +contextual only[go_sem,anJ,ln,h]
 all_goals rfl
theorem anK (x:Int)(a:Yi)(hn:a.next.length<=2^40)(s:St):GR U (.fn (.func 126) [] [.fp (eb a) 0]) [.int .i64 x] s=some (.bool (outside x 0 ((a.next.length:Int)-1)),s):=by
 have h:=an3 x a hn;simp only[NJ,amg,alU,h,U8]
theorem anL (P:Int->Bool)(fn:AV)(Xz:still fn=true)(hf:∀x s,GR U fn [.int .i64 x] s=some (.bool (P x),s))(nl:Bool)(l:List Int)(hl:l.length<=2^40):ZE U 179 [ZG nl (ints l),fn]=some (.int .i64 (aor P 0 l)):=by
 refine ZR anG (by kernel_rfl) (by simp[ZU,X7,Xz]) ?_;simp +contextual only[go_sem,ano,ZI,YK];refine YH (σ:=Nat) (fun i=>l.length-i) (fun i=>some (AV.int .i64 (aor P i (l.drop i)))) (fun i e s=>i<=l.length/\Env.get e 0=ZG nl (ints l)/\Env.get e 1=fn/\Env.get e 7=.int .i64 l.length/\Env.get e 8=.int .i64 i) 0 ?_ rfl ?_
 ·rintro L i e s ⟨hi,g0,g1,g7,g8⟩ ih;by_cases hd:i<l.length
  ·have hx:=F6 (nl:=nl) hd;have hw:=ZN hd (by omega);rw[abc hd,aor];have hc:=hf l[i]
   cases hb:P l[i] with
   |true=>simp +contextual only[go_sem,uf,g0,g1,g7,g8,Z8,hd,hx,hc,hb]
   |false =>
    simp +contextual only[go_sem,uf,g0,g1,g7,g8,Z8,hd,hx,hc,hb,hw];refine ih (i+1) _ _ (by omega) ⟨by omega,?_,?_,?_,?_⟩ <;> simp +contextual only[go_sem,g0,g1,g7]
  ·have:i=l.length:=by omega
   subst this;simp +contextual only[go_sem,uf,g7,g8,Z8,alh];rw[alO];rfl
 ·refine⟨aic _,?_,?_,?_,?_⟩ <;> simp +contextual only[go_sem] <;> rfl
theorem anM (P:Int->Bool)(fn:AV)(Xz:still fn=true)(hf:∀x s,GR U fn [.int .i64 x] s=some (.bool (P x),s))(nl:Bool)(l:List Int)(hl:l.length<=2^40):ZE U 125 [ZG nl (ints l),fn]=some (.bool (l.any P)):=by
 refine ZR anH (by kernel_rfl) (by simp[ZU,X7,Xz]) ?_;have h:=anL P fn Xz hf nl l hl;have hi:=fb P l 0;simp +contextual only[go_sem,anp,h,hi]
theorem c58 (a:Yi)(hn:a.next.length<=2^40)(hr:∀r∈a.next,r.2.length<=2^40):ZE U 58 [Wd a]=some (.int .i64 (ckA a)):=by
 refine ZR k58 (by kernel_rfl) (by simp[ZU,VJ]) ?_;rw[WJ];have nn:=ZL a.TH (a.next.map Zn);have nf:=ZL a.S6 (a.ZD.map Zv);have ln:=ZI a.TH (a.next.map Zn);have lf:=ZI a.S6 (a.ZD.map Zv);have cn:=Zu a.TH (a.next.map Zn);have cf:=Zu a.S6 (a.ZD.map Zv);rw[agC] at ln lf;unfold SV Vy;have hz:ZU [.sl 29 0 4 (some 4) 1]=false:=rfl;simp (maxSteps:=2000000) +contextual only[go_sem,r58,aa4,nt,ln,lf,z89,aaR];rw[show within a.lines 1 4=br (outside a.lines 1 4) 3 0 from rfl,ckA]
 cases ho:outside a.lines 1 4 with
 |true=>rfl
 |false =>
 cases h1:((a.next.length:Int)==0) with
 |true=>rfl
 |false =>
 cases h2:decide ((a.next.length:Int)>256) with
 |true=>rfl
 |false =>
 cases h3:((a.ZD.length:Int) != a.next.length) with
 |true=>rfl
 |false =>
 have hl:1<=a.lines/\a.lines<=4:=by
  simp only[outside,ame,decide_eq_false_iff_not] at ho;omega
 have QC:=Tq U 3 true .i64 (n:=a.lines) (show 0<=a.lines/\a.lines<=16 by omega);have hp:=Ot a.lines (by omega);have hn:a.next.length<=256:=by simp at h2;omega
 have MB:a.ZD.length=a.next.length:=by simp at h3;omega
 simp only[Xv];rw[show (XY [0,0,0,0] != 0)=false from rfl,Xv];refine YH (σ:=Nat) (fun i=>a.next.length-i) (fun i=>some (AV.int .i64 (zn (RA a.lines) a.next.length (a.next.drop i) (a.ZD.drop i)))) (fun i e s=>i<=a.next.length/\Env.get e 1=.ptr 8 0/\Env.get e 36=ZG a.TH (a.next.map Zn)/\Env.get e 37=.int .i64 a.next.length/\Env.get e 38=.int .i64 (i:Nat)/\8<s.next/\Fr s /\
  s.get 8=some (.cells [.int .i64 a.lines,ZG a.TH (a.next.map Zn),ZG a.S6 (a.ZD.map Zv)] 69 false 0 0)) 0 ?_ (by rw[amd,amd]) ?_
 ·rintro L i e s ⟨hi,g1,g36,g37,g38,nx,fr,gs⟩ IH;by_cases hd:i<a.next.length
  ·have hw:=ZN hd (by omega);have hx:=Sf (nl:=a.TH) hd;have hy:=Se (nl:=a.S6) (show i<a.ZD.length by omega);have Jl:=ZI a.next[i].1 (ints a.next[i].2);have aF:=ZI a.ZD[i].1 (ZM a.ZD[i].2);rw[YK] at Jl;rw[WX] at aF;have hfd:(a.ZD.drop i).headD (true,[])=a.ZD[i]:=by rw[abc (show i<a.ZD.length by omega)];rfl
   have hft:(a.ZD.drop i).tail=a.ZD.drop (i+1):=by rw[List.tail_drop]
   rw[abc hd,zn,hfd,hft];generalize hR:a.next[i]=R at *;generalize hF:a.ZD[i]=F at *;have ne8:∀q,(s.next+q=8)=False:=fun q=>by simp;omega
   have aoj:(s.next=8)=False:=by simp;omega
   have Nc:=fr.at;have ot:=hr R (by rw[<-hR];exact adm hd);have hz:=fun s=>Hc (anM _ (.fn (.func 126) [] [.fp (eb a) 0]) (by simp[still,ZU]) (fun x s=>anK x a (by omega) s) R.1 R.2 ot) (by kernel_rfl) (by simp[ZU,still,X7]) rfl s
   have Xz:ZU [ZG R.1 (ints R.2),.fn (.func 126) [] [.ptr 8 0]]=false:=by simp[ZU,still,X7]
   have eI:∀j,ZU [.sl j 0 2 (some 2) 1]=false:=fun _=>rfl
   simp only[eb] at hz;simp (maxSteps:=2000000) +contextual only[go_sem,aoO,g1,g36,g37,g38,gs,Z8,hd,hx,hy,Jl,aF,QC,anI Xz,UL,hz,nt,z89,aaP,eI];have hm:(2:Int)^a.lines.toNat=RA a.lines:=rfl;rw[hm]
   cases h4:((R.2.length:Int) != RA a.lines||(F.2.length:Int) != RA a.lines) with
   |true=>rfl
   |false =>
   cases h5:(R.2.any fun x=>outside x 0 ((a.next.length:Int)-1)) with
   |true=>rfl
   |false =>
   simp only[Xv];rw[show (XY [0,0] != 0)=false from rfl,Xv];refine IH (i+1) _ _ (by omega) ⟨by omega,?_,?_,?_,?_,?_,?_,?_⟩
   case refine_6 =>
    repeat first|exact fr|apply Fr.new|apply Fr.put|apply Fr.upto
    all_goals try simp +contextual only[go_sem]
    all_goals omega
   all_goals try simp +contextual only[go_sem,g1,g36,g37,gs,hw,ne8]
   all_goals omega
  ·have:i=a.next.length:=by omega
   subst this;simp +contextual only[go_sem,aoO,g37,g38,Z8,alh];rw[alO,zn]
 ·refine⟨aic _,?_,?_,?_,?_,?_,?_,?_⟩
  case refine_6 =>
   repeat first|exact Fr.own|apply Fr.new|apply Fr.put|apply Fr.upto
   all_goals simp +contextual only[go_sem]
  all_goals try simp +contextual only[go_sem]
  all_goals rfl
end Go.Am
namespace Go.Am
open Go
structure Fa where
 n:Nat
 m:Nat
 nx:Nat->Nat->Nat
 fr:Nat->Nat->Bool
structure Fa.ok (A:Fa):Prop where
 pos:0<A.n
 lt:∀s x,s<A.n->x<A.m->A.nx s x<A.n
def Fa.E (A:Fa)(f:Nat->Nat)(u v:Nat):Prop:=∀x,x<A.m->A.fr u x=A.fr v x/\f (A.nx u x)=f (A.nx v x)
theorem Fa.adn (A:Fa)(f:Nat->Nat)(u:Nat):A.E f u u:=fun _ _=>⟨rfl,rfl⟩
theorem Fa.E.symm {A:Fa}{f:Nat->Nat}{u v:Nat}(h:A.E f u v):A.E f v u:=fun x hx=>⟨(h x hx).1.symm,(h x hx).2.symm⟩
theorem Fa.E.trans {A:Fa}{f:Nat->Nat}{u v w:Nat}(h:A.E f u v)(k:A.E f v w):A.E f u w:=fun x hx=>⟨(h x hx).1.trans (k x hx).1,(h x hx).2.trans (k x hx).2⟩
def Bq (A:Fa)(f:Nat->Nat)(u v:Nat):Nat->Bool
 |0=>true
 |x+1=>Bq A f u v x&&(A.fr u x==A.fr v x&&f (A.nx u x)==f (A.nx v x))
theorem xR (A:Fa)(f:Nat->Nat)(u v:Nat):∀k,Bq A f u v k=true<->∀x,x<k->A.fr u x=A.fr v x/\f (A.nx u x)=f (A.nx v x)
 |0=>by simp[Bq]
 |k+1=>by
  rw[Bq,agw,xR A f u v k,agw,beq_iff_eq,beq_iff_eq]
  constructor
  ·rintro⟨h1,h2⟩ x hx;by_cases e:x=k
   ·subst e;exact h2
   ·exact h1 x (by omega)
  ·intro h;exact⟨fun x hx=>h x (by omega),h k (by omega)⟩
def alk (A:Fa)(f:Nat->Nat)(u v:Nat):Bool:=Bq A f u v A.m
theorem rP (A:Fa)(f:Nat->Nat)(u v:Nat):alk A f u v=true<->A.E f u v:=xR A f u v A.m
def O' (al:Nat->Bool):Nat->Nat->Nat
 |0,c=>c
 |k+1,c=>O' al k (bif al k then k else c)
theorem LU (al:Nat->Bool):∀k c,k<=c->(O' al k c<=c)/\(O' al k c=c\/(O' al k c<k/\al (O' al k c)=true))/\∀o,o<k->o<O' al k c->al o=false
 |0,c,_=>⟨agB _,.inl rfl,fun o h=>by omega⟩
 |k+1,c,hk=>by
  rw[O']
  cases ha:al k with
  |true =>
   obtain⟨h1,h2,h3⟩:=LU al k k (agB _);simp only[cond_true];refine⟨by omega,.inr ?_,fun o ho hs=>h3 o (by omega) hs⟩;rcases h2 with h2|⟨h2,h4⟩
   ·rw[h2];exact⟨by omega,ha⟩
   ·exact⟨by omega,h4⟩
  |false =>
   obtain⟨h1,h2,h3⟩:=LU al k c (by omega);simp only[cond_false];refine⟨h1,?_,fun o ho hs=>?_⟩
   ·rcases h2 with h2|⟨h2,h4⟩
    ·exact .inl h2
    ·exact .inr ⟨by omega,h4⟩
   ·by_cases e:o=k
    ·subst e;exact ha
    ·exact h3 o (by omega) hs
def Vs (A:Fa)(f:Nat->Nat)(s:Nat):Nat:=O' (alk A f s) s s
theorem Sk (A:Fa)(f:Nat->Nat)(s:Nat):Vs A f s<=s/\A.E f s (Vs A f s)/\∀o,o<Vs A f s->¬A.E f s o:=by
 obtain⟨h1,h2,h3⟩:=LU (alk A f s) s s (agB _);refine⟨h1,?_,fun o ho he=>?_⟩
 ·rcases h2 with h2|⟨_,h2⟩
  ·show A.E f s (O' _ s s);rw[h2];exact A.adn f s
  ·exact (rP A f _ _).1 h2
 ·have:=h3 o (by unfold Vs at ho;omega) ho;rw[(rP A f _ _).2 he] at this
  cases this
theorem Kn (A:Fa)(f:Nat->Nat)(u v:Nat):Vs A f u=Vs A f v<->A.E f u v:=by
 obtain⟨u1,u2,u3⟩:=Sk A f u;obtain⟨v1,v2,v3⟩:=Sk A f v
 constructor
 ·intro h;rw[h] at u2;exact u2.trans v2.symm
 ·intro h;have a:¬Vs A f u<Vs A f v:=fun hl=>v3 _ hl (h.symm.trans u2)
  have b:¬Vs A f v<Vs A f u:=fun hl=>u3 _ hl (h.trans v2)
  omega
structure Can (g:Nat->Nat):Prop where
 le:∀s,g s<=s
 fix:∀s,g (g s)=g s
theorem Can.min {g:Nat->Nat}(h:Can g){s u:Nat}(e:g u=g s):g s<=u:=by rw[<-e];exact h.le u
theorem E_ (A:Fa)(f:Nat->Nat):Can (Vs A f):=⟨fun s=>(Sk A f s).1,fun s=>((Kn A f _ _).2 (Sk A f s).2.1).symm⟩
def aS (g f:Nat->Nat):Prop:=∀u v,g u=g v->f u=f v
theorem oy (A:Fa){f:Nat->Nat}(h:aS (Vs A f) f):aS (Vs A (Vs A f)) (Vs A f):=fun u v e=>by
 rw[Kn] at e ⊢;exact fun x hx=>⟨(e x hx).1,h _ _ (e x hx).2⟩
def NU (g:Nat->Nat):Nat->Nat
 |0=>0
 |k+1=>NU g k+if g k=k then 1 else 0
theorem rO (g:Nat->Nat):∀k,NU g k<=k
 |0=>agB _
 |k+1=>by have:=rO g k;rw[NU];split <;> omega
theorem CO {g h:Nat->Nat}(H:∀s,g s=s->h s=s):∀k,NU g k<=NU h k
 |0=>agB _
 |k+1=>by
  have:=CO H k;rw[NU,NU];by_cases e:g k=k
  ·rw[if_pos e,if_pos (H k e)];omega
  ·rw[if_neg e];split <;> omega
theorem rN {g h:Nat->Nat}(H:∀s,g s=s->h s=s){t:Nat}(h1:h t=t)(h2:g t≠t):∀k,t<k->NU g k<NU h k
 |k+1,hk=>by
  rw[NU,NU];by_cases e:t=k
  ·subst e;have:=CO H t;rw[if_neg h2,if_pos h1];omega
  ·have:=rN H h1 h2 k (by omega);by_cases e:g k=k
   ·rw[if_pos e,if_pos (H k e)];omega
   ·rw[if_neg e];split <;> omega
theorem grow {g h:Nat->Nat}(cg:Can g)(ch:Can h)(hf:aS h g){n s:Nat}(hs:s<n)(ZC:h s≠g s):NU g n<NU h n:=by
 refine rN (t:=h s) (fun u hu=>?_) (ch.fix s) (fun e=>?_) n (amw (ch.le s) hs)
 ·have:=hf (h u) u (ch.fix u);have:=cg.min this;have:=ch.le u;omega
 ·have:=hf (h s) s (ch.fix s);exact ZC (by omega)
def O5 (g f:Nat->Nat):Nat->Bool
 |0=>true
 |k+1=>O5 g f k&&g k==f k
theorem Nj (g f:Nat->Nat):∀k,O5 g f k=true<->∀s,s<k->g s=f s
 |0=>by simp[O5]
 |k+1=>by
  rw[O5,agw,Nj g f k,beq_iff_eq]
  constructor
  ·rintro⟨h1,h2⟩ s hs;by_cases e:s=k
   ·subst e;exact h2
   ·exact h1 s (by omega)
  ·intro h;exact⟨fun s hs=>h s (by omega),h k (by omega)⟩
def KF (A:Fa):Nat->(Nat->Nat)->Nat->Nat
 |0,f=>f
 |r+1,f=>bif O5 (Vs A f) f A.n then f else KF A r (Vs A f)
theorem xQ {g f:Nat->Nat}{k:Nat}(h:O5 g f k=false):∃s,s<k/\g s≠f s:=by
 refine Classical.byContradiction fun hc=>?_
 have:O5 g f k=true:=(Nj g f k).2 fun s hs=>Classical.byContradiction fun e=>hc ⟨s,hs,e⟩
 rw[h] at this;cases this
theorem IE (A:Fa):∀(r:Nat) (f:Nat->Nat),Can f->aS (Vs A f) f->A.n<NU f A.n+r->∀s,s<A.n->Vs A (KF A r f) s=KF A r f s
 |0,f,_,_,h=>by have:=rO f A.n;omega
 |r+1,f,cf,hf,h=>by
  rw[KF]
  cases hs:O5 (Vs A f) f A.n with
  |true=>exact (Nj _ _ _).1 hs
  |false =>
   obtain⟨s,h1,h2⟩:=xQ hs;have:=grow cf (E_ A f) hf h1 h2;exact IE A r _ (E_ A f) (oy A hf) (by omega)
theorem xP (A:Fa):∀(r:Nat) (f:Nat->Nat),Can f->Can (KF A r f)
 |0,f,h=>h
 |r+1,f,h=>by
  rw[KF]
  cases O5 (Vs A f) f A.n with
  |true=>exact h
  |false=>exact xP A r _ (E_ A f)
structure Bis (A:Fa)(B:Nat->Nat->Prop):Prop where
 lt:∀u v,B u v->u<A.n/\v<A.n
 fr:∀u v,B u v->∀x,x<A.m->A.fr u x=A.fr v x
 nx:∀u v,B u v->∀x,x<A.m->B (A.nx u x) (A.nx v x)
theorem xO {A:Fa}{B:Nat->Nat->Prop}(hB:Bis A B):∀(r:Nat) (f:Nat->Nat),(∀u v,B u v->f u=f v)->∀u v,B u v->KF A r f u=KF A r f v
 |0,f,h=>h
 |r+1,f,h=>by
  rw[KF]
  cases O5 (Vs A f) f A.n with
  |true=>exact h
  |false=>exact xO hB r _ fun u v nQ=>(Kn A f u v).2 fun x hx=>⟨hB.fr u v nQ x hx,h _ _ (hB.nx u v nQ x hx)⟩
def YM (A:Fa):Nat->Nat:=KF A (A.n+1) fun _=>0
theorem WM (A:Fa):Can (YM A):=xP A _ _ ⟨fun _=>aic _,fun _=>rfl⟩
theorem UD {A:Fa}(h:A.ok){u v:Nat}(hu:u<A.n)(hv:v<A.n):YM A u=YM A v<->A.E (YM A) u v:=by
 have h0:0<NU (fun _=>0) A.n:=by
  have:∀k,0<k->0<NU (fun _=>0) k:=by
   intro k hk
   induction k with
   |zero=>omega
   |succ k ih =>
    rw[NU];by_cases e:k=0
    ·subst e;decide
    ·have:=ih (by omega);omega
  exact this _ h.pos
 have st:=IE A (A.n+1) (fun _=>0) ⟨fun _=>aic _,fun _=>rfl⟩ (fun _ _ _=>rfl) (by omega);have e:=Kn A (YM A) u v;rw[<-e];show _<->Vs A (KF A (A.n+1) fun _=>0) u=Vs A (KF A (A.n+1) fun _=>0) v;rw[st u hu,st v hv];rfl
theorem Hg {A:Fa}{B:Nat->Nat->Prop}(hB:Bis A B)(u v:Nat)(h:B u v):YM A u=YM A v:=xO hB _ _ (fun _ _ _=>rfl) u v h
theorem xw {A:Fa}(h:A.ok):Bis A fun u v=>u<A.n/\v<A.n/\YM A u=YM A v :=
 ⟨fun u v k=>⟨k.1,k.2.1⟩,fun u v k x hx=>(((UD h k.1 k.2.1).1 k.2.2) x hx).1,fun u v k x hx=>⟨h.lt u x k.1 hx,h.lt v x k.2.1 hx,(((UD h k.1 k.2.1).1 k.2.2) x hx).2⟩⟩
def gt (l:List Nat)(i:Nat):Nat:=l.getD i 0
theorem TT (l:List Nat)(i x j:Nat):gt (l.set i x) j=if i=j/\j<l.length then x else gt l j:=by
 unfold gt;rw[alM,alM,List.getElem?_set];by_cases e:i=j
 ·subst e;by_cases h:i<l.length
  ·simp[h]
  ·simp[h]
 ·simp[e]
theorem JL (l:List Nat)(x j:Nat):gt (l++[x]) j=if j=l.length then x else gt l j:=by
 unfold gt;rw[alM,alM];by_cases e:j=l.length
 ·subst e;simp
 ·rw[if_neg e];by_cases h:j<l.length
  ·rw[al0 h]
  ·rw[amm (by simp;omega),amm (by omega)]
structure Pt where
 list:List Nat
 place:List Nat
 set:List Nat
 bg:List Nat
 en:List Nat
 mr:List Nat
structure Pt.Wf (n:Nat)(p:Pt):Prop where
 ll:p.list.length=n
 lp:p.place.length=n
 ls:p.set.length=n
 le:p.en.length=p.bg.length
 lm:p.mr.length=p.bg.length
 pl:∀u,u<n->gt p.place u<n/\gt p.list (gt p.place u)=u
 li:∀i,i<n->gt p.list i<n/\gt p.place (gt p.list i)=i
 st:∀u,u<n->gt p.set u<p.bg.length/\gt p.bg (gt p.set u)<=gt p.place u/\gt p.place u<gt p.en (gt p.set u)
 sp:∀k,k<p.bg.length->gt p.bg k<gt p.en k/\gt p.en k<=n/\∀i,gt p.bg k<=i->i<gt p.en k->gt p.set (gt p.list i)=k
 mr:∀k,k<p.bg.length->gt p.bg k+gt p.mr k<=gt p.en k
def Pt.Mk (p:Pt)(u:Nat):Prop:=gt p.place u<gt p.bg (gt p.set u)+gt p.mr (gt p.set u)
instance (p:Pt)(u:Nat):Decidable (p.Mk u):=inferInstanceAs (Decidable (_<_))
def Pt.Wz (p:Pt)(u:Nat):Pt×Bool :=
 bif decide (gt p.place u<gt p.bg (gt p.set u)+gt p.mr (gt p.set u)) then (p,false) else
  ({ p with
   list:=(p.list.set (gt p.place u) (gt p.list (gt p.bg (gt p.set u)+gt p.mr (gt p.set u)))).set (gt p.bg (gt p.set u)+gt p.mr (gt p.set u)) u
   place:=(p.place.set (gt p.list (gt p.bg (gt p.set u)+gt p.mr (gt p.set u))) (gt p.place u)).set u (gt p.bg (gt p.set u)+gt p.mr (gt p.set u))
   mr:=p.mr.set (gt p.set u) (gt p.mr (gt p.set u)+1) },gt p.mr (gt p.set u)+1==1)
theorem MD {n:Nat}{p:Pt}(h:p.Wf n){u:Nat}(hu:u<n):(p.Wz u).1.Wf n/\(p.Wz u).1.set=p.set/\(p.Wz u).1.bg=p.bg/\(p.Wz u).1.en=p.en/\(∀v,v<n->((p.Wz u).1.Mk v<->p.Mk v\/v=u)) /\
  ((p.Wz u).2=true<->gt p.mr (gt p.set u)=0)/\(∀k,k<p.bg.length->(0<gt (p.Wz u).1.mr k<->0<gt p.mr k\/k=gt p.set u)):=by
 obtain⟨QK,S4,xm⟩:=h.st u hu;obtain⟨Jd,BW,hk3⟩:=h.sp _ QK;obtain⟨sV,EF⟩:=h.pl u hu;unfold Pt.Wz;generalize hs:gt p.set u=s at *;generalize ha:gt p.place u=a at *;generalize ht:gt p.bg s+gt p.mr s=t at *;by_cases hm:a<t
 ·rw[decide_eq_true hm,cond_true];refine⟨h,rfl,rfl,rfl,fun v hv=>⟨.inl,?_⟩,?_,fun k hk=>⟨.inl,?_⟩⟩
  ·rintro (h1|rfl)
   ·exact h1
   ·unfold Pt.Mk;rw[hs,ha,ht];exact hm
  ·simp;omega
  ·rintro (h1|rfl)
   ·exact h1
   ·simp only;omega
 ·rw[decide_eq_false hm,cond_false];have BU:t<n:=by omega
  obtain⟨Af,B_⟩:=h.li t BU;have hso:=hk3 t (by omega) (by omega);generalize ho:gt p.list t=o at *;have L:∀i,gt ((p.list.set a o).set t u) i=if i=t then u else if i=a then o else gt p.list i:=fun i=>by
   rw[TT,TT,ami,h.ll];by_cases e1:i=t
   ·subst e1;rw[if_pos ⟨rfl,BU⟩,if_pos rfl]
   ·rw[if_neg (by omega),if_neg e1];by_cases e2:i=a
    ·subst e2;rw[if_pos ⟨rfl,sV⟩,if_pos rfl]
    ·rw[if_neg (by omega),if_neg e2]
  have P:∀v,gt ((p.place.set o a).set u t) v=if v=u then t else if v=o then a else gt p.place v:=fun v=>by
   rw[TT,TT,ami,h.lp];by_cases e1:v=u
   ·subst e1;rw[if_pos ⟨rfl,hu⟩,if_pos rfl]
   ·rw[if_neg (by omega),if_neg e1];by_cases e2:v=o
    ·subst e2;rw[if_pos ⟨rfl,Af⟩,if_pos rfl]
    ·rw[if_neg (by omega),if_neg e2]
  have M:∀k,gt (p.mr.set s (gt p.mr s+1)) k=if k=s then gt p.mr s+1 else gt p.mr k:=fun k=>by
   rw[TT,h.lm];by_cases e:k=s
   ·subst e;rw[if_pos ⟨rfl,QK⟩,if_pos rfl]
   ·rw[if_neg (by omega),if_neg e]
  have hou:o=u<->a=t:=by
   constructor
   ·intro e;rw[e,ha] at B_;exact B_
   ·intro e;rw[<-e,EF] at ho;exact ho.symm
  refine⟨⟨?_,?_,h.ls,h.le,?_,fun v hv=>?_,fun i hi=>?_,fun v hv=>?_,fun k hk=>?_,fun k hk=>?_⟩,rfl,rfl,rfl,fun v hv=>?_,?_,fun k hk=>?_⟩
  ·simp[h.ll]
  ·simp[h.lp]
  ·simp[h.lm]
  ·show gt ((p.place.set o a).set u t) v<n/\gt ((p.list.set a o).set t u) (gt ((p.place.set o a).set u t) v)=v;rw[P v];by_cases e1:v=u
   ·rw[if_pos e1];exact⟨BU,by rw[L,if_pos rfl,e1]⟩
   ·rw[if_neg e1];by_cases e2:v=o
    ·rw[if_pos e2];exact⟨sV,by rw[L,if_neg (fun e=>e1 (e2.trans (hou.2 e))),if_pos rfl,e2]⟩
    ·rw[if_neg e2];obtain⟨q1,q2⟩:=h.pl v hv;refine⟨q1,?_⟩;rw[L,if_neg (fun e=>e2 (by rw[<-q2,e,ho])),if_neg (fun e=>e1 (by rw[<-q2,e,EF])),q2]
  ·show gt ((p.list.set a o).set t u) i<n/\gt ((p.place.set o a).set u t) (gt ((p.list.set a o).set t u) i)=i;rw[L i];by_cases e1:i=t
   ·rw[if_pos e1];exact⟨hu,by rw[P,if_pos rfl,e1]⟩
   ·rw[if_neg e1];by_cases e2:i=a
    ·rw[if_pos e2];exact⟨Af,by rw[P,if_neg (fun e=>e1 (e2.trans (hou.1 e))),if_pos rfl,e2]⟩
    ·rw[if_neg e2];obtain⟨q1,q2⟩:=h.li i hi;refine⟨q1,?_⟩;rw[P,if_neg (fun e=>e2 (by rw[<-q2,e,ha])),if_neg (fun e=>e1 (by rw[<-q2,e,B_])),q2]
  ·show gt p.set v<p.bg.length/\gt p.bg (gt p.set v)<=gt ((p.place.set o a).set u t) v/\gt ((p.place.set o a).set u t) v<gt p.en (gt p.set v);rw[P v];by_cases e1:v=u
   ·rw[if_pos e1,e1,hs];exact⟨QK,by omega,by omega⟩
   ·rw[if_neg e1];by_cases e2:v=o
    ·rw[if_pos e2,e2,hso];exact⟨QK,by omega,by omega⟩
    ·rw[if_neg e2];exact h.st v hv
  ·obtain⟨q1,q2,q3⟩:=h.sp k hk;refine⟨q1,q2,fun i hi1 hi2=>?_⟩;show gt p.set (gt ((p.list.set a o).set t u) i)=k;have:=q3 i hi1 hi2;rw[L i];by_cases e1:i=t
   ·rw[if_pos e1,hs];rw[e1,ho,hso] at this;exact this
   ·rw[if_neg e1];by_cases e2:i=a
    ·rw[if_pos e2,hso];rw[e2,EF,hs] at this;exact this
    ·rw[if_neg e2];exact this
  ·show gt p.bg k+gt (p.mr.set s (gt p.mr s+1)) k<=gt p.en k;rw[M k];by_cases e:k=s
   ·rw[if_pos e,e];omega
   ·rw[if_neg e];exact h.mr k hk
  ·show gt ((p.place.set o a).set u t) v<gt p.bg (gt p.set v)+gt (p.mr.set s (gt p.mr s+1)) (gt p.set v)<->p.Mk v\/v=u;unfold Pt.Mk;rw[P v,M];by_cases e1:v=u
   ·rw[if_pos e1,e1,hs,if_pos rfl];exact⟨fun _=>.inr rfl,fun _=>by omega⟩
   ·rw[if_neg e1];by_cases e2:v=o
    ·have xH:a≠t:=fun e=>e1 (e2.trans (hou.2 e))
     rw[if_pos e2,e2,hso,if_pos rfl,B_]
     constructor
     ·intro hh;exfalso;omega
     ·rintro (hh|hh)
      ·exfalso;omega
      ·exact absurd (e2.trans hh) e1
    ·rw[if_neg e2];by_cases e3:gt p.set v=s
     ·have ZC:gt p.place v≠t:=fun e=>e2 (by rw[<-(h.pl v hv).2,e,ho])
      rw[e3,if_pos rfl]
      constructor
      ·intro hh;exact .inl (by omega)
      ·rintro (hh|hh)
       ·omega
       ·exact absurd hh e1
     ·rw[if_neg e3];exact⟨.inl,fun hh=>hh.resolve_right e1⟩
  ·simp
  ·show 0<gt (p.mr.set s (gt p.mr s+1)) k<->_;rw[M k];by_cases e:k=s
   ·rw[if_pos e];exact⟨fun _=>.inr e,fun _=>by omega⟩
   ·rw[if_neg e];exact⟨.inl,fun hh=>hh.resolve_right e⟩
def Xs (k:Nat):List Nat->List Nat->List Nat
 |[],s=>s
 |u::l,s=>Xs k l (s.set u k)
theorem Mb (k:Nat):∀(l s:List Nat),(Xs k l s).length=s.length
 |[],s=>rfl
 |u::l,s=>by rw[Xs,Mb k l,ami]
theorem Dx (k:Nat):∀(l s:List Nat) (v:Nat),v<s.length->gt (Xs k l s) v=if v∈l then k else gt s v
 |[],s,v,_=>by simp[Xs]
 |u::l,s,v,hv=>by
  rw[Xs,Dx k l _ v (by rw[ami];exact hv),TT];by_cases h1:v∈l
  ·rw[if_pos h1,if_pos (aab _ h1)]
  ·rw[if_neg h1];by_cases h2:u=v
   ·rw[if_pos ⟨h2,hv⟩,if_pos (by rw[h2];exact aba ..)]
   ·rw[if_neg (by omega),if_neg (by simp[h1];omega)]
def piece (l:List Nat)(a b:Nat):List Nat:=(l.drop a).take (b-a)
theorem NR {l:List Nat}{a b x:Nat}(hb:b<=l.length):x∈piece l a b<->∃i,a<=i/\i<b/\gt l i=x:=by
 unfold piece;rw[List.mem_take_iff_getElem]
 constructor
 ·rintro⟨j,hj,e⟩;rw[List.length_drop] at hj;rw[List.getElem_drop] at e;refine⟨a+j,by omega,by omega,?_⟩;unfold gt;rw[alM,aaa (by omega)];exact e
 ·rintro⟨i,h1,h2,e⟩;refine⟨i-a,by rw[List.length_drop];omega,?_⟩;rw[List.getElem_drop];unfold gt at e;rw[alM,aaa (by omega)] at e;simp only[amG] at e;rw[<-e]
  congr 1
  omega
def Pt.cut (p:Pt)(s:Nat):Pt×Bool :=
 bif gt p.mr s==gt p.en s-gt p.bg s then ({ p with mr:=p.mr.set s 0 },false) else
 bif decide (2*gt p.mr s>gt p.en s-gt p.bg s) then
  ({ p with mr:=p.mr.set s 0++[0],bg:=p.bg++[gt p.bg s+gt p.mr s],en:=p.en.set s (gt p.bg s+gt p.mr s)++[gt p.en s],set:=Xs p.bg.length (piece p.list (gt p.bg s+gt p.mr s) (gt p.en s)) p.set },true)
 else
  ({ p with mr:=p.mr.set s 0++[0],bg:=p.bg.set s (gt p.bg s+gt p.mr s)++[gt p.bg s],en:=p.en++[gt p.bg s+gt p.mr s],set:=Xs p.bg.length (piece p.list (gt p.bg s) (gt p.bg s+gt p.mr s)) p.set },true)
structure Cut (n:Nat)(p:Pt)(s:Nat)(r:Pt×Bool):Prop where
 wf:r.1.Wf n
 len:r.1.bg.length=p.bg.length+(bif r.2 then 1 else 0)
 num:∀v,v<n->gt r.1.set v=gt p.set v\/(gt p.set v=s/\gt r.1.set v=p.bg.length/\r.2=true)
 eq:∀u v,u<n->v<n->(gt r.1.set u=gt r.1.set v<->gt p.set u=gt p.set v/\(gt p.set u=s->(p.Mk u<->p.Mk v)))
 mr:∀k,k<p.bg.length->k≠s->gt r.1.mr k=gt p.mr k
 mk0:gt r.1.mr s=0
 mkK:r.2=true->gt r.1.mr p.bg.length=0
 Mk:∀v,v<n->gt p.set v≠s->(r.1.Mk v<->p.Mk v)
theorem zz {n:Nat}{p:Pt}(h:p.Wf n){s:Nat}(hs:s<p.bg.length)(b:Bool){f t f' t':Nat}(hb:gt p.bg s<=f/\f<t/\t<=gt p.en s)(TQ:gt p.bg s<=f'/\f'<t'/\t'<=gt p.en s)
  (hm:∀i,gt p.bg s<=i->i<gt p.en s->((f<=i/\i<t<->(i<gt p.bg s+gt p.mr s<->b=true))/\(f'<=i/\i<t'<->¬(f<=i/\i<t)))){fM EZ:List Nat}
  (Hd:fM.length=p.bg.length)(Ew:EZ.length=p.bg.length)(hbg:∀k,gt fM k=if k=s then f' else gt p.bg k)(hen:∀k,gt EZ k=if k=s then t' else gt p.en k) :
  Cut n p s ({ p with mr:=p.mr.set s 0++[0],bg:=fM++[f],en:=EZ++[t],set:=Xs p.bg.length (piece p.list f t) p.set },true):=by
 obtain⟨k1,k2,k3⟩:=h.sp s hs;have hS:∀v,v<n->gt (Xs p.bg.length (piece p.list f t) p.set) v=if gt p.set v=s/\(p.Mk v<->b=true) then p.bg.length else gt p.set v:=fun v hv=>by
  rw[Dx _ _ _ _ (by rw[h.ls];exact hv)];obtain⟨q1,q2⟩:=h.pl v hv;have hi:v∈piece p.list f t<->gt p.set v=s/\(p.Mk v<->b=true):=by
   rw[NR (by rw[h.ll];omega)]
   constructor
   ·rintro⟨i,h1,h2,rfl⟩;have Ue:i<n:=by omega
    have e:=(h.li i Ue).2;have es:=k3 i (by omega) (by omega);refine⟨es,?_⟩;have:=((hm i (by omega) (by omega)).1).1 ⟨h1,h2⟩;unfold Pt.Mk;rw[e,es];exact this
   ·rintro⟨h1,h2⟩;obtain⟨_,r2,r3⟩:=h.st v hv;rw[h1] at r2 r3;unfold Pt.Mk at h2;rw[h1] at h2;obtain⟨h3,h4⟩:=((hm _ r2 r3).1).2 h2;exact⟨_,h3,h4,q2⟩
  by_cases e:v∈piece p.list f t
  ·rw[if_pos e,if_pos (hi.1 e)]
  ·rw[if_neg e,if_neg fun c=>e (hi.2 c)]
 have hK:∀v,v<n->gt p.set v<p.bg.length:=fun v hv=>(h.st v hv).1
 have hM:∀k,gt (p.mr.set s 0++[0]) k=if k=s\/k=p.bg.length then 0 else gt p.mr k:=fun k=>by
  rw[JL,TT,ami,h.lm];by_cases e1:k=p.bg.length
  ·rw[if_pos e1,if_pos (.inr e1)]
  ·rw[if_neg e1];by_cases e2:k=s
   ·rw[if_pos ⟨e2.symm,by omega⟩,if_pos (.inl e2)]
   ·rw[if_neg (by omega),if_neg (by omega)]
 have hB:∀k,gt (fM++[f]) k=if k=p.bg.length then f else if k=s then f' else gt p.bg k:=fun k=>by rw[JL,Hd,hbg]
 have hE:∀k,gt (EZ++[t]) k=if k=p.bg.length then t else if k=s then t' else gt p.en k:=fun k=>by rw[JL,Ew,hen]
 have Ue:∀v,v<n->gt p.set v=s->((f<=gt p.place v/\gt p.place v<t<->(p.Mk v<->b=true))/\(f'<=gt p.place v/\gt p.place v<t'<->¬(f<=gt p.place v/\gt p.place v<t))):=fun v hv e=>by
  obtain⟨_,r2,r3⟩:=h.st v hv;rw[e] at r2 r3;have:=hm _ r2 r3;unfold Pt.Mk;rw[e];exact this
 refine⟨⟨h.ll,h.lp,by rw[Mb];exact h.ls,by simp[Ew,Hd],by simp[h.lm,Hd],h.pl,h.li,fun v hv=>?_,fun k hk=>?_,fun k hk=>?_⟩,by simp[Hd],fun v hv=>?_,fun u v hu hv=>?_,fun k hk ZC=>?_,?_,fun _=>?_,fun v hv ZC=>?_⟩
 ·show gt (Xs p.bg.length (piece p.list f t) p.set) v<(fM++[f]).length/\gt (fM++[f]) (gt (Xs p.bg.length (piece p.list f t) p.set) v)<=gt p.place v/\gt p.place v<gt (EZ++[t]) (gt (Xs p.bg.length (piece p.list f t) p.set) v);rw[hS v hv,hB,hE,agy,Hd];have hkv:=hK v hv;obtain⟨r1,r2,r3⟩:=h.st v hv;by_cases c:gt p.set v=s/\(p.Mk v<->b=true)
  ·have:=((Ue v hv c.1).1).2 c.2;simp only[if_pos c];exact⟨by simp,this.1,this.2⟩
  ·simp only[if_neg c];have ZC:¬gt p.set v=p.bg.length:=by omega
   rw[if_neg ZC,if_neg ZC];by_cases e:gt p.set v=s
   ·have:=((Ue v hv e).2).2 fun c2=>c ⟨e,((Ue v hv e).1).1 c2⟩
    rw[if_pos e,if_pos e];exact⟨by simp;omega,this.1,this.2⟩
   ·rw[if_neg e,if_neg e];exact⟨by simp;omega,r2,r3⟩
 ·show gt (fM++[f]) k<gt (EZ++[t]) k/\gt (EZ++[t]) k<=n/\∀i,gt (fM++[f]) k<=i->i<gt (EZ++[t]) k->gt (Xs p.bg.length (piece p.list f t) p.set) (gt p.list i)=k;have hk:k<p.bg.length+1:=by simpa[Hd] using hk
  rw[hB,hE];by_cases e1:k=p.bg.length
  ·rw[if_pos e1,if_pos e1];refine⟨hb.2.1,by omega,fun i h1 h2=>?_⟩;obtain⟨q1,q2⟩:=h.li i (by omega);have es:=k3 i (by omega) (by omega);rw[hS _ q1,if_pos ⟨es,((Ue _ q1 es).1).1 (by rw[q2];exact⟨h1,h2⟩)⟩,e1]
  ·rw[if_neg e1,if_neg e1];by_cases e2:k=s
   ·rw[if_pos e2,if_pos e2];refine⟨TQ.2.1,by omega,fun i h1 h2=>?_⟩;obtain⟨q1,q2⟩:=h.li i (by omega);have es:=k3 i (by omega) (by omega);have SX:¬(f<=i/\i<t):=((hm i (by omega) (by omega)).2).1 ⟨h1,h2⟩;rw[hS _ q1,if_neg (fun c=>SX (by have:=((Ue _ q1 es).1).2 c.2;rw[q2] at this;exact this)),es,e2]
   ·rw[if_neg e2,if_neg e2];obtain⟨r1,r2,r3⟩:=h.sp k (by omega);refine⟨r1,r2,fun i h1 h2=>?_⟩;obtain⟨q1,_⟩:=h.li i (by omega);have es:=r3 i h1 h2;rw[hS _ q1,if_neg (fun c=>e2 (es.symm.trans c.1)),es]
 ·show gt (fM++[f]) k+gt (p.mr.set s 0++[0]) k<=gt (EZ++[t]) k;have hk:k<p.bg.length+1:=by simpa[Hd] using hk
  rw[hB,hE,hM];by_cases e1:k=p.bg.length
  ·rw[if_pos e1,if_pos e1,if_pos (.inr e1)];omega
  ·rw[if_neg e1,if_neg e1];by_cases e2:k=s
   ·rw[if_pos e2,if_pos e2,if_pos (.inl e2)];omega
   ·rw[if_neg e2,if_neg e2,if_neg (by omega)];exact h.mr k (by omega)
 ·show gt (Xs p.bg.length (piece p.list f t) p.set) v=_\/_;rw[hS v hv];by_cases c:gt p.set v=s/\(p.Mk v<->b=true)
  ·right
   refine⟨c.1,?_,rfl⟩;rw[if_pos c]
  ·rw[if_neg c];exact .inl rfl
 ·show gt (Xs p.bg.length (piece p.list f t) p.set) u=gt (Xs p.bg.length (piece p.list f t) p.set) v<->_;have hku:=hK u hu;have hkv:=hK v hv;rw[hS u hu,hS v hv];by_cases cu:gt p.set u=s/\(p.Mk u<->b=true)
  ·by_cases cv:gt p.set v=s/\(p.Mk v<->b=true)
   ·rw[if_pos cu,if_pos cv];exact⟨fun _=>⟨cu.1.trans cv.1.symm,fun _=>cu.2.trans cv.2.symm⟩,fun _=>rfl⟩
   ·rw[if_pos cu,if_neg cv]
    constructor
    ·intro e;omega
    ·rintro⟨e1,e2⟩;exact absurd ⟨e1.symm.trans cu.1,(e2 cu.1).symm.trans cu.2⟩ cv
  ·by_cases cv:gt p.set v=s/\(p.Mk v<->b=true)
   ·rw[if_neg cu,if_pos cv]
    constructor
    ·intro e;omega
    ·rintro⟨e1,e2⟩;have es:=e1.trans cv.1;exact absurd ⟨es,(e2 es).trans cv.2⟩ cu
   ·rw[if_neg cu,if_neg cv]
    constructor
    ·intro e;refine⟨e,fun es=>?_⟩;have c1:¬(p.Mk u<->b=true):=fun c=>cu ⟨es,c⟩
     have c2:¬(p.Mk v<->b=true):=fun c=>cv ⟨e.symm.trans es,c⟩
     cases b with
     |true=>simp only[iff_true] at c1 c2;exact⟨fun x=>absurd x c1,fun x=>absurd x c2⟩
     |false =>
      simp only[ali,iff_false,Classical.not_not] at c1 c2;exact⟨fun _=>c2,fun _=>c1⟩
    ·exact fun e=>e.1
 ·show gt (p.mr.set s 0++[0]) k=gt p.mr k;rw[hM,if_neg (by omega)]
 ·show gt (p.mr.set s 0++[0]) s=0;rw[hM,if_pos (.inl rfl)]
 ·show gt (p.mr.set s 0++[0]) p.bg.length=0;rw[hM,if_pos (.inr rfl)]
 ·show gt p.place v<gt (fM++[f]) (gt (Xs p.bg.length (piece p.list f t) p.set) v)+gt (p.mr.set s 0++[0]) (gt (Xs p.bg.length (piece p.list f t) p.set) v)<->p.Mk v;have hkv:=hK v hv;rw[hS v hv,if_neg (fun c=>ZC c.1),hB,hM,if_neg (by omega),if_neg ZC,if_neg (by omega)];rfl
theorem A6 {n:Nat}{p:Pt}(h:p.Wf n){s:Nat}(hs:s<p.bg.length)(hm:0<gt p.mr s):Cut n p s (p.cut s):=by
 obtain⟨k1,k2,k3⟩:=h.sp s hs;have kk:=h.mr s hs;unfold Pt.cut
 cases Xa:gt p.mr s==gt p.en s-gt p.bg s with
 |true =>
  have Xa:gt p.mr s=gt p.en s-gt p.bg s:=by simpa using Xa
  rw[cond_true];have hM:∀k,gt (p.mr.set s 0) k=if k=s then 0 else gt p.mr k:=fun k=>by
   rw[TT,h.lm];by_cases e:k=s
   ·rw[if_pos ⟨e.symm,by omega⟩,if_pos e]
   ·rw[if_neg (by omega),if_neg e]
  refine⟨⟨h.ll,h.lp,h.ls,h.le,by simp[h.lm],h.pl,h.li,h.st,h.sp,fun k hk=>?_⟩,rfl,fun v _=>.inl rfl,fun u v hu hv=>⟨fun e=>⟨e,fun es=>?_⟩,fun e=>e.1⟩,fun k hk ZC=>?_,?_,fun h=>(nomatch h),fun v hv ZC=>?_⟩
  ·show gt p.bg k+gt (p.mr.set s 0) k<=gt p.en k;rw[hM];have:=h.mr k hk
   split <;> omega
  ·have au:=(h.st u hu).2.2;have av:=(h.st v hv).2.2;have e:gt p.set u=gt p.set v:=e;unfold Pt.Mk;rw[<-e] at av ⊢;rw[es] at au av ⊢
   constructor <;> intro _ <;> omega
  ·show gt (p.mr.set s 0) k=_;rw[hM,if_neg ZC]
  ·show gt (p.mr.set s 0) s=0;rw[hM,if_pos rfl]
  ·show gt p.place v<gt p.bg (gt p.set v)+gt (p.mr.set s 0) (gt p.set v)<->p.Mk v;rw[hM,if_neg ZC];rfl
 |false =>
  have Xa:gt p.mr s≠gt p.en s-gt p.bg s:=by simpa using Xa
  rw[cond_false]
  cases decide (2*gt p.mr s>gt p.en s-gt p.bg s) with
  |true =>
   rw[cond_true];refine zz h hs false (f:=gt p.bg s+gt p.mr s) (t:=gt p.en s) (f':=gt p.bg s) (t':=gt p.bg s+gt p.mr s) (by omega) (by omega) (fun i h1 h2=>?_) rfl (by rw[ami];exact h.le) (fun k=>?_) fun k=>?_
   ·simp only[ali,iff_false];omega
   ·by_cases e:k=s
    ·rw[if_pos e,e]
    ·rw[if_neg e]
   ·rw[TT,h.le];by_cases e:k=s
    ·rw[if_pos ⟨e.symm,by omega⟩,if_pos e]
    ·rw[if_neg (by omega),if_neg e]
  |false =>
   rw[cond_false];refine zz h hs true (f:=gt p.bg s) (t:=gt p.bg s+gt p.mr s) (f':=gt p.bg s+gt p.mr s) (t':=gt p.en s) (by omega) (by omega) (fun i h1 h2=>?_) (by rw[ami]) h.le (fun k=>?_) fun k=>?_
   ·simp only[iff_true];omega
   ·rw[TT];by_cases e:k=s
    ·rw[if_pos ⟨e.symm,by omega⟩,if_pos e]
    ·rw[if_neg (by omega),if_neg e]
   ·by_cases e:k=s
    ·rw[if_pos e,e]
    ·rw[if_neg e]
def YD:List Nat->Pt->List Nat->Pt×List Nat
 |[],p,T=>(p,T)
 |u::l,p,T=>YD l (p.Wz u).1 (bif (p.Wz u).2 then T++[gt p.set u] else T)
theorem Jo:∀(a b:List Nat) (p:Pt) (T:List Nat),YD (a++b) p T=YD b (YD a p T).1 (YD a p T).2
 |[],b,p,T=>rfl
 |u::a,b,p,T=>by rw[alU,YD,YD,Jo a b]
structure Tch (p:Pt)(T:List Nat):Prop where
 nd:T.Nodup
 mem:∀k,k<p.bg.length->(k∈T<->0<gt p.mr k)
 lt:∀k∈T,k<p.bg.length
structure fx (n:Nat)(us:List Nat)(p:Pt)(r:Pt×List Nat):Prop where
 wf:r.1.Wf n
 set:r.1.set=p.set
 bg:r.1.bg=p.bg
 en:r.1.en=p.en
 aR:Tch r.1 r.2
 Mk:∀v,v<n->(r.1.Mk v<->p.Mk v\/v∈us)
theorem PR {n:Nat}:∀(us:List Nat) {p:Pt} {T:List Nat},p.Wf n->Tch p T->(∀u∈us,u<n)->fx n us p (YD us p T)
 |[],p,T,h,ht,_=>⟨h,rfl,rfl,rfl,ht,fun v _=>by simp[YD]⟩
 |u::l,p,T,h,ht,hu=>by
  have hun:=hu u (aba ..);obtain⟨m1,m2,m3,m4,m5,m6,m7⟩:=MD h hun;have hsu:=(h.st u hun).1;have ht1:Tch (p.Wz u).1 (bif (p.Wz u).2 then T++[gt p.set u] else T):=by
   refine⟨?_,fun k hk=>?_,fun k hk=>?_⟩
   ·cases hb:(p.Wz u).2 with
    |false=>exact ht.nd
    |true =>
     have h0:=m6.1 hb;rw[cond_true,List.nodup_append];refine⟨ht.nd,by simp,fun a ha b hb=>?_⟩;rw[ake.1 hb];rintro rfl;have:=(ht.mem _ hsu).1 ha;omega
   ·rw[m3] at hk;rw[m7 k hk]
    cases hb:(p.Wz u).2 with
    |false =>
     have h0:gt p.mr (gt p.set u)≠0:=fun e=>by rw[m6.2 e] at hb;cases hb
     rw[cond_false,ht.mem k hk]
     constructor
     ·exact .inl
     ·rintro (h1|rfl)
      ·exact h1
      ·omega
    |true =>
     rw[cond_true,amb,ake,ht.mem k hk]
   ·rw[m3]
    cases hb:(p.Wz u).2 with
    |false=>rw[hb] at hk;exact ht.lt k hk
    |true =>
     rw[hb,cond_true,amb,ake] at hk;rcases hk with hk|rfl
     ·exact ht.lt k hk
     ·exact hsu
  have ih:=PR l m1 ht1 fun x hx=>hu x (aab _ hx)
  rw[YD];refine⟨ih.wf,ih.set.trans m2,ih.bg.trans m3,ih.en.trans m4,ih.aR,fun v hv=>?_⟩;rw[ih.Mk v hv,m5 v hv,alL,or_assoc]
def SZ:List Nat->Pt->List Nat->Pt×List Nat
 |[],p,w=>(p,w)
 |t::T,p,w=>SZ T (p.cut t).1 (bif (p.cut t).2 then w++[p.bg.length] else w)
def Pt.Zero (p:Pt):Prop:=∀k,k<p.bg.length->gt p.mr k=0
structure aaI (n:Nat)(p:Pt)(w:List Nat)(R:Nat->Nat->Prop)(r:Pt×List Nat):Prop where
 wf:r.1.Wf n
 zero:r.1.Zero
 le:p.bg.length<=r.1.bg.length
 rG:r.2.length+p.bg.length=w.length+r.1.bg.length
 work:∀k,k∈r.2<->k∈w\/(p.bg.length<=k/\k<r.1.bg.length)
 num:∀v,v<n->gt r.1.set v=gt p.set v\/p.bg.length<=gt r.1.set v
 eq:∀u v,u<n->v<n->(gt r.1.set u=gt r.1.set v<->gt p.set u=gt p.set v/\R u v)
theorem Jn {n:Nat}:∀(T:List Nat) {p:Pt} (w:List Nat),p.Wf n->T.Nodup->(∀k∈T,k<p.bg.length/\0<gt p.mr k)->(∀k,k<p.bg.length->k∉T->gt p.mr k=0) ->
  aaI n p w (fun u v=>gt p.set u∈T->(p.Mk u<->p.Mk v)) (SZ T p w)
 |[],p,w,h,_,_,hz=>⟨h,fun k hk=>hz k hk (by simp),agB _,rfl,fun k=>by simp only[SZ];constructor;exact .inl;rintro (h|h);exact h;omega,fun v _=>.inl rfl,fun u v _ _=>by simp[SZ]⟩
 |t::T,p,w,h,hn,hT,hz=>by
  obtain⟨ht,hm⟩:=hT t (aba ..);have hc:=A6 h ht hm;rw[amv] at hn;rw[SZ];generalize hr:p.cut t=r at *;obtain⟨p1,b⟩:=r;simp only at hc ⊢;have hlen:p1.bg.length=p.bg.length+(bif b then 1 else 0):=hc.len;have hle:p.bg.length<=p1.bg.length:=by omega
  have hT1:∀k∈T,k<p1.bg.length/\0<gt p1.mr k:=fun k hk=>by
   obtain⟨q1,q2⟩:=hT k (aab _ hk);refine⟨by omega,?_⟩;have:gt p1.mr k=gt p.mr k:=hc.mr k q1 fun e=>hn.1 (e ▸ hk)
   omega
  have tV:∀k,k<p1.bg.length->k∉T->gt p1.mr k=0:=fun k hk hnk=>by
   by_cases e:k=t
   ·rw[e];exact hc.mk0
   ·by_cases e2:k<p.bg.length
    ·have:gt p1.mr k=gt p.mr k:=hc.mr k e2 e;rw[this];exact hz k e2 fun SY=>by
      rcases alL.1 SY with h1|h1
      ·exact e h1
      ·exact hnk h1
    ·cases b with
     |false=>simp at hlen;omega
     |true =>
      have:k=p.bg.length:=by simp at hlen;omega
      rw[this];exact hc.mkK rfl
  have ih:=Jn (p:=p1) T (bif b then w++[p.bg.length] else w) hc.wf hn.2 hT1 tV;have ile:=ih.le;have iwl:=ih.rG;refine⟨ih.wf,ih.zero,by omega,?_,fun k=>?_,fun v hv=>?_,fun u v hu hv=>?_⟩
  ·cases b with
   |false=>simp at hlen iwl ⊢;omega
   |true=>simp at hlen iwl ⊢;omega
  ·rw[ih.work k]
   cases b with
   |false =>
    have hlen:p1.bg.length=p.bg.length:=by simpa using hlen
    rw[cond_false,hlen]
   |true =>
    have hlen:p1.bg.length=p.bg.length+1:=by simpa using hlen
    simp only[cond_true] at ile;rw[cond_true,amb,ake]
    constructor
    ·rintro ((h1|h1)|h1)
     ·exact .inl h1
     ·exact .inr (by omega)
     ·exact .inr (by omega)
    ·rintro (h1|h1)
     ·exact .inl (.inl h1)
     ·by_cases e:k=p.bg.length
      ·exact .inl (.inr e)
      ·exact .inr (by omega)
  ·rcases ih.num v hv with h1|h1
   ·rcases hc.num v hv with h2|h2
    ·exact .inl (h1.trans h2)
    ·have h3:gt p1.set v=p.bg.length:=h2.2.1;exact .inr (by omega)
   ·exact .inr (by omega)
  ·rw[ih.eq u v hu hv];have he:gt p1.set u=gt p1.set v<->gt p.set u=gt p.set v/\(gt p.set u=t->(p.Mk u<->p.Mk v)):=hc.eq u v hu hv;have SY:∀x,x<n->(gt p1.set x∈T<->gt p.set x∈T):=fun x hx=>by
    have UO:gt p1.set x=gt p.set x\/(gt p.set x=t/\gt p1.set x=p.bg.length/\b=true):=hc.num x hx;rcases UO with h1|⟨h1,h2,_⟩
    ·rw[h1]
    ·rw[h1,h2]
     constructor
     ·intro hk;have:=(hT _ (aab _ hk)).1;omega
     ·intro hk;exact absurd hk hn.1
   have hMk:∀x,x<n->gt p.set x≠t->(p1.Mk x<->p.Mk x):=hc.Mk;rw[he]
   constructor
   ·rintro⟨⟨e1,e2⟩,e3⟩;refine⟨e1,fun hx=>?_⟩;rcases alL.1 hx with h1|h1
    ·exact e2 h1
    ·have ZC:gt p.set u≠t:=fun e=>hn.1 (e ▸ h1)
     have:=e3 ((SY u hu).2 h1);rw[hMk u hu ZC,hMk v hv (by rw[<-e1];exact ZC)] at this;exact this
   ·rintro⟨e1,e2⟩;refine⟨⟨e1,fun hx=>e2 (by rw[hx];exact aba ..)⟩,fun hx=>?_⟩;have h1:=(SY u hu).1 hx;have ZC:gt p.set u≠t:=fun e=>hn.1 (e ▸ h1)
    rw[hMk u hu ZC,hMk v hv (by rw[<-e1];exact ZC)];exact e2 (aab _ h1)
def rF (Xy:Nat->List Nat)(S:List Nat)(p:Pt)(w:List Nat):Pt×List Nat :=
 SZ (YD (S.flatMap Xy) p []).2 (YD (S.flatMap Xy) p []).1 w
theorem A5 {n:Nat}{p:Pt}(h:p.Wf n)(hz:p.Zero)(w:List Nat){nx:Nat->Nat}{Xy:Nat->List Nat}{S:List Nat}(hS:∀c∈S,c<n)(hb:∀c,c<n->∀u,u∈Xy c<->u<n/\nx u=c) :
  aaI n p w (fun u v=>nx u∈S<->nx v∈S) (rF Xy S p w):=by
 have MC:∀u,u∈S.flatMap Xy<->u<n/\nx u∈S:=fun u=>by
  rw[List.mem_flatMap]
  constructor
  ·rintro⟨c,h1,h2⟩;obtain⟨q1,q2⟩:=(hb c (hS c h1) u).1 h2;exact⟨q1,by rw[q2];exact h1⟩
  ·rintro⟨h1,h2⟩;exact⟨_,h2,(hb _ (hS _ h2) u).2 ⟨h1,rfl⟩⟩
 have fu:Tch p []:=⟨by simp,fun k hk=>by simp[hz k hk],fun k hk=>by simp at hk⟩;have hm:=PR (S.flatMap Xy) h fu fun u hu=>((MC u).1 hu).1
 unfold rF;generalize YD (S.flatMap Xy) p []=r at *;obtain⟨p1,T⟩:=r;have e1:p1.set=p.set:=hm.set;have e2:p1.bg=p.bg:=hm.bg;have t1:T.Nodup:=hm.aR.nd;have t2:∀k,k<p1.bg.length->(k∈T<->0<gt p1.mr k):=hm.aR.mem;have t3:∀k∈T,k<p1.bg.length:=hm.aR.lt;have hc:=Jn (p:=p1) T w hm.wf t1 (fun k hk=>⟨t3 k hk,(t2 k (t3 k hk)).1 hk⟩) (fun k hk hn=>by have:=t2 k hk;have:¬0<gt p1.mr k:=fun h=>hn (this.2 h);omega);have hM:∀v,v<n->(p1.Mk v<->nx v∈S):=fun v hv=>by
  have:p1.Mk v<->p.Mk v\/v∈S.flatMap Xy:=hm.Mk v hv;rw[this,MC]
  constructor
  ·rintro (h1|h1)
   ·obtain⟨q1,q2,_⟩:=h.st v hv;unfold Pt.Mk at h1;rw[hz _ q1] at h1;omega
   ·exact h1.2
  ·exact fun h1=>.inr ⟨hv,h1⟩
 simp only[e1] at hc;have hle:=hc.le;have PY:=hc.rG;have hwk:=hc.work;have EV:=hc.num;simp only[e1,e2] at hle PY hwk EV;refine⟨hc.wf,hc.zero,hle,PY,hwk,EV,fun u v hu hv=>?_⟩;have:=hc.eq u v hu hv;simp only[e1] at this;rw[this]
 constructor
 ·rintro⟨q1,q2⟩;refine⟨q1,?_⟩;by_cases A8:gt p.set u∈T
  ·rw[<-hM u hu,<-hM v hv];exact q2 A8
  ·have SX:∀x,x<n->gt p.set x=gt p.set u->¬nx x∈S:=fun x hx e hxS=>by
    obtain⟨r1,r2,r3⟩:=hm.wf.st x hx;simp only[e1,e] at r1 r2 r3;have h0:¬0<gt p1.mr (gt p.set u):=fun h=>A8 ((t2 _ r1).2 h)
    have gk:=(hM x hx).2 hxS;unfold Pt.Mk at gk;rw[e1,e] at gk;omega
   exact⟨fun h=>absurd h (SX u hu rfl),fun h=>absurd h (SX v hv q1.symm)⟩
 ·rintro⟨q1,q2⟩;exact⟨q1,fun _=>by rw[hM u hu,hM v hv];exact q2⟩
def OW (Xy:Nat->Nat->List Nat)(S:List Nat):Nat->Nat->Pt->List Nat->Pt×List Nat
 |0,_,p,w=>(p,w)
 |r+1,x,p,w=>OW Xy S r (x+1) (rF (Xy x) S p w).1 (rF (Xy x) S p w).2
theorem A4 {n:Nat}{nx:Nat->Nat->Nat}{Xy:Nat->Nat->List Nat}{S:List Nat}(hS:∀c∈S,c<n):∀(r x:Nat) {p:Pt} (w:List Nat),p.Wf n->p.Zero->(∀y,x<=y->y<x+r->∀c,c<n->∀u,u∈Xy y c<->u<n/\nx u y=c) ->
  aaI n p w (fun u v=>∀y,x<=y->y<x+r->(nx u y∈S<->nx v y∈S)) (OW Xy S r x p w)
 |0,x,p,w,h,hz,_=>⟨h,hz,agB _,rfl,fun k=>by simp only[OW];constructor;exact .inl;rintro (h|h);exact h;omega,fun v _=>.inl rfl,fun u v _ _=>⟨fun e=>⟨e,fun y h1 h2=>by omega⟩,fun e=>e.1⟩⟩
 |r+1,x,p,w,h,hz,hb=>by
  have h1:=A5 h hz w (nx:=fun u=>nx u x) hS (hb x (agB _) (by omega));rw[OW];generalize rF (Xy x) S p w=q at *;obtain⟨p1,w1⟩:=q;simp only at h1 ⊢;have ih:=A4 (p:=p1) hS r (x+1) w1 h1.wf h1.zero fun y aQ gj=>hb y (by omega) (by omega)
  have a1:=h1.le;have a2:=ih.le;have a3:=h1.rG;have a4:=ih.rG;simp only at a1 a2 a3 a4;refine⟨ih.wf,ih.zero,by omega,by omega,fun k=>?_,fun v hv=>?_,fun u v hu hv=>?_⟩
  ·rw[ih.work k];have:=h1.work k;simp only at this;rw[this]
   constructor
   ·rintro ((h|h)|h)
    ·exact .inl h
    ·exact .inr (by omega)
    ·exact .inr (by omega)
   ·rintro (h|h)
    ·exact .inl (.inl h)
    ·by_cases e:k<p1.bg.length
     ·exact .inl (.inr ⟨h.1,e⟩)
     ·exact .inr ⟨by omega,h.2⟩
  ·have b1:=h1.num v hv;have b2:=ih.num v hv;simp only at b1 b2;rcases b2 with b2|b2
   ·rcases b1 with b1|b1
    ·exact .inl (b2.trans b1)
    ·exact .inr (by omega)
   ·exact .inr (by omega)
  ·rw[ih.eq u v hu hv];have:=h1.eq u v hu hv;simp only at this;rw[this]
   constructor
   ·rintro⟨⟨e1,e2⟩,e3⟩;refine⟨e1,fun y aQ gj=>?_⟩;by_cases e:y=x
    ·subst e;exact e2
    ·exact e3 y (by omega) (by omega)
   ·rintro⟨e1,e2⟩;exact⟨⟨e1,e2 x (agB _) (by omega)⟩,fun y aQ gj=>e2 y (by omega) (by omega)⟩
theorem Ki:∀(n K:Nat) (f:Nat->Nat),(∀k,k<K->f k<n)->(∀i j,i<K->j<K->f i=f j->i=j)->K<=n
 |0,K,f,h1,_=>by
  rcases Nat.eq_zero_or_pos K with h|h
  ·omega
  ·exact absurd (h1 0 h) (by omega)
 |n+1,K,f,h1,h2=>by
  by_cases hex:∃k,k<K/\f k=n
  ·obtain⟨k0,hk0,e0⟩:=hex;have:=Ki n (K-1) (fun k=>if k=k0 then f (K-1) else f k) (fun k hk=>by
    by_cases e:k=k0
    ·rw[if_pos e];have:=h1 (K-1) (by omega);have:f (K-1)≠n:=fun e'=>by have:=h2 (K-1) k0 (by omega) hk0 (e'.trans e0.symm);omega
     omega
    ·rw[if_neg e];have:=h1 k (by omega);have:f k≠n:=fun e'=>e (h2 k k0 (by omega) hk0 (e'.trans e0.symm))
     omega) (fun i j hi hj e=>by
    by_cases e1:i=k0
    ·by_cases e2:j=k0
     ·omega
     ·rw[if_pos e1,if_neg e2] at e;have:=h2 _ _ (by omega) (by omega) e;omega
    ·by_cases e2:j=k0
     ·rw[if_neg e1,if_pos e2] at e;have:=h2 _ _ (by omega) (by omega) e;omega
     ·rw[if_neg e1,if_neg e2] at e;exact h2 _ _ (by omega) (by omega) e)
   omega
  ·have:=Ki n K f (fun k hk=>by
    have:=h1 k hk;have:f k≠n:=fun e=>hex ⟨k,hk,e⟩
    omega) h2
   omega
theorem Pt.Wf.few {n:Nat}{p:Pt}(h:p.Wf n):p.bg.length<=n:=by
 refine Ki n _ (fun k=>gt p.bg k) (fun k hk=>by have:=h.sp k hk;omega) fun i j hi hj e=>?_
 obtain⟨a1,a2,a3⟩:=h.sp i hi;obtain⟨b1,b2,b3⟩:=h.sp j hj;have e:gt p.bg i=gt p.bg j:=e;have:=a3 _ (agB _) a1;have:=b3 _ (agB _) b1;rw[e] at *;omega
def Hh (Xy:Nat->Nat->List Nat)(m:Nat):Nat->Pt->List Nat->Pt
 |0,p,_=>p
 |f+1,p,w=>match w.getLast? with
  |none=>p
  |some s=>Hh Xy m f (OW Xy (piece p.list (gt p.bg s) (gt p.en s)) m 0 p w.dropLast).1 (OW Xy (piece p.list (gt p.bg s) (gt p.en s)) m 0 p w.dropLast).2
structure ft (A:Fa)(p:Pt)(w:List Nat):Prop where
 wf:p.Wf A.n
 zero:p.Zero
 work:∀k∈w,k<p.bg.length
 fr:∀u v,u<A.n->v<A.n->gt p.set u=gt p.set v->∀x,x<A.m->A.fr u x=A.fr v x
 bis:∀B,Bis A B->∀u v,B u v->gt p.set u=gt p.set v
 part:∃xc:Nat->Nat,(∀u v,u<A.n->v<A.n->gt p.set u=gt p.set v->xc u=xc v)/\(∀u v,u<A.n->v<A.n->gt p.set u=gt p.set v->∀x,x<A.m->xc (A.nx u x)=xc (A.nx v x)) /\
  ∀u v,u<A.n->v<A.n->xc u=xc v->gt p.set u∈w\/gt p.set v∈w\/gt p.set u=gt p.set v
theorem AZ {A:Fa}(hA:A.ok){Xy:Nat->Nat->List Nat}(hb:∀y,y<A.m->∀c,c<A.n->∀u,u∈Xy y c<->u<A.n/\A.nx u y=c){p:Pt}{w:List Nat}(h:ft A p w){s:Nat}(hs:w.getLast? = some s) :
  ft A (OW Xy (piece p.list (gt p.bg s) (gt p.en s)) A.m 0 p w.dropLast).1 (OW Xy (piece p.list (gt p.bg s) (gt p.en s)) A.m 0 p w.dropLast).2 /\
  2*(A.n-(OW Xy (piece p.list (gt p.bg s) (gt p.en s)) A.m 0 p w.dropLast).1.bg.length)+(OW Xy (piece p.list (gt p.bg s) (gt p.en s)) A.m 0 p w.dropLast).2.length<2*(A.n-p.bg.length)+w.length:=by
 have hw:w=w.dropLast++[s]:=by
  have ZC:w≠[]:=fun e=>by rw[e] at hs;cases hs
  rw[List.getLast?_eq_some_getLast ZC] at hs;have:=List.dropLast_concat_getLast ZC;rw[Option.some.inj hs] at this;exact this.symm
 have hsK:s<p.bg.length:=h.work s (by rw[hw];simp);obtain⟨k1,k2,k3⟩:=h.wf.sp s hsK;have hS:∀c,c<A.n->(c∈piece p.list (gt p.bg s) (gt p.en s)<->gt p.set c=s):=fun c hc=>by
  rw[NR (by rw[h.wf.ll];exact k2)]
  constructor
  ·rintro⟨i,h1,h2,rfl⟩;exact k3 i h1 h2
  ·intro e;obtain⟨_,r2,r3⟩:=h.wf.st c hc;rw[e] at r2 r3;exact⟨_,r2,r3,(h.wf.pl c hc).2⟩
 have gi:∀c∈piece p.list (gt p.bg s) (gt p.en s),c<A.n:=fun c hc=>by
  rw[NR (by rw[h.wf.ll];exact k2)] at hc;obtain⟨i,h1,h2,rfl⟩:=hc;exact (h.wf.li i (by omega)).1
 have hp:=A4 (nx:=A.nx) gi A.m 0 w.dropLast h.wf h.zero fun y _ hy=>hb y (by omega)
 generalize piece p.list (gt p.bg s) (gt p.en s)=S at *;generalize OW Xy S A.m 0 p w.dropLast=q at *;obtain⟨p1,w1⟩:=q;have ou:p1.Wf A.n:=hp.wf;have Si:=ou.few;have hle:p.bg.length<=p1.bg.length:=hp.le;have PY:w1.length+p.bg.length=w.dropLast.length+p1.bg.length:=hp.rG;have hwk:∀k,k∈w1<->k∈w.dropLast\/(p.bg.length<=k/\k<p1.bg.length):=hp.work;have UO:∀v,v<A.n->gt p1.set v=gt p.set v\/p.bg.length<=gt p1.set v:=hp.num;have heq:∀u v,u<A.n->v<A.n->(gt p1.set u=gt p1.set v<->gt p.set u=gt p.set v/\∀y,0<=y->y<0+A.m->(A.nx u y∈S<->A.nx v y∈S)):=hp.eq;have ala:w.length=w.dropLast.length+1:=by
  conv=>lhs;rw[hw]
  simp
 refine⟨⟨ou,hp.zero,fun k hk=>?_,fun u v hu hv e=>h.fr u v hu hv ((heq u v hu hv).1 e).1,fun B hB u v nQ=>?_,?_⟩,by show 2*(A.n-p1.bg.length)+w1.length<_;omega⟩
 ·rcases (hwk k).1 hk with h1|h1
  ·have:=h.work k (by rw[hw];exact List.mem_append_left _ h1);show k<p1.bg.length;omega
  ·exact h1.2
 ·obtain⟨hu,hv⟩:=hB.lt u v nQ;refine (heq u v hu hv).2 ⟨h.bis B hB u v nQ,fun y _ hy=>?_⟩;have hn:=hB.nx u v nQ y (by omega);obtain⟨n1,n2⟩:=hB.lt _ _ hn;rw[hS _ n1,hS _ n2,h.bis B hB _ _ hn]
 ·obtain⟨xc,x1,x2,x3⟩:=h.part;refine⟨fun u=>2*xc u+if gt p.set u=s then 1 else 0,fun u v hu hv e=>?_,fun u v hu hv e x hx=>?_,fun u v hu hv e=>?_⟩
  ·have e:=((heq u v hu hv).1 e).1;simp only[x1 u v hu hv e,e]
  ·obtain⟨e,e'⟩:=(heq u v hu hv).1 e;have n1:=hA.lt u x hu hx;have n2:=hA.lt v x hv hx;have hm:=e' x (aic _) (by omega);rw[hS _ n1,hS _ n2] at hm;simp only[x2 u v hu hv e x hx];by_cases c:gt p.set (A.nx u x)=s
   ·rw[if_pos c,if_pos (hm.1 c)]
   ·rw[if_neg c,if_neg fun c'=>c (hm.2 c')]
  ·have ex:xc u=xc v/\(gt p.set u=s<->gt p.set v=s):=by
    simp only at e;by_cases c:gt p.set u=s
    ·by_cases c':gt p.set v=s
     ·rw[if_pos c,if_pos c'] at e;exact⟨by omega,by simp[c,c']⟩
     ·rw[if_pos c,if_neg c'] at e;omega
    ·by_cases c':gt p.set v=s
     ·rw[if_neg c,if_pos c'] at e;omega
     ·rw[if_neg c,if_neg c'] at e;exact⟨by omega,by simp[c,c']⟩
   show gt p1.set u∈w1\/gt p1.set v∈w1\/gt p1.set u=gt p1.set v;by_cases cu:gt p1.set u∈w1
   ·exact .inl cu
   by_cases cv:gt p1.set v∈w1
   ·exact .inr (.inl cv)
   refine .inr (.inr ?_);have old:∀v,v<A.n->¬gt p1.set v∈w1->gt p1.set v=gt p.set v/\¬gt p.set v∈w.dropLast:=fun v hv c=>by
    have Yh:=(ou.st v hv).1;rcases UO v hv with h1|h1
    ·refine⟨h1,fun hm=>c ((hwk _).2 (.inl ?_))⟩;rw[h1];exact hm
    ·exact absurd ((hwk _).2 (.inr ⟨h1,Yh⟩)) c
   obtain⟨u1,u2⟩:=old u hu cu;obtain⟨v1,v2⟩:=old v hv cv;rw[u1,v1];by_cases c:gt p.set u=s
   ·rw[c,ex.2.1 c]
   ·have c':gt p.set v≠s:=fun h=>c (ex.2.2 h)
    rcases x3 u v hu hv ex.1 with h1|h1|h1
    ·rw[hw,amb,ake] at h1;rcases h1 with h1|h1
     ·exact absurd h1 u2
     ·exact absurd h1 c
    ·rw[hw,amb,ake] at h1;rcases h1 with h1|h1
     ·exact absurd h1 v2
     ·exact absurd h1 c'
    ·exact h1
theorem CK {A:Fa}(hA:A.ok){Xy:Nat->Nat->List Nat}(hb:∀y,y<A.m->∀c,c<A.n->∀u,u∈Xy y c<->u<A.n/\A.nx u y=c):∀(f:Nat) {p:Pt} {w:List Nat},ft A p w->2*(A.n-p.bg.length)+w.length<=f->ft A (Hh Xy A.m f p w) []
 |0,p,w,h,hf=>by
  have:w=[]:=al6.1 (by omega);subst this;exact h
 |f+1,p,w,h,hf=>by
  rw[Hh]
  cases hs:w.getLast? with
  |none =>
   have:w=[]:=by simpa using hs
   subst this;exact h
  |some s =>
   obtain⟨h1,h2⟩:=AZ hA hb h hs;exact CK hA hb f h1 (by omega)
theorem fq {A:Fa}(hA:A.ok){p:Pt}(h:ft A p []){u v:Nat}(hu:u<A.n)(hv:v<A.n):gt p.set u=gt p.set v<->YM A u=YM A v:=by
 constructor
 ·intro e;obtain⟨xc,x1,x2,x3⟩:=h.part;refine Hg (B:=fun u v=>u<A.n/\v<A.n/\gt p.set u=gt p.set v) ⟨fun u v k=>⟨k.1,k.2.1⟩,fun u v k=>h.fr u v k.1 k.2.1 k.2.2,fun u v k x hx=>⟨hA.lt u x k.1 hx,hA.lt v x k.2.1 hx,?_⟩⟩ u v ⟨hu,hv,e⟩;rcases x3 _ _ (hA.lt u x k.1 hx) (hA.lt v x k.2.1 hx) (x2 u v k.1 k.2.1 k.2.2 x hx) with h1|h1|h1
  ·simp at h1
  ·simp at h1
  ·exact h1
 ·intro e;exact h.bis _ (xw hA) u v ⟨hu,hv,e⟩
def Xq:List Nat->Nat->Nat
 |[],_=>0
 |x::l,c=>bif x==c then 0 else Xq l c+1
theorem HT:∀(l:List Nat) (c:Nat),Xq l c<l.length<->c∈l
 |[],c=>by simp[Xq]
 |x::l,c=>by
  have:=HT l c;rw[Xq,akd,alL]
  cases h:x==c with
  |true =>
   have:x=c:=by simpa using h
   simp[this]
  |false =>
   have ZC:¬x=c:=by simpa using h
   simp only[cond_false]
   constructor
   ·intro h;exact .inr (this.1 (by omega))
   ·rintro (h|h)
    ·exact absurd h.symm ZC
    ·have:=this.2 h;omega
theorem Ao (f g:Nat->Nat)(n:Nat):∀(l:List Nat),(∀a∈l,f a=f n<->g a=g n)->Xq (l.map f) (f n)=Xq (l.map g) (g n)
 |[],_=>rfl
 |x::l,h=>by
  have h0:=h x (aba ..);have he:(f x==f n)=(g x==g n):=by rw[amj,beq_iff_eq,beq_iff_eq];exact h0
  rw[alT,alT,Xq,Xq,he,Ao f g n l fun a ha=>h a (aab _ ha)]
def Zs (κ:Nat->Nat):List Nat->List Nat->List Nat×List Nat
 |[],st=>(st,[])
 |c::cs,st=>bif decide (Xq (st.map κ) (κ c)<st.length) then ((Zs κ cs st).1,Xq (st.map κ) (κ c)::(Zs κ cs st).2) else ((Zs κ cs (st++[c])).1,st.length::(Zs κ cs (st++[c])).2)
theorem RT {κ ρ:Nat->Nat}{Q:Nat->Prop}(hk:∀a b,Q a->Q b->(κ a=κ b<->ρ a=ρ b)):∀(cs st:List Nat),(∀a∈cs,Q a)->(∀a∈st,Q a)->Zs id (cs.map ρ) (st.map ρ)=((Zs κ cs st).1.map ρ,(Zs κ cs st).2)/\∀a∈(Zs κ cs st).1,Q a
 |[],st,_,h=>⟨rfl,h⟩
 |c::cs,st,h1,h2=>by
  have hc:=h1 c (aba ..);have MT:=fun a ha=>h1 a (aab _ ha)
  have he:Xq ((st.map ρ).map id) (id (ρ c))=Xq (st.map κ) (κ c):=by
   rw[List.map_id];exact (Ao κ ρ c st fun a ha=>hk a c (h2 a ha) hc).symm
  rw[alT,Zs,Zs,he,agC]
  cases decide (Xq (st.map κ) (κ c)<st.length) with
  |true =>
   obtain⟨e1,e2⟩:=RT hk cs st MT h2;simp only[cond_true,e1];exact⟨by first|rfl|trivial,e2⟩
  |false =>
   obtain⟨e1,e2⟩:=RT hk cs (st++[c]) MT fun a ha=>by
    rcases amb.1 ha with h|h
    ·exact h2 a h
    ·rw[ake.1 h];exact hc
   have e3:st.map ρ++[ρ c]=(st++[c]).map ρ:=by simp
   simp only[cond_false,e3,e1];exact⟨by first|rfl|trivial,e2⟩
def UE (κ:Nat->Nat)(row:Nat->List Nat):Nat->Nat->List Nat->List (Nat×List Nat)
 |0,_,_=>[]
 |f+1,i,st=>match st[i]? with
  |none=>[]
  |some s=>(s,(Zs κ (row s) st).2)::UE κ row f (i+1) (Zs κ (row s) st).1
theorem Lo {κ ρ:Nat->Nat}{Q:Nat->Prop}(hk:∀a b,Q a->Q b->(κ a=κ b<->ρ a=ρ b)){row mD:Nat->List Nat}(hr:∀s,Q s->mD (ρ s)=(row s).map ρ/\∀a∈row s,Q a):∀(f i:Nat) (st:List Nat),(∀a∈st,Q a) ->
  UE id mD f i (st.map ρ)=(UE κ row f i st).map (fun x=>(ρ x.1,x.2))/\∀x∈UE κ row f i st,Q x.1
 |0,i,st,h=>⟨rfl,fun x hx=>by simp[UE] at hx⟩
 |f+1,i,st,h=>by
  rw[UE,UE,alV]
  cases hs:st[i]? with
  |none=>exact⟨rfl,fun x hx=>by simp at hx⟩
  |some s =>
   have hq:=h s (amu hs);obtain⟨r1,r2⟩:=hr s hq;obtain⟨e1,e2⟩:=RT hk (row s) st r2 h;obtain⟨i1,i2⟩:=Lo hk hr f (i+1) _ e2;simp only[amo,r1,e1,i1,alT];refine⟨by first|rfl|trivial,fun x hx=>?_⟩;rcases alL.1 hx with rfl|hx
   ·exact hq
   ·exact i2 x hx
theorem TF {κ:Nat->Nat}:∀(cs st:List Nat),(st.map κ).Nodup->((Zs κ cs st).1.map κ).Nodup/\st.length<=(Zs κ cs st).1.length/\(∀i,i<st.length->(Zs κ cs st).1[i]? = st[i]?)/\(Zs κ cs st).2.length=cs.length/\∀k∈(Zs κ cs st).2,k<(Zs κ cs st).1.length
 |[],st,h=>⟨h,agB _,fun _ _=>rfl,rfl,fun k hk=>by simp[Zs] at hk⟩
 |c::cs,st,h=>by
  rw[Zs]
  cases hd:decide (Xq (st.map κ) (κ c)<st.length) with
  |true =>
   obtain⟨h1,h2,h3,h4,h5⟩:=TF cs st h;have hd:Xq (st.map κ) (κ c)<st.length:=by simpa using hd
   simp only[cond_true,akd,h4];refine⟨h1,h2,h3,by first|rfl|trivial,fun k hk=>?_⟩;rcases alL.1 hk with rfl|hk
   ·omega
   ·exact h5 k hk
  |false =>
   have hd:¬Xq (st.map κ) (κ c)<(st.map κ).length:=by rw[agC];simpa using hd
   rw[HT] at hd;obtain⟨h1,h2,h3,h4,h5⟩:=TF cs (st++[c]) (by
    rw[alY,List.nodup_append];refine⟨h,by simp,fun a ha b hb=>?_⟩;rw[alT,List.map_nil,ake] at hb;rintro rfl;rw[hb] at ha;exact hd ha)
   rw[agy,alW] at h2;simp only[cond_false,akd,h4];refine⟨h1,by omega,fun i hi=>?_,by first|rfl|trivial,fun k hk=>?_⟩
   ·rw[h3 i (by rw[agy];omega),al0 hi]
   ·rcases alL.1 hk with rfl|hk
    ·omega
    ·exact h5 k hk
theorem Vn {κ:Nat->Nat}{n:Nat}{st:List Nat}(h:(st.map κ).Nodup)(hn:∀a∈st,a<n):st.length<=n:=by
 have EG:st.Nodup:=by
  rw[List.Nodup,List.pairwise_map] at h;exact h.imp fun ZC e=>ZC (by rw[e])
 refine Ki n st.length (fun i=>gt st i) (fun i hi=>?_) fun i j hi hj e=>?_
 ·have:gt st i=st[i]:=by unfold gt;rw[alM,aaa hi];rfl
  simp only[this];exact hn _ (adm hi)
 ·have e1:gt st i=st[i]:=by unfold gt;rw[alM,aaa hi];rfl
  have e2:gt st j=st[j]:=by unfold gt;rw[alM,aaa hj];rfl
  simp only[e1,e2] at e;exact (List.getElem_inj EG).1 e
def XM (A:Fa)(s:Nat):List Nat:=(List.range A.m).map (A.nx s)
def Ml (A:Fa)(cl:Nat->Nat):List (Nat×List Nat):=UE cl (XM A) (A.n+1) 0 [0]
def U7 (A:Fa):List (Nat×List Nat):=UE id (fun c=>(XM A c).map (YM A)) (A.n+1) 0 [YM A 0]
theorem min_eq {A:Fa}(hA:A.ok){cl:Nat->Nat}(hc:∀u v,u<A.n->v<A.n->(cl u=cl v<->YM A u=YM A v)) :
  U7 A=(Ml A cl).map (fun x=>(YM A x.1,x.2))/\∀x∈Ml A cl,x.1<A.n:=by
 have hr:∀s,s<A.n->(fun c=>(XM A c).map (YM A)) (YM A s)=(XM A s).map (YM A)/\∀a∈XM A s,a<A.n:=fun s hs=>by
  refine⟨?_,fun a ha=>?_⟩
  ·have Yh:YM A s<A.n:=amw ((WM A).le s) hs;have he:=(UD hA Yh hs).1 ((WM A).fix s);simp only[XM,List.map_map];refine amc fun x hx=>?_
   exact (he x (al4.1 hx)).2
  ·obtain⟨x,hx,rfl⟩:=alN.1 ha;exact hA.lt s x hs (al4.1 hx)
 have:=Lo (κ:=cl) (ρ:=YM A) (Q:=fun a=>a<A.n) hc (row:=XM A) (mD:=fun c=>(XM A c).map (YM A)) hr (A.n+1) 0 [0] fun a ha=>by rw[ake.1 ha];exact hA.pos
 exact this
theorem wV {A:Fa}(hA:A.ok){s:Nat}(hs:s<A.n){x:Nat}(hx:x<A.m):A.fr (YM A s) x=A.fr s x :=
 (((UD hA (amw ((WM A).le s) hs) hs).1 ((WM A).fix s)) x hx).1
section
variable {α:Type} [DecidableEq α]
def Yu (κ:Nat->α):Nat->List α
 |0=>[]
 |i+1=>if κ i∈Yu κ i then Yu κ i else Yu κ i++[κ i]
theorem Tj (κ:Nat->α)(k:α):∀n,k∈Yu κ n<->∃i,i<n/\κ i=k
 |0=>by simp[Yu]
 |n+1=>by
  have ih:=Tj κ k n;have ihn:=Tj κ (κ n) n;rw[Yu]
  constructor
  ·intro h;by_cases e:κ n∈Yu κ n
   ·rw[if_pos e] at h;obtain⟨i,h1,h2⟩:=ih.1 h;exact⟨i,by omega,h2⟩
   ·rw[if_neg e,amb,ake] at h;rcases h with h|h
    ·obtain⟨i,h1,h2⟩:=ih.1 h;exact⟨i,by omega,h2⟩
    ·exact⟨n,by omega,h.symm⟩
  ·rintro⟨i,h1,h2⟩;by_cases hi:i=n
   ·subst hi;by_cases e:κ i∈Yu κ i
    ·rw[if_pos e,<-h2];exact e
    ·rw[if_neg e,h2];simp
   ·have:=ih.2 ⟨i,by omega,h2⟩;by_cases e:κ n∈Yu κ n
    ·rw[if_pos e];exact this
    ·rw[if_neg e];exact List.mem_append_left _ this
theorem PD (κ:Nat->α):∀n,(Yu κ n).Nodup
 |0=>by simp[Yu]
 |n+1=>by
  have ih:=PD κ n;rw[Yu];by_cases e:κ n∈Yu κ n
  ·rw[if_pos e];exact ih
  ·rw[if_neg e,List.nodup_append];refine⟨ih,by simp,fun a ha b hb=>?_⟩;rw[ake.1 hb];rintro rfl;exact e ha
theorem GV (κ:Nat->α):∀n,(Yu κ n).length<=n
 |0=>agB _
 |n+1=>by
  have:=GV κ n;rw[Yu]
  split
  ·omega
  ·simp;omega
def RU (κ:Nat->α)(k:α)(n:Nat):List Nat:=(List.range n).filter fun i=>decide (κ i=k)
theorem PE (κ:Nat->α)(k:α)(n u:Nat):u∈RU κ k n<->u<n/\κ u=k:=by simp[RU]
theorem gO (κ:Nat->α)(k:α)(n:Nat):(RU κ k n).Nodup:=List.Pairwise.filter _ List.nodup_range
theorem Kr (κ:Nat->α)(k:α)(n:Nat):RU κ k (n+1)=if κ n=k then RU κ k n++[n] else RU κ k n:=by
 unfold RU;rw[List.range_succ,List.filter_append];by_cases e:κ n=k <;> simp[e]
def Wt (c:Nat):List Nat->Pt->Pt
 |[],p=>p
 |u::l,p=>Wt c l { p with place:=p.place.set u p.list.length,set:=p.set.set u c,list:=p.list++[u] }
structure ag5 (n c:Nat)(l:List Nat)(p q:Pt):Prop where
 list:q.list=p.list++l
 bg:q.bg=p.bg
 en:q.en=p.en
 mr:q.mr=p.mr
 lp:q.place.length=n
 ls:q.set.length=n
 out:∀v,v∉l->gt q.place v=gt p.place v/\gt q.set v=gt p.set v
 inn:∀j (h:j<l.length),gt q.place l[j]=p.list.length+j/\gt q.set l[j]=c
theorem Fg (n c:Nat):∀(l:List Nat) (p:Pt),l.Nodup->(∀u∈l,u<n)->p.place.length=n->p.set.length=n->ag5 n c l p (Wt c l p)
 |[],p,_,_,h1,h2=>⟨by simp[Wt],rfl,rfl,rfl,h1,h2,fun _ _=>⟨rfl,rfl⟩,fun j h=>by simp at h⟩
 |u::l,p,hn,hu,h1,h2=>by
  rw[amv] at hn;have hun:=hu u (aba ..);have ih:=Fg n c l { p with place:=p.place.set u p.list.length,set:=p.set.set u c,list:=p.list++[u] } hn.2 (fun x hx=>hu x (aab _ hx)) (by simp[h1]) (by simp[h2]);rw[Wt];generalize Wt c l { p with place:=p.place.set u p.list.length,set:=p.set.set u c,list:=p.list++[u] }=q at *;refine⟨by rw[ih.list];simp,ih.bg,ih.en,ih.mr,ih.lp,ih.ls,fun v hv=>?_,fun j hj=>?_⟩
  ·rw[alL,not_or] at hv;obtain⟨a,b⟩:=ih.out v hv.2;rw[a,b];simp only[TT];rw[if_neg (by omega),if_neg (by omega)];exact⟨rfl,rfl⟩
  ·cases j with
   |zero =>
    obtain⟨a,b⟩:=ih.out u hn.1;rw[List.getElem_cons_zero,a,b];rw[TT,TT,if_pos ⟨rfl,by omega⟩,if_pos ⟨rfl,by omega⟩];exact⟨rfl,rfl⟩
   |succ j =>
    obtain⟨a,b⟩:=ih.inn j (by simpa using hj);rw[List.getElem_cons_succ,a,b];refine⟨?_,rfl⟩;simp only[agy,alW];omega
def DV (κ:Nat->α)(n:Nat):List α->Pt->Pt
 |[],p=>p
 |k::ks,p=>DV κ n ks { Wt p.bg.length (RU κ k n) p with bg:=p.bg++[p.list.length],mr:=p.mr++[0],en:=p.en++[(Wt p.bg.length (RU κ k n) p).list.length] }
def Wi (κ:Nat->α)(n:Nat):Pt:=DV κ n (Yu κ n) ⟨[],List.replicate n 0,List.replicate n 0,[],[],[]⟩
structure Fil (κ:Nat->α)(n:Nat)(done:List α)(p:Pt):Prop where
 lp:p.place.length=n
 ls:p.set.length=n
 lb:p.bg.length=done.length
 le:p.en.length=done.length
 lm:p.mr.length=done.length
 li:∀i,i<p.list.length->gt p.list i<n/\gt p.place (gt p.list i)=i/\κ (gt p.list i)∈done
 st:∀u,u<n->κ u∈done->gt p.place u<p.list.length/\gt p.list (gt p.place u)=u/\gt p.set u<done.length/\gt p.bg (gt p.set u)<=gt p.place u/\gt p.place u<gt p.en (gt p.set u)/\done[gt p.set u]? = some (κ u)
 sp:∀k,k<done.length->gt p.bg k<gt p.en k/\gt p.en k<=p.list.length/\∀i,gt p.bg k<=i->i<gt p.en k->gt p.set (gt p.list i)=k
 mr:∀k,k<done.length->gt p.mr k=0
theorem HC {a b:List Nat}{i:Nat}(h:i<a.length):gt (a++b) i=gt a i:=by
 unfold gt;rw[alM,alM,al0 h]
theorem yx {a b:List Nat}{i:Nat}(h:a.length<=i):gt (a++b) i=gt b (i-a.length):=by
 unfold gt;rw[alM,alM,amI h]
theorem VF {l:List Nat}{i:Nat}(h:i<l.length):gt l i=l[i]:=by
 unfold gt;rw[alM,aaa h];rfl
theorem gN {κ:Nat->α}{n:Nat}{done:List α}{p:Pt}(h:Fil κ n done p){k:α}(hk:k∉done)(hex:∃i,i<n/\κ i=k) :
  Fil κ n (done++[k]) { Wt p.bg.length (RU κ k n) p with bg:=p.bg++[p.list.length],mr:=p.mr++[0],en:=p.en++[(Wt p.bg.length (RU κ k n) p).list.length] }:=by
 have ha:=Fg n p.bg.length (RU κ k n) p (gO κ k n) (fun u hu=>((PE κ k n u).1 hu).1) h.lp h.ls;generalize Wt p.bg.length (RU κ k n) p=q at *;have ZC:0<(RU κ k n).length:=by
  obtain⟨i,h1,h2⟩:=hex;exact List.length_pos_of_mem ((PE κ k n i).2 ⟨h1,h2⟩)
 have hgm:=PE κ k n;have hgd:=gO κ k n;generalize RU κ k n=G at *;have hql:q.list.length=p.list.length+G.length:=by rw[ha.list];simp
 have hdl:(done++[k]).length=done.length+1:=by simp
 have hB:∀i,gt (p.bg++[p.list.length]) i=if i=done.length then p.list.length else gt p.bg i:=fun i=>by rw[JL,h.lb]
 have hE:∀i,gt (p.en++[q.list.length]) i=if i=done.length then q.list.length else gt p.en i:=fun i=>by rw[JL,h.le]
 have hM:∀i,gt (p.mr++[0]) i=if i=done.length then 0 else gt p.mr i:=fun i=>by rw[JL,h.lm]
 have hold:∀i,i<p.list.length->gt q.list i=gt p.list i:=fun i hi=>by rw[ha.list,HC hi]
 have adh:∀j (hj:j<G.length),gt q.list (p.list.length+j)=G[j]:=fun j hj=>by rw[ha.list,yx (by omega),Nat.add_sub_cancel_left,VF hj]
 have Mm:∀i,i<p.list.length->gt p.list i∉G:=fun i hi hm=>by
  have:=(h.li i hi).2.2;rw[((hgm _).1 hm).2] at this;exact hk this
 refine⟨ha.lp,ha.ls,by simp[h.lb],by simp[h.le],by simp[h.lm],fun i hi=>?_,fun u hu hd=>?_,fun j hj=>?_,fun j hj=>?_⟩
 ·have hi:i<q.list.length:=hi;by_cases Yh:i<p.list.length
  ·obtain⟨a,b,c⟩:=h.li i Yh;obtain⟨o1,_⟩:=ha.out _ (Mm i Yh);simp only[hold i Yh];exact⟨a,o1.trans b,List.mem_append_left _ c⟩
  ·obtain⟨j,rfl⟩:∃j,i=p.list.length+j:=⟨i-p.list.length,by omega⟩;have hj:j<G.length:=by omega
   simp only[adh j hj];obtain⟨g1,g2⟩:=(hgm _).1 (adm hj);exact⟨g1,(ha.inn j hj).1,by rw[g2];simp⟩
 ·show gt q.place u<q.list.length/\gt q.list (gt q.place u)=u/\gt q.set u<(done++[k]).length/\gt (p.bg++[p.list.length]) (gt q.set u)<=gt q.place u/\gt q.place u<gt (p.en++[q.list.length]) (gt q.set u)/\(done++[k])[gt q.set u]? = some (κ u);by_cases hg:u∈G
  ·obtain⟨j,hj,rfl⟩:=alP.1 hg;obtain⟨i1,i2⟩:=ha.inn j hj;have hs:gt q.set G[j]=done.length:=by rw[i2,h.lb]
   rw[i1,hs,adh j hj,hB,hE,if_pos rfl,if_pos rfl,hdl,((hgm _).1 hg).2];exact⟨by omega,rfl,by omega,by omega,by omega,by simp⟩
  ·have LR:κ u∈done:=by
    rcases amb.1 hd with h1|h1
    ·exact h1
    ·exact absurd ((hgm u).2 ⟨hu,ake.1 h1⟩) hg
   obtain⟨a,b,c,d,e,f⟩:=h.st u hu LR;obtain⟨o1,o2⟩:=ha.out u hg;rw[o1,o2,hold _ a,hB,hE,if_neg (by omega),if_neg (by omega),hdl,al0 c];exact⟨by omega,b,by omega,d,e,f⟩
 ·show gt (p.bg++[p.list.length]) j<gt (p.en++[q.list.length]) j/\gt (p.en++[q.list.length]) j<=q.list.length/\∀i,gt (p.bg++[p.list.length]) j<=i->i<gt (p.en++[q.list.length]) j->gt q.set (gt q.list i)=j;rw[hB,hE];by_cases e:j=done.length
  ·rw[if_pos e,if_pos e];refine⟨by omega,agB _,fun i h1 h2=>?_⟩;obtain⟨r,rfl⟩:∃r,i=p.list.length+r:=⟨i-p.list.length,by omega⟩;have hr:r<G.length:=by omega
   rw[adh r hr,(ha.inn r hr).2,h.lb,e]
  ·have wJ:j<done.length:=by have:j<(done++[k]).length:=hj;omega
   rw[if_neg e,if_neg e];obtain⟨a,b,c⟩:=h.sp j wJ;refine⟨a,by omega,fun i h1 h2=>?_⟩;rw[hold i (by omega),(ha.out _ (Mm i (by omega))).2];exact c i h1 h2
 ·show gt (p.mr++[0]) j=0;rw[hM];by_cases e:j=done.length
  ·rw[if_pos e]
  ·rw[if_neg e];exact h.mr j (by have:j<(done++[k]).length:=hj;omega)
theorem rS {κ:Nat->α}{n:Nat}:∀(ks:List α) {done:List α} {p:Pt},Fil κ n done p->(done++ks).Nodup->(∀k∈ks,∃i,i<n/\κ i=k)->Fil κ n (done++ks) (DV κ n ks p)
 |[],done,p,h,_,_=>by rw[alZ];exact h
 |k::ks,done,p,h,hn,he=>by
  have hk:k∉done:=fun hm=>by
   rw[List.nodup_append] at hn;exact hn.2.2 k hm k (aba ..) rfl
  have h1:=gN h hk (he k (aba ..));have e:done++k::ks=(done++[k])++ks:=by simp
  rw[e] at hn ⊢;exact rS ks h1 hn fun x hx=>he x (aab _ hx)
theorem yV (κ:Nat->α)(n:Nat):Fil κ n (Yu κ n) (Wi κ n):=by
 have h0:Fil κ n [] ⟨[],List.replicate n 0,List.replicate n 0,[],[],[]⟩:=⟨by simp,by simp,rfl,rfl,rfl,fun i hi=>by simp at hi,fun u _ h=>by simp at h,fun k hk=>by simp at hk,fun k hk=>by simp at hk⟩;have:=rS (Yu κ n) h0 (by simpa using PD κ n) fun k hk=>(Tj κ k n).1 hk
 rw[amg] at this;exact this
theorem yC {A:Fa}{κ:Nat->α}(hk:∀u v,u<A.n->v<A.n->(κ u=κ v<->∀x,x<A.m->A.fr u x=A.fr v x)):ft A (Wi κ A.n) (List.range (Wi κ A.n).bg.length):=by
 have h:=yV κ A.n;generalize Wi κ A.n=p at *;have hd:∀u,u<A.n->κ u∈Yu κ A.n:=fun u hu=>(Tj κ _ _).2 ⟨u,hu,rfl⟩
 have EK:p.list.length=A.n:=by
  refine Nat.le_antisymm (Ki A.n p.list.length (gt p.list) (fun i hi=>(h.li i hi).1) fun i j hi hj e=>?_) (Ki p.list.length A.n (gt p.place) (fun u hu=>(h.st u hu (hd u hu)).1) fun u v hu hv e=>?_)
  ·have a:=(h.li i hi).2.1;have b:=(h.li j hj).2.1;rw[e] at a;exact a.symm.trans b
  ·have a:=(h.st u hu (hd u hu)).2.1;have b:=(h.st v hv (hd v hv)).2.1;rw[e] at a;exact a.symm.trans b
 have QR:∀u v,u<A.n->v<A.n->(gt p.set u=gt p.set v<->κ u=κ v):=fun u v hu hv=>by
  obtain⟨_,_,a,_,_,b⟩:=h.st u hu (hd u hu);obtain⟨_,_,c,_,_,d⟩:=h.st v hv (hd v hv)
  constructor
  ·intro e;rw[e,d] at b;exact (Option.some.inj b).symm
  ·intro e;rw[aaa a] at b;rw[aaa c] at d;have:=(Option.some.inj b).trans (e.trans (Option.some.inj d).symm);exact (List.getElem_inj (PD κ A.n)).1 this
 refine⟨⟨EK,h.lp,h.ls,by rw[h.le,h.lb],by rw[h.lm,h.lb],fun u hu=>?_,fun i hi=>?_,fun u hu=>?_,fun k Bb=>?_,fun k Bb=>?_⟩,fun k Bb=>h.mr k (by rw[h.lb] at Bb;exact Bb),fun k Bb=>al4.1 Bb,fun u v hu hv e=>(hk u v hu hv).1 ((QR u v hu hv).1 e),fun B hB u v nQ=>?_,fun _=>0,fun _ _ _ _ _=>rfl,fun _ _ _ _ _ _ _=>rfl,fun u v hu hv _=>?_⟩
 ·obtain⟨a,b,_⟩:=h.st u hu (hd u hu);exact⟨by omega,b⟩
 ·obtain⟨a,b,_⟩:=h.li i (by omega);exact⟨a,b⟩
 ·obtain⟨_,_,a,b,c,_⟩:=h.st u hu (hd u hu);exact⟨by rw[h.lb];exact a,b,c⟩
 ·obtain⟨a,b,c⟩:=h.sp k (by rw[h.lb] at Bb;exact Bb);exact⟨a,by omega,c⟩
 ·have a:=h.mr k (by rw[h.lb] at Bb;exact Bb);have b:=h.sp k (by rw[h.lb] at Bb;exact Bb);omega
 ·obtain⟨hu,hv⟩:=hB.lt u v nQ;exact (QR u v hu hv).2 ((hk u v hu hv).2 (hB.fr u v nQ))
 ·obtain⟨_,_,a,_⟩:=h.st u hu (hd u hu);exact .inl (al4.2 (by rw[h.lb];exact a))
end
def ag6 {α:Type} [DecidableEq α] (A:Fa)(κ:Nat->α)(Xy:Nat->Nat->List Nat):Nat->Nat :=
 gt (Hh Xy A.m (2*(A.n-(Wi κ A.n).bg.length)+(Wi κ A.n).bg.length) (Wi κ A.n) (List.range (Wi κ A.n).bg.length)).set
def M5 (A:Fa)(x c:Nat):List Nat:=(List.range A.n).filter fun u=>A.nx u x==c
theorem KG (A:Fa)(x c u:Nat):u∈M5 A x c<->u<A.n/\A.nx u x=c:=by simp[M5]
theorem acx {α:Type} [DecidableEq α] {A:Fa}(hA:A.ok){κ:Nat->α}(hk:∀u v,u<A.n->v<A.n->(κ u=κ v<->∀x,x<A.m->A.fr u x=A.fr v x)){u v:Nat}(hu:u<A.n)(hv:v<A.n) :
  ag6 A κ (M5 A) u=ag6 A κ (M5 A) v<->YM A u=YM A v:=by
 have h0:=yC hk;have h1:=CK hA (fun y _ c _ u=>KG A y c u) _ h0 (agB _);rw[List.length_range] at h1;exact fq hA h1 hu hv
end Go.Am
namespace Go.Am
open Go
variable [Z4]
set_option maxRecDepth 100000
set_option maxHeartbeats 4000000
structure Yi.ok (a:Yi):Prop where
 lines:1<=a.lines/\a.lines<=4
 pos:0<a.next.length
 few:a.next.length<=512
 fl:a.ZD.length=a.next.length
 row:∀i (h:i<a.next.length),a.next[i].2.length=2^a.lines.toNat/\∀x∈a.next[i].2,0<=x/\x<(a.next.length:Int)
 XF:∀i (h:i<a.ZD.length),a.ZD[i].2.length=2^a.lines.toNat
theorem Ny (n:Int):RA n=((2^n.toNat:Nat):Int):=by unfold RA;simp
theorem gP {m:Nat}{n:Int}:∀{l:List (Bool×List Int)} {f:List (Bool×List Bool)},l.length=f.length->zn m n l f=0 ->
  (∀i (h:i<l.length),l[i].2.length=m/\∀x∈l[i].2,0<=x/\x<n)/\∀i (h:i<f.length),f[i].2.length=m
 |[],f,hl,_=>by
  have:f=[]:=al6.1 hl.symm;subst this;exact⟨fun i h=>by simp at h,fun i h=>by simp at h⟩
 |r::l,[],hl,_=>by simp at hl
 |r::l,g::f,hl,h=>by
  rw[zn] at h;obtain⟨h1,h⟩:=U5 h (by decide);obtain⟨h2,h⟩:=U5 h (by decide);obtain⟨i1,i2⟩:=gP (by simpa using hl) h;rw[ame] at h1;have e1:r.2.length=m:=by have:=h1.1;simp at this;omega
  have e2:g.2.length=m:=by have:=h1.2;simp at this;omega
  have e3:∀x∈r.2,0<=x/\x<n:=fun x hx=>by
   have:=Pv (by simpa using List.any_eq_false.1 h2 x hx:outside x 0 (n-1)=false);omega
  refine⟨fun i hi=>?_,fun i hi=>?_⟩
  ·cases i with
   |zero=>exact⟨e1,e3⟩
   |succ i=>simpa using i1 i (by simpa using hi)
  ·cases i with
   |zero=>exact e2
   |succ i=>simpa using i2 i (by simpa using hi)
theorem Yi.s9 {a:Yi}(h:ckA a=0):a.ok:=by
 rw[ckA] at h;obtain⟨h1,h⟩:=U5 h (by decide);obtain⟨h2,h⟩:=U5 h (by decide);obtain⟨h3,h⟩:=U5 h (by decide);obtain⟨h4,h⟩:=U5 h (by decide);have hl:1<=a.lines/\a.lines<=4:=by
  simp only[outside,ame,decide_eq_false_iff_not] at h1;omega
 have hf:a.ZD.length=a.next.length:=by simp at h4;omega
 rw[Ny] at h;obtain⟨r1,r2⟩:=gP hf.symm h;exact⟨hl,Nat.pos_of_ne_zero fun e=>by rw[e] at h2;exact absurd h2 (by decide),by simp at h3;omega,hf,r1,r2⟩
def Yi.fa (a:Yi):Fa where
 n:=a.next.length
 m:=2^a.lines.toNat
 nx s x:=((a.next.getD s (true,[])).2.getD x 0).toNat
 fr s x:=(a.ZD.getD s (true,[])).2.getD x false
theorem XK {A:Type}{l:List A}{i:Nat}{d:A}(h:i<l.length):l.getD i d=l[i]:=by
 rw[alM,aaa h];rfl
theorem Yi.ok.M9 {a:Yi}(h:a.ok):a.fa.ok:=by
 refine⟨h.pos,fun s x hs hx=>?_⟩;have hs:s<a.next.length:=hs;have hx:x<2^a.lines.toNat:=hx;obtain⟨r1,r2⟩:=h.row s hs;show ((a.next.getD s (true,[])).2.getD x 0).toNat<a.next.length;rw[XK hs,XK (show x<a.next[s].2.length by omega)];have:=r2 _ (adm (show x<a.next[s].2.length by omega));omega
theorem Yi.ok.mz {a:Yi}(h:a.ok){s x:Nat}(hs:s<a.next.length)(hx:x<2^a.lines.toNat):Ud 1 (ZG a.next[s].1 (ints a.next[s].2)) (.int .i64 (x:Int))=some (.fp [.int .i64 ((a.fa.nx s x:Nat):Int)] 0):=by
 obtain⟨r1,r2⟩:=h.row s hs;have NI:x<a.next[s].2.length:=by omega
 rw[F6 NI];have e:a.fa.nx s x=(a.next[s].2[x]).toNat:=by
  show ((a.next.getD s (true,[])).2.getD x 0).toNat=_;rw[XK hs,XK NI]
 have:=r2 _ (adm NI);rw[e,Int.toNat_of_nonneg this.1]
theorem Yi.ok.abI {a:Yi}(h:a.ok){s x:Nat}(hs:s<a.next.length)(hx:x<2^a.lines.toNat):Ud 1 (ZG (a.ZD[s]'(by rw[h.fl];exact hs)).1 (ZM (a.ZD[s]'(by rw[h.fl];exact hs)).2)) (.int .i64 (x:Int))=some (.fp [.bool (a.fa.fr s x)] 0):=by
 have BN:s<a.ZD.length:=by rw[h.fl];exact hs
 have r1:=h.XF s BN;have NI:x<a.ZD[s].2.length:=by omega
 rw[NO NI];have e:a.fa.fr s x=a.ZD[s].2[x]:=by
  show (a.ZD.getD s (true,[])).2.getD x false=_;rw[XK BN,XK NI]
 rw[e]
def al' (m:Nat)(l:List Int):Prop:=l.length<=4096/\∀x∈l,0<=x/\x<(m:Int)
theorem aoJ {lines:Int}{l:List Int}(h1:lines<=16)(h:aai lines l=0):al' (2^lines.toNat) l:=by
 unfold aai at h;obtain⟨q1,h⟩:=U5 h (by decide);have q2:vS lines l=false:=by
  cases hb:vS lines l with
  |false=>rfl
  |true=>rw[hb] at h;exact absurd h (by decide)
 refine⟨by simp at q1;omega,fun x hx=>?_⟩;have:=Pv (by simpa using List.any_eq_false.1 q2 x hx:outside x 0 (2^lines.toNat-1)=false);have e:=Ny lines;unfold RA at e;omega
def KM (l:List Int)(t:Nat):Nat:=(l.getD t 0).toNat
theorem ao1 {m:Nat}{l:List Int}(h:al' m l){nl:Bool}{t:Nat}(ht:t<l.length):Ud 1 (ZG nl (ints l)) (.int .i64 (t:Int))=some (.fp [.int .i64 ((KM l t:Nat):Int)] 0)/\KM l t<m:=by
 rw[F6 ht];have e:KM l t=(l[t]).toNat:=by unfold KM;rw[alM,aaa ht];rfl
 have:=h.2 _ (adm ht);rw[e,Int.toNat_of_nonneg this.1];exact⟨rfl,by omega⟩
def zb (A:Fa)(l:List Int):Nat->Nat->Nat->List Int×Nat
 |0,_,s=>([],s)
 |r+1,t,s=>(bif A.fr s (KM l t) then (t:Int)::(zb A l r (t+1) (A.nx s (KM l t))).1 else (zb A l r (t+1) (A.nx s (KM l t))).1,(zb A l r (t+1) (A.nx s (KM l t))).2)
theorem an6 (a:Yi)(hn:a.next.length<=2^40)(hr:∀r∈a.next,r.2.length<=2^40)(nl:Bool)(l:List Int):ZE U 123 [Wd a,ZG nl (ints l)]=some (.int .i64 (br (ckA a != 0) (ckA a) (aai a.lines l))):=by
 refine ZR an7 (by kernel_rfl) (by simp[ZU,VJ,X7]) ?_;have h58:=c58 a hn hr;rw[WJ] at h58 ⊢;unfold SV Vy at h58 ⊢;have nn:=ZL a.TH (a.next.map Zn);have nf:=ZL a.S6 (a.ZD.map Zv);have cn:=Zu a.TH (a.next.map Zn);have cf:=Zu a.S6 (a.ZD.map Zv)
 cases h:ckA a != 0 with
 |true=>simp only[go_sem,anq,h58,h]
 |false =>
  have ok:=Yi.s9 (by simpa using h:ckA a=0);have h91:=c91 nl l a.lines (by have:=ok.lines;omega) (by have:=ok.lines;omega);have h0:ckA a=0:=by simpa using h
  rw[h0] at h58;simp only[go_sem,anq,h58,h91]
theorem Yi.ok.m16 {a:Yi}(ha:a.ok):2^a.lines.toNat<=65536:=by have:=Ot a.lines (by have:=ha.lines;omega);have:=Ny a.lines;unfold RA at this;omega
def uz (a:Yi)(l:List Int):Int:=br (ckA a != 0) (ckA a) (aai a.lines l)
theorem apj {a:Yi}{l:List Int}(h:uz a l=0):a.ok/\al' (2^a.lines.toNat) l:=by
 unfold uz at h
 cases h1:ckA a != 0 with
 |true=>rw[h1,Xo] at h;rw[h] at h1;cases h1
 |false =>
  rw[h1,Xv] at h;have ok:=Yi.s9 (by simpa using h1:ckA a=0);exact⟨ok,aoJ (by have:=ok.lines;omega) h⟩
def amV (a:Yi)(l:List Int):AV :=
 bif uz a l != 0 then .XU [.ZW,.int .i64 (uz a l)] else .XU [ZG true (ints (zb a.fa l l.length 0 0).1),.int .i64 0]
theorem c57 (a:Yi)(hn:a.next.length<=2^40)(hr:∀r∈a.next,r.2.length<=2^40)(nl:Bool)(l:List Int):ZE U 57 [Wd a,ZG nl (ints l)]=some (amV a l):=by
 refine ZR k57 (by kernel_rfl) (by simp[ZU,VJ,X7]) ?_;have h123:=an6 a hn hr nl l;rw[show br (ckA a != 0) (ckA a) (aai a.lines l)=uz a l from rfl] at h123;rw[WJ] at h123 ⊢;have nn:=ZL a.TH (a.next.map Zn);have nf:=ZL a.S6 (a.ZD.map Zv);have cn:=Zu a.TH (a.next.map Zn);have cf:=Zu a.S6 (a.ZD.map Zv);unfold SV Vy at h123 ⊢;unfold amV
 cases hc:uz a l != 0 with
 |true=>simp only[go_sem,r57,h123,hc]
 |false =>
 have hc0:uz a l=0:=by simpa using hc
 obtain⟨ha,hl⟩:=apj hc0;have hlen:=hl.1;rw[hc0] at h123;simp only[go_sem,r57,h123,ZI,YK];refine YH (σ:=Nat) (fun i=>l.length-i) (fun i=>some (.XU [ZG true (ints (zb a.fa l l.length 0 0).1),.int .i64 0])) (fun i e s=>i<=l.length/\Env.get e 2=.ptr 8 0/\Env.get e 17=ZG nl (ints l)/\Env.get e 18=.int .i64 l.length/\Env.get e 19=.int .i64 (i:Nat)/\8<s.next/\Fr s /\
  s.get 8=some (.cells [.int .i64 a.lines,ZG a.TH (a.next.map Zn),ZG a.S6 (a.ZD.map Zv)] 69 false 0 0) /\
  ∃(st:Nat) (acc:List Int) (v:AV),Env.get e 8=v/\Env.get e 7=.int .i64 (st:Nat)/\st<a.next.length/\acc.length<=i/\ZK s 9 3 1 acc.length (ints acc) v /\
   (acc++(zb a.fa l (l.length-i) i st).1,(zb a.fa l (l.length-i) i st).2)=zb a.fa l l.length 0 0) 0 ?_ rfl ?_
 ·rintro L i e s ⟨hi,g2,UY,bV,g19,nx,fr,gs,st,acc,v,g8,g7,Xz,Kc,hv,YA⟩ IH;have Jl:=hv.Xj;have Re:=hv.Zz;by_cases hd:i<l.length
  ·have hw:=ZN hd (by omega);obtain⟨hx,hxm⟩:=ao1 hl (nl:=nl) hd;have r1:=Sf (nl:=a.TH) Xz;have r2:=Se (nl:=a.S6) (show st<a.ZD.length by rw[ha.fl];exact Xz);have r3:=ha.mz Xz hxm;have r4:=ha.abI Xz hxm;have Yh:=ha.M9.lt st (KM l i) Xz hxm;have UP:(acc.length+1)*8<=1099511627776:=by omega
   have VP:acc.length+1<=1099511627776:=by omega
   rw[show l.length-i=(l.length-(i+1))+1 by omega,zb] at YA
   cases hf:a.fa.fr st (KM l i) with
   |false =>
    rw[hf] at YA r4;simp only[cond_false] at YA;simp only[go_sem,aoz,g2,g7,UY,bV,g19,gs,Z8,hd,hx,r1,r2,r3,r4,hw];refine IH (i+1) _ _ (by omega) ⟨by omega,?_,?_,?_,?_,nx,fr,gs,a.fa.nx st (KM l i),acc,v,?_,?_,Yh,by omega,hv,YA⟩
    all_goals simp only[go_sem,g2,g8,UY,bV]
   |true =>
    rw[hf] at YA r4;simp only[cond_true] at YA;simp only[go_sem,aoz,g2,g7,g8,UY,bV,g19,gs,Z8,hd,hx,r2,r4,ZH,Nat.reducePow,amk,Jl,UP,VP];have Pd:ZK (s.new (.cells [.int .i64 (i:Int)] 3 false 0 0)) 9 3 1 acc.length (ints acc) v:=hv.mono (by rw[Z_];omega) fun j _ hj=>by rw[Z7,if_neg (by omega)]
    have hL1:acc.length+1=(acc++[(i:Int)]).length:=by simp
    have hI1:ints acc++[.int .i64 (i:Int)]=ints (acc++[(i:Int)]):=by rw[ints,ints,alY];rfl
    obtain⟨s1,f1,f2,f3,f4,f5⟩:=Pd.Gy (by rw[Z_];omega) (m:=1) (new:=[.int .i64 (i:Int)]) (by omega) (by rfl) (by rfl);have gs1:s1.get 8=some (.cells [.int .i64 a.lines,ZG a.TH (a.next.map Zn),ZG a.S6 (a.ZD.map Zv)] 69 false 0 0):=by
     rw[f4 8 (by rw[Z_];omega) (Pd.B8 (.inr (by omega))),Z7,if_neg (by omega),gs]
    have mg:=f5 (fr.new _);rw[Z_] at f2;rw[f1];rw[hI1,hL1] at f3;simp only[go_sem,g2,g7,g19,gs1,r1,r3,hw];rw[List.append_cons] at YA;refine IH (i+1) _ _ (by omega) ⟨by omega,?_,?_,?_,?_,by omega,mg,gs1,a.fa.nx st (KM l i),acc++[(i:Int)],_,?_,?_,Yh,by rw[agy];simp;omega,f3,YA⟩
    all_goals simp only[go_sem,g2,UY,bV,hL1]
  ·have:i=l.length:=by omega
   subst this;rw[Nat.sub_self,zb,alZ] at YA;rw[<-YA];have Rk:=hv.Ua 37;simp only[go_sem,aoz,g8,bV,g19,Z8,alh,Rk]
 ·refine⟨aic _,?_,?_,?_,?_,?_,?_,?_,0,[],.ZW,?_,?_,ha.pos,aic _,ZK.nil _ _ _ _,rfl⟩
  case refine_6 =>
   repeat first|exact Fr.own|apply Fr.new|apply Fr.put|apply Fr.upto
   all_goals simp only[go_sem]
  all_goals try simp only[go_sem]
  all_goals rfl
def PV (l:List Nat):List Int:=l.map fun k:Nat=>(k:Int)
def ZO (l:List Nat):List AV:=ints (PV l)
theorem Q0 (l:List Nat):(PV l).length=l.length:=by simp[PV]
theorem Ww (l:List Nat):(ZO l).length=l.length:=by rw[ZO,YK,Q0]
theorem Yq {l:List Nat}{i:Nat}(h:i<l.length):(ZO l)[i]? = some (.int .i64 ((gt l i:Nat):Int)):=by
 rw[ZO,RM,PV,alV,aaa h,VF h];rfl
theorem Xd {l:List Nat}{i:Nat}(k:Nat)(h:i<l.length):lay i [.int .i64 (k:Int)] (ZO l)=some (ZO (l.set i k)):=by
 rw[NH _ _ _ (by rw[Ww];exact h)];simp[ZO,ints,PV,List.map_set]
theorem Qa (l:List Nat)(k:Nat):ZO l++[.int .i64 (k:Int)]=ZO (l++[k]):=by simp[ZO,ints,PV]
theorem qw (a b:Nat):((a:Int)==(b:Int))=(a==b):=by rw[amj];simp;omega
theorem Nm {s:St}{b d n:Nat}{cap:Option Nat}{L:List Nat}(hL:L.length=n)(hg:s.get b=some (.cells (ZO L) 3 false 0 0)):Yn U s (d+2) (.sl b 0 n cap 1)=some (.fz (ZO L)):=by
 have:=Ux (d:=d) (cap:=cap) hg;rw[Q0,hL] at this;exact this
theorem Nn {l:List Nat}{i:Nat}(h:i<l.length):Ud 1 (.fz (ZO l)) (.int .i64 (i:Int))=some (.fp [.int .i64 ((gt l i:Nat):Int)] 0):=by
 have:=F6 (nl:=false) (l:=PV l) (i:=i) (by rw[Q0];exact h);rw[WH] at this;rw[ZO,this];simp[PV,VF h]
def XF (A:Fa)(q:Nat):List Bool:=(List.range A.m).map (A.fr q)
theorem S9 (A:Fa)(q:Nat):(XF A q).length=A.m:=by simp[XF]
theorem BH (A:Fa)(q:Nat){x:Nat}(h:x<A.m):(XF A q)[x]'(by rw[S9];exact h)=A.fr q x:=by simp[XF]
theorem ZK.wC {s:St}{B:Nat}{t:TypeId}{i:Nat}{cs:List AV}{v:AV}(h:ZK s B t 1 i cs v)(hB:B<=s.next)(x:AV)(hx:Go.Am.Zz x=true) :
  ∃s1,Rx t 1 1 [x] v s=some (.sl s.next 0 (i+1) none 1,s1)/\s1.next=s.next+1/\ZK s1 B t 1 (i+1) (cs++[x]) (.sl s.next 0 (i+1) none 1) /\
   (∀j c t' lo hi,s.get j=some (.cells c t' false lo hi)->j<s.next->t'≠t->s1.get j=some (.cells c t' false lo hi))/\(∀j,j<B->s1.get j=s.get j)/\(Fr s->Fr s1):=by
 obtain⟨s1,a1,a2,a3,a4,a5⟩:=h.Gy hB (m:=1) (new:=[x]) (by omega) rfl (by simp[hx]);exact⟨s1,a1,a2,a3,fun j c t' lo hi hj Yh ZC=>by rw[a4 j (by omega) (h.other hj ZC),hj],fun j hj=>a4 j (by omega) (h.B8 (.inr hj)),a5⟩
theorem ZK.XS {s s':St}{B:Nat}{t:TypeId}{i:Nat}{cs:List AV}{v:AV}(h:ZK s B t 1 i cs v)(hn:s.next<=s'.next)(hg:∀j c,s.get j=some (.cells c t false 0 0)->j<s.next->B<=j->s'.get j=some (.cells c t false 0 0)):ZK s' B t 1 i cs v:=by
 rcases h with⟨h0,h1,h2⟩|⟨h0,h1,b,h2,h3,h4,h5⟩
 ·exact .inl ⟨h0,h1,h2⟩
 ·exact .inr ⟨h0,h1,b,h2,by omega,h4,hg b _ h5 h3 h2⟩
def NW (s:St)(b:Nat)(t:TypeId)(c:AV)(l:List AV):Prop:=∃j,c=.sl j 0 l.length (some l.length) 1/\j<s.next/\j≠b/\12<=j/\s.get j=some (.cells l t false 0 0)
theorem NW.mono {s s':St}{b b':Nat}{t:TypeId}{c:AV}{l:List AV}(h:NW s b t c l)(hn:s.next<=s'.next)(hb:∀j,j<s.next->j≠b->j≠b')(hg:∀j,j<s.next->j≠b->12<=j->s.get j=some (.cells l t false 0 0)->s'.get j=some (.cells l t false 0 0)):NW s' b' t c l:=by
 obtain⟨j,h1,h2,h3,h4,h5⟩:=h;exact⟨j,h1,by omega,hb j h2 h3,h4,hg j h2 h3 h4 h5⟩
theorem NW.Yn {s:St}{b d:Nat}{c:AV}{l:List AV}{t:TypeId}(h:NW s b t c l)(Et:YC U t=some false)(VY:size U t=some 1)(Re:l.all Zz=true)(hf:Y' (Go.Am.Yn U s d) l=some l):Go.Am.Yn U s (d+1) c=some (.fz l):=by
 obtain⟨j,rfl,_,_,_,h5⟩:=h;rw[VD,h5,Wo,ah1,Ws,Et,VY,TX,if_pos Re,VC,hf,Tb]
theorem Va {A:Type}{f:AV->Option AV}{g:A->AV}:∀{cs:List AV} {rs:List A},cs.length=rs.length->(∀j (h:j<cs.length) (h':j<rs.length),f cs[j]=some (g rs[j]))->Y' f cs=some (rs.map g)
 |[],[],_,_=>rfl
 |c::cs,r::rs,hl,h=>by
  have h0:=h 0 (by simp) (by simp);simp only[List.getElem_cons_zero] at h0;have ih:=Va (f:=f) (g:=g) (cs:=cs) (rs:=rs) (by simpa using hl) fun j h1 h2=>by
   have:=h (j+1) (by simpa using h1) (by simpa using h2)
   simpa using this
  rw[Xn,h0,ih,alT];rfl
 |[],_::_,hl,_=>by simp at hl
 |_::_,[],hl,_=>by simp at hl
def Zl (a:Yi):Yi:={ lines:=a.lines,TH:=true,next:=(U7 a.fa).map (fun x=>(false,PV x.2)),S6:=true,ZD:=(U7 a.fa).map (fun x=>(false,XF a.fa x.1)) }
end Go.Am
namespace Go.Am
open Go
variable [Z4]
set_option maxRecDepth 100000
set_option maxHeartbeats 8000000
noncomputable def KR:RC:=(sO [YN 40 3 39 38] (sQ (cS 40 (.exit 2)) (sQ (.block 3 (sO [Zk 41 1 37 39,Z0 42 41,om 10 42] (sO [om 44 4,om 45 3,om 46 10,Zk 47 1 45 46,Z0 48 47,o 49 (.raw (.lookup 249 (.tmp 44) (.tmp 48) true)),om 43 49,YO 50 43 0,YO 51 43 1,om 11 50,om 12 51] (sQ (sO [om 52 12,WZ 53 52] (cT 53 (sO [om 54 5,YU 55 54,om 11 55] (sO [om 56 4,om 57 3,om 58 10,Zk 59 1 57 58,Z0 60 59,om 61 11,tu 249 56 60 61] (oP [om 62 5,om 63 10,RQ 64 3 1 1 0 0 1 63,VT 65 3 1 8 62 64,om 5 65]))))) (oP [om 66 8,om 67 11,RQ 68 3 1 1 0 0 1 67,VT 69 3 1 8 66 68,om 8 69]))))) (oP [YE 70 3 39 1,om 39 70]))))
noncomputable def vr:Code:=KQ 104 0
theorem abT:O_ U vr=some (22,[(o 71 (.fa 1 (.t 6)),none),
 (o 72 (.SL (.t 71)),none),
 (om 73 8,none),
 (⟨some 74,none,some 3,false,.U3 40 1 1 [.ZW] [(0,1,(.t 73))]⟩,none),
 (⟨some 75,none,none,true,.app 40 1 24 (.t 72) (.t 74)⟩,none),
 (o 76 (.fa 2 (.t 6)),none),
 (o 77 (.SL (.t 76)),some (0,2)),
 (o 78 (.fa 2 (.t 1)),none),
 (o 79 (.SL (.t 78)),some (0,1)),
 (om 80 5,none),
 (om 81 7,none),
 (o 82 (.Jb 1 (.t 80) (.t 81)),none),
 (o 83 (.SL (.t 82)),some (0,1)),
 (o 84 (.Jb 1 (.t 79) (.t 83)),none),
 (o 85 (.SL (.t 84)),some (0,1)),
 (⟨some 86,none,none,true,.call 173 [(.t 85)]⟩,none),
 (⟨some 87,none,some 16,false,.U3 43 1 1 [.ZW] [(0,1,(.t 86))]⟩,none),
 (⟨some 88,none,none,true,.app 43 1 24 (.t 77) (.t 87)⟩,none),
 (o 89 (.fa 1 (.t 6)),none),
 (⟨none,none,none,true,.st 1 (.t 89) (.t 75)⟩,none),
 (o 90 (.fa 2 (.t 6)),none),
 (⟨none,none,none,true,.st 1 (.t 90) (.t 88)⟩,none)]):=by kernel_rfl
noncomputable def HA:RC:=(sQ (sO [om 24 7,om 25 5,YU 26 25,YN 27 3 24 26] (cS 27 (.exit 0))) (sQ (.block 1 (sO [WY 8] (sQ (sQ (.TP 10 [ZX 30 1 1,Z0 31 30,om 32 5,om 33 7,Zk 34 1 32 33,Z0 35 34,Zk 36 1 31 35,Z0 37 36,YU 38 37,ZA 39 0]) (.block 2 (.loop KR))) (.raw vr)))) (oP [om 28 7,YE 29 3 28 1,om 7 29])))
noncomputable def aft:RC:=(sO [Zi 1 69 0,Tf 2 0 69] (sO [Zr 13 3 1,Zc 14 172 13,om 3 14] (sO [o 15 (.raw (.makeMap 249 none)),om 16 3,o 17 (.Jb 1 (.t 16) (vI 0)),Z0 18 17,oS (.raw (.insert 249 (.tmp 15) (.tmp 18) (.const (.int .i64 0)))),om 19 15,om 4 19] (sO [o 20 (.U3 3 1 1 [(iI 0)] [(0,1,(vI 0))]),om 5 20] (sO [ZX 21 0 1,Z0 22 21,o 23 (.On [(iI 0),.ZW,.ZW] [(0,1,(.t 22))]),Tf 6 0 69,YT 3 6 23] (sQ (sO [ZA 7 0] (.block 0 (.loop HA))) (sO [Zr 91 3 6,YT 3 2 91] .ret)))))))
theorem ajf:Ze 104=some ([.cell 2 69],aft):=by kernel_rfl
noncomputable def ky:Code:=KQ 172 0
theorem mu:O_ U ky=some (23,[(om 47 4,none),
 (om 48 5,none),
 (o 49 (.Jb 1 (.t 47) (.t 48)),none),
 (o 50 (.SL (.t 49)),some (0,1)),
 (om 51 7,none),
 (om 52 5,none),
 (o 53 (.Jb 1 (.t 51) (.t 52)),none),
 (o 54 (.SL (.t 53)),some (0,1)),
 (om 55 4,none),
 (om 56 5,none),
 (o 57 (.Jb 1 (.t 55) (.t 56)),none),
 (o 58 (.SL (.t 57)),none),
 (om 59 7,none),
 (om 60 5,none),
 (o 61 (.Jb 1 (.t 59) (.t 60)),none),
 (o 62 (.SL (.t 61)),none),
 (o 63 (.Jb 1 (.t 58) (.t 62)),none),
 (o 64 (.SL (.t 63)),none),
 (om 65 6,none),
 (⟨some 66,none,some 19,false,.U3 3 1 1 [(.int .i64 0)] [(0,1,(.t 65))]⟩,none),
 (⟨some 67,none,none,true,.app 3 1 8 (.t 64) (.t 66)⟩,none),
 (o 68 (.Jb 1 (.t 50) (.t 54)),none),
 (⟨none,none,none,true,.st 1 (.t 68) (.t 67)⟩,none)]):=by kernel_rfl
noncomputable def Li:RC:=(sO [YN 43 3 42 41] (sQ (cS 43 (.exit 2)) (sQ (.block 3 (sO [om 44 42,Zk 45 1 40 42,Z0 46 45,om 6 44,om 7 46] (.raw ky))) (oP [YE 69 3 42 1,om 42 69]))))
noncomputable def Hz:RC:=(sO [YN 30 3 29 28] (sQ (cS 30 (.exit 0)) (sQ (.block 1 (sO [om 31 29,om 5 31] (sO [om 32 4,om 33 5,ZX 34 1 1,Z0 35 34,YU 36 35,o 37 (.raw (.makeSlice 66 (.tmp 36) (.tmp 36))),Zk 38 1 32 33,YT 1 38 37] (sO [ZX 39 1 1,Z0 40 39,YU 41 40,ZA 42 0] (.block 2 (.loop Li)))))) (oP [YE 70 3 29 1,om 29 70]))))
noncomputable def Hy:RC:=(sO [YN 77 3 76 75] (sQ (cS 77 (.exit 4)) (sQ (.block 5 (sO [om 78 76,om 9 78] (oP [om 79 8,om 80 9,RQ 81 3 1 1 0 0 1 80,VT 82 3 1 8 79 81,om 8 82]))) (oP [YE 83 3 76 1,om 76 83]))))
noncomputable def Lh:RC:=(sO [YN 138 3 137 136] (sQ (cS 138 (.exit 12)) (sQ (.block 13 (sO [Zk 139 1 135 137,Z0 140 139,om 17 140] (sO [om 141 3,om 142 17,Zb 143 216 141 142] (cT 143 (oP [om 144 13,om 145 3,Yb 146 145,ZX 147 2 146,Z0 148 147,om 149 17,Zk 150 1 148 149,Z0 151 150,RQ 152 3 1 1 0 0 1 151,VT 153 3 1 8 144 152,om 13 153]))))) (oP [YE 154 3 137 1,om 137 154]))))
noncomputable def Hx:RC:=(sO [YN 126 3 125 124] (sQ (cS 126 (.exit 10)) (sQ (.block 11 (sO [Zk 127 1 123 125,Z0 128 127,om 15 128] (sO [om 129 4,om 130 12,Zk 131 1 129 130,Z0 132 131,om 133 15,Zk 134 1 132 133,Z0 135 134,YU 136 135,ZA 137 0] (.block 12 (.loop Lh))))) (oP [YE 155 3 125 1,om 125 155]))))
noncomputable def KP:RC:=(sO [YN 159 3 158 157] (sQ (cS 159 (.exit 14)) (sQ (.block 15 (sO [Zk 160 1 156 158,Z0 161 160,om 19 161] (sO [om 162 3,om 163 19,Zb 164 217 162 163,om 20 164] (sO [om 165 20,o 166 (.bin .geq 3 true (.t 165) (vI 0))] (cT 166 (oP [om 167 8,om 168 20,RQ 169 3 1 1 0 0 1 168,VT 170 3 1 8 167 169,om 8 170])))))) (oP [YE 171 3 158 1,om 158 171]))))
noncomputable def Ic:RC:=(sO [YN 121 3 120 119] (sQ (cS 121 (.exit 8)) (sQ (.block 9 (sO [om 122 120,om 12 122] (sO [WY 13] (sQ (sO [om 123 11,YU 124 123,ZA 125 0] (.block 10 (.loop Hx))) (sO [om 156 13,YU 157 156,ZA 158 0] (.block 14 (.loop KP))))))) (oP [YE 172 3 120 1,om 120 172]))))
noncomputable def Hw:RC:=(sQ (sO [om 84 8,YU 85 84,VM 86 3 85 0] (cS 86 (.exit 6))) (.block 7 (sO [om 87 8,om 88 8,YU 89 88,O8 90 3 89 1,Zk 91 1 87 90,Z0 92 91,om 10 92] (sO [om 93 8,om 94 8,YU 95 94,O8 96 3 95 1,o 97 (.sll 1 (.t 93) none (some (.t 96))),om 8 97] (sQ (.TP 21 [om 98 3,Yb 99 98,ZX 100 0 99,Z0 101 100,om 102 3,Yb 103 102,ZX 104 3 103,Z0 105 104,om 106 10,Zk 107 1 105 106,Z0 108 107,om 109 3,Yb 110 109,ZX 111 4 110,Z0 112 111,om 113 10,Zk 114 1 112 113,Z0 115 114,o 116 (.sll 1 (.t 101) (some (.t 108)) (some (.t 115))),⟨some 117,none,none,true,.call 215 [(.t 116)]⟩,om 11 117]) (sO [om 118 4,YU 119 118,ZA 120 0] (.block 8 (.loop Ic))))))))
noncomputable def afu:RC:=(sO [Zi 1 69 0,WY 2] (sO [Zr 21 3 1,Zc 22 214 21,om 3 22] (sO [ZX 23 0 1,Z0 24 23,DP 25 3 1 24,o 26 (.raw (.makeSlice 283 (.tmp 25) (.tmp 25))),om 4 26] (sQ (sO [om 27 4,YU 28 27,ZA 29 0] (.block 0 (.loop Hz))) (sO [WY 8] (sQ (sO [om 71 3,Yb 72 71,ZX 73 3 72,Z0 74 73,YU 75 74,ZA 76 0] (.block 4 (.loop Hy))) (sQ (.block 6 (.loop Hw)) (sO [om 173 3,Yb 174 173,ZX 175 2 174,Z0 176 175,om 2 176] .ret))))))))
theorem ajg:Ze 172=some ([.tmp 2],afu):=by kernel_rfl
noncomputable def ku:Code:=KQ 214 0
theorem abU:O_ U ku=some (11,[(o 16 (.fa 1 (.t 1)),none),
 (o 17 (.SL (.t 16)),none),
 (o 18 (.SW (.t 17)),none),
 (⟨some 19,none,some 3,false,.raw (.makeSlice 40 (.tmp 18) (.tmp 18))⟩,none),
 (o 20 (.fa 1 (.t 1)),none),
 (o 21 (.SL (.t 20)),some (0,0)),
 (o 22 (.SW (.t 21)),some (0,0)),
 (⟨some 23,none,some 7,false,.raw (.makeSlice 40 (.tmp 22) (.tmp 22))⟩,none),
 (o 24 (.On [.ZW,.ZW,.ZW,.ZW,.ZW,.ZW] [(1,1,(.t 19)),(2,1,(.t 23))]),none),
 (⟨some 25,none,some 9,false,.box 285 (.t 24)⟩,none),
 (om 3 25,none)]):=by kernel_rfl
noncomputable def HQ:RC:=(sO [YN 38 3 37 36] (sQ (cS 38 (.exit 2)) (sQ (.block 3 (sO [Zk 39 1 35 37,Z0 40 39,om 10 40] (oP [om 41 10,Zc 42 244 41,Zb 43 131 8 42]))) (oP [YE 44 3 37 1,om 37 44]))))
noncomputable def Hv:RC:=(sO [YN 31 3 30 29] (sQ (cS 31 (.exit 0)) (sQ (.block 1 (sO [om 32 30,Zk 33 1 28 30,Z0 34 33,om 6 32,om 7 34] (sO [o 8 (.al [.Vk,.ZW] 207)] (sQ (sO [om 35 7,YU 36 35,ZA 37 0] (.block 2 (.loop HQ))) (sO [Zc 45 133 8,om 11 45] (sQ (sO [om 46 4,om 47 11,zO 48 310 46 47,YU 49 48,VR 50 3 49 0] (cT 50 (oP [om 51 5,om 52 11,o 53 (.U3 9 1 1 [(.str [])] [(0,1,(.t 52))]),VT 54 9 1 16 51 53,om 5 54]))) (oP [om 55 4,om 56 11,om 57 4,om 58 11,zO 59 310 57 58,om 60 6,RQ 61 3 1 1 0 0 1 60,VT 62 3 1 8 59 61,tu 310 55 56 62]))))))) (oP [YE 63 3 30 1,om 30 63]))))
noncomputable def vq:Code:=KQ 214 1
theorem abV:O_ U vq=some (25,[(om 71 3,none),
 (om 72 3,none),
 (om 73 3,none),
 (o 74 (.raw (.nilCheck (.tmp 73))),none),
 (o 75 (.fa 3 (.t 74)),none),
 (o 76 (.SL (.t 75)),none),
 (om 77 3,none),
 (o 78 (.raw (.nilCheck (.tmp 77))),none),
 (o 79 (.fa 0 (.t 78)),none),
 (o 80 (.SL (.t 79)),none),
 (o 81 (.SW (.t 80)),none),
 (⟨some 82,none,some 11,false,.U3 3 1 1 [(.int .i64 0)] [(0,1,(.t 81))]⟩,none),
 (⟨some 83,none,none,true,.app 3 1 8 (.t 76) (.t 82)⟩,none),
 (om 84 3,none),
 (o 85 (.raw (.nilCheck (.tmp 84))),none),
 (o 86 (.fa 5 (.t 85)),none),
 (o 87 (.SL (.t 86)),some (0,1)),
 (⟨some 88,none,some 17,false,.U3 3 1 1 [(.int .i64 0)] [(0,1,(.v (.int .i64 0)))]⟩,none),
 (⟨some 89,none,none,true,.app 3 1 8 (.t 87) (.t 88)⟩,none),
 (o 90 (.raw (.nilCheck (.tmp 71))),none),
 (o 91 (.fa 3 (.t 90)),none),
 (⟨none,none,none,true,.st 1 (.t 91) (.t 83)⟩,none),
 (o 92 (.raw (.nilCheck (.tmp 72))),none),
 (o 93 (.fa 5 (.t 92)),none),
 (⟨none,none,none,true,.st 1 (.t 93) (.t 89)⟩,none)]):=by kernel_rfl
noncomputable def KO:RC:=(sO [YN 99 3 98 97] (sQ (cS 99 (.exit 6)) (sQ (.block 7 (sO [Zk 100 1 96 98,Z0 101 100,om 15 101] (sQ (.TP 20 [om 102 3,Yb 103 102,ZX 104 1 103,Z0 105 104,om 106 15,om 107 3,Yb 108 107,ZX 109 2 108,Z0 110 109,om 111 15,om 112 3,Yb 113 112,ZX 114 0 113,Z0 115 114,YU 116 115,om 117 12,Zk 118 1 105 106,⟨none,none,none,true,.st 1 (.t 118) (.t 116)⟩,Zk 119 1 110 111,⟨none,none,none,true,.st 1 (.t 119) (.t 117)⟩]) (oP [om 120 3,om 121 3,Yb 122 121,ZX 123 0 122,Z0 124 123,om 125 15,RQ 126 3 1 1 0 0 1 125,VT 127 3 1 8 124 126,Yb 128 120,ZX 129 0 128,YT 1 129 127])))) (oP [YE 130 3 98 1,om 98 130]))))
noncomputable def HU:RC:=(sO [YN 67 3 66 65] (sQ (cS 67 (.exit 4)) (sQ (.block 5 (sO [om 68 66,Zk 69 1 64 66,Z0 70 69,om 12 68,om 13 70] (sQ (.raw vq) (sQ (sO [om 94 4,om 95 13,zO 96 310 94 95,YU 97 96,ZA 98 0] (.block 6 (.loop KO))) (.TP 15 [om 131 3,om 132 3,Yb 133 132,ZX 134 4 133,Z0 135 134,om 136 3,Yb 137 136,ZX 138 0 137,Z0 139 138,YU 140 139,⟨some 141,none,some 10,false,.U3 3 1 1 [(iI 0)] [(0,1,(.t 140))]⟩,⟨some 142,none,none,true,.app 3 1 8 (.t 135) (.t 141)⟩,Yb 143 131,ZX 144 4 143,⟨none,none,none,true,.st 1 (.t 144) (.t 142)⟩]))))) (oP [YE 145 3 66 1,om 66 145]))))
noncomputable def abW:RC:=(sO [Zi 1 69 0,o 2 (.O9 (.v .Vk))] (sQ (.raw ku) (sO [o 26 (.raw (.makeMap 310 none)),om 4 26] (sO [WY 5] (sQ (sO [ZX 27 2 1,Z0 28 27,YU 29 28,ZA 30 0] (.block 0 (.loop Hv))) (sQ (sO [om 64 5,YU 65 64,ZA 66 0] (.block 4 (.loop HU))) (sO [om 146 3,om 2 146] .ret)))))))
theorem ajh:Ze 214=some ([.tmp 2],abW):=by kernel_rfl
noncomputable def kr:Code:=KQ 217 0
theorem kq:O_ U kr=some (32,[(om 84 0,none),
 (om 85 0,none),
 (om 86 0,none),
 (om 87 0,none),
 (o 88 (.raw (.nilCheck (.tmp 87))),none),
 (o 89 (.fa 3 (.t 88)),none),
 (o 90 (.SL (.t 89)),none),
 (om 91 7,none),
 (⟨some 92,none,some 8,false,.U3 3 1 1 [(.int .i64 0)] [(0,1,(.t 91))]⟩,none),
 (⟨some 93,none,none,true,.app 3 1 8 (.t 90) (.t 92)⟩,none),
 (om 94 0,none),
 (o 95 (.raw (.nilCheck (.tmp 94))),none),
 (o 96 (.fa 4 (.t 95)),none),
 (o 97 (.SL (.t 96)),some (0,1)),
 (om 98 8,none),
 (⟨some 99,none,some 15,false,.U3 3 1 1 [(.int .i64 0)] [(0,1,(.t 98))]⟩,none),
 (⟨some 100,none,none,true,.app 3 1 8 (.t 97) (.t 99)⟩,none),
 (om 101 0,none),
 (o 102 (.raw (.nilCheck (.tmp 101))),none),
 (o 103 (.fa 5 (.t 102)),none),
 (o 104 (.SL (.t 103)),some (0,2)),
 (⟨some 105,none,some 21,false,.U3 3 1 1 [(.int .i64 0)] [(0,1,(.v (.int .i64 0)))]⟩,none),
 (⟨some 106,none,none,true,.app 3 1 8 (.t 104) (.t 105)⟩,none),
 (o 107 (.raw (.nilCheck (.tmp 84))),none),
 (o 108 (.fa 3 (.t 107)),none),
 (⟨none,none,none,true,.st 1 (.t 108) (.t 93)⟩,none),
 (o 109 (.raw (.nilCheck (.tmp 85))),none),
 (o 110 (.fa 4 (.t 109)),none),
 (⟨none,none,none,true,.st 1 (.t 110) (.t 100)⟩,none),
 (o 111 (.raw (.nilCheck (.tmp 86))),none),
 (o 112 (.fa 5 (.t 111)),none),
 (⟨none,none,none,true,.st 1 (.t 112) (.t 106)⟩,none)]):=by kernel_rfl
noncomputable def KN:RC:=(sO [YN 122 3 121 120] (sQ (cS 122 (.exit 0)) (sQ (.block 1 (sO [Zk 123 1 119 121,Z0 124 123,om 10 124] (.TP 13 [om 125 0,Yb 126 125,ZX 127 2 126,Z0 128 127,om 129 10,om 130 0,Yb 131 130,ZX 132 3 131,Z0 133 132,YU 134 133,O8 135 3 134 1,Zk 136 1 128 129,⟨none,none,none,true,.st 1 (.t 136) (.t 135)⟩]))) (oP [YE 137 3 121 1,om 121 137]))))
noncomputable def ko:RC:=(sO [ZA 4 0] (sQ (.TP 24 [om 11 0,Yb 12 11,ZX 13 5 12,Z0 14 13,om 15 1,Zk 16 1 14 15,Z0 17 16,om 18 0,Yb 19 18,ZX 20 4 19,Z0 21 20,om 22 1,Zk 23 1 21 22,Z0 24 23,om 25 0,Yb 26 25,ZX 27 3 26,Z0 28 27,om 29 1,Zk 30 1 28 29,Z0 31 30,o 32 (.bin .sub 3 false (.t 24) (.t 31)),om 5 17,om 6 32]) (sO [om 33 0,Yb 34 33,ZX 35 5 34,Z0 36 35,om 37 1,Zk 38 1 36 37,oS (.st 1 (.t 38) (vI 0))] (sQ (sO [om 39 5,om 40 6,Ja 41 3 39 40] (cT 41 (sO [o 4 (.O9 (vI (-1)))] .ret))) (sQ (.TP 18 [om 42 0,Yb 43 42,ZX 44 3 43,Z0 45 44,om 46 1,Zk 47 1 45 46,Z0 48 47,om 49 0,Yb 50 49,ZX 51 3 50,Z0 52 51,om 53 1,Zk 54 1 52 53,Z0 55 54,om 56 5,TL 57 3 55 56,om 7 48,om 8 57]) (sQ (sO [om 58 5,o 59 (.bin .mul 3 true (vI 2) (.t 58)),om 60 6,o 61 (.bin .gtr 3 false (.t 59) (.t 60))] (cO 61 (sQ (.TP 10 [om 62 8,om 63 0,Yb 64 63,ZX 65 4 64,Z0 66 65,om 67 1,Zk 68 1 66 67,Z0 69 68,om 7 62,om 8 69]) (oP [om 70 0,Yb 71 70,ZX 72 4 71,Z0 73 72,om 74 1,om 75 7,Zk 76 1 73 74,YT 1 76 75])) (oP [om 77 0,Yb 78 77,ZX 79 3 78,Z0 80 79,om 81 1,om 82 8,Zk 83 1 80 81,YT 1 83 82]))) (sQ (.raw kr) (sQ (sO [om 113 0,Yb 114 113,ZX 115 0 114,Z0 116 115,om 117 7,om 118 8,o 119 (.sll 1 (.t 116) (some (.t 117)) (some (.t 118))),YU 120 119,ZA 121 0] (.block 0 (.loop KN))) (sO [om 138 0,Yb 139 138,ZX 140 3 139,Z0 141 140,YU 142 141,O8 143 3 142 1,om 4 143] .ret)))))))))
theorem aji:Ze 217=some ([.tmp 4],ko):=by kernel_rfl
end Go.Am
namespace Go.Am
open Go
variable [Z4]
set_option maxRecDepth 100000
set_option maxHeartbeats 4000000
structure LI (s:St)(pb n bl bp bs bb be bm:Nat)(p:Pt):Prop where
 g:s.get pb=some (.cells [.sl bl 0 p.list.length none 1,.sl bp 0 p.place.length (some n) 1,.sl bs 0 p.set.length (some n) 1,.sl bb 0 p.bg.length none 1,.sl be 0 p.en.length none 1,.sl bm 0 p.mr.length none 1] 285 false 0 0)
 gl:s.get bl=some (.cells (ZO p.list) 3 false 0 0)
 gp:s.get bp=some (.cells (ZO p.place) 3 false 0 0)
 gs:s.get bs=some (.cells (ZO p.set) 3 false 0 0)
 gb:s.get bb=some (.cells (ZO p.bg) 3 false 0 0)
 ge:s.get be=some (.cells (ZO p.en) 3 false 0 0)
 gm:s.get bm=some (.cells (ZO p.mr) 3 false 0 0)
 ne:[pb,bl,bp,bs,bb,be,bm].Nodup
 lt:∀j∈[pb,bl,bp,bs,bb,be,bm],j<s.next
theorem LI.mono {s s':St}{pb n bl bp bs bb be bm:Nat}{p:Pt}(h:LI s pb n bl bp bs bb be bm p)(hn:s.next<=s'.next)(hg:∀j∈[pb,bl,bp,bs,bb,be,bm],s'.get j=s.get j):LI s' pb n bl bp bs bb be bm p :=
 ⟨(hg _ (by simp)).trans h.g,(hg _ (by simp)).trans h.gl,(hg _ (by simp)).trans h.gp,(hg _ (by simp)).trans h.gs,(hg _ (by simp)).trans h.gb,(hg _ (by simp)).trans h.ge,(hg _ (by simp)).trans h.gm,h.ne,fun j hj=>Nat.lt_of_lt_of_le (h.lt j hj) hn⟩
structure Ap (pb bl bp bs bb be bm:Nat):Prop where
 n1:pb≠bl
 n2:pb≠bp
 n3:pb≠bs
 n4:pb≠bb
 n5:pb≠be
 n6:pb≠bm
 n7:bl≠bp
 n8:bl≠bs
 n9:bl≠bb
 fP:bl≠be
 wR:bl≠bm
 xE:bp≠bs
 mC:bp≠bb
 n14:bp≠be
 fO:bp≠bm
 n16:bs≠bb
 n17:bs≠be
 n18:bs≠bm
 n19:bb≠be
 WT:bb≠bm
 nX:be≠bm
theorem Ap.of {pb bl bp bs bb be bm:Nat}(ne:[pb,bl,bp,bs,bb,be,bm].Nodup):Ap pb bl bp bs bb be bm:=by
 simp only[amv,alL,List.not_mem_nil,not_or,or_false,List.nodup_nil,and_true] at ne;obtain⟨⟨n1,n2,n3,n4,n5,n6⟩,⟨n7,n8,n9,fP,wR⟩,⟨xE,mC,n14,fO⟩,⟨n16,n17,n18⟩,⟨n19,WT⟩,nX,-⟩:=ne;exact⟨n1,n2,n3,n4,n5,n6,n7,n8,n9,fP,wR,xE,mC,n14,fO,n16,n17,n18,n19,WT,nX⟩
theorem aq (args:List AV)(s:St):X6 U (ZE U 216 args) 216 args s=Rl U 216 args s:=(XI U 216 args s).symm
theorem aah (args:List AV)(s:St):X6 U (ZE U 217 args) 217 args s=Rl U 217 args s:=(XI U 217 args s).symm
theorem aey (args:List AV)(s:St):X6 U (ZE U 214 args) 214 args s=Rl U 214 args s:=(XI U 214 args s).symm
def aez (s0:St)(pb n bl bp bs bb be bm:Nat)(p:Pt)(v:Bool)(r:Option (AV×St)):Prop :=
 ∃s',r=some (.bool v,s')/\LI s' pb n bl bp bs bb be bm p/\s0.next<=s'.next/\Fr s'/\∀j,j<s0.next->j≠bl->j≠bp->j≠bm->s'.get j=s0.get j
theorem ahX {s:St}{pb n bl bp bs bb be bm:Nat}{p:Pt}(h:LI s pb n bl bp bs bb be bm p)(hw:p.Wf n)(hn:n<=2^20)(fr:Fr s){u:Nat}(hu:u<n) :
  aez s pb n bl bp bs bb be bm (p.Wz u).1 (p.Wz u).2 (Rl U 216 [.ptr pb 0,.int .i64 (u:Int)] s):=by
 suffices mn:aez s pb n bl bp bs bb be bm (p.Wz u).1 (p.Wz u).2 (go U (Sx U [.tmp 4]) [] d_ (YX 0 [.ptr pb 0,.int .i64 (u:Int)] .nil) s) by
  obtain⟨s',h1,h2⟩:=mn;exact⟨s',VE aip (by kernel_rfl) h1,h2⟩
 obtain⟨QK,S4,xm⟩:=hw.st u hu;obtain⟨Jd,BW,hk3⟩:=hw.sp _ QK;obtain⟨sV,EF⟩:=hw.pl u hu;obtain⟨g,gl,gp,gs,gb,ge,gm,ne,lt⟩:=h;have nd:=ne;have A:=Ap.of nd;clear ne;have EK:=hw.ll;have hlp:=hw.lp;have sU:=hw.ls;have hle:=hw.le;have qZ:=hw.lm;have q1:=Yq (l:=p.set) (i:=u) (by omega);have q2:=Yq (l:=p.place) (i:=u) (by omega);have Si:=hw.few;have lt':pb<s.next/\bl<s.next/\bp<s.next/\bs<s.next/\bb<s.next/\be<s.next/\bm<s.next:=by
  refine⟨lt _ (by simp),lt _ (by simp),lt _ (by simp),lt _ (by simp),lt _ (by simp),lt _ (by simp),lt _ (by simp)⟩
 obtain⟨sT,qx,lt3,lt4,kT,kp,WA⟩:=lt';unfold Pt.Wz;generalize hs:gt p.set u=k at *;generalize ha:gt p.place u=x at *;have q3:=Yq (l:=p.bg) (i:=k) QK;have q4:=Yq (l:=p.mr) (i:=k) (by omega);have hbk:=Jd;have w1:IntKind.i64.wrap (((gt p.bg k:Nat):Int)+((gt p.mr k:Nat):Int))=((gt p.bg k+gt p.mr k:Nat):Int):=by
  have:=hw.mr k QK;rw[wrap_i64] <;> omega
 have u1:u<p.set.length:=by omega
 have u2:u<p.place.length:=by omega
 have k2:k<p.mr.length:=by omega
 have OG:=hw.mr k QK;generalize ht:gt p.bg k+gt p.mr k=t at *
 cases hm:decide (x<t) with
 |true =>
  have fN:decide ((x:Int)<(t:Int))=true:=by rw[Z8];exact hm
  simp only[go_sem,d_,g,gp,gs,gb,gm,q1,q2,q3,q4,u1,u2,k2,QK,w1,fN,ah1];exact⟨_,rfl,LI.mono ⟨g,gl,gp,gs,gb,ge,gm,nd,lt⟩ (by rw[Z6];omega) fun j _=>ZT _ _ _,by rw[Z6];omega,fr.upto (by omega),fun j _ _ _ _=>ZT _ _ _⟩
 |false =>
  have hm':¬x<t:=by simpa using hm
  have BU:t<n:=by omega
  have fN:decide ((x:Int)<(t:Int))=false:=by rw[Z8];exact hm
  obtain⟨Af,B_⟩:=hw.li t BU;have q5:=Yq (l:=p.list) (i:=t) (by omega);generalize ho:gt p.list t=o at *;have y1:=Xd (l:=p.list) (i:=x) o (by omega);have y2:=Xd (l:=p.list.set x o) (i:=t) u (by rw[ami];omega);have y3:=Xd (l:=p.place) (i:=o) x (by omega);have y4:=Xd (l:=p.place.set o x) (i:=u) t (by rw[ami];omega);have y5:=Xd (l:=p.mr) (i:=k) (gt p.mr k+1) (by omega);have q6:=Yq (l:=p.mr.set k (gt p.mr k+1)) (i:=k) (by rw[ami];omega);rw[TT,if_pos ⟨rfl,by omega⟩] at q6;have w2:IntKind.i64.wrap (((gt p.mr k:Nat):Int)+1)=((gt p.mr k+1:Nat):Int):=by rw[wrap_i64] <;> omega
  have e1:(((gt p.mr k+1:Nat):Int)==1)=(gt p.mr k+1==1):=qw (gt p.mr k+1) 1;have u3:x<p.list.length:=by omega
  have u4:t<p.list.length:=by omega
  have u5:o<p.place.length:=by omega
  have z1:(bl=pb)=False:=eq_false A.n1.symm;have z2:(bl=bp)=False:=eq_false A.n7;have z3:(bl=bm)=False:=eq_false A.wR;have z4:(bp=pb)=False:=eq_false A.n2.symm;have z5:(bp=bm)=False:=eq_false A.fO;have z6:(bm=pb)=False:=eq_false A.n6.symm;simp only[go_sem,d_,g,gl,gp,gs,gb,gm,q1,q2,q3,q4,q5,q6,u1,u2,u3,u4,u5,k2,QK,w1,w2,fN,ah1,y1,y2,y3,y4,y5,z1,z2,z3,z4,z5,z6,e1];refine⟨_,rfl,⟨?_,?_,?_,?_,?_,?_,?_,nd,fun j hj=>?_⟩,?_,?_,fun j h1 h2 h3 h4=>?_⟩
  ·rw[Z9,if_neg A.n6.symm,Z9,if_neg A.n2.symm,Z9,if_neg A.n2.symm,ZT,Z9,if_neg A.n1.symm,Z9,if_neg A.n1.symm,ZT,ZT,g];simp only[ami]
  ·rw[Z9,if_neg A.wR.symm,Z9,if_neg A.n7.symm,Z9,if_neg A.n7.symm,ZT,Z9,if_pos rfl]
  ·rw[Z9,if_neg A.fO.symm,Z9,if_pos rfl]
  ·rw[Z9,if_neg A.n18.symm,Z9,if_neg A.xE,Z9,if_neg A.xE,ZT,Z9,if_neg A.n8,Z9,if_neg A.n8,ZT,ZT,gs]
  ·rw[Z9,if_neg A.WT.symm,Z9,if_neg A.mC,Z9,if_neg A.mC,ZT,Z9,if_neg A.n9,Z9,if_neg A.n9,ZT,ZT,gb]
  ·rw[Z9,if_neg A.nX.symm,Z9,if_neg A.n14,Z9,if_neg A.n14,ZT,Z9,if_neg A.fP,Z9,if_neg A.fP,ZT,ZT,ge]
  ·rw[Z9,if_pos rfl]
  ·simp only[Z',Z6];have:=lt j hj;omega
  ·simp only[Z',Z6];omega
  ·exact (((((((fr.upto (by omega)).upto (by rw[Z6];omega)).put (by rw[Z6];omega) _).put (by rw[Z',Z6];omega) _).upto (by rw[Z',Z',Z6];omega)).put (by rw[Z6];omega) _).put (by rw[Z',Z6];omega) _).put (by rw[Z',Z',Z6];omega) _
  ·rw[Z9,if_neg h4.symm,Z9,if_neg h3.symm,Z9,if_neg h3.symm,ZT,Z9,if_neg h2.symm,Z9,if_neg h2.symm,ZT,ZT]
end Go.Am
namespace Go.Am
open Go
variable [Z4]
set_option maxRecDepth 100000
set_option maxHeartbeats 8000000
def abi:RC:=(sO [ZA 4 0,o 5 (.O9 (.v .TO))] (sO [om 6 0,Zc 7 182 6] (sO [om 8 0,om 9 0,Yb 10 9,ZX 11 1 10,Z0 12 11,om 13 1,VT 14 5 1 1 12 13,Yb 15 8,ZX 16 1 15,YT 1 16 14] (sO [om 17 1,Om 18 17,om 4 18,o 5 (.O9 (.v .TO))] .ret))))
theorem aef:Ze 131=some ([.tmp 4,.tmp 5],abi):=by kernel_rfl
def acy:RC:=(sO [Gu 2] (sQ (.TP 12 [om 3 0,Yb 4 3,ZX 5 1 4,Z0 6 5,o 7 (.raw (.call { callee:=.builtin .unsafeSliceData,args:=#[(.tmp 6)],argTypes:=#[205] })),om 8 0,Yb 9 8,ZX 10 1 9,Z0 11 10,YU 12 11,⟨some 13,none,none,true,.raw (.call { callee:=.builtin .unsafeString,args:=#[(.tmp 7),(.tmp 12)],argTypes:=#[269,3] })⟩,om 2 13]) .ret))
theorem afU:Ze 133=some ([.tmp 2],acy):=by kernel_rfl
def afV:RC:=(sO [Gu 2] (sO [om 3 0,Zc 4 267 3,om 2 4] .ret))
theorem ajG:Ze 244=some ([.tmp 2],afV):=by kernel_rfl
def afW:RC:=(sO [Gu 2] (sQ (sO [om 3 0] (cT 3 (sO [o 2 (.O9 (.v (.str [116,114,117,101])))] .ret))) (sO [o 2 (.O9 (.v (.str [102,97,108,115,101])))] .ret)))
theorem ajH:Ze 267=some ([.tmp 2],afW):=by kernel_rfl
def XW (bs:XV):List AV:=bs.map fun c=>.int .u8 c.toNat
theorem RK (bs:XV):(XW bs).length=bs.length:=by simp[XW]
theorem K' (bs:XV):(XW bs).all Zz=true:=by
 induction bs with
 |nil=>rfl
 |cons c l ih=>rw[XW,alT,List.all_cons];exact ih
theorem yA (bs:XV):Xh (XW bs)=some bs:=by
 induction bs with
 |nil=>rfl
 |cons c l ih =>
  show Xh (.int .u8 c.toNat::XW l)=_;simp only[Xh,ih,amn,UInt8.ofNat_toNat]
def Iq (s:St)(b:Nat)(bs:XV):Prop:=∃p v,s.get b=some (.cells [p,v] 207 false 0 0)/\(p=.Vk\/p=.ptr b 0)/\b<s.next/\ZK s (b+1) 5 1 bs.length (XW bs) v
theorem abj (args:List AV)(s:St):X6 U (ZE U 182 args) 182 args s=Rl U 182 args s:=(XI U 182 args s).symm
theorem mj (args:List AV)(s:St):X6 U (ZE U 131 args) 131 args s=Rl U 131 args s:=(XI U 131 args s).symm
theorem ta (args:List AV)(s:St):X6 U (ZE U 133 args) 133 args s=Rl U 133 args s:=(XI U 133 args s).symm
theorem cd (args:List AV)(s:St):Rl U 182 args s=Nq args s:=by
 unfold Rl Uk;rw[zq];rfl
theorem abh {s:St}{b:Nat}{p v:AV}(hg:s.get b=some (.cells [p,v] 207 false 0 0))(hp:p=.Vk\/p=.ptr b 0)(hb:b<s.next) :
  ∃s0,Rl U 182 [.ptr b 0] s=some (.XU [],s0)/\s0.next=s.next/\s0.get b=some (.cells [.ptr b 0,v] 207 false 0 0)/\(∀j,j≠b->s0.get j=s.get j)/\(Fr s->Fr s0):=by
 rw[cd];rcases hp with rfl|rfl
 ·refine⟨s.put b (.cells [.ptr b 0,v] 207 false 0 0),by simp only[Nq,hg,if_true],rfl,by rw[Z9,if_pos rfl],fun j hj=>by rw[Z9,if_neg (by omega)],fun h=>h.put hb _⟩
 ·exact⟨s,by simp only[Nq,hg,if_true],rfl,hg,fun _ _=>rfl,fun h=>h⟩
theorem K_ (t:XV)(s:St):Wc 1 (.str t) s=some (t.length,XW t):=rfl
theorem ah3 {s:St}{b:Nat}{bs:XV}(h:Iq s b bs)(hf:Fr s)(t:XV)(ht:t≠[])(hlen:bs.length+t.length<=2^39) :
  ∃s' r,Rl U 131 [.ptr b 0,.str t] s=some (r,s')/\Iq s' b (bs++t)/\Fr s'/\s.next<=s'.next/\∀j,j<b->s'.get j=s.get j:=by
 obtain⟨p,v,hg,hp,hb,hv⟩:=h;obtain⟨s0,g1,g2,g3,g4,g5⟩:=abh hg hp hb;have Jl:=hv.Xj;have UP:(bs.length+t.length)*1<=1099511627776:=by omega
 have VP:bs.length+t.length<=1099511627776:=by omega
 have fu:(t.length=0)=False:=by simp[ht]
 have Pd:ZK s0 (b+1) 5 1 bs.length (XW bs) v:=hv.mono (by omega) fun j hj wJ=>g4 j (by omega)
 obtain⟨s1,e1,e2,e3,e4,e5⟩:=Pd.app (by omega) (m:=t.length) (new:=XW t) (by intro h0;simp[ht] at h0) (by rw[RK];omega) (K' t);have kb:=e4 b (by omega);rw[g3] at kb;rw[g2] at e1 e2 e3;refine⟨s1.put b (.cells [.ptr b 0,.sl s.next 0 (bs.length+t.length) none 1] 207 false 0 0),.XU [.int .i64 t.length,.TO],?_,⟨.ptr b 0,.sl s.next 0 (bs.length+t.length) none 1,by rw[Z9,if_pos rfl],.inr rfl,by rw[Z'];omega,?_⟩,(e5 (g5 hf)).put (by omega) _,by rw[Z'];omega,fun j hj=>?_⟩
 ·refine VE aef (by kernel_rfl) ?_;simp only[go_sem,abi,abj,g1,g3,K_,ZH,Jl,VP,Nat.reducePow,RK,fu,ah1,not_false_eq_true];rw[e1];simp only[go_sem,kb]
 ·have hl:(bs++t).length=bs.length+t.length:=by simp
  rw[hl];have xn:XW (bs++t)=XW bs++XW t:=by simp[XW]
  rw[xn];exact e3.mono (by rw[Z'];omega) fun j hj _=>by rw[Z9,if_neg (by omega)]
 ·rw[Z9,if_neg (by omega),e4 j (by omega),g4 j (by omega)]
def sdK (v:Option AV)(s:St):Option (AV×St):=match v with
 |some .ZW=>some (.Vk,s)
 |some (.sl b o (_+1) _ _)=>some (.ptr b o,s)
 |_=>none
theorem acz (ex:Ex)(e:Env)(s:St)(x:Operand)(ts:Array TypeId):YI U ex e (.call { callee:=.builtin .unsafeSliceData,args:=#[x],argTypes:=ts }) s=sdK (eval U e x) s:=by
 have h:YI U ex e (.call { callee:=.builtin .unsafeSliceData,args:=#[x],argTypes:=ts }) s=match Wk U e [x] with
  |some vs=>Yj U .unsafeSliceData ts vs s
  |none=>none:=rfl
 rw[h];simp only[Wk]
 cases eval U e x with
 |none=>rfl
 |some v =>
  cases v <;> try rfl
  rename_i b o n c z
  cases n <;> rfl
noncomputable def usK (ts:Array TypeId)(p n:Option AV)(s:St):Option (AV×St):=match p,n with
 |some p,some n=>Yj U .unsafeString ts [p,n] s
 |_,_=>none
theorem acA (ex:Ex)(e:Env)(s:St)(x y:Operand)(ts:Array TypeId):YI U ex e (.call { callee:=.builtin .unsafeString,args:=#[x,y],argTypes:=ts }) s=usK ts (eval U e x) (eval U e y) s:=by
 have h:YI U ex e (.call { callee:=.builtin .unsafeString,args:=#[x,y],argTypes:=ts }) s=match Wk U e [x,y] with
  |some vs=>Yj U .unsafeString ts vs s
  |none=>none:=rfl
 rw[h];simp only[Wk]
 cases eval U e x with
 |none=>rfl
 |some v=>cases eval U e y <;> rfl
theorem i_ (s:St):sdK (some .ZW) s=some (.Vk,s):=rfl
theorem acB (b o n:Nat)(c:Option Nat)(z:Nat)(s:St):sdK (some (.sl b o (n+1) c z)) s=some (.ptr b o,s):=rfl
theorem iZ (ts:Array TypeId)(p n:AV)(s:St):usK ts (some p) (some n) s=Yj U .unsafeString ts [p,n] s:=rfl
theorem acC (s:St):Yj U .unsafeString #[269,3] [.Vk,.int .i64 0] s=some (.str [],s):=rfl
theorem acD {s:St}{j:Nat}{bs:XV}{lo hi:Nat}(hg:s.get j=some (.cells (XW bs) 5 false lo hi))(h0:bs≠[])(hl:bs.length<=2^39):Yj U .unsafeString #[269,3] [.ptr j 0,.int .i64 bs.length] s=some (.str bs,s.put j (.cells (XW bs) 5 true 0 0)):=by
 have hu:U.Zd 269=some (.pointer 5):=by kernel_rfl
 have ZC:¬(bs.length:Int)=0:=by
  have:=List.length_pos_iff.2 h0;omega
 have hb:¬((bs.length:Int)<0\/(bs.length:Int)>2^40):=by omega
 unfold Yj;simp only[if_neg ZC,if_neg hb,hg];have hgr:XA bs.length 0 (XW bs)=some (XW bs):=by
  have:=Ws (XW bs)
  rwa [RK] at this
 simp[hu,ae1,hgr,yA]
attribute [go_sem ↓] acz acA
attribute [go_sem] i_ acB iZ acC
theorem mf {s:St}{b:Nat}{bs:XV}(h:Iq s b bs)(hf:Fr s)(hl:bs.length<=2^39):∃s',Rl U 133 [.ptr b 0] s=some (.str bs,s')/\s.next<=s'.next/\Fr s'/\∀j,j<=b->s'.get j=s.get j:=by
 obtain⟨p,v,hg,hp,hb,hv⟩:=h;rcases hv with⟨h0,rfl,h2⟩|⟨h0,h1,j,h2,h3,rfl,h5⟩
 ·have:bs=[]:=al6.1 h0;subst this;refine⟨s.upto (s.next+12),VE afU (by kernel_rfl) ?_,by rw[Z6];omega,hf.upto (by omega),fun j _=>ZT _ _ _⟩;simp only[go_sem,acy,hg]
 ·have ZC:bs≠[]:=by rintro rfl;simp at h0
  have MC:=acD (s:=s.upto (s.next+12)) (bs:=bs) (j:=j) (by rw[ZT];exact h5) ZC hl;obtain⟨n,hn⟩:∃n,bs.length=n+1:=⟨bs.length-1,by omega⟩;refine⟨(s.upto (s.next+12)).put j (.cells (XW bs) 5 true 0 0),VE afU (by kernel_rfl) ?_,by rw[Z',Z6];omega,(hf.upto (by omega)).put (by rw[Z6];omega) _,fun i hi=>by rw[Z9,if_neg (by omega),ZT]⟩;rw[hn] at hg MC;simp only[go_sem,acy,hg,MC]
def zW:Bool->XV
 |true=>[116,114,117,101]
 |false=>[102,97,108,115,101]
theorem ajI (x:Bool):ZE U 267 [.bool x]=some (.str (zW x)):=by
 refine ZR ajH (by kernel_rfl) rfl ?_
 cases x <;> simp only[go_sem,afW,zW]
theorem ah2 (x:Bool):ZE U 244 [.bool x]=some (.str (zW x)):=by
 refine ZR ajG (by kernel_rfl) rfl ?_;have:=ajI x;simp only[go_sem,afV,this]
def QQ (l:List Bool):XV:=l.flatMap zW
theorem abg (x:Bool):zW x≠[]:=by cases x <;> simp[zW]
theorem FU:∀{a b:List Bool},a.length=b.length->QQ a=QQ b->a=b
 |[],[],_,_=>rfl
 |x::a,y::b,hl,h=>by
  have CM:a.length=b.length:=by simpa using hl
  simp only[QQ,al7] at h
  cases x <;> cases y <;> simp only[zW,alU,amg,List.cons.injEq] at h
  ·rw[FU CM h.2.2.2.2.2]
  ·exact absurd h.1 (by decide)
  ·exact absurd h.1 (by decide)
  ·rw[FU CM h.2.2.2.2]
 |[],_::_,h,_=>by simp at h
 |_::_,[],h,_=>by simp at h
def xF (es:List (XV×AV)):List (AV×AV):=es.map fun x=>(AV.str x.1,x.2)
def EB (k:XV):List (XV×AV)->Option AV
 |[]=>none
 |x::l=>bif k==x.1 then some x.2 else EB k l
def EA (k:XV)(v:AV):List (XV×AV)->List (XV×AV)
 |[]=>[(k,v)]
 |x::l=>bif k==x.1 then (k,v)::l else x::EA k v l
theorem DO (k:XV):∀es,UM (.str k) (xF es)=some (EB k es)
 |[]=>rfl
 |x::l=>by
  have ih:=DO k l;show UM (.str k) ((AV.str x.1,x.2)::xF l)=_;rw[UM,EB,VQ]
  cases k==x.1 with
  |true=>rfl
  |false=>exact ih
theorem z_ (k:XV)(v:AV):∀es,Ir (.str k) v (xF es)=some (xF (EA k v es))
 |[]=>rfl
 |x::l=>by
  have ih:=z_ k v l;show Ir (.str k) v ((AV.str x.1,x.2)::xF l)=_;rw[Ir,EA,VQ]
  cases k==x.1 with
  |true=>rfl
  |false=>simp only[ih];rfl
theorem DU {s:St}{m:Nat}{es:List (XV×AV)}(h:s.get m=some (.map (xF es) false))(k:XV):VK U 310 (.map m) (.str k) false s=some ((EB k es).getD .ZW):=by
 have hu:U.Zd 310=some (.map 9 40):=by kernel_rfl
 have h9:U.Zd 9=some .string:=by kernel_rfl
 have hz:zero U 40=some .ZW:=by kernel_rfl
 unfold VK;rw[hu];simp only[Uq,h9,if_true,h,DO]
 cases EB k es with
 |none=>simp only[hz];rfl
 |some v=>rfl
theorem qP {s:St}{m:Nat}{es:List (XV×AV)}(h:s.get m=some (.map (xF es) false))(k:XV)(v:AV):UX U 310 (.map m) (.str k) v s=some (s.put m (.map (xF (EA k v es)) false)):=by
 have hu:U.Zd 310=some (.map 9 40):=by kernel_rfl
 have h9:U.Zd 9=some .string:=by kernel_rfl
 unfold UX;rw[hu];simp only[Uq,h9,if_true,h,z_]
noncomputable def ml (t:TypeId)(m k v:Option AV)(s:St):Option (AV×St):=match m,k,v with
 |some m,some k,some v=>OA (UX U t m k v s)
 |_,_,_=>none
theorem Ez (ex:Ex)(e:Env)(s:St)(t:TypeId)(m k v:Operand):YI U ex e (.mapUpdate t m k v) s=ml t (eval U e m) (eval U e k) (eval U e v) s:=by
 unfold ml;simp only[YI];rfl
theorem zZ (ex:Ex)(e:Env)(s:St)(t:TypeId)(m k v:Operand):YI U ex e (.insert t m k v) s=ml t (eval U e m) (eval U e k) (eval U e v) s:=by
 unfold ml;simp only[YI];rfl
theorem qO (t:TypeId)(m k v:AV)(s:St):ml t (some m) (some k) (some v) s=OA (UX U t m k v s):=(fun h=>h) rfl
theorem zY (ex:Ex)(e:Env)(s:St)(t:TypeId):YI U ex e (.makeMap t none) s=some (.map s.next,s.new (.map [] false)):=(fun h=>h) rfl
attribute [go_sem ↓] Ez zZ zY
attribute [go_sem] qO
def SP (len:XV->Nat):List XV->List Nat->List (XV×AV)
 |k::ks,b::bs=>(k,.sl b 0 (len k) none 1)::SP len ks bs
 |_,_=>[]
theorem Cf {len:XV->Nat}:∀{ks:List XV} {bs:List Nat} {j:Nat} (hn:ks.Nodup) (hl:bs.length=ks.length) (h:j<ks.length),EB ks[j] (SP len ks bs)=some (.sl (bs[j]'(by omega)) 0 (len ks[j]) none 1)
 |k::ks,b::bs,0,hn,hl,h=>by simp[SP,EB]
 |k::ks,b::bs,j+1,hn,hl,h=>by
  rw[amv] at hn;have hj:j<ks.length:=by simpa using h
  have ih:=Cf (len:=len) (bs:=bs) hn.2 (by simpa using hl) hj;have ZC:(ks[j]==k)=false:=by
   have:ks[j]≠k:=fun e=>hn.1 (e ▸ adm hj)
   simpa using this
  simp only[List.getElem_cons_succ,SP,EB,ZC,cond_false];exact ih
 |k::ks,[],_,_,hl,_=>by simp at hl
 |[],_,_,_,_,h=>by simp at h
theorem DN {len:XV->Nat}{k:XV}:∀{ks:List XV} {bs:List Nat},k∉ks->EB k (SP len ks bs)=none
 |[],bs,_=>by cases bs <;> rfl
 |x::ks,[],_=>rfl
 |x::ks,b::bs,h=>by
  rw[alL,not_or] at h;have ZC:(k==x)=false:=by simpa using h.1
  simp only[SP,EB,ZC,cond_false];exact DN h.2
theorem GF {len M7:XV->Nat}:∀{ks:List XV} {bs:List Nat},(∀k∈ks,len k=M7 k)->SP len ks bs=SP M7 ks bs
 |[],bs,_=>by cases bs <;> rfl
 |x::ks,[],_=>rfl
 |x::ks,b::bs,h=>by
  simp only[SP];rw[h x (aba ..),GF fun k hk=>h k (aab _ hk)]
theorem ti {len M7:XV->Nat}:∀{ks:List XV} {bs:List Nat} {j b':Nat} (hn:ks.Nodup) (hl:bs.length=ks.length) (h:j<ks.length),(∀k∈ks,k≠ks[j]->len k=M7 k)->EA ks[j] (.sl b' 0 (M7 ks[j]) none 1) (SP len ks bs)=SP M7 ks (bs.set j b')
 |k::ks,b::bs,0,b',hn,hl,h,hc=>by
  rw[amv] at hn;simp only[List.getElem_cons_zero,SP,EA,beq_self_eq_true,cond_true,List.set_cons_zero];rw[GF fun x hx=>hc x (aab _ hx) fun e=>by simp at e;exact hn.1 (e ▸ hx)]
 |k::ks,b::bs,j+1,b',hn,hl,h,hc=>by
  rw[amv] at hn;have hj:j<ks.length:=by simpa using h
  have aeb:k≠ks[j]:=fun e=>hn.1 (e ▸ adm hj)
  have ZC:(ks[j]==k)=false:=by simpa using aeb.symm
  have ih:=ti (len:=len) (M7:=M7) (bs:=bs) (b':=b') hn.2 (by simpa using hl) hj fun x hx hxe=>hc x (aab _ hx) (by simpa using hxe)
  simp only[List.getElem_cons_succ,SP,EA,ZC,cond_false,List.set_cons_succ];rw[ih,hc k (aba ..) (by simpa using aeb)]
 |k::ks,[],_,_,_,hl,_,_=>by simp at hl
 |[],_,_,_,_,_,h,_=>by simp at h
theorem zX {len M7:XV->Nat}{k:XV}{b':Nat}:∀{ks:List XV} {bs:List Nat},k∉ks->bs.length=ks.length->(∀x∈ks,len x=M7 x)->EA k (.sl b' 0 (M7 k) none 1) (SP len ks bs)=SP M7 (ks++[k]) (bs++[b'])
 |[],[],_,_,_=>by simp[SP,EA]
 |x::ks,b::bs,h,hl,hc=>by
  rw[alL,not_or] at h;have ZC:(k==x)=false:=by simpa using h.1
  have ih:=zX (len:=len) (M7:=M7) (b':=b') (bs:=bs) h.2 (by simpa using hl) fun y hy=>hc y (aab _ hy)
  simp only[SP,EA,ZC,cond_false,alU];rw[ih,hc x (aba ..)]
 |[],_::_,_,hl,_=>by simp at hl
 |_::_,[],_,hl,_=>by simp at hl
theorem aec {β:Type}{fin:Fl->β}{ks:List K}{ZB:β->Prop}{nl:Bool}{l:List Bool}(hl:l.length<=2^20){b:Nat}{e:Env}{s:St}(g8:Env.get e 8=.ptr b 0)(g35:Env.get e 35=ZG nl (ZM l))(g36:Env.get e 36=.int .i64 l.length)(g37:Env.get e 37=.int .i64 (0:Nat))
  (hb:Iq s b [])(fr:Fr s)
  (hk:∀e' s',(∀t:Nat,t<10->Env.get e' t=Env.get e t)->(∀t:Nat,26<t->t<35->Env.get e' t=Env.get e t)->Iq s' b (QQ l)->(∀j,j<b->s'.get j=s.get j)->s.next<=s'.next->Fr s'->ZB (goN U fin ks e' s')) :
  ZB (SD U fin (.bk 2::ks) HQ e s):=by
 have aed:∀l:List Bool,(QQ l).length<=l.length*5:=by
  intro l
  induction l with
  |nil=>simp[QQ]
  |cons x l ih =>
   have:(QQ (x::l)).length=(zW x).length+(QQ l).length:=by simp[QQ]
   have h5:(zW x).length<=5:=by cases x <;> simp[zW]
   simp only[akd];omega
 refine YP (σ:=Nat) (fun i=>l.length-i) (fun i e' s'=>i<=l.length/\(∀t:Nat,t<10->Env.get e' t=Env.get e t)/\(∀t:Nat,26<t->t<37->Env.get e' t=Env.get e t)/\Env.get e' 37=.int .i64 (i:Nat)/\Iq s' b (QQ (l.take i))/\(∀j,j<b->s'.get j=s.get j)/\s.next<=s'.next/\Fr s') 0 ?_
  ⟨aic _,fun _ _=>rfl,fun _ _ _=>rfl,g37,hb,fun _ _=>rfl,agB _,fr⟩
 rintro Lp i e' s' ⟨hi,hold,UU,tg,hbi,hs,Vl,Xx⟩ IH;have q8:=(hold 8 (by omega)).trans g8;have q35:=(UU 35 (by omega) (by omega)).trans g35;have q36:=(UU 36 (by omega) (by omega)).trans g36;by_cases hd:i<l.length
 ·have hw:=ZN hd (by omega);have hx:=NO (nl:=nl) hd;have h244:=ah2 l[i];have Jd:=aed (l.take i);have htl:(l.take i).length=i:=by rw[amr];omega
  have h5:(zW l[i]).length<=5:=by cases l[i] <;> simp[zW]
  obtain⟨s2,r,e1,e2,e3,e4,e5⟩:=ah3 hbi Xx (zW l[i]) (abg _) (by omega);simp only[go_sem,HQ,q8,q35,q36,tg,Z8,hd,hx,h244,mj,e1,hw];have eJ:QQ (l.take (i+1))=QQ (l.take i)++zW l[i]:=by rw[alX hd,QQ,List.flatMap_append];simp[QQ]
  refine IH (i+1) _ _ (by omega) ⟨by omega,fun t ht=>?_,fun t h1 h2=>?_,?_,by rw[eJ];exact e2,fun j hj=>by rw[e5 j hj,hs j hj],by omega,e3⟩
  ·have ZC:∀k:Nat,10<=k->(k=t)=False:=fun k hk=>by simp;omega
   simp only[go_sem,ZC];exact hold t ht
  ·have ZC:∀k:Nat,37<=k->(k=t)=False:=fun k hk=>by simp;omega
   have aee:(10=t)=False:=by simp;omega
   simp only[go_sem,ZC,aee];exact UU t h1 h2
  ·simp only[go_sem]
 ·have:i=l.length:=by omega
  subst this;rw[amH] at hbi;simp only[go_sem,HQ,q36,tg,Z8,alh];refine hk _ _ (fun t ht=>?_) (fun t h1 h2=>?_) hbi hs Vl Xx
  ·have ZC:∀k:Nat,10<=k->(k=t)=False:=fun k hk=>by simp;omega
   simp only[go_sem,ZC];exact hold t ht
  ·have ZC:∀k:Nat,37<=k->(k=t)=False:=fun k hk=>by simp;omega
   simp only[go_sem,ZC];exact UU t h1 (by omega)
theorem Ai {s:St}{b n:Nat}{L:List Nat}(hL:L.length=n)(hg:s.get b=some (.cells (ZO L) 3 false 0 0))(k:Nat) :
  Rx 3 1 1 [.int .i64 (k:Int)] (.sl b 0 n none 1) s=some (.sl s.next 0 (n+1) none 1,(s.put b .gone).new (.cells (ZO (L++[k])) 3 false 0 0)):=by
 have MT:(ZO L).length=n*1:=by rw[Ww,hL,ah1]
 rw[TR,hg,VA MT (by omega) rfl,Qa]
def strs (l:List XV):List AV:=l.map .str
def Zg (a:Yi)(u:Nat):XV:=QQ (a.ZD.getD u (true,[])).2
structure Grp (s:St)(m:Nat)(κ:Nat->XV)(i:Nat)(bl:List Nat)(vo:AV):Prop where
 gm:s.get m=some (.map (xF (SP (fun k=>(RU κ k i).length) (Yu κ i) bl)) false)
 len:bl.length=(Yu κ i).length
 nd:bl.Nodup
 E1:∀j (h:j<bl.length) (h':j<(Yu κ i).length),m<bl[j]/\bl[j]<s.next/\s.get bl[j]=some (.cells (ZO (RU κ (Yu κ i)[j] i)) 3 false 0 0)
 row:ZK s (m+1) 9 1 (Yu κ i).length (strs (Yu κ i)) vo
theorem tG (κ:Nat->XV)(k:XV)(n:Nat):(RU κ k n).length<=n:=by
 have:=List.length_filter_le (fun i=>decide (κ i=k)) (List.range n);rw[List.length_range] at this;exact this
theorem C0 {b:Nat}:∀{l:List Nat} {j:Nat},l.Nodup->b∉l->(l.set j b).Nodup
 |[],j,_,_=>by simp
 |x::l,0,h,hb=>by
  rw[amv] at h;rw[List.set_cons_zero,amv];exact⟨fun hm=>hb (aab _ hm),h.2⟩
 |x::l,j+1,h,hb=>by
  rw[amv] at h;rw[alL,not_or] at hb;rw[List.set_cons_succ,amv];refine⟨fun hm=>?_,C0 h.2 hb.2⟩;rcases List.mem_or_eq_of_mem_set hm with h1|h1
  ·exact h.1 h1
  ·exact hb.1 h1.symm
theorem afx {β:Type}{fin:Fl->β}{ks:List K}{ZB:β->Prop}{a:Yi}(ha:a.ok){m:Nat}{e:Env}{s:St}(g4:Env.get e 4=.map m)(g5:Env.get e 5=.ZW)(g28:Env.get e 28=ZG a.S6 (a.ZD.map Zv))(g29:Env.get e 29=.int .i64 a.ZD.length)(g30:Env.get e 30=.int .i64 (0:Nat))
  (gm:s.get m=some (.map [] false))(nm:m<s.next)(fr:Fr s)
  (hk:∀e' s' bl vo,(∀t:Nat,t<5->Env.get e' t=Env.get e t)->Env.get e' 5=vo->Grp s' m (Zg a) a.next.length bl vo->(∀j,j<m->s'.get j=s.get j)->s.next<=s'.next->Fr s'->ZB (goN U fin ks e' s')) :
  ZB (SD U fin (.bk 0::ks) Hv e s):=by
 have Si:=ha.few;have MB:=ha.fl;refine YP (σ:=Nat) (fun i=>a.ZD.length-i) (fun i e' s'=>i<=a.ZD.length/\(∀t:Nat,t<5->Env.get e' t=Env.get e t)/\Env.get e' 28=ZG a.S6 (a.ZD.map Zv)/\Env.get e' 29=.int .i64 a.ZD.length/\Env.get e' 30=.int .i64 (i:Nat)/\(∀j,j<m->s'.get j=s.get j)/\s.next<=s'.next/\Fr s' /\
   ∃bl vo,Env.get e' 5=vo/\Grp s' m (Zg a) i bl vo) 0 ?_
  ⟨aic _,fun _ _=>rfl,g28,g29,g30,fun _ _=>rfl,agB _,fr,[],.ZW,g5,⟨by rw[gm];rfl,rfl,by simp,fun j h=>by simp at h,ZK.nil _ _ _ _⟩⟩
 rintro Lp i e' s' ⟨hi,hold,q28,q29,q30,hs,Vl,Xx,bl,vo,q5,G⟩ IH;have q4:=(hold 4 (by omega)).trans g4;by_cases hd:i<a.ZD.length
 ·have Rm:=ZN hd (by omega);have hx:=Se (nl:=a.S6) hd;have ot:=ha.XF i hd;have Nb:=ha.m16;have Jl:=ZI a.ZD[i].1 (ZM a.ZD[i].2);rw[WX] at Jl;have hκ:Zg a i=QQ a.ZD[i].2:=by unfold Zg;rw[XK hd]
  simp only[go_sem,Hv,q28,q29,q30,Z8,hd,hx,Jl];refine aec (nl:=a.ZD[i].1) (l:=a.ZD[i].2) (b:=s'.next) (by omega) ?_ ?_ ?_ ?_ ?_ ?_ ?_
  case refine_7 =>
   intro e2 s2 QF fh hbi S4 OL O1;rw[<-hκ] at hbi;have NA:(Zg a i).length<=2^39:=by
    have:∀l:List Bool,(QQ l).length<=l.length*5:=by
     intro l
     induction l with
     |nil=>simp[QQ]
     |cons x l ih =>
      have:(QQ (x::l)).length=(zW x).length+(QQ l).length:=by simp[QQ]
      have h5:(zW x).length<=5:=by cases x <;> simp[zW]
      simp only[akd];omega
    have:=this a.ZD[i].2;rw[hκ];omega
   obtain⟨s3,c1,c2,c3,c4⟩:=mf hbi O1 NA;rw[Z_] at OL;have old:∀j,j<s'.next->s3.get j=s'.get j:=fun j hj=>by rw[c4 j (by omega),S4 j hj,Z7,if_neg (by omega)]
   have p4:Env.get e2 4=.map m:=by rw[QF 4 (by omega)];simp only[go_sem,q4]
   have p5:Env.get e2 5=vo:=by rw[QF 5 (by omega)];simp only[go_sem,q5]
   have p6:Env.get e2 6=.int .i64 (i:Nat):=by rw[QF 6 (by omega)];simp only[go_sem]
   have p8:Env.get e2 8=.ptr s'.next 0:=by rw[QF 8 (by omega)];simp only[go_sem]
   have p28:Env.get e2 28=ZG a.S6 (a.ZD.map Zv):=by rw[fh 28 (by omega) (by omega)];simp only[go_sem,q28]
   have p29:Env.get e2 29=.int .i64 a.ZD.length:=by rw[fh 29 (by omega) (by omega)];simp only[go_sem,q29]
   have p30:Env.get e2 30=.int .i64 (i:Nat):=by rw[fh 30 (by omega) (by omega)];simp only[go_sem,q30]
   have pl:∀t:Nat,t<5->Env.get e2 t=Env.get e t:=fun t ht=>by
    rw[QF t (by omega)];have ZC:∀k:Nat,6<=k->(k=t)=False:=fun k hk=>by simp;omega
    simp only[go_sem,ZC];exact hold t ht
   obtain⟨Gm,wY,Gnd,wX,eK⟩:=G;have nm':m<s'.next:=by omega
   have um:=(old m nm').trans Gm;have hgl:=tG (Zg a) (Zg a i) i;have lk:=fun (S:St) (h:S.get m=some (.map (xF (SP (fun k=>(RU (Zg a) k i).length) (Yu (Zg a) i) bl)) false))=>DU h (Zg a i)
   have up:=fun (S:St) (v:AV) (h:S.get m=some (.map (xF (SP (fun k=>(RU (Zg a) k i).length) (Yu (Zg a) i) bl)) false))=>qP h (Zg a i) v
   have ib:RU (Zg a) (Zg a i) (i+1)=RU (Zg a) (Zg a i) i++[i]:=by rw[Kr,if_pos rfl]
   by_cases Ue:Zg a i∈Yu (Zg a) i
   ·obtain⟨j,hj,hje⟩:=alP.1 Ue;have mB:j<bl.length:=by omega
    obtain⟨b1,b2,b3⟩:=wX j mB hj;rw[hje] at b3;have EH:=Cf (len:=fun k=>(RU (Zg a) k i).length) (bs:=bl) (PD (Zg a) i) wY hj;rw[hje] at EH;have Aq:0<(RU (Zg a) (Zg a i) i).length:=by
     obtain⟨u,GJ,OC⟩:=(Tj (Zg a) (Zg a i) i).1 Ue;exact List.length_pos_of_mem ((PE _ _ _ _).2 ⟨GJ,OC⟩)
    rw[EH] at lk;simp only[amG] at lk;have hz:(((RU (Zg a) (Zg a i) i).length:Int)==0)=false:=by simp;intro e;rw[e] at Aq;simp at Aq
    have u3:=(old _ b2).trans b3;have ax:=fun (S:St) (h:S.get bl[j]=some (.cells (ZO (RU (Zg a) (Zg a i) i)) 3 false 0 0))=>Ai rfl h i
    have UP:((RU (Zg a) (Zg a i) i).length+1)*8<=1099511627776:=by omega
    have VP:(RU (Zg a) (Zg a i) i).length+1<=1099511627776:=by omega
    have z1:(s3.next=m)=False:=by simp;omega
    have z2:(s3.next+1=m)=False:=by simp;omega
    have z3:(bl[j]=m)=False:=by simp;omega
    have z4:(s3.next=bl[j])=False:=by simp;omega
    simp only[go_sem,p4,p6,p8,p30,ta,c1,um,lk,up,hz,u3,ax,ZH,Nat.reducePow,amk,UP,VP,z1,z2,z3,z4,Rm];have Ig:Yu (Zg a) (i+1)=Yu (Zg a) i:=by rw[Yu,if_pos Ue]
    have R_:∀x y z k,k<s3.next->k≠m->k≠bl[j]->((((s3.new x).put bl[j] y).new z).put m (.map (xF (SP (fun k=>(RU (Zg a) k (i+1)).length) (Yu (Zg a) i) (bl.set j (s3.next+1)))) false)).get k=s3.get k:=fun x y z k h1 h2 h3=>by
     rw[Z9,if_neg h2.symm,Z7,Z',Z_,if_neg (by omega),Z9,if_neg h3.symm,Z7,if_neg (by omega)]
    have zT:=ti (len:=fun k=>(RU (Zg a) k i).length) (M7:=fun k=>(RU (Zg a) k (i+1)).length) (bs:=bl) (b':=s3.next+1) (PD (Zg a) i) wY hj (fun k _ TI=>by
     rw[hje] at TI;simp only[Kr,if_neg (fun e=>TI (Eq.symm e))])
    rw[hje] at zT;simp only[ib,agy,alW] at zT;rw[zT];have lbl:∀x∈bl,x<s'.next:=fun x hx=>by
     obtain⟨k,Jd,rfl⟩:=alP.1 hx;exact (wX k Jd (by omega)).2.1
    refine IH (i+1) _ _ (by omega) ⟨by omega,fun t ht=>?_,?_,?_,?_,fun k hk=>?_,by simp only[Z',Z_];omega,(((c3.new _).put (by rw[Z_];omega) _).new _).put (by rw[Z_,Z',Z_];omega) _,bl.set j (s3.next+1),vo,?_,⟨?_,?_,?_,fun k h h'=>?_,?_⟩⟩
    ·have ZC:∀k:Nat,6<=k->(k=t)=False:=fun k hk=>by simp;omega
     simp only[go_sem,ZC];exact pl t ht
    ·simp only[go_sem,p28]
    ·simp only[go_sem,p29]
    ·simp only[go_sem]
    ·rw[R_ _ _ _ k (by omega) (by omega) (by omega),old k (by omega),hs k hk]
    ·simp only[go_sem,p5]
    ·rw[Z9,if_pos rfl,Ig]
    ·rw[ami,Ig];exact wY
    ·exact C0 Gnd fun hm=>by have:=lbl _ hm;omega
    ·rw[ami] at h;have h'':k<(Yu (Zg a) i).length:=by rw[<-Ig];exact h'
     have hko:(Yu (Zg a) (i+1))[k]=(Yu (Zg a) i)[k]:=by simp only[Ig]
     rw[hko];by_cases nT:k=j
     ·subst nT;rw[List.getElem_set_self,hje,ib];refine⟨by omega,by simp only[Z',Z_];omega,?_⟩;rw[Z9,if_neg (by omega),Z7,Z',Z_,if_pos rfl]
     ·rw[List.getElem_set_ne (fun e=>nT e.symm)];obtain⟨d1,d2,d3⟩:=wX k h h'';have ZC:bl[k]≠bl[j]:=fun e=>nT ((List.getElem_inj Gnd).1 e)
      have TI:(Yu (Zg a) i)[k]≠Zg a i:=fun e=>nT ((List.getElem_inj (PD (Zg a) i)).1 (e.trans hje.symm))
      refine⟨d1,by simp only[Z',Z_];omega,?_⟩;rw[R_ _ _ _ _ (by omega) (by omega) ZC,old _ d2,d3,Kr,if_neg (fun e=>TI e.symm)]
    ·rw[Ig];refine eK.XS (by simp only[Z',Z_];omega) fun k c h1 h2 h3=>?_
     rw[R_ _ _ _ k (by omega) (by omega) (fun e=>by rw[e,b3] at h1;cases h1),old k h2];exact h1
   ·have EH:=DN (len:=fun k=>(RU (Zg a) k i).length) (bs:=bl) Ue;rw[EH] at lk;simp only[Option.getD_none] at lk;have hg0:RU (Zg a) (Zg a i) i=[]:=by
     refine List.eq_nil_iff_forall_not_mem.2 fun u hu=>Ue ?_
     obtain⟨h1,h2⟩:=(PE _ _ _ _).1 hu;exact (Tj _ _ _).2 ⟨u,h1,h2⟩
    have hvo:ZK s3 (m+1) 9 1 (Yu (Zg a) i).length (strs (Yu (Zg a) i)) vo:=eK.XS (by omega) fun k c h1 h2 h3=>by rw[old k h2];exact h1
    have akA:ZK (s3.new (.cells [.str (Zg a i)] 9 false 0 0)) (m+1) 9 1 (Yu (Zg a) i).length (strs (Yu (Zg a) i)) vo:=hvo.XS (by rw[Z_];omega) fun k c h1 h2 h3=>by rw[Z7,if_neg (by omega)];exact h1
    obtain⟨s5,d1,d2,d3,d4,d5,d6⟩:=akA.wC (by rw[Z_];omega) (.str (Zg a i)) rfl;rw[Z_] at d1 d2 d3 d4;have la:=hvo.Xj;have tM:=GV (Zg a) i;have UP:((Yu (Zg a) i).length+1)*16<=1099511627776:=by omega
    have VP:(Yu (Zg a) i).length+1<=1099511627776:=by omega
    simp only[go_sem,p4,p5,p8,ta,c1,um,lk,ZH,Nat.reducePow,amk,UP,VP,la];rw[d1];have v5m:s5.get m=some (.map (xF (SP (fun k=>(RU (Zg a) k i).length) (Yu (Zg a) i) bl)) false):=by rw[d5 m (by omega),Z7,if_neg (by omega)];exact um
    have z1:(s5.next=m)=False:=by simp;omega
    have z2:(s5.next+1=m)=False:=by simp;omega
    simp only[go_sem,p4,p6,p30,v5m,lk,up,ZH,Nat.reducePow,amk,Rm,z1,z2];have Ig:Yu (Zg a) (i+1)=Yu (Zg a) i++[Zg a i]:=by rw[Yu,if_neg Ue]
    have lV:RU (Zg a) (Zg a i) (i+1)=[i]:=by rw[ib,hg0];rfl
    have agY:∀k,k≠Zg a i->RU (Zg a) k (i+1)=RU (Zg a) k i:=fun k TI=>by rw[Kr,if_neg (fun e=>TI (Eq.symm e))]
    have zT:=zX (len:=fun k=>(RU (Zg a) k i).length) (M7:=fun k=>(RU (Zg a) k (i+1)).length) (bs:=bl) (b':=s5.next+1) Ue wY (fun k hk=>by
     have:k≠Zg a i:=fun e=>Ue (e ▸ hk)
     simp only[agY k this])
    simp only[lV,alW] at zT;rw[zT];have R_:∀x y k,k<s5.next->k≠m->(((s5.new x).new y).put m (.map (xF (SP (fun k=>(RU (Zg a) k (i+1)).length) (Yu (Zg a) i++[Zg a i]) (bl++[s5.next+1]))) false)).get k=s5.get k:=fun x y k h1 h2=>by
     rw[Z9,if_neg h2.symm,Z7,Z_,if_neg (by omega),Z7,if_neg (by omega)]
    have akB:∀k,k<m->s5.get k=s'.get k:=fun k hk=>by rw[d5 k (by omega),Z7,if_neg (by omega),old k (by omega)]
    have akC:∀k c,s'.get k=some (.cells c 3 false 0 0)->k<s'.next->s5.get k=some (.cells c 3 false 0 0):=fun k c h1 h2=>d4 k c 3 0 0 (by rw[Z7,if_neg (by omega),old k h2];exact h1) (by omega) (by decide)
    have lbl:∀x∈bl,x<s'.next:=fun x hx=>by
     obtain⟨k,Jd,rfl⟩:=alP.1 hx;exact (wX k Jd (by omega)).2.1
    refine IH (i+1) _ _ (by omega) ⟨by omega,fun t ht=>?_,?_,?_,?_,fun k hk=>?_,by simp only[Z',Z_];omega,(((d6 (c3.new _)).new _).new _).put (by simp only[Z_];omega) _,bl++[s5.next+1],.sl (s3.next+1) 0 ((Yu (Zg a) i).length+1) none 1,?_,⟨?_,?_,?_,fun k h h'=>?_,?_⟩⟩
    ·have ZC:∀k:Nat,6<=k->(k=t)=False:=fun k hk=>by simp;omega
     have acZ:(5=t)=False:=by simp;omega
     simp only[go_sem,ZC,acZ];exact pl t ht
    ·simp only[go_sem,p28]
    ·simp only[go_sem,p29]
    ·simp only[go_sem]
    ·rw[R_ _ _ k (by omega) (by omega),akB k hk,hs k hk]
    ·simp only[go_sem]
    ·rw[Z9,if_pos rfl,Ig]
    ·rw[Ig,agy,agy,wY];rfl
    ·rw[List.nodup_append];refine⟨Gnd,by simp,fun x hx y hy=>?_⟩;rw[ake.1 hy];have:=lbl x hx;omega
    ·by_cases hkb:k<bl.length
     ·obtain⟨e1,e2,e3⟩:=wX k hkb (by omega);have hko:(Yu (Zg a) (i+1))[k]=(Yu (Zg a) i)[k]'(by omega):=by simp only[Ig];rw[al2 (by omega)]
      have TI:(Yu (Zg a) i)[k]'(by omega)≠Zg a i:=fun e=>Ue (e ▸ adm (by omega))
      rw[hko,al2 hkb,agY _ TI];refine⟨e1,by simp only[Z',Z_];omega,?_⟩;rw[R_ _ _ _ (by omega) (by omega)];exact akC _ _ e3 e2
     ·have NA:k=bl.length:=by rw[agy,alW] at h;omega
      subst NA;have hko:(Yu (Zg a) (i+1))[bl.length]=Zg a i:=by simp only[Ig];rw[al5 (by omega)];simp
      rw[hko,al5 (by omega),lV];simp only[amC];refine⟨by omega,by simp only[Z',Z_];omega,?_⟩;rw[Z9,if_neg (by omega),Z7,Z_,if_pos rfl];rfl
    ·have e1:(Yu (Zg a) (i+1)).length=(Yu (Zg a) i).length+1:=by rw[Ig];simp
     have e2:strs (Yu (Zg a) (i+1))=strs (Yu (Zg a) i)++[.str (Zg a i)]:=by rw[Ig];simp[strs]
     rw[e1,e2];refine d3.XS (by simp only[Z',Z_];omega) fun k c h1 h2 h3=>?_
     rw[R_ _ _ k (by omega) (by omega)];exact h1
  case refine_6=>exact Xx.new _
  case refine_5 =>
   refine⟨.Vk,.ZW,?_,.inl rfl,by rw[Z_];omega,ZK.nil _ _ _ _⟩;rw[Z7,if_pos rfl]
  all_goals simp only[go_sem]
  all_goals rfl
 ·have:i=a.ZD.length:=by omega
  subst this;simp only[go_sem,Hv,q29,q30,Z8,alh];rw[MB] at G;refine hk _ _ bl vo (fun t ht=>?_) ?_ G hs Vl Xx
  ·have ZC:∀k:Nat,6<=k->(k=t)=False:=fun k hk=>by simp;omega
   simp only[go_sem,ZC];exact hold t ht
  ·simp only[go_sem,q5]
end Go.Am
