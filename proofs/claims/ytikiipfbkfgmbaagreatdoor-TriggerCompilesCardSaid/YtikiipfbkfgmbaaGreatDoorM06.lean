/- A part of the proof of a statement of this seat: the machine on which the program is read, and what it computes; for every input. -/
import Derived.Test.YtikiipfbkfgmbaaGreatDoorM04
import Derived.Test.YtikiipfbkfgmbaaGreatDoorM05
import Derived.Test.YtikiipfbkfgmbaaGreatDoorM00
set_option linter.all false
namespace Go.Am
open Go
variable [Z4]
set_option maxRecDepth 100000
set_option maxHeartbeats 8000000
theorem gJ:isS (Yg U (exec U 100000) 127 [.int .i64 (-1)] true) [45,49]=true:=by kernel_rfl
def Bf (n:Int):XV:=bif decide (n<0) then [45,49] else dg n
theorem aad (n:Int)(h0 : -1<=n)(h1:n<=255):ZE U 127 [.int .i64 n]=some (.str (Bf n)):=by
 unfold Bf;by_cases h:n<0
 ·have:n = -1:=by omega
  subst this;exact VL (by kernel_rfl) rfl (Za U (n:=100000) (iq gJ))
 ·rw[decide_eq_false h];exact akk n (by omega) h1
theorem aU:((List.range 256).all fun n=>Nat.ble 1 (TJ n).length&&Nat.ble (TJ n).length 3&&(TJ n).all (fun c=>!(c==32)&&!(c==45))&&((List.range 256).all fun m=>!(TJ n==TJ m)||Nat.beq n m))=true:=by kernel_rfl
theorem Qm {n:Int}(h0 : -1<=n)(h1:n<=255):Bf n≠[]/\(Bf n).length<=3/\(32:UInt8)∉Bf n/\∀m:Int,-1<=m->m<=255->Bf n=Bf m->n=m:=by
 have key:∀k:Nat,k<256->dg (k:Int)=TJ k:=fun k hk=>by
  unfold dg;rw[amn,yg k (by omega)]
 have Xa:=alK.1 aU;have hx:∀k:Nat,k<256->1<=(TJ k).length/\(TJ k).length<=3/\(32:UInt8)∉TJ k/\(45:UInt8)∉TJ k/\∀m,m<256->TJ k=TJ m->k=m:=fun k hk=>by
  have h:=Xa k (al4.2 hk);simp only[agw] at h;obtain⟨⟨⟨a1,a2⟩,a3⟩,a4⟩:=h;have a3:=alK.1 a3;refine⟨Nat.le_of_ble_eq_true a1,Nat.le_of_ble_eq_true a2,fun hm=>?_,fun hm=>?_,fun m hm e=>?_⟩
  ·have:=a3 _ hm;simp at this
  ·have:=a3 _ hm;simp at this
  ·have:=alK.1 a4 m (al4.2 hm);rw[e] at this;simp at this;exact Nat.eq_of_beq_eq_true (by simpa using this)
 by_cases h:n<0
 ·have:n = -1:=by omega
  subst this;refine⟨by decide,by decide,by decide,fun m m0 m1 e=>?_⟩;by_cases hm:m<0
  ·omega
  ·obtain⟨k,rfl⟩:=Int.eq_ofNat_of_zero_le (show 0<=m by omega);have e2:Bf (k:Int)=TJ k:=by unfold Bf;rw[decide_eq_false hm];exact key k (by omega)
   rw[e2] at e;have h45:=(hx k (by omega)).2.2.2.1;rw[<-e] at h45;exact absurd (by decide) h45
 ·obtain⟨j,rfl⟩:=Int.eq_ofNat_of_zero_le (show 0<=n by omega);have e1:Bf (j:Int)=TJ j:=by unfold Bf;rw[decide_eq_false h];exact key j (by omega)
  obtain⟨b1,b2,b3,b4,b5⟩:=hx j (by omega);rw[e1];refine⟨fun e=>by rw[e] at b1;simp at b1,b2,b3,fun m m0 m1 e=>?_⟩;by_cases hm:m<0
  ·have:m = -1:=by omega
   subst this;rw[e] at b4;exact absurd (by decide) b4
  ·obtain⟨k,rfl⟩:=Int.eq_ofNat_of_zero_le (show 0<=m by omega);have e2:Bf (k:Int)=TJ k:=by unfold Bf;rw[decide_eq_false hm];exact key k (by omega)
   rw[e2] at e;rw[b5 k (by omega) e]
def Qn (L:List Int):XV:=L.flatMap fun n=>Bf n++[32]
theorem PZ (n:Int)(L:List Int):Qn (n::L)=Bf n++32::Qn L:=by
 unfold Qn;rw[al7,alS];rfl
theorem gI:∀(a b x y:XV),(32:UInt8)∉a->(32:UInt8)∉b->a++32::x=b++32::y->a=b/\x=y
 |[],[],x,y,_,_,e=>⟨rfl,by simpa using e⟩
 |[],c::b,x,y,_,h,e=>by
  simp at e;exact absurd (by rw[<-e.1];exact aba ..) h
 |c::a,[],x,y,h,_,e=>by
  simp at e;exact absurd (by rw[e.1];exact aba ..) h
 |c::a,d::b,x,y,h,h',e=>by
  simp only[alU,List.cons.injEq] at e;obtain⟨e1,e2⟩:=gI a b x y (fun hm=>h (aab _ hm)) (fun hm=>h' (aab _ hm)) e.2;exact⟨by rw[e.1,e1],e2⟩
def r7 (L:List Int):Prop:=∀n∈L,-1<=n/\n<=255
theorem xT:∀(L M:List Int),r7 L->r7 M->Qn L=Qn M->L=M
 |[],[],_,_,_=>rfl
 |[],m::M,_,_,e=>by
  rw[PZ] at e;have:=congrArg List.length e;simp[Qn] at this
 |n::L,[],_,_,e=>by
  rw[PZ] at e;have:=congrArg List.length e;simp[Qn] at this
 |n::L,m::M,h,h',e=>by
  rw[PZ,PZ] at e;obtain⟨a1,a2⟩:=h n (aba ..);obtain⟨b1,b2⟩:=h' m (aba ..);obtain⟨_,_,c3,c4⟩:=Qm a1 a2;obtain⟨_,_,d3,_⟩:=Qm b1 b2;obtain⟨e1,e2⟩:=gI _ _ _ _ c3 d3 e;rw[c4 m b1 b2 e1,xT L M (fun x hx=>h x (aab _ hx)) (fun x hx=>h' x (aab _ hx)) e2]
theorem Oy:∀(L:List Int),r7 L->(Qn L).length<=L.length*4
 |[],_=>by simp[Qn]
 |n::L,h=>by
  obtain⟨a1,a2⟩:=h n (aba ..);have:=(Qm a1 a2).2.1;have h2:=Oy L fun x hx=>h x (aab _ hx)
  rw[PZ,agy,akd,akd];omega
theorem zV (L:List Int)(n:Int):Qn (L++[n])=(Qn L++Bf n)++[32]:=by
 unfold Qn;simp
def GK:RC:=(sQ (sO [om 34 9,om 35 7,YO 36 35,YW 37 3 34 36] (cS 37 (.exit 2))) (sQ (.block 3 (sQ (.TP 15 [om 40 3,ZX 41 1 1,Z0 42 41,om 43 4,om 44 6,Zk 45 1 43 44,Z0 46 45,Zk 47 1 42 46,Z0 48 47,om 49 9,Zk 50 1 48 49,Z0 51 50,Zk 52 1 40 51,Z0 53 52,om 10 53]) (sQ (sO [om 54 4,om 55 10,YV 56 107 54 55,DP 57 3 56 0] (cT 57 (oP [om 58 4,om 59 10,RQ 60 3 1 1 0 0 1 59,WZ 61 3 1 8 58 60,om 4 61]))) (sO [om 62 7,om 63 9,om 64 4,om 65 10,YV 66 107 64 65,Zk 67 1 62 63,YU 1 67 66] (.TP 15 [om 68 8,om 69 9,ZX 70 2 1,Z0 71 70,om 72 4,om 73 6,Zk 74 1 72 73,Z0 75 74,Zk 76 1 71 75,Z0 77 76,om 78 9,Zk 79 1 77 78,Z0 80 79,Zk 81 1 68 69,⟨none,none,none,true,.st 1 (.t 81) (.t 80)⟩]))))) (oP [om 38 9,YT 39 3 38 1,om 9 39])))
def Ca:RC:=(sQ (sO [om 20 6,om 21 4,YO 22 21,YW 23 3 20 22] (cS 23 (.exit 0))) (sQ (.block 1 (sO [ZX 26 0 1,Z0 27 26,MS 28 3 1 27,Lg 29 40 28 28,om 7 29] (sO [ZX 30 0 1,Z0 31 30,MS 32 3 1 31,Lg 33 43 32 32,om 8 33] (sQ (sO [ZA 9 0] (.block 2 (.loop GK))) (sO [ZX 82 1 5,Z0 83 82,om 84 7,o 85 (.U3 40 1 1 [.ZW] [(0,1,(.t 84))]),WZ 86 40 1 24 83 85,ZX 87 1 5,YU 1 87 86] (oP [ZX 88 2 5,Z0 89 88,om 90 8,o 91 (.U3 43 1 1 [.ZW] [(0,1,(.t 90))]),WZ 92 43 1 24 89 91,ZX 93 2 5,YU 1 93 92])))))) (oP [om 24 6,YT 25 3 24 1,om 6 25])))
def r41:RC:=(sO [Zp 1 72 0,Tg 2 0 72] (sO [Zr 11 3 1,YN 12 106 11,om 3 12] (sO [om 13 3,o 14 (.Jb 1 (.t 13) (vI 0)),Z0 15 14,RQ 16 3 1 1 0 0 1 15,om 4 16] (sO [ZX 17 0 1,Z0 18 17,tw 19 0 0 1 18,Tg 5 0 72,YU 3 5 19] (sQ (sO [ZA 6 0] (.block 0 (.loop Ca))) (sO [Zr 94 3 5,YU 3 2 94] .ret))))))
theorem k41:Ze 41=some ([.cell 2 72],r41):=by kernel_rfl
def r43:RC:=(sO [Zp 4 69 0,Zp 7 72 3,Zc 8] (sQ (sO [om 9 2,Qq 10 3 9 0] (cT 10 (sO [Zr 11 3 4,tu 12 0,YV 13 60 11 12,om 14 13,YE 15 14 1,YE 16 14 2,Ja 17 14 3 15 16,Zj 18 14 17,om 8 18] .ret))) (sO [om 19 1,VT 20 26 19 0,om 21 20,Tf 22 21 3 4,Tf 23 21 3 7,WY 24 21 60 22 23,Zj 25 21 24,om 8 25] .ret)))
theorem k43:Ze 43=some ([.tmp 8],r43):=by kernel_rfl
def xl:RC:=(sQ (sO [om 31 5,ZX 32 1 2,Z0 33 32,YO 34 33,YW 35 3 31 34] (cS 35 (.exit 0))) (sQ (.block 1 (sQ (.TP 12 [ZX 38 1 2,Z0 39 38,om 40 5,Zk 41 1 39 40,Z0 42 41,ZX 43 1 3,Z0 44 43,om 45 5,Zk 46 1 44 45,Z0 47 46,YV 48 109 42 47,Wh 49 48]) (cT 49 (sO [Zc 4] .ret)))) (oP [om 36 5,YT 37 3 36 1,om 5 37])))
def xj:RC:=(sQ (sO [om 70 7,ZX 71 2 2,Z0 72 71,om 73 6,Zk 74 1 72 73,Z0 75 74,YO 76 75,YW 77 3 70 76] (cS 77 (.exit 4))) (sQ (.block 5 (sQ (.TP 17 [ZX 80 2 2,Z0 81 80,om 82 6,Zk 83 1 81 82,Z0 84 83,om 85 7,Zk 86 1 84 85,Z0 87 86,ZX 88 2 3,Z0 89 88,om 90 6,Zk 91 1 89 90,Z0 92 91,om 93 7,Zk 94 1 92 93,Z0 95 94,OD 96 4 87 95]) (cT 96 (sO [Zc 4] .ret)))) (oP [om 78 7,YT 79 3 78 1,om 7 79])))
def xk:RC:=(sQ (sO [om 50 6,ZX 51 2 2,Z0 52 51,YO 53 52,YW 54 3 50 53] (cS 54 (.exit 2))) (sQ (.block 3 (sQ (sQ (.TP 13 [ZX 57 2 2,Z0 58 57,om 59 6,Zk 60 1 58 59,Z0 61 60,YO 62 61,ZX 63 2 3,Z0 64 63,om 65 6,Zk 66 1 64 65,Z0 67 66,YO 68 67,OD 69 3 62 68]) (cT 69 (sO [Zc 4] .ret))) (sO [ZA 7 0] (.block 4 (.loop xj))))) (oP [om 55 6,YT 56 3 55 1,om 6 56])))
def r60:RC:=(sO [Zp 2 72 0,Zp 3 72 1,Zc 4] (sQ (sO [ZX 8 0 2,Z0 9 8,ZX 10 0 3,Z0 11 10,OD 12 3 9 11,om 13 12,VM 14 13 1 2,XH 15 13 14,oF 16 13 (.SW (.t 15)),VM 17 13 1 3,XH 18 13 17,oF 19 13 (.SW (.t 18)),Ag 20 13 3 16 19,Yo 21 13 20,om 22 21,VM 23 22 2 2,XH 24 22 23,oF 25 22 (.SW (.t 24)),VM 26 22 2 3,XH 27 22 26,oF 28 22 (.SW (.t 27)),Ag 29 22 3 25 28,Yo 30 22 29] (cT 30 (sO [Zc 4] .ret))) (sQ (sO [ZA 5 0] (.block 0 (.loop xl))) (sQ (sO [ZA 6 0] (.block 2 (.loop xk))) (sO [Un 4] .ret)))))
theorem k60:Ze 60=some ([.tmp 4],r60):=by kernel_rfl
def Nk:RC:=(sQ (sO [om 38 10,ZX 39 0 1,Z0 40 39,MS 41 3 1 40,YW 42 3 38 41] (cS 42 (.exit 6))) (sQ (.block 7 (.TP 46 [om 45 9,om 46 45,Zb 47 46 2 1,YJ 48 46 47,YE 49 46 7,Qc 50 46 1 48 49,YJ 51 46 50,YE 52 46 10,Qc 53 46 1 51 52,YJ 54 46 53,Zb 55 46 2 1,YJ 56 46 55,YE 57 46 8,Qc 58 46 1 56 57,YJ 59 46 58,YE 60 46 10,Qc 61 46 1 59 60,YJ 62 46 61,Ja 63 46 4 54 62,Zj 64 46 63,om 65 64,YE 66 65 4,Zb 67 65 1 1,YJ 68 65 67,YE 69 65 7,Qc 70 65 1 68 69,YJ 71 65 70,YE 72 65 10,Qc 73 65 1 71 72,YJ 74 65 73,Qc 75 65 1 66 74,YJ 76 65 75,YE 77 65 4,Zb 78 65 1 1,YJ 79 65 78,YE 80 65 8,Qc 81 65 1 79 80,YJ 82 65 81,YE 83 65 10,Qc 84 65 1 82 83,YJ 85 65 84,Qc 86 65 1 77 85,YJ 87 65 86,Ja 88 65 3 76 87,Zj 89 65 88,om 9 89])) (oP [om 43 10,YT 44 3 43 1,om 10 44])))
def HO:RC:=(sQ (sO [om 34 8,o 35 (.bin .geq 3 true (.t 34) (vI 0))] (cS 35 (.exit 4))) (sQ (.block 5 (sO [Un 9] (sQ (sO [ZA 10 0] (.block 6 (.loop Nk))) (sO [om 90 9] (cT 90 (oP [om 91 6,om 92 7,om 93 8,Zk 94 1 91 92,YU 1 94 93])))))) (oP [om 36 8,O8 37 3 36 1,om 8 37])))
def HM:RC:=(sQ (sO [om 23 7,om 24 3,YW 25 3 23 24] (cS 25 (.exit 2))) (sQ (.block 3 (sO [om 28 6,om 29 7,om 30 7,Zk 31 1 28 29,YU 1 31 30] (sO [om 32 7,O8 33 3 32 1,om 8 33] (.block 4 (.loop HO))))) (oP [om 26 7,YT 27 3 26 1,om 7 27])))
def Bw:RC:=(sQ (sO [om 16 5,om 17 3,o 18 (.bin .leq 3 false (.t 16) (.t 17))] (cS 18 (.exit 0))) (sQ (.block 1 (sO [om 21 3,Lg 22 40 21 21,om 6 22] (sQ (sO [ZA 7 0] (.block 2 (.loop HM))) (sQ (sO [om 95 6,om 96 4,YV 97 109 95 96] (cT 97 (sO [om 98 4,om 2 98] .ret))) (oP [om 99 6,om 4 99]))))) (oP [om 19 5,YT 20 3 19 1,om 5 20])))
def af1:RC:=(sO [Zp 1 72 0,VR 2] (sO [ZX 11 1 1,Z0 12 11,YO 13 12,om 3 13] (sO [om 14 3,Lg 15 40 14 14,om 4 15] (sQ (sO [ZA 5 0] (.block 0 (.loop Bw))) (sO [om 100 4,om 2 100] .ret)))))
theorem ajJ:Ze 106=some ([.tmp 2],af1):=by kernel_rfl
def HB:RC:=(sQ (sO [om 6 5,om 7 0,YO 8 7,YW 9 3 6 8] (cS 9 (.exit 0))) (sQ (.block 1 (sO [om 12 0,om 13 5,Zk 14 1 12 13,Z0 15 14,om 16 1,ML 17 3 15 16] (cT 17 (sO [om 18 5,om 4 18] .ret)))) (oP [om 10 5,YT 11 3 10 1,om 5 11])))
def afs:RC:=(sO [ZA 4 0] (sQ (sO [ZA 5 0] (.block 0 (.loop HB))) (sO [o 4 (.O9 (vI (-1)))] .ret)))
theorem ajd:Ze 107=some ([.tmp 4],afs):=by kernel_rfl
def afn:RC:=(sO [VR 2] (sQ (sO [om 3 0,o 4 (.bin .eql 43 true (.t 3) (.v .ZW))] (cT 4 (sO [VR 2] .ret))) (sO [o 5 (.U3 4 1 0 [] []),om 6 0,WZ 7 4 1 1 5 6,om 2 7] .ret)))
theorem ai4:Ze 173=some ([.tmp 2],afn):=by kernel_rfl
def af2:RC:=(sO [VR 2] (sQ (sO [om 3 0,o 4 (.bin .eql 40 true (.t 3) (.v .ZW))] (cT 4 (sO [VR 2] .ret))) (sO [o 5 (.U3 3 1 0 [] []),om 6 0,WZ 7 3 1 8 5 6,om 2 7] .ret)))
theorem ajK:Ze 215=some ([.tmp 2],af2):=by kernel_rfl
def d_:RC:=(sO [Zc 4] (sO [om 9 0,Yb 10 9,ZX 11 2 10,Z0 12 11,om 13 1,Zk 14 1 12 13,Z0 15 14,om 5 15] (sQ (.TP 24 [om 16 0,Yb 17 16,ZX 18 1 17,Z0 19 18,om 20 1,Zk 21 1 19 20,Z0 22 21,om 23 0,Yb 24 23,ZX 25 3 24,Z0 26 25,om 27 5,Zk 28 1 26 27,Z0 29 28,om 30 0,Yb 31 30,ZX 32 5 31,Z0 33 32,om 34 5,Zk 35 1 33 34,Z0 36 35,TK 37 3 29 36,om 6 22,om 7 37]) (sQ (sO [om 38 6,om 39 7,YW 40 3 38 39] (cT 40 (sO [Zc 4] .ret))) (sO [om 41 0,Yb 42 41,ZX 43 0 42,Z0 44 43,om 45 7,Zk 46 1 44 45,Z0 47 46,om 8 47] (sQ (.TP 16 [om 48 0,Yb 49 48,ZX 50 0 49,Z0 51 50,om 52 6,om 53 0,Yb 54 53,ZX 55 0 54,Z0 56 55,om 57 7,om 58 8,om 59 1,Zk 60 1 51 52,⟨none,none,none,true,.st 1 (.t 60) (.t 58)⟩,Zk 61 1 56 57,⟨none,none,none,true,.st 1 (.t 61) (.t 59)⟩]) (sQ (.TP 16 [om 62 0,Yb 63 62,ZX 64 1 63,Z0 65 64,om 66 8,om 67 0,Yb 68 67,ZX 69 1 68,Z0 70 69,om 71 1,om 72 6,om 73 7,Zk 74 1 65 66,⟨none,none,none,true,.st 1 (.t 74) (.t 72)⟩,Zk 75 1 70 71,⟨none,none,none,true,.st 1 (.t 75) (.t 73)⟩]) (sO [om 76 0,Yb 77 76,ZX 78 5 77,Z0 79 78,om 80 5,Zk 81 1 79 80,Z0 82 81,YT 83 3 82 1,Zk 84 1 79 80,YU 1 84 83] (sO [om 85 0,Yb 86 85,ZX 87 5 86,Z0 88 87,om 89 5,Zk 90 1 88 89,Z0 91 90,VT 92 3 91 1,om 4 92] .ret)))))))))
theorem aip:Ze 216=some ([.tmp 4],d_):=by kernel_rfl
end Go.Am
namespace Go.Am
open Go
variable [Z4]
set_option maxRecDepth 100000
set_option maxHeartbeats 4000000
def SV (a:Yi):AV:=ZG a.TH (a.next.map Zn)
def Vy (a:Yi):AV:=ZG a.S6 (a.ZD.map Zv)
theorem WJ (a:Yi):Wd a=.agg [.int .i64 a.lines,SV a,Vy a]:=rfl
theorem VJ (a:Yi):still (Wd a)=true:=by simp[Wd,still,ZU,X7]
theorem Sf {nl:Bool}{l:List (Bool×List Int)}{i:Nat}(h:i<l.length):Ud 1 (ZG nl (l.map Zn)) (.int .i64 (i:Int))=some (.fp [ZG l[i].1 (ints l[i].2)] 0):=by
 have:=Vr 1 nl (l.map Zn) .i64 i (Zn l[i]) (by omega) (by rw[amn,alV,aaa h];rfl) (by rw[Zn,Zu];rfl) (by decide);rw[Zn,Zu] at this;exact this
theorem Se {nl:Bool}{l:List (Bool×List Bool)}{i:Nat}(h:i<l.length):Ud 1 (ZG nl (l.map Zv)) (.int .i64 (i:Int))=some (.fp [ZG l[i].1 (ZM l[i].2)] 0):=by
 have:=Vr 1 nl (l.map Zv) .i64 i (Zv l[i]) (by omega) (by rw[amn,alV,aaa h];rfl) (by rw[Zv,Zu];rfl) (by decide);rw[Zv,Zu] at this;exact this
theorem F6 {nl:Bool}{l:List Int}{i:Nat}(h:i<l.length):Ud 1 (ZG nl (ints l)) (.int .i64 (i:Int))=some (.fp [.int .i64 l[i]] 0) :=
 Vr 1 nl (ints l) .i64 i (.int .i64 l[i]) (by omega) (by rw[amn,RM,aaa h];rfl) rfl (by decide)
theorem NO {nl:Bool}{l:List Bool}{i:Nat}(h:i<l.length):Ud 1 (ZG nl (ZM l)) (.int .i64 (i:Int))=some (.fp [.bool l[i]] 0) :=
 Vr 1 nl (ZM l) .i64 i (.bool l[i]) (by omega) (by rw[amn,Du,aaa h];rfl) rfl (by decide)
def RA (lines:Int):Int:=2^lines.toNat
end Go.Am
namespace Go.Am
open Go
structure Fa where
 n:Nat
 m:Nat
 nx:Nat->Nat->Nat
 fr:Nat->Nat->Bool
structure Fa.ok (A:Fa):Prop where
 pos:0<A.n
 lt:∀s x,s<A.n->x<A.m->A.nx s x<A.n
def Fa.E (A:Fa)(f:Nat->Nat)(u v:Nat):Prop:=∀x,x<A.m->A.fr u x=A.fr v x/\f (A.nx u x)=f (A.nx v x)
theorem Fa.adn (A:Fa)(f:Nat->Nat)(u:Nat):A.E f u u:=fun _ _=>⟨rfl,rfl⟩
theorem Fa.E.symm {A:Fa}{f:Nat->Nat}{u v:Nat}(h:A.E f u v):A.E f v u:=fun x hx=>⟨(h x hx).1.symm,(h x hx).2.symm⟩
theorem Fa.E.trans {A:Fa}{f:Nat->Nat}{u v w:Nat}(h:A.E f u v)(k:A.E f v w):A.E f u w:=fun x hx=>⟨(h x hx).1.trans (k x hx).1,(h x hx).2.trans (k x hx).2⟩
def Bq (A:Fa)(f:Nat->Nat)(u v:Nat):Nat->Bool
 |0=>true
 |x+1=>Bq A f u v x&&(A.fr u x==A.fr v x&&f (A.nx u x)==f (A.nx v x))
theorem xR (A:Fa)(f:Nat->Nat)(u v:Nat):∀k,Bq A f u v k=true<->∀x,x<k->A.fr u x=A.fr v x/\f (A.nx u x)=f (A.nx v x)
 |0=>by simp[Bq]
 |k+1=>by
  rw[Bq,agw,xR A f u v k,agw,beq_iff_eq,beq_iff_eq]
  constructor
  ·rintro⟨h1,h2⟩ x hx;by_cases e:x=k
   ·subst e;exact h2
   ·exact h1 x (by omega)
  ·intro h;exact⟨fun x hx=>h x (by omega),h k (by omega)⟩
def alk (A:Fa)(f:Nat->Nat)(u v:Nat):Bool:=Bq A f u v A.m
theorem rP (A:Fa)(f:Nat->Nat)(u v:Nat):alk A f u v=true<->A.E f u v:=xR A f u v A.m
def O' (al:Nat->Bool):Nat->Nat->Nat
 |0,c=>c
 |k+1,c=>O' al k (bif al k then k else c)
theorem LU (al:Nat->Bool):∀k c,k<=c->(O' al k c<=c)/\(O' al k c=c\/(O' al k c<k/\al (O' al k c)=true))/\∀o,o<k->o<O' al k c->al o=false
 |0,c,_=>⟨agB _,.inl rfl,fun o h=>by omega⟩
 |k+1,c,hk=>by
  rw[O']
  cases ha:al k with
  |true =>
   obtain⟨h1,h2,h3⟩:=LU al k k (agB _);simp only[cond_true];refine⟨by omega,.inr ?_,fun o ho hs=>h3 o (by omega) hs⟩;rcases h2 with h2|⟨h2,h4⟩
   ·rw[h2];exact⟨by omega,ha⟩
   ·exact⟨by omega,h4⟩
  |false =>
   obtain⟨h1,h2,h3⟩:=LU al k c (by omega);simp only[cond_false];refine⟨h1,?_,fun o ho hs=>?_⟩
   ·rcases h2 with h2|⟨h2,h4⟩
    ·exact .inl h2
    ·exact .inr ⟨by omega,h4⟩
   ·by_cases e:o=k
    ·subst e;exact ha
    ·exact h3 o (by omega) hs
def Vs (A:Fa)(f:Nat->Nat)(s:Nat):Nat:=O' (alk A f s) s s
theorem Sk (A:Fa)(f:Nat->Nat)(s:Nat):Vs A f s<=s/\A.E f s (Vs A f s)/\∀o,o<Vs A f s->¬A.E f s o:=by
 obtain⟨h1,h2,h3⟩:=LU (alk A f s) s s (agB _);refine⟨h1,?_,fun o ho he=>?_⟩
 ·rcases h2 with h2|⟨_,h2⟩
  ·show A.E f s (O' _ s s);rw[h2];exact A.adn f s
  ·exact (rP A f _ _).1 h2
 ·have:=h3 o (by unfold Vs at ho;omega) ho;rw[(rP A f _ _).2 he] at this
  cases this
theorem Kn (A:Fa)(f:Nat->Nat)(u v:Nat):Vs A f u=Vs A f v<->A.E f u v:=by
 obtain⟨u1,u2,u3⟩:=Sk A f u;obtain⟨v1,v2,v3⟩:=Sk A f v
 constructor
 ·intro h;rw[h] at u2;exact u2.trans v2.symm
 ·intro h;have a:¬Vs A f u<Vs A f v:=fun hl=>v3 _ hl (h.symm.trans u2)
  have b:¬Vs A f v<Vs A f u:=fun hl=>u3 _ hl (h.trans v2)
  omega
structure Can (g:Nat->Nat):Prop where
 le:∀s,g s<=s
 fix:∀s,g (g s)=g s
theorem Can.min {g:Nat->Nat}(h:Can g){s u:Nat}(e:g u=g s):g s<=u:=by rw[<-e];exact h.le u
theorem E_ (A:Fa)(f:Nat->Nat):Can (Vs A f):=⟨fun s=>(Sk A f s).1,fun s=>((Kn A f _ _).2 (Sk A f s).2.1).symm⟩
def aS (g f:Nat->Nat):Prop:=∀u v,g u=g v->f u=f v
theorem oy (A:Fa){f:Nat->Nat}(h:aS (Vs A f) f):aS (Vs A (Vs A f)) (Vs A f):=fun u v e=>by
 rw[Kn] at e ⊢;exact fun x hx=>⟨(e x hx).1,h _ _ (e x hx).2⟩
def NU (g:Nat->Nat):Nat->Nat
 |0=>0
 |k+1=>NU g k+if g k=k then 1 else 0
theorem rO (g:Nat->Nat):∀k,NU g k<=k
 |0=>agB _
 |k+1=>by have:=rO g k;rw[NU];split <;> omega
theorem CO {g h:Nat->Nat}(H:∀s,g s=s->h s=s):∀k,NU g k<=NU h k
 |0=>agB _
 |k+1=>by
  have:=CO H k;rw[NU,NU];by_cases e:g k=k
  ·rw[if_pos e,if_pos (H k e)];omega
  ·rw[if_neg e];split <;> omega
theorem rN {g h:Nat->Nat}(H:∀s,g s=s->h s=s){t:Nat}(h1:h t=t)(h2:g t≠t):∀k,t<k->NU g k<NU h k
 |k+1,hk=>by
  rw[NU,NU];by_cases e:t=k
  ·subst e;have:=CO H t;rw[if_neg h2,if_pos h1];omega
  ·have:=rN H h1 h2 k (by omega);by_cases e:g k=k
   ·rw[if_pos e,if_pos (H k e)];omega
   ·rw[if_neg e];split <;> omega
theorem grow {g h:Nat->Nat}(cg:Can g)(ch:Can h)(hf:aS h g){n s:Nat}(hs:s<n)(ZC:h s≠g s):NU g n<NU h n:=by
 refine rN (t:=h s) (fun u hu=>?_) (ch.fix s) (fun e=>?_) n (amw (ch.le s) hs)
 ·have:=hf (h u) u (ch.fix u);have:=cg.min this;have:=ch.le u;omega
 ·have:=hf (h s) s (ch.fix s);exact ZC (by omega)
def O5 (g f:Nat->Nat):Nat->Bool
 |0=>true
 |k+1=>O5 g f k&&g k==f k
theorem Nj (g f:Nat->Nat):∀k,O5 g f k=true<->∀s,s<k->g s=f s
 |0=>by simp[O5]
 |k+1=>by
  rw[O5,agw,Nj g f k,beq_iff_eq]
  constructor
  ·rintro⟨h1,h2⟩ s hs;by_cases e:s=k
   ·subst e;exact h2
   ·exact h1 s (by omega)
  ·intro h;exact⟨fun s hs=>h s (by omega),h k (by omega)⟩
def KF (A:Fa):Nat->(Nat->Nat)->Nat->Nat
 |0,f=>f
 |r+1,f=>bif O5 (Vs A f) f A.n then f else KF A r (Vs A f)
theorem xQ {g f:Nat->Nat}{k:Nat}(h:O5 g f k=false):∃s,s<k/\g s≠f s:=by
 refine Classical.byContradiction fun hc=>?_
 have:O5 g f k=true:=(Nj g f k).2 fun s hs=>Classical.byContradiction fun e=>hc ⟨s,hs,e⟩
 rw[h] at this;cases this
theorem IE (A:Fa):∀(r:Nat) (f:Nat->Nat),Can f->aS (Vs A f) f->A.n<NU f A.n+r->∀s,s<A.n->Vs A (KF A r f) s=KF A r f s
 |0,f,_,_,h=>by have:=rO f A.n;omega
 |r+1,f,cf,hf,h=>by
  rw[KF]
  cases hs:O5 (Vs A f) f A.n with
  |true=>exact (Nj _ _ _).1 hs
  |false =>
   obtain⟨s,h1,h2⟩:=xQ hs;have:=grow cf (E_ A f) hf h1 h2;exact IE A r _ (E_ A f) (oy A hf) (by omega)
theorem xP (A:Fa):∀(r:Nat) (f:Nat->Nat),Can f->Can (KF A r f)
 |0,f,h=>h
 |r+1,f,h=>by
  rw[KF]
  cases O5 (Vs A f) f A.n with
  |true=>exact h
  |false=>exact xP A r _ (E_ A f)
structure Bis (A:Fa)(B:Nat->Nat->Prop):Prop where
 lt:∀u v,B u v->u<A.n/\v<A.n
 fr:∀u v,B u v->∀x,x<A.m->A.fr u x=A.fr v x
 nx:∀u v,B u v->∀x,x<A.m->B (A.nx u x) (A.nx v x)
theorem xO {A:Fa}{B:Nat->Nat->Prop}(hB:Bis A B):∀(r:Nat) (f:Nat->Nat),(∀u v,B u v->f u=f v)->∀u v,B u v->KF A r f u=KF A r f v
 |0,f,h=>h
 |r+1,f,h=>by
  rw[KF]
  cases O5 (Vs A f) f A.n with
  |true=>exact h
  |false=>exact xO hB r _ fun u v nQ=>(Kn A f u v).2 fun x hx=>⟨hB.fr u v nQ x hx,h _ _ (hB.nx u v nQ x hx)⟩
def YM (A:Fa):Nat->Nat:=KF A (A.n+1) fun _=>0
theorem WM (A:Fa):Can (YM A):=xP A _ _ ⟨fun _=>aic _,fun _=>rfl⟩
theorem UD {A:Fa}(h:A.ok){u v:Nat}(hu:u<A.n)(hv:v<A.n):YM A u=YM A v<->A.E (YM A) u v:=by
 have h0:0<NU (fun _=>0) A.n:=by
  have:∀k,0<k->0<NU (fun _=>0) k:=by
   intro k hk
   induction k with
   |zero=>omega
   |succ k ih =>
    rw[NU];by_cases e:k=0
    ·subst e;decide
    ·have:=ih (by omega);omega
  exact this _ h.pos
 have st:=IE A (A.n+1) (fun _=>0) ⟨fun _=>aic _,fun _=>rfl⟩ (fun _ _ _=>rfl) (by omega);have e:=Kn A (YM A) u v;rw[<-e];show _<->Vs A (KF A (A.n+1) fun _=>0) u=Vs A (KF A (A.n+1) fun _=>0) v;rw[st u hu,st v hv];rfl
theorem Hg {A:Fa}{B:Nat->Nat->Prop}(hB:Bis A B)(u v:Nat)(h:B u v):YM A u=YM A v:=xO hB _ _ (fun _ _ _=>rfl) u v h
theorem xw {A:Fa}(h:A.ok):Bis A fun u v=>u<A.n/\v<A.n/\YM A u=YM A v :=
 ⟨fun u v k=>⟨k.1,k.2.1⟩,fun u v k x hx=>(((UD h k.1 k.2.1).1 k.2.2) x hx).1,fun u v k x hx=>⟨h.lt u x k.1 hx,h.lt v x k.2.1 hx,(((UD h k.1 k.2.1).1 k.2.2) x hx).2⟩⟩
def gt (l:List Nat)(i:Nat):Nat:=l.getD i 0
theorem TT (l:List Nat)(i x j:Nat):gt (l.set i x) j=if i=j/\j<l.length then x else gt l j:=by
 unfold gt;rw[alM,alM,List.getElem?_set];by_cases e:i=j
 ·subst e;by_cases h:i<l.length
  ·simp[h]
  ·simp[h]
 ·simp[e]
theorem JL (l:List Nat)(x j:Nat):gt (l++[x]) j=if j=l.length then x else gt l j:=by
 unfold gt;rw[alM,alM];by_cases e:j=l.length
 ·subst e;simp
 ·rw[if_neg e];by_cases h:j<l.length
  ·rw[al0 h]
  ·rw[amm (by simp;omega),amm (by omega)]
structure Pt where
 list:List Nat
 place:List Nat
 set:List Nat
 bg:List Nat
 en:List Nat
 mr:List Nat
structure Pt.Wf (n:Nat)(p:Pt):Prop where
 ll:p.list.length=n
 lp:p.place.length=n
 ls:p.set.length=n
 le:p.en.length=p.bg.length
 lm:p.mr.length=p.bg.length
 pl:∀u,u<n->gt p.place u<n/\gt p.list (gt p.place u)=u
 li:∀i,i<n->gt p.list i<n/\gt p.place (gt p.list i)=i
 st:∀u,u<n->gt p.set u<p.bg.length/\gt p.bg (gt p.set u)<=gt p.place u/\gt p.place u<gt p.en (gt p.set u)
 sp:∀k,k<p.bg.length->gt p.bg k<gt p.en k/\gt p.en k<=n/\∀i,gt p.bg k<=i->i<gt p.en k->gt p.set (gt p.list i)=k
 mr:∀k,k<p.bg.length->gt p.bg k+gt p.mr k<=gt p.en k
def Pt.Mk (p:Pt)(u:Nat):Prop:=gt p.place u<gt p.bg (gt p.set u)+gt p.mr (gt p.set u)
instance (p:Pt)(u:Nat):Decidable (p.Mk u):=inferInstanceAs (Decidable (_<_))
def Pt.Wz (p:Pt)(u:Nat):Pt×Bool :=
 bif decide (gt p.place u<gt p.bg (gt p.set u)+gt p.mr (gt p.set u)) then (p,false) else
  ({ p with
   list:=(p.list.set (gt p.place u) (gt p.list (gt p.bg (gt p.set u)+gt p.mr (gt p.set u)))).set (gt p.bg (gt p.set u)+gt p.mr (gt p.set u)) u
   place:=(p.place.set (gt p.list (gt p.bg (gt p.set u)+gt p.mr (gt p.set u))) (gt p.place u)).set u (gt p.bg (gt p.set u)+gt p.mr (gt p.set u))
   mr:=p.mr.set (gt p.set u) (gt p.mr (gt p.set u)+1) },gt p.mr (gt p.set u)+1==1)
theorem MD {n:Nat}{p:Pt}(h:p.Wf n){u:Nat}(hu:u<n):(p.Wz u).1.Wf n/\(p.Wz u).1.set=p.set/\(p.Wz u).1.bg=p.bg/\(p.Wz u).1.en=p.en/\(∀v,v<n->((p.Wz u).1.Mk v<->p.Mk v\/v=u)) /\
  ((p.Wz u).2=true<->gt p.mr (gt p.set u)=0)/\(∀k,k<p.bg.length->(0<gt (p.Wz u).1.mr k<->0<gt p.mr k\/k=gt p.set u)):=by
 obtain⟨QK,S4,xm⟩:=h.st u hu;obtain⟨Jd,BW,hk3⟩:=h.sp _ QK;obtain⟨sV,EF⟩:=h.pl u hu;unfold Pt.Wz;generalize hs:gt p.set u=s at *;generalize ha:gt p.place u=a at *;generalize ht:gt p.bg s+gt p.mr s=t at *;by_cases hm:a<t
 ·rw[decide_eq_true hm,cond_true];refine⟨h,rfl,rfl,rfl,fun v hv=>⟨.inl,?_⟩,?_,fun k hk=>⟨.inl,?_⟩⟩
  ·rintro (h1|rfl)
   ·exact h1
   ·unfold Pt.Mk;rw[hs,ha,ht];exact hm
  ·simp;omega
  ·rintro (h1|rfl)
   ·exact h1
   ·simp only;omega
 ·rw[decide_eq_false hm,cond_false];have BU:t<n:=by omega
  obtain⟨Af,B_⟩:=h.li t BU;have hso:=hk3 t (by omega) (by omega);generalize ho:gt p.list t=o at *;have L:∀i,gt ((p.list.set a o).set t u) i=if i=t then u else if i=a then o else gt p.list i:=fun i=>by
   rw[TT,TT,ami,h.ll];by_cases e1:i=t
   ·subst e1;rw[if_pos ⟨rfl,BU⟩,if_pos rfl]
   ·rw[if_neg (by omega),if_neg e1];by_cases e2:i=a
    ·subst e2;rw[if_pos ⟨rfl,sV⟩,if_pos rfl]
    ·rw[if_neg (by omega),if_neg e2]
  have P:∀v,gt ((p.place.set o a).set u t) v=if v=u then t else if v=o then a else gt p.place v:=fun v=>by
   rw[TT,TT,ami,h.lp];by_cases e1:v=u
   ·subst e1;rw[if_pos ⟨rfl,hu⟩,if_pos rfl]
   ·rw[if_neg (by omega),if_neg e1];by_cases e2:v=o
    ·subst e2;rw[if_pos ⟨rfl,Af⟩,if_pos rfl]
    ·rw[if_neg (by omega),if_neg e2]
  have M:∀k,gt (p.mr.set s (gt p.mr s+1)) k=if k=s then gt p.mr s+1 else gt p.mr k:=fun k=>by
   rw[TT,h.lm];by_cases e:k=s
   ·subst e;rw[if_pos ⟨rfl,QK⟩,if_pos rfl]
   ·rw[if_neg (by omega),if_neg e]
  have hou:o=u<->a=t:=by
   constructor
   ·intro e;rw[e,ha] at B_;exact B_
   ·intro e;rw[<-e,EF] at ho;exact ho.symm
  refine⟨⟨?_,?_,h.ls,h.le,?_,fun v hv=>?_,fun i hi=>?_,fun v hv=>?_,fun k hk=>?_,fun k hk=>?_⟩,rfl,rfl,rfl,fun v hv=>?_,?_,fun k hk=>?_⟩
  ·simp[h.ll]
  ·simp[h.lp]
  ·simp[h.lm]
  ·show gt ((p.place.set o a).set u t) v<n/\gt ((p.list.set a o).set t u) (gt ((p.place.set o a).set u t) v)=v;rw[P v];by_cases e1:v=u
   ·rw[if_pos e1];exact⟨BU,by rw[L,if_pos rfl,e1]⟩
   ·rw[if_neg e1];by_cases e2:v=o
    ·rw[if_pos e2];exact⟨sV,by rw[L,if_neg (fun e=>e1 (e2.trans (hou.2 e))),if_pos rfl,e2]⟩
    ·rw[if_neg e2];obtain⟨q1,q2⟩:=h.pl v hv;refine⟨q1,?_⟩;rw[L,if_neg (fun e=>e2 (by rw[<-q2,e,ho])),if_neg (fun e=>e1 (by rw[<-q2,e,EF])),q2]
  ·show gt ((p.list.set a o).set t u) i<n/\gt ((p.place.set o a).set u t) (gt ((p.list.set a o).set t u) i)=i;rw[L i];by_cases e1:i=t
   ·rw[if_pos e1];exact⟨hu,by rw[P,if_pos rfl,e1]⟩
   ·rw[if_neg e1];by_cases e2:i=a
    ·rw[if_pos e2];exact⟨Af,by rw[P,if_neg (fun e=>e1 (e2.trans (hou.1 e))),if_pos rfl,e2]⟩
    ·rw[if_neg e2];obtain⟨q1,q2⟩:=h.li i hi;refine⟨q1,?_⟩;rw[P,if_neg (fun e=>e2 (by rw[<-q2,e,ha])),if_neg (fun e=>e1 (by rw[<-q2,e,B_])),q2]
  ·show gt p.set v<p.bg.length/\gt p.bg (gt p.set v)<=gt ((p.place.set o a).set u t) v/\gt ((p.place.set o a).set u t) v<gt p.en (gt p.set v);rw[P v];by_cases e1:v=u
   ·rw[if_pos e1,e1,hs];exact⟨QK,by omega,by omega⟩
   ·rw[if_neg e1];by_cases e2:v=o
    ·rw[if_pos e2,e2,hso];exact⟨QK,by omega,by omega⟩
    ·rw[if_neg e2];exact h.st v hv
  ·obtain⟨q1,q2,q3⟩:=h.sp k hk;refine⟨q1,q2,fun i hi1 hi2=>?_⟩;show gt p.set (gt ((p.list.set a o).set t u) i)=k;have:=q3 i hi1 hi2;rw[L i];by_cases e1:i=t
   ·rw[if_pos e1,hs];rw[e1,ho,hso] at this;exact this
   ·rw[if_neg e1];by_cases e2:i=a
    ·rw[if_pos e2,hso];rw[e2,EF,hs] at this;exact this
    ·rw[if_neg e2];exact this
  ·show gt p.bg k+gt (p.mr.set s (gt p.mr s+1)) k<=gt p.en k;rw[M k];by_cases e:k=s
   ·rw[if_pos e,e];omega
   ·rw[if_neg e];exact h.mr k hk
  ·show gt ((p.place.set o a).set u t) v<gt p.bg (gt p.set v)+gt (p.mr.set s (gt p.mr s+1)) (gt p.set v)<->p.Mk v\/v=u;unfold Pt.Mk;rw[P v,M];by_cases e1:v=u
   ·rw[if_pos e1,e1,hs,if_pos rfl];exact⟨fun _=>.inr rfl,fun _=>by omega⟩
   ·rw[if_neg e1];by_cases e2:v=o
    ·have xH:a≠t:=fun e=>e1 (e2.trans (hou.2 e))
     rw[if_pos e2,e2,hso,if_pos rfl,B_]
     constructor
     ·intro hh;exfalso;omega
     ·rintro (hh|hh)
      ·exfalso;omega
      ·exact absurd (e2.trans hh) e1
    ·rw[if_neg e2];by_cases e3:gt p.set v=s
     ·have ZC:gt p.place v≠t:=fun e=>e2 (by rw[<-(h.pl v hv).2,e,ho])
      rw[e3,if_pos rfl]
      constructor
      ·intro hh;exact .inl (by omega)
      ·rintro (hh|hh)
       ·omega
       ·exact absurd hh e1
     ·rw[if_neg e3];exact⟨.inl,fun hh=>hh.resolve_right e1⟩
  ·simp
  ·show 0<gt (p.mr.set s (gt p.mr s+1)) k<->_;rw[M k];by_cases e:k=s
   ·rw[if_pos e];exact⟨fun _=>.inr e,fun _=>by omega⟩
   ·rw[if_neg e];exact⟨.inl,fun hh=>hh.resolve_right e⟩
def Xs (k:Nat):List Nat->List Nat->List Nat
 |[],s=>s
 |u::l,s=>Xs k l (s.set u k)
theorem Mb (k:Nat):∀(l s:List Nat),(Xs k l s).length=s.length
 |[],s=>rfl
 |u::l,s=>by rw[Xs,Mb k l,ami]
theorem Dx (k:Nat):∀(l s:List Nat) (v:Nat),v<s.length->gt (Xs k l s) v=if v∈l then k else gt s v
 |[],s,v,_=>by simp[Xs]
 |u::l,s,v,hv=>by
  rw[Xs,Dx k l _ v (by rw[ami];exact hv),TT];by_cases h1:v∈l
  ·rw[if_pos h1,if_pos (aab _ h1)]
  ·rw[if_neg h1];by_cases h2:u=v
   ·rw[if_pos ⟨h2,hv⟩,if_pos (by rw[h2];exact aba ..)]
   ·rw[if_neg (by omega),if_neg (by simp[h1];omega)]
def piece (l:List Nat)(a b:Nat):List Nat:=(l.drop a).take (b-a)
theorem NR {l:List Nat}{a b x:Nat}(hb:b<=l.length):x∈piece l a b<->∃i,a<=i/\i<b/\gt l i=x:=by
 unfold piece;rw[List.mem_take_iff_getElem]
 constructor
 ·rintro⟨j,hj,e⟩;rw[List.length_drop] at hj;rw[List.getElem_drop] at e;refine⟨a+j,by omega,by omega,?_⟩;unfold gt;rw[alM,aaa (by omega)];exact e
 ·rintro⟨i,h1,h2,e⟩;refine⟨i-a,by rw[List.length_drop];omega,?_⟩;rw[List.getElem_drop];unfold gt at e;rw[alM,aaa (by omega)] at e;simp only[amG] at e;rw[<-e]
  congr 1
  omega
def Pt.cut (p:Pt)(s:Nat):Pt×Bool :=
 bif gt p.mr s==gt p.en s-gt p.bg s then ({ p with mr:=p.mr.set s 0 },false) else
 bif decide (2*gt p.mr s>gt p.en s-gt p.bg s) then
  ({ p with mr:=p.mr.set s 0++[0],bg:=p.bg++[gt p.bg s+gt p.mr s],en:=p.en.set s (gt p.bg s+gt p.mr s)++[gt p.en s],set:=Xs p.bg.length (piece p.list (gt p.bg s+gt p.mr s) (gt p.en s)) p.set },true)
 else
  ({ p with mr:=p.mr.set s 0++[0],bg:=p.bg.set s (gt p.bg s+gt p.mr s)++[gt p.bg s],en:=p.en++[gt p.bg s+gt p.mr s],set:=Xs p.bg.length (piece p.list (gt p.bg s) (gt p.bg s+gt p.mr s)) p.set },true)
structure Cut (n:Nat)(p:Pt)(s:Nat)(r:Pt×Bool):Prop where
 wf:r.1.Wf n
 len:r.1.bg.length=p.bg.length+(bif r.2 then 1 else 0)
 num:∀v,v<n->gt r.1.set v=gt p.set v\/(gt p.set v=s/\gt r.1.set v=p.bg.length/\r.2=true)
 eq:∀u v,u<n->v<n->(gt r.1.set u=gt r.1.set v<->gt p.set u=gt p.set v/\(gt p.set u=s->(p.Mk u<->p.Mk v)))
 mr:∀k,k<p.bg.length->k≠s->gt r.1.mr k=gt p.mr k
 mk0:gt r.1.mr s=0
 mkK:r.2=true->gt r.1.mr p.bg.length=0
 Mk:∀v,v<n->gt p.set v≠s->(r.1.Mk v<->p.Mk v)
theorem zz {n:Nat}{p:Pt}(h:p.Wf n){s:Nat}(hs:s<p.bg.length)(b:Bool){f t f' t':Nat}(hb:gt p.bg s<=f/\f<t/\t<=gt p.en s)(TQ:gt p.bg s<=f'/\f'<t'/\t'<=gt p.en s)
  (hm:∀i,gt p.bg s<=i->i<gt p.en s->((f<=i/\i<t<->(i<gt p.bg s+gt p.mr s<->b=true))/\(f'<=i/\i<t'<->¬(f<=i/\i<t)))){fM EZ:List Nat}
  (Hd:fM.length=p.bg.length)(Ew:EZ.length=p.bg.length)(hbg:∀k,gt fM k=if k=s then f' else gt p.bg k)(hen:∀k,gt EZ k=if k=s then t' else gt p.en k) :
  Cut n p s ({ p with mr:=p.mr.set s 0++[0],bg:=fM++[f],en:=EZ++[t],set:=Xs p.bg.length (piece p.list f t) p.set },true):=by
 obtain⟨k1,k2,k3⟩:=h.sp s hs;have hS:∀v,v<n->gt (Xs p.bg.length (piece p.list f t) p.set) v=if gt p.set v=s/\(p.Mk v<->b=true) then p.bg.length else gt p.set v:=fun v hv=>by
  rw[Dx _ _ _ _ (by rw[h.ls];exact hv)];obtain⟨q1,q2⟩:=h.pl v hv;have hi:v∈piece p.list f t<->gt p.set v=s/\(p.Mk v<->b=true):=by
   rw[NR (by rw[h.ll];omega)]
   constructor
   ·rintro⟨i,h1,h2,rfl⟩;have Ue:i<n:=by omega
    have e:=(h.li i Ue).2;have es:=k3 i (by omega) (by omega);refine⟨es,?_⟩;have:=((hm i (by omega) (by omega)).1).1 ⟨h1,h2⟩;unfold Pt.Mk;rw[e,es];exact this
   ·rintro⟨h1,h2⟩;obtain⟨_,r2,r3⟩:=h.st v hv;rw[h1] at r2 r3;unfold Pt.Mk at h2;rw[h1] at h2;obtain⟨h3,h4⟩:=((hm _ r2 r3).1).2 h2;exact⟨_,h3,h4,q2⟩
  by_cases e:v∈piece p.list f t
  ·rw[if_pos e,if_pos (hi.1 e)]
  ·rw[if_neg e,if_neg fun c=>e (hi.2 c)]
 have hK:∀v,v<n->gt p.set v<p.bg.length:=fun v hv=>(h.st v hv).1
 have hM:∀k,gt (p.mr.set s 0++[0]) k=if k=s\/k=p.bg.length then 0 else gt p.mr k:=fun k=>by
  rw[JL,TT,ami,h.lm];by_cases e1:k=p.bg.length
  ·rw[if_pos e1,if_pos (.inr e1)]
  ·rw[if_neg e1];by_cases e2:k=s
   ·rw[if_pos ⟨e2.symm,by omega⟩,if_pos (.inl e2)]
   ·rw[if_neg (by omega),if_neg (by omega)]
 have hB:∀k,gt (fM++[f]) k=if k=p.bg.length then f else if k=s then f' else gt p.bg k:=fun k=>by rw[JL,Hd,hbg]
 have hE:∀k,gt (EZ++[t]) k=if k=p.bg.length then t else if k=s then t' else gt p.en k:=fun k=>by rw[JL,Ew,hen]
 have Ue:∀v,v<n->gt p.set v=s->((f<=gt p.place v/\gt p.place v<t<->(p.Mk v<->b=true))/\(f'<=gt p.place v/\gt p.place v<t'<->¬(f<=gt p.place v/\gt p.place v<t))):=fun v hv e=>by
  obtain⟨_,r2,r3⟩:=h.st v hv;rw[e] at r2 r3;have:=hm _ r2 r3;unfold Pt.Mk;rw[e];exact this
 refine⟨⟨h.ll,h.lp,by rw[Mb];exact h.ls,by simp[Ew,Hd],by simp[h.lm,Hd],h.pl,h.li,fun v hv=>?_,fun k hk=>?_,fun k hk=>?_⟩,by simp[Hd],fun v hv=>?_,fun u v hu hv=>?_,fun k hk ZC=>?_,?_,fun _=>?_,fun v hv ZC=>?_⟩
 ·show gt (Xs p.bg.length (piece p.list f t) p.set) v<(fM++[f]).length/\gt (fM++[f]) (gt (Xs p.bg.length (piece p.list f t) p.set) v)<=gt p.place v/\gt p.place v<gt (EZ++[t]) (gt (Xs p.bg.length (piece p.list f t) p.set) v);rw[hS v hv,hB,hE,agy,Hd];have hkv:=hK v hv;obtain⟨r1,r2,r3⟩:=h.st v hv;by_cases c:gt p.set v=s/\(p.Mk v<->b=true)
  ·have:=((Ue v hv c.1).1).2 c.2;simp only[if_pos c];exact⟨by simp,this.1,this.2⟩
  ·simp only[if_neg c];have ZC:¬gt p.set v=p.bg.length:=by omega
   rw[if_neg ZC,if_neg ZC];by_cases e:gt p.set v=s
   ·have:=((Ue v hv e).2).2 fun c2=>c ⟨e,((Ue v hv e).1).1 c2⟩
    rw[if_pos e,if_pos e];exact⟨by simp;omega,this.1,this.2⟩
   ·rw[if_neg e,if_neg e];exact⟨by simp;omega,r2,r3⟩
 ·show gt (fM++[f]) k<gt (EZ++[t]) k/\gt (EZ++[t]) k<=n/\∀i,gt (fM++[f]) k<=i->i<gt (EZ++[t]) k->gt (Xs p.bg.length (piece p.list f t) p.set) (gt p.list i)=k;have hk:k<p.bg.length+1:=by simpa[Hd] using hk
  rw[hB,hE];by_cases e1:k=p.bg.length
  ·rw[if_pos e1,if_pos e1];refine⟨hb.2.1,by omega,fun i h1 h2=>?_⟩;obtain⟨q1,q2⟩:=h.li i (by omega);have es:=k3 i (by omega) (by omega);rw[hS _ q1,if_pos ⟨es,((Ue _ q1 es).1).1 (by rw[q2];exact⟨h1,h2⟩)⟩,e1]
  ·rw[if_neg e1,if_neg e1];by_cases e2:k=s
   ·rw[if_pos e2,if_pos e2];refine⟨TQ.2.1,by omega,fun i h1 h2=>?_⟩;obtain⟨q1,q2⟩:=h.li i (by omega);have es:=k3 i (by omega) (by omega);have SX:¬(f<=i/\i<t):=((hm i (by omega) (by omega)).2).1 ⟨h1,h2⟩;rw[hS _ q1,if_neg (fun c=>SX (by have:=((Ue _ q1 es).1).2 c.2;rw[q2] at this;exact this)),es,e2]
   ·rw[if_neg e2,if_neg e2];obtain⟨r1,r2,r3⟩:=h.sp k (by omega);refine⟨r1,r2,fun i h1 h2=>?_⟩;obtain⟨q1,_⟩:=h.li i (by omega);have es:=r3 i h1 h2;rw[hS _ q1,if_neg (fun c=>e2 (es.symm.trans c.1)),es]
 ·show gt (fM++[f]) k+gt (p.mr.set s 0++[0]) k<=gt (EZ++[t]) k;have hk:k<p.bg.length+1:=by simpa[Hd] using hk
  rw[hB,hE,hM];by_cases e1:k=p.bg.length
  ·rw[if_pos e1,if_pos e1,if_pos (.inr e1)];omega
  ·rw[if_neg e1,if_neg e1];by_cases e2:k=s
   ·rw[if_pos e2,if_pos e2,if_pos (.inl e2)];omega
   ·rw[if_neg e2,if_neg e2,if_neg (by omega)];exact h.mr k (by omega)
 ·show gt (Xs p.bg.length (piece p.list f t) p.set) v=_\/_;rw[hS v hv];by_cases c:gt p.set v=s/\(p.Mk v<->b=true)
  ·right
   refine⟨c.1,?_,rfl⟩;rw[if_pos c]
  ·rw[if_neg c];exact .inl rfl
 ·show gt (Xs p.bg.length (piece p.list f t) p.set) u=gt (Xs p.bg.length (piece p.list f t) p.set) v<->_;have hku:=hK u hu;have hkv:=hK v hv;rw[hS u hu,hS v hv];by_cases cu:gt p.set u=s/\(p.Mk u<->b=true)
  ·by_cases cv:gt p.set v=s/\(p.Mk v<->b=true)
   ·rw[if_pos cu,if_pos cv];exact⟨fun _=>⟨cu.1.trans cv.1.symm,fun _=>cu.2.trans cv.2.symm⟩,fun _=>rfl⟩
   ·rw[if_pos cu,if_neg cv]
    constructor
    ·intro e;omega
    ·rintro⟨e1,e2⟩;exact absurd ⟨e1.symm.trans cu.1,(e2 cu.1).symm.trans cu.2⟩ cv
  ·by_cases cv:gt p.set v=s/\(p.Mk v<->b=true)
   ·rw[if_neg cu,if_pos cv]
    constructor
    ·intro e;omega
    ·rintro⟨e1,e2⟩;have es:=e1.trans cv.1;exact absurd ⟨es,(e2 es).trans cv.2⟩ cu
   ·rw[if_neg cu,if_neg cv]
    constructor
    ·intro e;refine⟨e,fun es=>?_⟩;have c1:¬(p.Mk u<->b=true):=fun c=>cu ⟨es,c⟩
     have c2:¬(p.Mk v<->b=true):=fun c=>cv ⟨e.symm.trans es,c⟩
     cases b with
     |true=>simp only[iff_true] at c1 c2;exact⟨fun x=>absurd x c1,fun x=>absurd x c2⟩
     |false =>
      simp only[ali,iff_false,Classical.not_not] at c1 c2;exact⟨fun _=>c2,fun _=>c1⟩
    ·exact fun e=>e.1
 ·show gt (p.mr.set s 0++[0]) k=gt p.mr k;rw[hM,if_neg (by omega)]
 ·show gt (p.mr.set s 0++[0]) s=0;rw[hM,if_pos (.inl rfl)]
 ·show gt (p.mr.set s 0++[0]) p.bg.length=0;rw[hM,if_pos (.inr rfl)]
 ·show gt p.place v<gt (fM++[f]) (gt (Xs p.bg.length (piece p.list f t) p.set) v)+gt (p.mr.set s 0++[0]) (gt (Xs p.bg.length (piece p.list f t) p.set) v)<->p.Mk v;have hkv:=hK v hv;rw[hS v hv,if_neg (fun c=>ZC c.1),hB,hM,if_neg (by omega),if_neg ZC,if_neg (by omega)];rfl
theorem A6 {n:Nat}{p:Pt}(h:p.Wf n){s:Nat}(hs:s<p.bg.length)(hm:0<gt p.mr s):Cut n p s (p.cut s):=by
 obtain⟨k1,k2,k3⟩:=h.sp s hs;have kk:=h.mr s hs;unfold Pt.cut
 cases Xa:gt p.mr s==gt p.en s-gt p.bg s with
 |true =>
  have Xa:gt p.mr s=gt p.en s-gt p.bg s:=by simpa using Xa
  rw[cond_true];have hM:∀k,gt (p.mr.set s 0) k=if k=s then 0 else gt p.mr k:=fun k=>by
   rw[TT,h.lm];by_cases e:k=s
   ·rw[if_pos ⟨e.symm,by omega⟩,if_pos e]
   ·rw[if_neg (by omega),if_neg e]
  refine⟨⟨h.ll,h.lp,h.ls,h.le,by simp[h.lm],h.pl,h.li,h.st,h.sp,fun k hk=>?_⟩,rfl,fun v _=>.inl rfl,fun u v hu hv=>⟨fun e=>⟨e,fun es=>?_⟩,fun e=>e.1⟩,fun k hk ZC=>?_,?_,fun h=>(nomatch h),fun v hv ZC=>?_⟩
  ·show gt p.bg k+gt (p.mr.set s 0) k<=gt p.en k;rw[hM];have:=h.mr k hk
   split <;> omega
  ·have au:=(h.st u hu).2.2;have av:=(h.st v hv).2.2;have e:gt p.set u=gt p.set v:=e;unfold Pt.Mk;rw[<-e] at av ⊢;rw[es] at au av ⊢
   constructor <;> intro _ <;> omega
  ·show gt (p.mr.set s 0) k=_;rw[hM,if_neg ZC]
  ·show gt (p.mr.set s 0) s=0;rw[hM,if_pos rfl]
  ·show gt p.place v<gt p.bg (gt p.set v)+gt (p.mr.set s 0) (gt p.set v)<->p.Mk v;rw[hM,if_neg ZC];rfl
 |false =>
  have Xa:gt p.mr s≠gt p.en s-gt p.bg s:=by simpa using Xa
  rw[cond_false]
  cases decide (2*gt p.mr s>gt p.en s-gt p.bg s) with
  |true =>
   rw[cond_true];refine zz h hs false (f:=gt p.bg s+gt p.mr s) (t:=gt p.en s) (f':=gt p.bg s) (t':=gt p.bg s+gt p.mr s) (by omega) (by omega) (fun i h1 h2=>?_) rfl (by rw[ami];exact h.le) (fun k=>?_) fun k=>?_
   ·simp only[ali,iff_false];omega
   ·by_cases e:k=s
    ·rw[if_pos e,e]
    ·rw[if_neg e]
   ·rw[TT,h.le];by_cases e:k=s
    ·rw[if_pos ⟨e.symm,by omega⟩,if_pos e]
    ·rw[if_neg (by omega),if_neg e]
  |false =>
   rw[cond_false];refine zz h hs true (f:=gt p.bg s) (t:=gt p.bg s+gt p.mr s) (f':=gt p.bg s+gt p.mr s) (t':=gt p.en s) (by omega) (by omega) (fun i h1 h2=>?_) (by rw[ami]) h.le (fun k=>?_) fun k=>?_
   ·simp only[iff_true];omega
   ·rw[TT];by_cases e:k=s
    ·rw[if_pos ⟨e.symm,by omega⟩,if_pos e]
    ·rw[if_neg (by omega),if_neg e]
   ·by_cases e:k=s
    ·rw[if_pos e,e]
    ·rw[if_neg e]
def YD:List Nat->Pt->List Nat->Pt×List Nat
 |[],p,T=>(p,T)
 |u::l,p,T=>YD l (p.Wz u).1 (bif (p.Wz u).2 then T++[gt p.set u] else T)
theorem Jo:∀(a b:List Nat) (p:Pt) (T:List Nat),YD (a++b) p T=YD b (YD a p T).1 (YD a p T).2
 |[],b,p,T=>rfl
 |u::a,b,p,T=>by rw[alU,YD,YD,Jo a b]
structure Tch (p:Pt)(T:List Nat):Prop where
 nd:T.Nodup
 mem:∀k,k<p.bg.length->(k∈T<->0<gt p.mr k)
 lt:∀k∈T,k<p.bg.length
structure fx (n:Nat)(us:List Nat)(p:Pt)(r:Pt×List Nat):Prop where
 wf:r.1.Wf n
 set:r.1.set=p.set
 bg:r.1.bg=p.bg
 en:r.1.en=p.en
 aR:Tch r.1 r.2
 Mk:∀v,v<n->(r.1.Mk v<->p.Mk v\/v∈us)
theorem PR {n:Nat}:∀(us:List Nat) {p:Pt} {T:List Nat},p.Wf n->Tch p T->(∀u∈us,u<n)->fx n us p (YD us p T)
 |[],p,T,h,ht,_=>⟨h,rfl,rfl,rfl,ht,fun v _=>by simp[YD]⟩
 |u::l,p,T,h,ht,hu=>by
  have hun:=hu u (aba ..);obtain⟨m1,m2,m3,m4,m5,m6,m7⟩:=MD h hun;have hsu:=(h.st u hun).1;have ht1:Tch (p.Wz u).1 (bif (p.Wz u).2 then T++[gt p.set u] else T):=by
   refine⟨?_,fun k hk=>?_,fun k hk=>?_⟩
   ·cases hb:(p.Wz u).2 with
    |false=>exact ht.nd
    |true =>
     have h0:=m6.1 hb;rw[cond_true,List.nodup_append];refine⟨ht.nd,by simp,fun a ha b hb=>?_⟩;rw[ake.1 hb];rintro rfl;have:=(ht.mem _ hsu).1 ha;omega
   ·rw[m3] at hk;rw[m7 k hk]
    cases hb:(p.Wz u).2 with
    |false =>
     have h0:gt p.mr (gt p.set u)≠0:=fun e=>by rw[m6.2 e] at hb;cases hb
     rw[cond_false,ht.mem k hk]
     constructor
     ·exact .inl
     ·rintro (h1|rfl)
      ·exact h1
      ·omega
    |true =>
     rw[cond_true,amb,ake,ht.mem k hk]
   ·rw[m3]
    cases hb:(p.Wz u).2 with
    |false=>rw[hb] at hk;exact ht.lt k hk
    |true =>
     rw[hb,cond_true,amb,ake] at hk;rcases hk with hk|rfl
     ·exact ht.lt k hk
     ·exact hsu
  have ih:=PR l m1 ht1 fun x hx=>hu x (aab _ hx)
  rw[YD];refine⟨ih.wf,ih.set.trans m2,ih.bg.trans m3,ih.en.trans m4,ih.aR,fun v hv=>?_⟩;rw[ih.Mk v hv,m5 v hv,alL,or_assoc]
def SZ:List Nat->Pt->List Nat->Pt×List Nat
 |[],p,w=>(p,w)
 |t::T,p,w=>SZ T (p.cut t).1 (bif (p.cut t).2 then w++[p.bg.length] else w)
def Pt.Zero (p:Pt):Prop:=∀k,k<p.bg.length->gt p.mr k=0
structure aaI (n:Nat)(p:Pt)(w:List Nat)(R:Nat->Nat->Prop)(r:Pt×List Nat):Prop where
 wf:r.1.Wf n
 zero:r.1.Zero
 le:p.bg.length<=r.1.bg.length
 rG:r.2.length+p.bg.length=w.length+r.1.bg.length
 work:∀k,k∈r.2<->k∈w\/(p.bg.length<=k/\k<r.1.bg.length)
 num:∀v,v<n->gt r.1.set v=gt p.set v\/p.bg.length<=gt r.1.set v
 eq:∀u v,u<n->v<n->(gt r.1.set u=gt r.1.set v<->gt p.set u=gt p.set v/\R u v)
theorem Jn {n:Nat}:∀(T:List Nat) {p:Pt} (w:List Nat),p.Wf n->T.Nodup->(∀k∈T,k<p.bg.length/\0<gt p.mr k)->(∀k,k<p.bg.length->k∉T->gt p.mr k=0) ->
  aaI n p w (fun u v=>gt p.set u∈T->(p.Mk u<->p.Mk v)) (SZ T p w)
 |[],p,w,h,_,_,hz=>⟨h,fun k hk=>hz k hk (by simp),agB _,rfl,fun k=>by simp only[SZ];constructor;exact .inl;rintro (h|h);exact h;omega,fun v _=>.inl rfl,fun u v _ _=>by simp[SZ]⟩
 |t::T,p,w,h,hn,hT,hz=>by
  obtain⟨ht,hm⟩:=hT t (aba ..);have hc:=A6 h ht hm;rw[amv] at hn;rw[SZ];generalize hr:p.cut t=r at *;obtain⟨p1,b⟩:=r;simp only at hc ⊢;have hlen:p1.bg.length=p.bg.length+(bif b then 1 else 0):=hc.len;have hle:p.bg.length<=p1.bg.length:=by omega
  have hT1:∀k∈T,k<p1.bg.length/\0<gt p1.mr k:=fun k hk=>by
   obtain⟨q1,q2⟩:=hT k (aab _ hk);refine⟨by omega,?_⟩;have:gt p1.mr k=gt p.mr k:=hc.mr k q1 fun e=>hn.1 (e ▸ hk)
   omega
  have tV:∀k,k<p1.bg.length->k∉T->gt p1.mr k=0:=fun k hk hnk=>by
   by_cases e:k=t
   ·rw[e];exact hc.mk0
   ·by_cases e2:k<p.bg.length
    ·have:gt p1.mr k=gt p.mr k:=hc.mr k e2 e;rw[this];exact hz k e2 fun SY=>by
      rcases alL.1 SY with h1|h1
      ·exact e h1
      ·exact hnk h1
    ·cases b with
     |false=>simp at hlen;omega
     |true =>
      have:k=p.bg.length:=by simp at hlen;omega
      rw[this];exact hc.mkK rfl
  have ih:=Jn (p:=p1) T (bif b then w++[p.bg.length] else w) hc.wf hn.2 hT1 tV;have ile:=ih.le;have iwl:=ih.rG;refine⟨ih.wf,ih.zero,by omega,?_,fun k=>?_,fun v hv=>?_,fun u v hu hv=>?_⟩
  ·cases b with
   |false=>simp at hlen iwl ⊢;omega
   |true=>simp at hlen iwl ⊢;omega
  ·rw[ih.work k]
   cases b with
   |false =>
    have hlen:p1.bg.length=p.bg.length:=by simpa using hlen
    rw[cond_false,hlen]
   |true =>
    have hlen:p1.bg.length=p.bg.length+1:=by simpa using hlen
    simp only[cond_true] at ile;rw[cond_true,amb,ake]
    constructor
    ·rintro ((h1|h1)|h1)
     ·exact .inl h1
     ·exact .inr (by omega)
     ·exact .inr (by omega)
    ·rintro (h1|h1)
     ·exact .inl (.inl h1)
     ·by_cases e:k=p.bg.length
      ·exact .inl (.inr e)
      ·exact .inr (by omega)
  ·rcases ih.num v hv with h1|h1
   ·rcases hc.num v hv with h2|h2
    ·exact .inl (h1.trans h2)
    ·have h3:gt p1.set v=p.bg.length:=h2.2.1;exact .inr (by omega)
   ·exact .inr (by omega)
  ·rw[ih.eq u v hu hv];have he:gt p1.set u=gt p1.set v<->gt p.set u=gt p.set v/\(gt p.set u=t->(p.Mk u<->p.Mk v)):=hc.eq u v hu hv;have SY:∀x,x<n->(gt p1.set x∈T<->gt p.set x∈T):=fun x hx=>by
    have UO:gt p1.set x=gt p.set x\/(gt p.set x=t/\gt p1.set x=p.bg.length/\b=true):=hc.num x hx;rcases UO with h1|⟨h1,h2,_⟩
    ·rw[h1]
    ·rw[h1,h2]
     constructor
     ·intro hk;have:=(hT _ (aab _ hk)).1;omega
     ·intro hk;exact absurd hk hn.1
   have hMk:∀x,x<n->gt p.set x≠t->(p1.Mk x<->p.Mk x):=hc.Mk;rw[he]
   constructor
   ·rintro⟨⟨e1,e2⟩,e3⟩;refine⟨e1,fun hx=>?_⟩;rcases alL.1 hx with h1|h1
    ·exact e2 h1
    ·have ZC:gt p.set u≠t:=fun e=>hn.1 (e ▸ h1)
     have:=e3 ((SY u hu).2 h1);rw[hMk u hu ZC,hMk v hv (by rw[<-e1];exact ZC)] at this;exact this
   ·rintro⟨e1,e2⟩;refine⟨⟨e1,fun hx=>e2 (by rw[hx];exact aba ..)⟩,fun hx=>?_⟩;have h1:=(SY u hu).1 hx;have ZC:gt p.set u≠t:=fun e=>hn.1 (e ▸ h1)
    rw[hMk u hu ZC,hMk v hv (by rw[<-e1];exact ZC)];exact e2 (aab _ h1)
def rF (Xy:Nat->List Nat)(S:List Nat)(p:Pt)(w:List Nat):Pt×List Nat :=
 SZ (YD (S.flatMap Xy) p []).2 (YD (S.flatMap Xy) p []).1 w
theorem A5 {n:Nat}{p:Pt}(h:p.Wf n)(hz:p.Zero)(w:List Nat){nx:Nat->Nat}{Xy:Nat->List Nat}{S:List Nat}(hS:∀c∈S,c<n)(hb:∀c,c<n->∀u,u∈Xy c<->u<n/\nx u=c) :
  aaI n p w (fun u v=>nx u∈S<->nx v∈S) (rF Xy S p w):=by
 have MC:∀u,u∈S.flatMap Xy<->u<n/\nx u∈S:=fun u=>by
  rw[List.mem_flatMap]
  constructor
  ·rintro⟨c,h1,h2⟩;obtain⟨q1,q2⟩:=(hb c (hS c h1) u).1 h2;exact⟨q1,by rw[q2];exact h1⟩
  ·rintro⟨h1,h2⟩;exact⟨_,h2,(hb _ (hS _ h2) u).2 ⟨h1,rfl⟩⟩
 have fu:Tch p []:=⟨by simp,fun k hk=>by simp[hz k hk],fun k hk=>by simp at hk⟩;have hm:=PR (S.flatMap Xy) h fu fun u hu=>((MC u).1 hu).1
 unfold rF;generalize YD (S.flatMap Xy) p []=r at *;obtain⟨p1,T⟩:=r;have e1:p1.set=p.set:=hm.set;have e2:p1.bg=p.bg:=hm.bg;have t1:T.Nodup:=hm.aR.nd;have t2:∀k,k<p1.bg.length->(k∈T<->0<gt p1.mr k):=hm.aR.mem;have t3:∀k∈T,k<p1.bg.length:=hm.aR.lt;have hc:=Jn (p:=p1) T w hm.wf t1 (fun k hk=>⟨t3 k hk,(t2 k (t3 k hk)).1 hk⟩) (fun k hk hn=>by have:=t2 k hk;have:¬0<gt p1.mr k:=fun h=>hn (this.2 h);omega);have hM:∀v,v<n->(p1.Mk v<->nx v∈S):=fun v hv=>by
  have:p1.Mk v<->p.Mk v\/v∈S.flatMap Xy:=hm.Mk v hv;rw[this,MC]
  constructor
  ·rintro (h1|h1)
   ·obtain⟨q1,q2,_⟩:=h.st v hv;unfold Pt.Mk at h1;rw[hz _ q1] at h1;omega
   ·exact h1.2
  ·exact fun h1=>.inr ⟨hv,h1⟩
 simp only[e1] at hc;have hle:=hc.le;have PY:=hc.rG;have hwk:=hc.work;have EV:=hc.num;simp only[e1,e2] at hle PY hwk EV;refine⟨hc.wf,hc.zero,hle,PY,hwk,EV,fun u v hu hv=>?_⟩;have:=hc.eq u v hu hv;simp only[e1] at this;rw[this]
 constructor
 ·rintro⟨q1,q2⟩;refine⟨q1,?_⟩;by_cases A8:gt p.set u∈T
  ·rw[<-hM u hu,<-hM v hv];exact q2 A8
  ·have SX:∀x,x<n->gt p.set x=gt p.set u->¬nx x∈S:=fun x hx e hxS=>by
    obtain⟨r1,r2,r3⟩:=hm.wf.st x hx;simp only[e1,e] at r1 r2 r3;have h0:¬0<gt p1.mr (gt p.set u):=fun h=>A8 ((t2 _ r1).2 h)
    have gk:=(hM x hx).2 hxS;unfold Pt.Mk at gk;rw[e1,e] at gk;omega
   exact⟨fun h=>absurd h (SX u hu rfl),fun h=>absurd h (SX v hv q1.symm)⟩
 ·rintro⟨q1,q2⟩;exact⟨q1,fun _=>by rw[hM u hu,hM v hv];exact q2⟩
def OW (Xy:Nat->Nat->List Nat)(S:List Nat):Nat->Nat->Pt->List Nat->Pt×List Nat
 |0,_,p,w=>(p,w)
 |r+1,x,p,w=>OW Xy S r (x+1) (rF (Xy x) S p w).1 (rF (Xy x) S p w).2
theorem A4 {n:Nat}{nx:Nat->Nat->Nat}{Xy:Nat->Nat->List Nat}{S:List Nat}(hS:∀c∈S,c<n):∀(r x:Nat) {p:Pt} (w:List Nat),p.Wf n->p.Zero->(∀y,x<=y->y<x+r->∀c,c<n->∀u,u∈Xy y c<->u<n/\nx u y=c) ->
  aaI n p w (fun u v=>∀y,x<=y->y<x+r->(nx u y∈S<->nx v y∈S)) (OW Xy S r x p w)
 |0,x,p,w,h,hz,_=>⟨h,hz,agB _,rfl,fun k=>by simp only[OW];constructor;exact .inl;rintro (h|h);exact h;omega,fun v _=>.inl rfl,fun u v _ _=>⟨fun e=>⟨e,fun y h1 h2=>by omega⟩,fun e=>e.1⟩⟩
 |r+1,x,p,w,h,hz,hb=>by
  have h1:=A5 h hz w (nx:=fun u=>nx u x) hS (hb x (agB _) (by omega));rw[OW];generalize rF (Xy x) S p w=q at *;obtain⟨p1,w1⟩:=q;simp only at h1 ⊢;have ih:=A4 (p:=p1) hS r (x+1) w1 h1.wf h1.zero fun y aQ gj=>hb y (by omega) (by omega)
  have a1:=h1.le;have a2:=ih.le;have a3:=h1.rG;have a4:=ih.rG;simp only at a1 a2 a3 a4;refine⟨ih.wf,ih.zero,by omega,by omega,fun k=>?_,fun v hv=>?_,fun u v hu hv=>?_⟩
  ·rw[ih.work k];have:=h1.work k;simp only at this;rw[this]
   constructor
   ·rintro ((h|h)|h)
    ·exact .inl h
    ·exact .inr (by omega)
    ·exact .inr (by omega)
   ·rintro (h|h)
    ·exact .inl (.inl h)
    ·by_cases e:k<p1.bg.length
     ·exact .inl (.inr ⟨h.1,e⟩)
     ·exact .inr ⟨by omega,h.2⟩
  ·have b1:=h1.num v hv;have b2:=ih.num v hv;simp only at b1 b2;rcases b2 with b2|b2
   ·rcases b1 with b1|b1
    ·exact .inl (b2.trans b1)
    ·exact .inr (by omega)
   ·exact .inr (by omega)
  ·rw[ih.eq u v hu hv];have:=h1.eq u v hu hv;simp only at this;rw[this]
   constructor
   ·rintro⟨⟨e1,e2⟩,e3⟩;refine⟨e1,fun y aQ gj=>?_⟩;by_cases e:y=x
    ·subst e;exact e2
    ·exact e3 y (by omega) (by omega)
   ·rintro⟨e1,e2⟩;exact⟨⟨e1,e2 x (agB _) (by omega)⟩,fun y aQ gj=>e2 y (by omega) (by omega)⟩
theorem Ki:∀(n K:Nat) (f:Nat->Nat),(∀k,k<K->f k<n)->(∀i j,i<K->j<K->f i=f j->i=j)->K<=n
 |0,K,f,h1,_=>by
  rcases Nat.eq_zero_or_pos K with h|h
  ·omega
  ·exact absurd (h1 0 h) (by omega)
 |n+1,K,f,h1,h2=>by
  by_cases hex:∃k,k<K/\f k=n
  ·obtain⟨k0,hk0,e0⟩:=hex;have:=Ki n (K-1) (fun k=>if k=k0 then f (K-1) else f k) (fun k hk=>by
    by_cases e:k=k0
    ·rw[if_pos e];have:=h1 (K-1) (by omega);have:f (K-1)≠n:=fun e'=>by have:=h2 (K-1) k0 (by omega) hk0 (e'.trans e0.symm);omega
     omega
    ·rw[if_neg e];have:=h1 k (by omega);have:f k≠n:=fun e'=>e (h2 k k0 (by omega) hk0 (e'.trans e0.symm))
     omega) (fun i j hi hj e=>by
    by_cases e1:i=k0
    ·by_cases e2:j=k0
     ·omega
     ·rw[if_pos e1,if_neg e2] at e;have:=h2 _ _ (by omega) (by omega) e;omega
    ·by_cases e2:j=k0
     ·rw[if_neg e1,if_pos e2] at e;have:=h2 _ _ (by omega) (by omega) e;omega
     ·rw[if_neg e1,if_neg e2] at e;exact h2 _ _ (by omega) (by omega) e)
   omega
  ·have:=Ki n K f (fun k hk=>by
    have:=h1 k hk;have:f k≠n:=fun e=>hex ⟨k,hk,e⟩
    omega) h2
   omega
theorem Pt.Wf.few {n:Nat}{p:Pt}(h:p.Wf n):p.bg.length<=n:=by
 refine Ki n _ (fun k=>gt p.bg k) (fun k hk=>by have:=h.sp k hk;omega) fun i j hi hj e=>?_
 obtain⟨a1,a2,a3⟩:=h.sp i hi;obtain⟨b1,b2,b3⟩:=h.sp j hj;have e:gt p.bg i=gt p.bg j:=e;have:=a3 _ (agB _) a1;have:=b3 _ (agB _) b1;rw[e] at *;omega
def Hh (Xy:Nat->Nat->List Nat)(m:Nat):Nat->Pt->List Nat->Pt
 |0,p,_=>p
 |f+1,p,w=>match w.getLast? with
  |none=>p
  |some s=>Hh Xy m f (OW Xy (piece p.list (gt p.bg s) (gt p.en s)) m 0 p w.dropLast).1 (OW Xy (piece p.list (gt p.bg s) (gt p.en s)) m 0 p w.dropLast).2
structure ft (A:Fa)(p:Pt)(w:List Nat):Prop where
 wf:p.Wf A.n
 zero:p.Zero
 work:∀k∈w,k<p.bg.length
 fr:∀u v,u<A.n->v<A.n->gt p.set u=gt p.set v->∀x,x<A.m->A.fr u x=A.fr v x
 bis:∀B,Bis A B->∀u v,B u v->gt p.set u=gt p.set v
 part:∃xc:Nat->Nat,(∀u v,u<A.n->v<A.n->gt p.set u=gt p.set v->xc u=xc v)/\(∀u v,u<A.n->v<A.n->gt p.set u=gt p.set v->∀x,x<A.m->xc (A.nx u x)=xc (A.nx v x)) /\
  ∀u v,u<A.n->v<A.n->xc u=xc v->gt p.set u∈w\/gt p.set v∈w\/gt p.set u=gt p.set v
theorem AZ {A:Fa}(hA:A.ok){Xy:Nat->Nat->List Nat}(hb:∀y,y<A.m->∀c,c<A.n->∀u,u∈Xy y c<->u<A.n/\A.nx u y=c){p:Pt}{w:List Nat}(h:ft A p w){s:Nat}(hs:w.getLast? = some s) :
  ft A (OW Xy (piece p.list (gt p.bg s) (gt p.en s)) A.m 0 p w.dropLast).1 (OW Xy (piece p.list (gt p.bg s) (gt p.en s)) A.m 0 p w.dropLast).2 /\
  2*(A.n-(OW Xy (piece p.list (gt p.bg s) (gt p.en s)) A.m 0 p w.dropLast).1.bg.length)+(OW Xy (piece p.list (gt p.bg s) (gt p.en s)) A.m 0 p w.dropLast).2.length<2*(A.n-p.bg.length)+w.length:=by
 have hw:w=w.dropLast++[s]:=by
  have ZC:w≠[]:=fun e=>by rw[e] at hs;cases hs
  rw[List.getLast?_eq_some_getLast ZC] at hs;have:=List.dropLast_concat_getLast ZC;rw[Option.some.inj hs] at this;exact this.symm
 have hsK:s<p.bg.length:=h.work s (by rw[hw];simp);obtain⟨k1,k2,k3⟩:=h.wf.sp s hsK;have hS:∀c,c<A.n->(c∈piece p.list (gt p.bg s) (gt p.en s)<->gt p.set c=s):=fun c hc=>by
  rw[NR (by rw[h.wf.ll];exact k2)]
  constructor
  ·rintro⟨i,h1,h2,rfl⟩;exact k3 i h1 h2
  ·intro e;obtain⟨_,r2,r3⟩:=h.wf.st c hc;rw[e] at r2 r3;exact⟨_,r2,r3,(h.wf.pl c hc).2⟩
 have gi:∀c∈piece p.list (gt p.bg s) (gt p.en s),c<A.n:=fun c hc=>by
  rw[NR (by rw[h.wf.ll];exact k2)] at hc;obtain⟨i,h1,h2,rfl⟩:=hc;exact (h.wf.li i (by omega)).1
 have hp:=A4 (nx:=A.nx) gi A.m 0 w.dropLast h.wf h.zero fun y _ hy=>hb y (by omega)
 generalize piece p.list (gt p.bg s) (gt p.en s)=S at *;generalize OW Xy S A.m 0 p w.dropLast=q at *;obtain⟨p1,w1⟩:=q;have ou:p1.Wf A.n:=hp.wf;have Si:=ou.few;have hle:p.bg.length<=p1.bg.length:=hp.le;have PY:w1.length+p.bg.length=w.dropLast.length+p1.bg.length:=hp.rG;have hwk:∀k,k∈w1<->k∈w.dropLast\/(p.bg.length<=k/\k<p1.bg.length):=hp.work;have UO:∀v,v<A.n->gt p1.set v=gt p.set v\/p.bg.length<=gt p1.set v:=hp.num;have heq:∀u v,u<A.n->v<A.n->(gt p1.set u=gt p1.set v<->gt p.set u=gt p.set v/\∀y,0<=y->y<0+A.m->(A.nx u y∈S<->A.nx v y∈S)):=hp.eq;have ala:w.length=w.dropLast.length+1:=by
  conv=>lhs;rw[hw]
  simp
 refine⟨⟨ou,hp.zero,fun k hk=>?_,fun u v hu hv e=>h.fr u v hu hv ((heq u v hu hv).1 e).1,fun B hB u v nQ=>?_,?_⟩,by show 2*(A.n-p1.bg.length)+w1.length<_;omega⟩
 ·rcases (hwk k).1 hk with h1|h1
  ·have:=h.work k (by rw[hw];exact List.mem_append_left _ h1);show k<p1.bg.length;omega
  ·exact h1.2
 ·obtain⟨hu,hv⟩:=hB.lt u v nQ;refine (heq u v hu hv).2 ⟨h.bis B hB u v nQ,fun y _ hy=>?_⟩;have hn:=hB.nx u v nQ y (by omega);obtain⟨n1,n2⟩:=hB.lt _ _ hn;rw[hS _ n1,hS _ n2,h.bis B hB _ _ hn]
 ·obtain⟨xc,x1,x2,x3⟩:=h.part;refine⟨fun u=>2*xc u+if gt p.set u=s then 1 else 0,fun u v hu hv e=>?_,fun u v hu hv e x hx=>?_,fun u v hu hv e=>?_⟩
  ·have e:=((heq u v hu hv).1 e).1;simp only[x1 u v hu hv e,e]
  ·obtain⟨e,e'⟩:=(heq u v hu hv).1 e;have n1:=hA.lt u x hu hx;have n2:=hA.lt v x hv hx;have hm:=e' x (aic _) (by omega);rw[hS _ n1,hS _ n2] at hm;simp only[x2 u v hu hv e x hx];by_cases c:gt p.set (A.nx u x)=s
   ·rw[if_pos c,if_pos (hm.1 c)]
   ·rw[if_neg c,if_neg fun c'=>c (hm.2 c')]
  ·have ex:xc u=xc v/\(gt p.set u=s<->gt p.set v=s):=by
    simp only at e;by_cases c:gt p.set u=s
    ·by_cases c':gt p.set v=s
     ·rw[if_pos c,if_pos c'] at e;exact⟨by omega,by simp[c,c']⟩
     ·rw[if_pos c,if_neg c'] at e;omega
    ·by_cases c':gt p.set v=s
     ·rw[if_neg c,if_pos c'] at e;omega
     ·rw[if_neg c,if_neg c'] at e;exact⟨by omega,by simp[c,c']⟩
   show gt p1.set u∈w1\/gt p1.set v∈w1\/gt p1.set u=gt p1.set v;by_cases cu:gt p1.set u∈w1
   ·exact .inl cu
   by_cases cv:gt p1.set v∈w1
   ·exact .inr (.inl cv)
   refine .inr (.inr ?_);have old:∀v,v<A.n->¬gt p1.set v∈w1->gt p1.set v=gt p.set v/\¬gt p.set v∈w.dropLast:=fun v hv c=>by
    have Yh:=(ou.st v hv).1;rcases UO v hv with h1|h1
    ·refine⟨h1,fun hm=>c ((hwk _).2 (.inl ?_))⟩;rw[h1];exact hm
    ·exact absurd ((hwk _).2 (.inr ⟨h1,Yh⟩)) c
   obtain⟨u1,u2⟩:=old u hu cu;obtain⟨v1,v2⟩:=old v hv cv;rw[u1,v1];by_cases c:gt p.set u=s
   ·rw[c,ex.2.1 c]
   ·have c':gt p.set v≠s:=fun h=>c (ex.2.2 h)
    rcases x3 u v hu hv ex.1 with h1|h1|h1
    ·rw[hw,amb,ake] at h1;rcases h1 with h1|h1
     ·exact absurd h1 u2
     ·exact absurd h1 c
    ·rw[hw,amb,ake] at h1;rcases h1 with h1|h1
     ·exact absurd h1 v2
     ·exact absurd h1 c'
    ·exact h1
theorem CK {A:Fa}(hA:A.ok){Xy:Nat->Nat->List Nat}(hb:∀y,y<A.m->∀c,c<A.n->∀u,u∈Xy y c<->u<A.n/\A.nx u y=c):∀(f:Nat) {p:Pt} {w:List Nat},ft A p w->2*(A.n-p.bg.length)+w.length<=f->ft A (Hh Xy A.m f p w) []
 |0,p,w,h,hf=>by
  have:w=[]:=al6.1 (by omega);subst this;exact h
 |f+1,p,w,h,hf=>by
  rw[Hh]
  cases hs:w.getLast? with
  |none =>
   have:w=[]:=by simpa using hs
   subst this;exact h
  |some s =>
   obtain⟨h1,h2⟩:=AZ hA hb h hs;exact CK hA hb f h1 (by omega)
theorem fq {A:Fa}(hA:A.ok){p:Pt}(h:ft A p []){u v:Nat}(hu:u<A.n)(hv:v<A.n):gt p.set u=gt p.set v<->YM A u=YM A v:=by
 constructor
 ·intro e;obtain⟨xc,x1,x2,x3⟩:=h.part;refine Hg (B:=fun u v=>u<A.n/\v<A.n/\gt p.set u=gt p.set v) ⟨fun u v k=>⟨k.1,k.2.1⟩,fun u v k=>h.fr u v k.1 k.2.1 k.2.2,fun u v k x hx=>⟨hA.lt u x k.1 hx,hA.lt v x k.2.1 hx,?_⟩⟩ u v ⟨hu,hv,e⟩;rcases x3 _ _ (hA.lt u x k.1 hx) (hA.lt v x k.2.1 hx) (x2 u v k.1 k.2.1 k.2.2 x hx) with h1|h1|h1
  ·simp at h1
  ·simp at h1
  ·exact h1
 ·intro e;exact h.bis _ (xw hA) u v ⟨hu,hv,e⟩
def Xq:List Nat->Nat->Nat
 |[],_=>0
 |x::l,c=>bif x==c then 0 else Xq l c+1
theorem HT:∀(l:List Nat) (c:Nat),Xq l c<l.length<->c∈l
 |[],c=>by simp[Xq]
 |x::l,c=>by
  have:=HT l c;rw[Xq,akd,alL]
  cases h:x==c with
  |true =>
   have:x=c:=by simpa using h
   simp[this]
  |false =>
   have ZC:¬x=c:=by simpa using h
   simp only[cond_false]
   constructor
   ·intro h;exact .inr (this.1 (by omega))
   ·rintro (h|h)
    ·exact absurd h.symm ZC
    ·have:=this.2 h;omega
theorem Ao (f g:Nat->Nat)(n:Nat):∀(l:List Nat),(∀a∈l,f a=f n<->g a=g n)->Xq (l.map f) (f n)=Xq (l.map g) (g n)
 |[],_=>rfl
 |x::l,h=>by
  have h0:=h x (aba ..);have he:(f x==f n)=(g x==g n):=by rw[amj,beq_iff_eq,beq_iff_eq];exact h0
  rw[alT,alT,Xq,Xq,he,Ao f g n l fun a ha=>h a (aab _ ha)]
def Zs (κ:Nat->Nat):List Nat->List Nat->List Nat×List Nat
 |[],st=>(st,[])
 |c::cs,st=>bif decide (Xq (st.map κ) (κ c)<st.length) then ((Zs κ cs st).1,Xq (st.map κ) (κ c)::(Zs κ cs st).2) else ((Zs κ cs (st++[c])).1,st.length::(Zs κ cs (st++[c])).2)
theorem RT {κ ρ:Nat->Nat}{Q:Nat->Prop}(hk:∀a b,Q a->Q b->(κ a=κ b<->ρ a=ρ b)):∀(cs st:List Nat),(∀a∈cs,Q a)->(∀a∈st,Q a)->Zs id (cs.map ρ) (st.map ρ)=((Zs κ cs st).1.map ρ,(Zs κ cs st).2)/\∀a∈(Zs κ cs st).1,Q a
 |[],st,_,h=>⟨rfl,h⟩
 |c::cs,st,h1,h2=>by
  have hc:=h1 c (aba ..);have MT:=fun a ha=>h1 a (aab _ ha)
  have he:Xq ((st.map ρ).map id) (id (ρ c))=Xq (st.map κ) (κ c):=by
   rw[List.map_id];exact (Ao κ ρ c st fun a ha=>hk a c (h2 a ha) hc).symm
  rw[alT,Zs,Zs,he,agC]
  cases decide (Xq (st.map κ) (κ c)<st.length) with
  |true =>
   obtain⟨e1,e2⟩:=RT hk cs st MT h2;simp only[cond_true,e1];exact⟨by first|rfl|trivial,e2⟩
  |false =>
   obtain⟨e1,e2⟩:=RT hk cs (st++[c]) MT fun a ha=>by
    rcases amb.1 ha with h|h
    ·exact h2 a h
    ·rw[ake.1 h];exact hc
   have e3:st.map ρ++[ρ c]=(st++[c]).map ρ:=by simp
   simp only[cond_false,e3,e1];exact⟨by first|rfl|trivial,e2⟩
def UE (κ:Nat->Nat)(row:Nat->List Nat):Nat->Nat->List Nat->List (Nat×List Nat)
 |0,_,_=>[]
 |f+1,i,st=>match st[i]? with
  |none=>[]
  |some s=>(s,(Zs κ (row s) st).2)::UE κ row f (i+1) (Zs κ (row s) st).1
theorem Lo {κ ρ:Nat->Nat}{Q:Nat->Prop}(hk:∀a b,Q a->Q b->(κ a=κ b<->ρ a=ρ b)){row mD:Nat->List Nat}(hr:∀s,Q s->mD (ρ s)=(row s).map ρ/\∀a∈row s,Q a):∀(f i:Nat) (st:List Nat),(∀a∈st,Q a) ->
  UE id mD f i (st.map ρ)=(UE κ row f i st).map (fun x=>(ρ x.1,x.2))/\∀x∈UE κ row f i st,Q x.1
 |0,i,st,h=>⟨rfl,fun x hx=>by simp[UE] at hx⟩
 |f+1,i,st,h=>by
  rw[UE,UE,alV]
  cases hs:st[i]? with
  |none=>exact⟨rfl,fun x hx=>by simp at hx⟩
  |some s =>
   have hq:=h s (amu hs);obtain⟨r1,r2⟩:=hr s hq;obtain⟨e1,e2⟩:=RT hk (row s) st r2 h;obtain⟨i1,i2⟩:=Lo hk hr f (i+1) _ e2;simp only[amo,r1,e1,i1,alT];refine⟨by first|rfl|trivial,fun x hx=>?_⟩;rcases alL.1 hx with rfl|hx
   ·exact hq
   ·exact i2 x hx
theorem TF {κ:Nat->Nat}:∀(cs st:List Nat),(st.map κ).Nodup->((Zs κ cs st).1.map κ).Nodup/\st.length<=(Zs κ cs st).1.length/\(∀i,i<st.length->(Zs κ cs st).1[i]? = st[i]?)/\(Zs κ cs st).2.length=cs.length/\∀k∈(Zs κ cs st).2,k<(Zs κ cs st).1.length
 |[],st,h=>⟨h,agB _,fun _ _=>rfl,rfl,fun k hk=>by simp[Zs] at hk⟩
 |c::cs,st,h=>by
  rw[Zs]
  cases hd:decide (Xq (st.map κ) (κ c)<st.length) with
  |true =>
   obtain⟨h1,h2,h3,h4,h5⟩:=TF cs st h;have hd:Xq (st.map κ) (κ c)<st.length:=by simpa using hd
   simp only[cond_true,akd,h4];refine⟨h1,h2,h3,by first|rfl|trivial,fun k hk=>?_⟩;rcases alL.1 hk with rfl|hk
   ·omega
   ·exact h5 k hk
  |false =>
   have hd:¬Xq (st.map κ) (κ c)<(st.map κ).length:=by rw[agC];simpa using hd
   rw[HT] at hd;obtain⟨h1,h2,h3,h4,h5⟩:=TF cs (st++[c]) (by
    rw[alY,List.nodup_append];refine⟨h,by simp,fun a ha b hb=>?_⟩;rw[alT,List.map_nil,ake] at hb;rintro rfl;rw[hb] at ha;exact hd ha)
   rw[agy,alW] at h2;simp only[cond_false,akd,h4];refine⟨h1,by omega,fun i hi=>?_,by first|rfl|trivial,fun k hk=>?_⟩
   ·rw[h3 i (by rw[agy];omega),al0 hi]
   ·rcases alL.1 hk with rfl|hk
    ·omega
    ·exact h5 k hk
theorem Vn {κ:Nat->Nat}{n:Nat}{st:List Nat}(h:(st.map κ).Nodup)(hn:∀a∈st,a<n):st.length<=n:=by
 have EG:st.Nodup:=by
  rw[List.Nodup,List.pairwise_map] at h;exact h.imp fun ZC e=>ZC (by rw[e])
 refine Ki n st.length (fun i=>gt st i) (fun i hi=>?_) fun i j hi hj e=>?_
 ·have:gt st i=st[i]:=by unfold gt;rw[alM,aaa hi];rfl
  simp only[this];exact hn _ (adm hi)
 ·have e1:gt st i=st[i]:=by unfold gt;rw[alM,aaa hi];rfl
  have e2:gt st j=st[j]:=by unfold gt;rw[alM,aaa hj];rfl
  simp only[e1,e2] at e;exact (List.getElem_inj EG).1 e
def XM (A:Fa)(s:Nat):List Nat:=(List.range A.m).map (A.nx s)
def Ml (A:Fa)(cl:Nat->Nat):List (Nat×List Nat):=UE cl (XM A) (A.n+1) 0 [0]
def U7 (A:Fa):List (Nat×List Nat):=UE id (fun c=>(XM A c).map (YM A)) (A.n+1) 0 [YM A 0]
theorem min_eq {A:Fa}(hA:A.ok){cl:Nat->Nat}(hc:∀u v,u<A.n->v<A.n->(cl u=cl v<->YM A u=YM A v)) :
  U7 A=(Ml A cl).map (fun x=>(YM A x.1,x.2))/\∀x∈Ml A cl,x.1<A.n:=by
 have hr:∀s,s<A.n->(fun c=>(XM A c).map (YM A)) (YM A s)=(XM A s).map (YM A)/\∀a∈XM A s,a<A.n:=fun s hs=>by
  refine⟨?_,fun a ha=>?_⟩
  ·have Yh:YM A s<A.n:=amw ((WM A).le s) hs;have he:=(UD hA Yh hs).1 ((WM A).fix s);simp only[XM,List.map_map];refine amc fun x hx=>?_
   exact (he x (al4.1 hx)).2
  ·obtain⟨x,hx,rfl⟩:=alN.1 ha;exact hA.lt s x hs (al4.1 hx)
 have:=Lo (κ:=cl) (ρ:=YM A) (Q:=fun a=>a<A.n) hc (row:=XM A) (mD:=fun c=>(XM A c).map (YM A)) hr (A.n+1) 0 [0] fun a ha=>by rw[ake.1 ha];exact hA.pos
 exact this
theorem wV {A:Fa}(hA:A.ok){s:Nat}(hs:s<A.n){x:Nat}(hx:x<A.m):A.fr (YM A s) x=A.fr s x :=
 (((UD hA (amw ((WM A).le s) hs) hs).1 ((WM A).fix s)) x hx).1
section
variable {α:Type} [DecidableEq α]
def Yu (κ:Nat->α):Nat->List α
 |0=>[]
 |i+1=>if κ i∈Yu κ i then Yu κ i else Yu κ i++[κ i]
theorem Tj (κ:Nat->α)(k:α):∀n,k∈Yu κ n<->∃i,i<n/\κ i=k
 |0=>by simp[Yu]
 |n+1=>by
  have ih:=Tj κ k n;have ihn:=Tj κ (κ n) n;rw[Yu]
  constructor
  ·intro h;by_cases e:κ n∈Yu κ n
   ·rw[if_pos e] at h;obtain⟨i,h1,h2⟩:=ih.1 h;exact⟨i,by omega,h2⟩
   ·rw[if_neg e,amb,ake] at h;rcases h with h|h
    ·obtain⟨i,h1,h2⟩:=ih.1 h;exact⟨i,by omega,h2⟩
    ·exact⟨n,by omega,h.symm⟩
  ·rintro⟨i,h1,h2⟩;by_cases hi:i=n
   ·subst hi;by_cases e:κ i∈Yu κ i
    ·rw[if_pos e,<-h2];exact e
    ·rw[if_neg e,h2];simp
   ·have:=ih.2 ⟨i,by omega,h2⟩;by_cases e:κ n∈Yu κ n
    ·rw[if_pos e];exact this
    ·rw[if_neg e];exact List.mem_append_left _ this
theorem PD (κ:Nat->α):∀n,(Yu κ n).Nodup
 |0=>by simp[Yu]
 |n+1=>by
  have ih:=PD κ n;rw[Yu];by_cases e:κ n∈Yu κ n
  ·rw[if_pos e];exact ih
  ·rw[if_neg e,List.nodup_append];refine⟨ih,by simp,fun a ha b hb=>?_⟩;rw[ake.1 hb];rintro rfl;exact e ha
theorem GV (κ:Nat->α):∀n,(Yu κ n).length<=n
 |0=>agB _
 |n+1=>by
  have:=GV κ n;rw[Yu]
  split
  ·omega
  ·simp;omega
def RU (κ:Nat->α)(k:α)(n:Nat):List Nat:=(List.range n).filter fun i=>decide (κ i=k)
theorem PE (κ:Nat->α)(k:α)(n u:Nat):u∈RU κ k n<->u<n/\κ u=k:=by simp[RU]
theorem gO (κ:Nat->α)(k:α)(n:Nat):(RU κ k n).Nodup:=List.Pairwise.filter _ List.nodup_range
theorem Kr (κ:Nat->α)(k:α)(n:Nat):RU κ k (n+1)=if κ n=k then RU κ k n++[n] else RU κ k n:=by
 unfold RU;rw[List.range_succ,List.filter_append];by_cases e:κ n=k <;> simp[e]
def Wt (c:Nat):List Nat->Pt->Pt
 |[],p=>p
 |u::l,p=>Wt c l { p with place:=p.place.set u p.list.length,set:=p.set.set u c,list:=p.list++[u] }
structure ag5 (n c:Nat)(l:List Nat)(p q:Pt):Prop where
 list:q.list=p.list++l
 bg:q.bg=p.bg
 en:q.en=p.en
 mr:q.mr=p.mr
 lp:q.place.length=n
 ls:q.set.length=n
 out:∀v,v∉l->gt q.place v=gt p.place v/\gt q.set v=gt p.set v
 inn:∀j (h:j<l.length),gt q.place l[j]=p.list.length+j/\gt q.set l[j]=c
theorem Fg (n c:Nat):∀(l:List Nat) (p:Pt),l.Nodup->(∀u∈l,u<n)->p.place.length=n->p.set.length=n->ag5 n c l p (Wt c l p)
 |[],p,_,_,h1,h2=>⟨by simp[Wt],rfl,rfl,rfl,h1,h2,fun _ _=>⟨rfl,rfl⟩,fun j h=>by simp at h⟩
 |u::l,p,hn,hu,h1,h2=>by
  rw[amv] at hn;have hun:=hu u (aba ..);have ih:=Fg n c l { p with place:=p.place.set u p.list.length,set:=p.set.set u c,list:=p.list++[u] } hn.2 (fun x hx=>hu x (aab _ hx)) (by simp[h1]) (by simp[h2]);rw[Wt];generalize Wt c l { p with place:=p.place.set u p.list.length,set:=p.set.set u c,list:=p.list++[u] }=q at *;refine⟨by rw[ih.list];simp,ih.bg,ih.en,ih.mr,ih.lp,ih.ls,fun v hv=>?_,fun j hj=>?_⟩
  ·rw[alL,not_or] at hv;obtain⟨a,b⟩:=ih.out v hv.2;rw[a,b];simp only[TT];rw[if_neg (by omega),if_neg (by omega)];exact⟨rfl,rfl⟩
  ·cases j with
   |zero =>
    obtain⟨a,b⟩:=ih.out u hn.1;rw[List.getElem_cons_zero,a,b];rw[TT,TT,if_pos ⟨rfl,by omega⟩,if_pos ⟨rfl,by omega⟩];exact⟨rfl,rfl⟩
   |succ j =>
    obtain⟨a,b⟩:=ih.inn j (by simpa using hj);rw[List.getElem_cons_succ,a,b];refine⟨?_,rfl⟩;simp only[agy,alW];omega
def DV (κ:Nat->α)(n:Nat):List α->Pt->Pt
 |[],p=>p
 |k::ks,p=>DV κ n ks { Wt p.bg.length (RU κ k n) p with bg:=p.bg++[p.list.length],mr:=p.mr++[0],en:=p.en++[(Wt p.bg.length (RU κ k n) p).list.length] }
def Wi (κ:Nat->α)(n:Nat):Pt:=DV κ n (Yu κ n) ⟨[],List.replicate n 0,List.replicate n 0,[],[],[]⟩
structure Fil (κ:Nat->α)(n:Nat)(done:List α)(p:Pt):Prop where
 lp:p.place.length=n
 ls:p.set.length=n
 lb:p.bg.length=done.length
 le:p.en.length=done.length
 lm:p.mr.length=done.length
 li:∀i,i<p.list.length->gt p.list i<n/\gt p.place (gt p.list i)=i/\κ (gt p.list i)∈done
 st:∀u,u<n->κ u∈done->gt p.place u<p.list.length/\gt p.list (gt p.place u)=u/\gt p.set u<done.length/\gt p.bg (gt p.set u)<=gt p.place u/\gt p.place u<gt p.en (gt p.set u)/\done[gt p.set u]? = some (κ u)
 sp:∀k,k<done.length->gt p.bg k<gt p.en k/\gt p.en k<=p.list.length/\∀i,gt p.bg k<=i->i<gt p.en k->gt p.set (gt p.list i)=k
 mr:∀k,k<done.length->gt p.mr k=0
theorem HC {a b:List Nat}{i:Nat}(h:i<a.length):gt (a++b) i=gt a i:=by
 unfold gt;rw[alM,alM,al0 h]
theorem yx {a b:List Nat}{i:Nat}(h:a.length<=i):gt (a++b) i=gt b (i-a.length):=by
 unfold gt;rw[alM,alM,amI h]
theorem VF {l:List Nat}{i:Nat}(h:i<l.length):gt l i=l[i]:=by
 unfold gt;rw[alM,aaa h];rfl
theorem gN {κ:Nat->α}{n:Nat}{done:List α}{p:Pt}(h:Fil κ n done p){k:α}(hk:k∉done)(hex:∃i,i<n/\κ i=k) :
  Fil κ n (done++[k]) { Wt p.bg.length (RU κ k n) p with bg:=p.bg++[p.list.length],mr:=p.mr++[0],en:=p.en++[(Wt p.bg.length (RU κ k n) p).list.length] }:=by
 have ha:=Fg n p.bg.length (RU κ k n) p (gO κ k n) (fun u hu=>((PE κ k n u).1 hu).1) h.lp h.ls;generalize Wt p.bg.length (RU κ k n) p=q at *;have ZC:0<(RU κ k n).length:=by
  obtain⟨i,h1,h2⟩:=hex;exact List.length_pos_of_mem ((PE κ k n i).2 ⟨h1,h2⟩)
 have hgm:=PE κ k n;have hgd:=gO κ k n;generalize RU κ k n=G at *;have hql:q.list.length=p.list.length+G.length:=by rw[ha.list];simp
 have hdl:(done++[k]).length=done.length+1:=by simp
 have hB:∀i,gt (p.bg++[p.list.length]) i=if i=done.length then p.list.length else gt p.bg i:=fun i=>by rw[JL,h.lb]
 have hE:∀i,gt (p.en++[q.list.length]) i=if i=done.length then q.list.length else gt p.en i:=fun i=>by rw[JL,h.le]
 have hM:∀i,gt (p.mr++[0]) i=if i=done.length then 0 else gt p.mr i:=fun i=>by rw[JL,h.lm]
 have hold:∀i,i<p.list.length->gt q.list i=gt p.list i:=fun i hi=>by rw[ha.list,HC hi]
 have adh:∀j (hj:j<G.length),gt q.list (p.list.length+j)=G[j]:=fun j hj=>by rw[ha.list,yx (by omega),Nat.add_sub_cancel_left,VF hj]
 have Mm:∀i,i<p.list.length->gt p.list i∉G:=fun i hi hm=>by
  have:=(h.li i hi).2.2;rw[((hgm _).1 hm).2] at this;exact hk this
 refine⟨ha.lp,ha.ls,by simp[h.lb],by simp[h.le],by simp[h.lm],fun i hi=>?_,fun u hu hd=>?_,fun j hj=>?_,fun j hj=>?_⟩
 ·have hi:i<q.list.length:=hi;by_cases Yh:i<p.list.length
  ·obtain⟨a,b,c⟩:=h.li i Yh;obtain⟨o1,_⟩:=ha.out _ (Mm i Yh);simp only[hold i Yh];exact⟨a,o1.trans b,List.mem_append_left _ c⟩
  ·obtain⟨j,rfl⟩:∃j,i=p.list.length+j:=⟨i-p.list.length,by omega⟩;have hj:j<G.length:=by omega
   simp only[adh j hj];obtain⟨g1,g2⟩:=(hgm _).1 (adm hj);exact⟨g1,(ha.inn j hj).1,by rw[g2];simp⟩
 ·show gt q.place u<q.list.length/\gt q.list (gt q.place u)=u/\gt q.set u<(done++[k]).length/\gt (p.bg++[p.list.length]) (gt q.set u)<=gt q.place u/\gt q.place u<gt (p.en++[q.list.length]) (gt q.set u)/\(done++[k])[gt q.set u]? = some (κ u);by_cases hg:u∈G
  ·obtain⟨j,hj,rfl⟩:=alP.1 hg;obtain⟨i1,i2⟩:=ha.inn j hj;have hs:gt q.set G[j]=done.length:=by rw[i2,h.lb]
   rw[i1,hs,adh j hj,hB,hE,if_pos rfl,if_pos rfl,hdl,((hgm _).1 hg).2];exact⟨by omega,rfl,by omega,by omega,by omega,by simp⟩
  ·have LR:κ u∈done:=by
    rcases amb.1 hd with h1|h1
    ·exact h1
    ·exact absurd ((hgm u).2 ⟨hu,ake.1 h1⟩) hg
   obtain⟨a,b,c,d,e,f⟩:=h.st u hu LR;obtain⟨o1,o2⟩:=ha.out u hg;rw[o1,o2,hold _ a,hB,hE,if_neg (by omega),if_neg (by omega),hdl,al0 c];exact⟨by omega,b,by omega,d,e,f⟩
 ·show gt (p.bg++[p.list.length]) j<gt (p.en++[q.list.length]) j/\gt (p.en++[q.list.length]) j<=q.list.length/\∀i,gt (p.bg++[p.list.length]) j<=i->i<gt (p.en++[q.list.length]) j->gt q.set (gt q.list i)=j;rw[hB,hE];by_cases e:j=done.length
  ·rw[if_pos e,if_pos e];refine⟨by omega,agB _,fun i h1 h2=>?_⟩;obtain⟨r,rfl⟩:∃r,i=p.list.length+r:=⟨i-p.list.length,by omega⟩;have hr:r<G.length:=by omega
   rw[adh r hr,(ha.inn r hr).2,h.lb,e]
  ·have wJ:j<done.length:=by have:j<(done++[k]).length:=hj;omega
   rw[if_neg e,if_neg e];obtain⟨a,b,c⟩:=h.sp j wJ;refine⟨a,by omega,fun i h1 h2=>?_⟩;rw[hold i (by omega),(ha.out _ (Mm i (by omega))).2];exact c i h1 h2
 ·show gt (p.mr++[0]) j=0;rw[hM];by_cases e:j=done.length
  ·rw[if_pos e]
  ·rw[if_neg e];exact h.mr j (by have:j<(done++[k]).length:=hj;omega)
theorem rS {κ:Nat->α}{n:Nat}:∀(ks:List α) {done:List α} {p:Pt},Fil κ n done p->(done++ks).Nodup->(∀k∈ks,∃i,i<n/\κ i=k)->Fil κ n (done++ks) (DV κ n ks p)
 |[],done,p,h,_,_=>by rw[alZ];exact h
 |k::ks,done,p,h,hn,he=>by
  have hk:k∉done:=fun hm=>by
   rw[List.nodup_append] at hn;exact hn.2.2 k hm k (aba ..) rfl
  have h1:=gN h hk (he k (aba ..));have e:done++k::ks=(done++[k])++ks:=by simp
  rw[e] at hn ⊢;exact rS ks h1 hn fun x hx=>he x (aab _ hx)
theorem yV (κ:Nat->α)(n:Nat):Fil κ n (Yu κ n) (Wi κ n):=by
 have h0:Fil κ n [] ⟨[],List.replicate n 0,List.replicate n 0,[],[],[]⟩:=⟨by simp,by simp,rfl,rfl,rfl,fun i hi=>by simp at hi,fun u _ h=>by simp at h,fun k hk=>by simp at hk,fun k hk=>by simp at hk⟩;have:=rS (Yu κ n) h0 (by simpa using PD κ n) fun k hk=>(Tj κ k n).1 hk
 rw[amg] at this;exact this
theorem yC {A:Fa}{κ:Nat->α}(hk:∀u v,u<A.n->v<A.n->(κ u=κ v<->∀x,x<A.m->A.fr u x=A.fr v x)):ft A (Wi κ A.n) (List.range (Wi κ A.n).bg.length):=by
 have h:=yV κ A.n;generalize Wi κ A.n=p at *;have hd:∀u,u<A.n->κ u∈Yu κ A.n:=fun u hu=>(Tj κ _ _).2 ⟨u,hu,rfl⟩
 have EK:p.list.length=A.n:=by
  refine Nat.le_antisymm (Ki A.n p.list.length (gt p.list) (fun i hi=>(h.li i hi).1) fun i j hi hj e=>?_) (Ki p.list.length A.n (gt p.place) (fun u hu=>(h.st u hu (hd u hu)).1) fun u v hu hv e=>?_)
  ·have a:=(h.li i hi).2.1;have b:=(h.li j hj).2.1;rw[e] at a;exact a.symm.trans b
  ·have a:=(h.st u hu (hd u hu)).2.1;have b:=(h.st v hv (hd v hv)).2.1;rw[e] at a;exact a.symm.trans b
 have QR:∀u v,u<A.n->v<A.n->(gt p.set u=gt p.set v<->κ u=κ v):=fun u v hu hv=>by
  obtain⟨_,_,a,_,_,b⟩:=h.st u hu (hd u hu);obtain⟨_,_,c,_,_,d⟩:=h.st v hv (hd v hv)
  constructor
  ·intro e;rw[e,d] at b;exact (Option.some.inj b).symm
  ·intro e;rw[aaa a] at b;rw[aaa c] at d;have:=(Option.some.inj b).trans (e.trans (Option.some.inj d).symm);exact (List.getElem_inj (PD κ A.n)).1 this
 refine⟨⟨EK,h.lp,h.ls,by rw[h.le,h.lb],by rw[h.lm,h.lb],fun u hu=>?_,fun i hi=>?_,fun u hu=>?_,fun k Bb=>?_,fun k Bb=>?_⟩,fun k Bb=>h.mr k (by rw[h.lb] at Bb;exact Bb),fun k Bb=>al4.1 Bb,fun u v hu hv e=>(hk u v hu hv).1 ((QR u v hu hv).1 e),fun B hB u v nQ=>?_,fun _=>0,fun _ _ _ _ _=>rfl,fun _ _ _ _ _ _ _=>rfl,fun u v hu hv _=>?_⟩
 ·obtain⟨a,b,_⟩:=h.st u hu (hd u hu);exact⟨by omega,b⟩
 ·obtain⟨a,b,_⟩:=h.li i (by omega);exact⟨a,b⟩
 ·obtain⟨_,_,a,b,c,_⟩:=h.st u hu (hd u hu);exact⟨by rw[h.lb];exact a,b,c⟩
 ·obtain⟨a,b,c⟩:=h.sp k (by rw[h.lb] at Bb;exact Bb);exact⟨a,by omega,c⟩
 ·have a:=h.mr k (by rw[h.lb] at Bb;exact Bb);have b:=h.sp k (by rw[h.lb] at Bb;exact Bb);omega
 ·obtain⟨hu,hv⟩:=hB.lt u v nQ;exact (QR u v hu hv).2 ((hk u v hu hv).2 (hB.fr u v nQ))
 ·obtain⟨_,_,a,_⟩:=h.st u hu (hd u hu);exact .inl (al4.2 (by rw[h.lb];exact a))
end
def ag6 {α:Type} [DecidableEq α] (A:Fa)(κ:Nat->α)(Xy:Nat->Nat->List Nat):Nat->Nat :=
 gt (Hh Xy A.m (2*(A.n-(Wi κ A.n).bg.length)+(Wi κ A.n).bg.length) (Wi κ A.n) (List.range (Wi κ A.n).bg.length)).set
def M5 (A:Fa)(x c:Nat):List Nat:=(List.range A.n).filter fun u=>A.nx u x==c
theorem KG (A:Fa)(x c u:Nat):u∈M5 A x c<->u<A.n/\A.nx u x=c:=by simp[M5]
theorem acx {α:Type} [DecidableEq α] {A:Fa}(hA:A.ok){κ:Nat->α}(hk:∀u v,u<A.n->v<A.n->(κ u=κ v<->∀x,x<A.m->A.fr u x=A.fr v x)){u v:Nat}(hu:u<A.n)(hv:v<A.n) :
  ag6 A κ (M5 A) u=ag6 A κ (M5 A) v<->YM A u=YM A v:=by
 have h0:=yC hk;have h1:=CK hA (fun y _ c _ u=>KG A y c u) _ h0 (agB _);rw[List.length_range] at h1;exact fq hA h1 hu hv
end Go.Am
namespace Go.Am
open Go
variable [Z4]
set_option maxRecDepth 100000
set_option maxHeartbeats 4000000
structure Yi.ok (a:Yi):Prop where
 lines:1<=a.lines/\a.lines<=4
 pos:0<a.next.length
 few:a.next.length<=512
 fl:a.ZD.length=a.next.length
 row:∀i (h:i<a.next.length),a.next[i].2.length=2^a.lines.toNat/\∀x∈a.next[i].2,0<=x/\x<(a.next.length:Int)
 XF:∀i (h:i<a.ZD.length),a.ZD[i].2.length=2^a.lines.toNat
theorem Ny (n:Int):RA n=((2^n.toNat:Nat):Int):=by unfold RA;simp
def Yi.fa (a:Yi):Fa where
 n:=a.next.length
 m:=2^a.lines.toNat
 nx s x:=((a.next.getD s (true,[])).2.getD x 0).toNat
 fr s x:=(a.ZD.getD s (true,[])).2.getD x false
theorem XK {A:Type}{l:List A}{i:Nat}{d:A}(h:i<l.length):l.getD i d=l[i]:=by
 rw[alM,aaa h];rfl
theorem Yi.ok.M9 {a:Yi}(h:a.ok):a.fa.ok:=by
 refine⟨h.pos,fun s x hs hx=>?_⟩;have hs:s<a.next.length:=hs;have hx:x<2^a.lines.toNat:=hx;obtain⟨r1,r2⟩:=h.row s hs;show ((a.next.getD s (true,[])).2.getD x 0).toNat<a.next.length;rw[XK hs,XK (show x<a.next[s].2.length by omega)];have:=r2 _ (adm (show x<a.next[s].2.length by omega));omega
theorem Yi.ok.mz {a:Yi}(h:a.ok){s x:Nat}(hs:s<a.next.length)(hx:x<2^a.lines.toNat):Ud 1 (ZG a.next[s].1 (ints a.next[s].2)) (.int .i64 (x:Int))=some (.fp [.int .i64 ((a.fa.nx s x:Nat):Int)] 0):=by
 obtain⟨r1,r2⟩:=h.row s hs;have NI:x<a.next[s].2.length:=by omega
 rw[F6 NI];have e:a.fa.nx s x=(a.next[s].2[x]).toNat:=by
  show ((a.next.getD s (true,[])).2.getD x 0).toNat=_;rw[XK hs,XK NI]
 have:=r2 _ (adm NI);rw[e,Int.toNat_of_nonneg this.1]
theorem Yi.ok.abI {a:Yi}(h:a.ok){s x:Nat}(hs:s<a.next.length)(hx:x<2^a.lines.toNat):Ud 1 (ZG (a.ZD[s]'(by rw[h.fl];exact hs)).1 (ZM (a.ZD[s]'(by rw[h.fl];exact hs)).2)) (.int .i64 (x:Int))=some (.fp [.bool (a.fa.fr s x)] 0):=by
 have BN:s<a.ZD.length:=by rw[h.fl];exact hs
 have r1:=h.XF s BN;have NI:x<a.ZD[s].2.length:=by omega
 rw[NO NI];have e:a.fa.fr s x=a.ZD[s].2[x]:=by
  show (a.ZD.getD s (true,[])).2.getD x false=_;rw[XK BN,XK NI]
 rw[e]
theorem Yi.ok.m16 {a:Yi}(ha:a.ok):2^a.lines.toNat<=65536:=by have:=Ot a.lines (by have:=ha.lines;omega);have:=Ny a.lines;unfold RA at this;omega
theorem nq (x:Bool):Wg U .neq 4 false (.bool x) (.bool x)=some (.bool false):=by cases x <;> kernel_rfl
theorem c60 (a b:Yi)(h1:a.lines=b.lines)(h2:a.next.length=b.next.length)(h3:∀i (h:i<a.next.length) (h':i<b.next.length),a.next[i].2=b.next[i].2)(h4:a.ZD.length=b.ZD.length)
  (h5:∀i (h:i<a.ZD.length) (h':i<b.ZD.length),a.ZD[i].2=b.ZD[i].2)(n1:a.next.length<=2^40)(n2:a.ZD.length<=2^40)(n3:∀r∈a.next,r.2.length<=2^40)(n4:∀r∈a.ZD,r.2.length<=2^40) :
  ZE U 60 [Wd a,Wd b]=some (.bool true):=by
 refine ZR k60 (by kernel_rfl) (by simp[ZU,VJ]) ?_;rw[WJ,WJ];have nn:=ZL a.TH (a.next.map Zn);have nf:=ZL a.S6 (a.ZD.map Zv);have cn:=Zu a.TH (a.next.map Zn);have cf:=Zu a.S6 (a.ZD.map Zv);have ln:=ZI a.TH (a.next.map Zn);have lf:=ZI a.S6 (a.ZD.map Zv);have nn':=ZL b.TH (b.next.map Zn);have nf':=ZL b.S6 (b.ZD.map Zv);have cn':=Zu b.TH (b.next.map Zn);have cf':=Zu b.S6 (b.ZD.map Zv);have ln':=ZI b.TH (b.next.map Zn);have lf':=ZI b.S6 (b.ZD.map Zv);rw[agC] at ln lf ln' lf';rw[<-h2] at ln';rw[<-h4] at lf';have b1:((b.lines:Int) != b.lines)=false:=by simp
 have b2:((a.next.length:Int) != a.next.length)=false:=by simp
 have b3:((a.ZD.length:Int) != a.ZD.length)=false:=by simp
 unfold SV Vy;simp only[go_sem,r60,ln,lf,ln',lf',h1,b1,b2,b3];refine YH (σ:=Nat) (fun i=>a.next.length-i) (fun _=>some (.bool true)) (fun i e s=>i<=a.next.length/\Env.get e 2=.ptr 8 0/\Env.get e 3=.ptr 9 0/\Env.get e 5=.int .i64 (i:Nat)/\9<s.next /\
  s.get 8=some (.cells [.int .i64 b.lines,ZG a.TH (a.next.map Zn),ZG a.S6 (a.ZD.map Zv)] 72 false 0 0)/\s.get 9=some (.cells [.int .i64 b.lines,ZG b.TH (b.next.map Zn),ZG b.S6 (b.ZD.map Zv)] 72 false 0 0)) 0 ?_ rfl ?_
 ·rintro L i e s ⟨hi,g2,g3,g5,nx,gs,Mz⟩ IH;by_cases hd:i<a.next.length
  ·have hw:=ZN hd (by omega);have LR:i<b.next.length:=by omega
   have r1:=Sf (nl:=a.TH) hd;have r2:=Sf (nl:=b.TH) LR;have h109:=aaT a.next[i].1 b.next[i].1 a.next[i].2 b.next[i].2 (by have:=n3 _ (adm hd);omega);rw[h3 i hd LR,My] at h109;rw[h3 i hd LR] at r1;simp only[go_sem,xl,g2,g3,g5,gs,Mz,Z8,hd,ln,r1,r2,h109,hw];refine IH (i+1) _ _ (by omega) ⟨by omega,?_,?_,?_,by rw[Z6];omega,by rw[ZT,gs],by rw[ZT,Mz]⟩
   all_goals simp only[go_sem,g2,g3]
  ·have:i=a.next.length:=by omega
   subst this;simp only[go_sem,xl,g2,g5,gs,Z8,alh,ln];refine YH (σ:=Nat) (fun i=>a.ZD.length-i) (fun _=>some (.bool true)) (fun i e s=>i<=a.ZD.length/\Env.get e 2=.ptr 8 0/\Env.get e 3=.ptr 9 0/\Env.get e 6=.int .i64 (i:Nat)/\9<s.next /\
    s.get 8=some (.cells [.int .i64 b.lines,ZG a.TH (a.next.map Zn),ZG a.S6 (a.ZD.map Zv)] 72 false 0 0)/\s.get 9=some (.cells [.int .i64 b.lines,ZG b.TH (b.next.map Zn),ZG b.S6 (b.ZD.map Zv)] 72 false 0 0)) 0 ?_ rfl ?_
   ·clear g2 g3 g5 nx gs Mz IH;rintro L i e s ⟨hi,g2,g3,g6,nx,gs,Mz⟩ IH;by_cases hd:i<a.ZD.length
    ·have hw:=ZN hd (by omega);have LR:i<b.ZD.length:=by omega
     have r1:=Se (nl:=a.S6) hd;have r2:=Se (nl:=b.S6) LR;have ot:=n4 _ (adm hd);rw[h5 i hd LR] at r1 ot;have l1:=ZI a.ZD[i].1 (ZM b.ZD[i].2);have l2:=ZI b.ZD[i].1 (ZM b.ZD[i].2);rw[WX] at l1 l2;have b4:((b.ZD[i].2.length:Int) != b.ZD[i].2.length)=false:=by simp
     simp only[go_sem,xk,g2,g3,g6,gs,Mz,Z8,hd,lf,r1,r2,l1,l2,b4];refine YH (σ:=Nat) (fun x=>b.ZD[i].2.length-x) (fun _=>some (.bool true)) (fun x e s=>x<=b.ZD[i].2.length/\Env.get e 2=.ptr 8 0/\Env.get e 3=.ptr 9 0/\Env.get e 6=.int .i64 (i:Nat)/\Env.get e 7=.int .i64 (x:Nat)/\9<s.next /\
      s.get 8=some (.cells [.int .i64 b.lines,ZG a.TH (a.next.map Zn),ZG a.S6 (a.ZD.map Zv)] 72 false 0 0)/\s.get 9=some (.cells [.int .i64 b.lines,ZG b.TH (b.next.map Zn),ZG b.S6 (b.ZD.map Zv)] 72 false 0 0)) 0 ?_ rfl ?_
     ·clear g2 g3 g6 nx gs Mz;rintro L' x e s ⟨hx,g2,g3,g6,g7,nx,gs,Mz⟩ IH';by_cases tR:x<b.ZD[i].2.length
      ·have Mx:=ZN tR (by omega);have q1:=NO (nl:=a.ZD[i].1) tR;have q2:=NO (nl:=b.ZD[i].1) tR;have q3:=nq b.ZD[i].2[x];simp only[go_sem,xj,g2,g3,g6,g7,gs,Mz,Z8,tR,r1,r2,l1,q1,q2,q3,Mx];refine IH' (x+1) _ _ (by omega) ⟨by omega,?_,?_,?_,?_,by rw[Z6];omega,by rw[ZT,gs],by rw[ZT,Mz]⟩
       all_goals simp only[go_sem,g2,g3,g6]
      ·have:x=b.ZD[i].2.length:=by omega
       subst this;simp only[go_sem,xj,g2,g6,g7,gs,Z8,alh,r1,l1,hw];refine IH (i+1) _ _ (by omega) ⟨by omega,?_,?_,?_,nx,gs,Mz⟩
       all_goals simp only[go_sem,g2,g3]
     ·refine⟨aic _,?_,?_,?_,?_,by simp only[Z6];omega,by simp only[ZT,gs],by simp only[ZT,Mz]⟩
      all_goals simp only[go_sem,g2,g3,g6]
      all_goals rfl
    ·have:i=a.ZD.length:=by omega
     subst this;simp only[go_sem,xk,g2,g6,gs,Z8,alh,lf]
   ·refine⟨aic _,?_,?_,?_,nx,gs,Mz⟩
    all_goals simp only[go_sem,g2,g3]
    all_goals rfl
 ·refine⟨aic _,?_,?_,?_,?_,?_,?_⟩
  all_goals try simp only[go_sem]
  all_goals rfl
theorem aaU (a b:Yi)(h:ZE U 60 [Wd a,Wd b]=some (.bool true)):ZE U 43 [Wd a,.int .i64 0,.int .i64 0,Wd b]=some (.bool true):=by
 refine ZR k43 (by kernel_rfl) (by simp[ZU,VJ,still]) ?_;have nn:=ZL a.TH (a.next.map Zn);have nf:=ZL a.S6 (a.ZD.map Zv);have cn:=Zu a.TH (a.next.map Zn);have cf:=Zu a.S6 (a.ZD.map Zv);have nn':=ZL b.TH (b.next.map Zn);have nf':=ZL b.S6 (b.ZD.map Zv);have cn':=Zu b.TH (b.next.map Zn);have cf':=Zu b.S6 (b.ZD.map Zv);rw[WJ,WJ] at h ⊢;unfold SV Vy at h ⊢;simp only[go_sem,r43,h,beq_self_eq_true]
theorem Ql {ex:Ex}{a:Nat}{e:Env}{s:St}{n:Nat}(h:Env.get e a=.int .i64 (n:Int))(hn:n<=2^20) :
  YI U ex e (.makeSlice 40 (.tmp a) (.tmp a)) s=some (.sl s.next 0 n (some n) 1,s.new (.cells (ints (List.replicate n 0)) 3 false 0 0)):=by
 have h40:U.Zd 40=some (.slice 3):=by kernel_rfl
 have hz:zero U 3=some (.int .i64 0):=by kernel_rfl
 have hi:(U.inf 3).map (fun i=>(i.bytes,i.size))=some (8,1):=by kernel_rfl
 have e1:ints (List.replicate n 0)=List.replicate n (.int .i64 0):=by simp[ints]
 cases hj:U.inf 3 with
 |none=>rw[hj] at hi;cases hi
 |some j =>
  rw[hj] at hi;simp only[amo,Option.some.injEq,Prod.mk.injEq] at hi;obtain⟨h1,h2⟩:=hi;rw[e1,<-VN];simp only[YI,eval,h,h40,hj,hz];rw[if_pos ⟨by omega,by omega,by rw[h1];omega,by omega,by rw[h2];rfl,by omega⟩,h2];rfl
theorem DG {ex:Ex}{a:Nat}{e:Env}{s:St}{n:Nat}(h:Env.get e a=.int .i64 (n:Int))(hn:n<=2^20) :
  YI U ex e (.makeSlice 43 (.tmp a) (.tmp a)) s=some (.sl s.next 0 n (some n) 1,s.new (.cells (ZM (List.replicate n false)) 4 false 0 0)):=by
 have h40:U.Zd 43=some (.slice 4):=by kernel_rfl
 have hz:zero U 4=some (.bool false):=by kernel_rfl
 have hi:(U.inf 4).map (fun i=>(i.bytes,i.size))=some (1,1):=by kernel_rfl
 have e1:ZM (List.replicate n false)=List.replicate n (.bool false):=by simp[ZM]
 cases hj:U.inf 4 with
 |none=>rw[hj] at hi;cases hi
 |some j =>
  rw[hj] at hi;simp only[amo,Option.some.injEq,Prod.mk.injEq] at hi;obtain⟨h1,h2⟩:=hi;rw[e1,<-VN];simp only[YI,eval,h,h40,hj,hz];rw[if_pos ⟨by omega,by omega,by rw[h1];omega,by omega,by rw[h2];rfl,by omega⟩,h2];rfl
def PV (l:List Nat):List Int:=l.map fun k:Nat=>(k:Int)
def ZO (l:List Nat):List AV:=ints (PV l)
theorem Q0 (l:List Nat):(PV l).length=l.length:=by simp[PV]
theorem Ww (l:List Nat):(ZO l).length=l.length:=by rw[ZO,YK,Q0]
theorem Yq {l:List Nat}{i:Nat}(h:i<l.length):(ZO l)[i]? = some (.int .i64 ((gt l i:Nat):Int)):=by
 rw[ZO,RM,PV,alV,aaa h,VF h];rfl
theorem Xd {l:List Nat}{i:Nat}(k:Nat)(h:i<l.length):lay i [.int .i64 (k:Int)] (ZO l)=some (ZO (l.set i k)):=by
 rw[NH _ _ _ (by rw[Ww];exact h)];simp[ZO,ints,PV,List.map_set]
theorem Qa (l:List Nat)(k:Nat):ZO l++[.int .i64 (k:Int)]=ZO (l++[k]):=by simp[ZO,ints,PV]
theorem K8 (n:Nat):ints (List.replicate n 0)=ZO (List.replicate n 0):=by simp[ZO,ints,PV]
theorem rW (a b:Bool):Wg U .eql 4 false (.bool a) (.bool b)=some (.bool (a==b)):=by cases a <;> cases b <;> kernel_rfl
theorem qw (a b:Nat):((a:Int)==(b:Int))=(a==b):=by rw[amj];simp;omega
theorem ajQ (a b:Nat):((a:Int) != (b:Int))=(a != b):=by rw[bne,bne,qw]
def Ip (a:Yi)(t:TypeId):Uy:=.cells [.int .i64 a.lines,ZG a.TH (a.next.map Zn),ZG a.S6 (a.ZD.map Zv)] t false 0 0
theorem aew {β:Type}{fin:Fl->β}{ks:List K}{ZB:β->Prop}{a:Yi}(ha:a.ok){L:List Nat}(hL:L.length=a.next.length){u v b:Nat}(hu:u<a.next.length)(hv:v<a.next.length)
  {e:Env}{s:St}(g1:Env.get e 1=.ptr 8 0)(g4:Env.get e 4=.sl b 0 a.next.length (some a.next.length) 1)(g7:Env.get e 7=.int .i64 (u:Int))(g8:Env.get e 8=.int .i64 (v:Int))(g9:Env.get e 9=.bool true)(rb:Env.get e 10=.int .i64 (0:Nat))
  (gs:s.get 8=some (Ip a 72))(gb:s.get b=some (.cells (ZO L) 3 false 0 0))(fr:Fr s)
  (hk:∀e' s',(∀t:Nat,t<9->Env.get e' t=Env.get e t)->Env.get e' 9=.bool (alk a.fa (gt L) u v)->(∀j,s'.get j=s.get j)->s.next<=s'.next->Fr s'->ZB (goN U fin ks e' s')) :
  ZB (SD U fin (.bk 6::ks) Nk e s):=by
 have QC:=Tq U 3 true .i64 (n:=a.lines) (show 0<=a.lines/\a.lines<=16 by have:=ha.lines;omega);have hm:(2:Int)^a.lines.toNat=((2^a.lines.toNat:Nat):Int):=by have:=Ny a.lines;unfold RA at this;exact this
 rw[hm] at QC;have Nb:2^a.lines.toNat<=65536:=by have:=Ot a.lines (by have:=ha.lines;omega);omega
 have A8:u<a.ZD.length:=by rw[ha.fl];exact hu
 have ck:v<a.ZD.length:=by rw[ha.fl];exact hv
 have r1:=Sf (nl:=a.TH) hu;have r2:=Se (nl:=a.S6) A8;have r3:=Sf (nl:=a.TH) hv;have r4:=Se (nl:=a.S6) ck;unfold Ip at gs;refine YP (σ:=Nat) (fun x=>2^a.lines.toNat-x) (fun x e' s'=>x<=2^a.lines.toNat/\(∀t:Nat,t<9->Env.get e' t=Env.get e t)/\Env.get e' 9=.bool (Bq a.fa (gt L) u v x)/\Env.get e' 10=.int .i64 (x:Nat)/\(∀j,s'.get j=s.get j)/\s.next<=s'.next/\Fr s') 0 ?_
  ⟨aic _,fun _ _=>rfl,g9,rb,fun _=>rfl,agB _,fr⟩
 rintro Lp x e' s' ⟨hx,hold,q9,Cd,hs,Vl,Xx⟩ IH;have q1:=(hold 1 (by omega)).trans g1;have q4:=(hold 4 (by omega)).trans g4;have q7:=(hold 7 (by omega)).trans g7;have q8:=(hold 8 (by omega)).trans g8;have Mz:=(hs 8).trans gs;have gb':=(hs b).trans gb;by_cases hd:x<2^a.lines.toNat
 ·have hw:=ZN hd (by omega);have n1:=ha.mz hu hd;have n2:=ha.mz hv hd;have f1:=ha.abI hu hd;have f2:=ha.abI hv hd;have sT:a.fa.nx u x<a.next.length:=ha.M9.lt u x hu hd;have qx:a.fa.nx v x<a.next.length:=ha.M9.lt v x hv hd;have o1:=Yq (l:=L) (i:=a.fa.nx u x) (by omega);have o2:=Yq (l:=L) (i:=a.fa.nx v x) (by omega);have acY:Bq a.fa (gt L) u v (x+1)=(Bq a.fa (gt L) u v x&&(a.fa.fr u x==a.fa.fr v x&&gt L (a.fa.nx u x)==gt L (a.fa.nx v x))):=rfl
  cases hA:Bq a.fa (gt L) u v x with
  |false =>
   rw[hA] at q9;simp only[go_sem,Nk,q1,q4,q7,q8,q9,Cd,Mz,QC,Z8,hd,hw];refine IH (x+1) _ _ (by omega) ⟨by omega,fun t ht=>?_,?_,?_,fun j=>by rw[ZT,hs j],by rw[Z6];omega,Xx.upto (by omega)⟩
   ·have ZC:∀k:Nat,9<=k->(k=t)=False:=fun k hk=>by simp;omega
    simp only[go_sem,ZC];exact hold t ht
   ·rw[acY,hA,amq];simp only[go_sem]
   ·simp only[go_sem]
  |true =>
   rw[hA] at q9
   cases hB:(a.fa.fr u x==a.fa.fr v x) with
   |false =>
    simp only[go_sem,Nk,q1,q4,q7,q8,q9,Cd,Mz,QC,Z8,hd,hw,r2,r4,f1,f2,rW,hB];refine IH (x+1) _ _ (by omega) ⟨by omega,fun t ht=>?_,?_,?_,fun j=>by rw[ZT,hs j],by rw[Z6];omega,Xx.upto (by omega)⟩
    ·have ZC:∀k:Nat,9<=k->(k=t)=False:=fun k hk=>by simp;omega
     simp only[go_sem,ZC];exact hold t ht
    ·rw[acY,hA,hB,amq,Bool.and_false];simp only[go_sem]
    ·simp only[go_sem]
   |true =>
    simp only[go_sem,Nk,q1,q4,q7,q8,q9,Cd,Mz,gb',QC,Z8,hd,hw,r1,r2,r3,r4,f1,f2,n1,n2,rW,hB,sT,qx,o1,o2,ah1,qw];refine IH (x+1) _ _ (by omega) ⟨by omega,fun t ht=>?_,?_,?_,fun j=>by rw[ZT,hs j],by rw[Z6];omega,Xx.upto (by omega)⟩
    ·have ZC:∀k:Nat,9<=k->(k=t)=False:=fun k hk=>by simp;omega
     simp only[go_sem,ZC];exact hold t ht
    ·rw[acY,hA,hB,al9,al9];simp only[go_sem]
    ·simp only[go_sem]
 ·have:x=2^a.lines.toNat:=by omega
  subst this;simp only[go_sem,Nk,q1,Cd,Mz,QC,Z8,alh];refine hk _ _ (fun t ht=>?_) ?_ hs Vl Xx
  ·have ZC:∀k:Nat,9<=k->(k=t)=False:=fun k hk=>by simp;omega
   simp only[go_sem,ZC];exact hold t ht
  ·simp only[go_sem,q9];rfl
theorem aev {β:Type}{fin:Fl->β}{ks:List K}{ZB:β->Prop}{a:Yi}(ha:a.ok){L N:List Nat}(hL:L.length=a.next.length)(hN:N.length=a.next.length){u b c:Nat}(hu:u<a.next.length)(hbc:b≠c)(h8:8≠c)
  {e:Env}{s:St}(g1:Env.get e 1=.ptr 8 0)(g4:Env.get e 4=.sl b 0 a.next.length (some a.next.length) 1)(g6:Env.get e 6=.sl c 0 a.next.length (some a.next.length) 1)(g7:Env.get e 7=.int .i64 (u:Int))(g8:Env.get e 8=.int .i64 ((u:Int)-1))
  (gs:s.get 8=some (Ip a 72))(gb:s.get b=some (.cells (ZO L) 3 false 0 0))(gc:s.get c=some (.cells (ZO (N.set u u)) 3 false 0 0))(hc:c<s.next)(fr:Fr s)
  (hk:∀e' s',(∀t:Nat,t<8->Env.get e' t=Env.get e t)->s'.get c=some (.cells (ZO (N.set u (Vs a.fa (gt L) u))) 3 false 0 0)->(∀j,j≠c->s'.get j=s.get j)->s.next<=s'.next->Fr s'->ZB (goN U fin ks e' s')) :
  ZB (SD U fin (.bk 4::ks) HO e s):=by
 have Si:=ha.few;refine YP (σ:=Nat) (fun k=>k) (fun k e' s'=>k<=u/\(∀t:Nat,t<8->Env.get e' t=Env.get e t)/\Env.get e' 8=.int .i64 ((k:Int)-1)/\(∀j,j≠c->s'.get j=s.get j)/\s.next<=s'.next/\Fr s' /\
   ∃cur,s'.get c=some (.cells (ZO (N.set u cur)) 3 false 0 0)/\O' (alk a.fa (gt L) u) k cur=Vs a.fa (gt L) u) u ?_
  ⟨agB _,fun _ _=>rfl,g8,fun _ _=>rfl,agB _,fr,u,gc,rfl⟩
 rintro Lp k e' s' ⟨hku,hold,q8,hs,Vl,Xx,cur,qc,Io⟩ IH;have q1:=(hold 1 (by omega)).trans g1;have q4:=(hold 4 (by omega)).trans g4;have q6:=(hold 6 (by omega)).trans g6;have q7:=(hold 7 (by omega)).trans g7;have Mz:=(hs 8 h8).trans gs;have gb':=(hs b hbc).trans gb
 cases k with
 |zero =>
  have hn:decide (((0:Nat):Int)-1>=0)=false:=by decide
  simp only[go_sem,HO,q8,hn];rw[O'] at Io;refine hk _ _ (fun t ht=>?_) (by rw[qc,Io]) hs Vl Xx;have ZC:∀k:Nat,8<=k->(k=t)=False:=fun k hk=>by simp;omega
  simp only[go_sem,ZC];exact hold t ht
 |succ k =>
  have Jd:((k+1:Nat):Int)-1=(k:Int):=by omega
  rw[Jd] at q8;have hn:decide ((k:Int)>=0)=true:=by simp
  have hw:IntKind.i64.wrap ((k:Int)-1)=(k:Int)-1:=by rw[wrap_i64] <;> omega
  simp only[go_sem,HO,q8];refine aew (u:=u) (v:=k) (b:=b) ha hL hu (by omega) ?_ ?_ ?_ ?_ ?_ ?_ Mz gb' Xx ?_
  case refine_7 =>
   intro e2 s2 UU a9 S4 OL O1;have p6:Env.get e2 6=.sl c 0 a.next.length (some a.next.length) 1:=by
    rw[UU 6 (by omega)];simp only[go_sem,q6]
   have p7:Env.get e2 7=.int .i64 (u:Int):=by
    rw[UU 7 (by omega)];simp only[go_sem,q7]
   have p8:Env.get e2 8=.int .i64 (k:Int):=by
    rw[UU 8 (by omega)];simp only[go_sem,q8]
   have pc:s2.get c=some (.cells (ZO (N.set u cur)) 3 false 0 0):=(S4 c).trans qc;have OE:=Xd (l:=N.set u cur) (i:=u) k (by rw[ami];omega);rw[List.set_set] at OE;have aag:∀t:Nat,t<8->Env.get e2 t=Env.get e t:=fun t ht=>by
    rw[UU t (by omega)];have ZC:∀k:Nat,8<=k->(k=t)=False:=fun k hk=>by simp;omega
    simp only[go_sem,ZC];exact hold t ht
   rw[O'] at Io
   cases hA:alk a.fa (gt L) u k with
   |false =>
    rw[hA] at a9 Io;simp only[go_sem,a9,p8,hw];refine IH k _ _ (by omega) ⟨by omega,fun t ht=>?_,?_,fun j hj=>by rw[S4 j,hs j hj],by omega,O1,cur,pc,Io⟩
    ·have ZC:∀k:Nat,8<=k->(k=t)=False:=fun k hk=>by simp;omega
     simp only[go_sem,ZC];exact aag t ht
    ·simp only[go_sem]
   |true =>
    rw[hA] at a9 Io;simp only[go_sem,a9,p6,p7,p8,pc,hw,hu,OE,ah1];refine IH k _ _ (by omega) ⟨by omega,fun t ht=>?_,?_,fun j hj=>by rw[Z9,if_neg (fun e=>hj e.symm),S4 j,hs j hj],by rw[Z'];omega,O1.put (by omega) _,k,by rw[Z9,if_pos rfl],Io⟩
    ·have ZC:∀k:Nat,8<=k->(k=t)=False:=fun k hk=>by simp;omega
     simp only[go_sem,ZC];exact aag t ht
    ·simp only[go_sem]
  all_goals simp only[go_sem,q1,q4,q7,q8]
  all_goals rfl
def VS (A:Fa)(L:List Nat):List Nat:=(List.range A.n).map (Vs A (gt L))
theorem TE (A:Fa)(L:List Nat):(VS A L).length=A.n:=by simp[VS]
theorem Dz (A:Fa)(L:List Nat){s:Nat}(h:s<A.n):gt (VS A L) s=Vs A (gt L) s:=by
 rw[VF (by rw[TE];exact h)];simp[VS]
theorem aex {β:Type}{fin:Fl->β}{ks:List K}{ZB:β->Prop}{a:Yi}(ha:a.ok){L:List Nat}(hL:L.length=a.next.length){b c:Nat}(hbc:b≠c)(h8:8≠c)
  {e:Env}{s:St}(g1:Env.get e 1=.ptr 8 0)(g3:Env.get e 3=.int .i64 a.next.length)(g4:Env.get e 4=.sl b 0 a.next.length (some a.next.length) 1)(g6:Env.get e 6=.sl c 0 a.next.length (some a.next.length) 1)(g7:Env.get e 7=.int .i64 (0:Nat))
  (gs:s.get 8=some (Ip a 72))(gb:s.get b=some (.cells (ZO L) 3 false 0 0))(gc:s.get c=some (.cells (ZO (List.replicate a.next.length 0)) 3 false 0 0))(hc:c<s.next)(fr:Fr s)
  (hk:∀e' s',(∀t:Nat,t<7->Env.get e' t=Env.get e t)->s'.get c=some (.cells (ZO (VS a.fa L)) 3 false 0 0)->(∀j,j≠c->s'.get j=s.get j)->s.next<=s'.next->Fr s'->ZB (goN U fin ks e' s')) :
  ZB (SD U fin (.bk 2::ks) HM e s):=by
 have Si:=ha.few;have Jh:=TE a.fa L;have Jh:(VS a.fa L).length=a.next.length:=Jh;refine YP (σ:=Nat) (fun i=>a.next.length-i) (fun i e' s'=>i<=a.next.length/\(∀t:Nat,t<7->Env.get e' t=Env.get e t)/\Env.get e' 7=.int .i64 (i:Nat)/\(∀j,j≠c->s'.get j=s.get j)/\s.next<=s'.next/\Fr s' /\
   s'.get c=some (.cells (ZO (part (VS a.fa L) 0 a.next.length i)) 3 false 0 0)) 0 ?_
  ⟨aic _,fun _ _=>rfl,g7,fun _ _=>rfl,agB _,fr,by rw[gc];unfold part;rw[amF,amg,Nat.sub_zero]⟩
 rintro Lp i e' s' ⟨hi,hold,q7,hs,Vl,Xx,qc⟩ IH;have q1:=(hold 1 (by omega)).trans g1;have q3:=(hold 3 (by omega)).trans g3;have q4:=(hold 4 (by omega)).trans g4;have q6:=(hold 6 (by omega)).trans g6;have Mz:=(hs 8 h8).trans gs;have gb':=(hs b hbc).trans gb;by_cases hd:i<a.next.length
 ·have hw:=ZN hd (by omega);have LS:IntKind.i64.wrap ((i:Int)-1)=(i:Int)-1:=by rw[wrap_i64] <;> omega
  have Mw:=Ol (VS a.fa L) 0 Jh hi;have OE:=Xd (l:=part (VS a.fa L) 0 a.next.length i) (i:=i) i (by omega);simp only[go_sem,HM,q3,q6,q7,qc,Z8,hd,OE,ah1,LS];refine aev (N:=part (VS a.fa L) 0 a.next.length i) (u:=i) (b:=b) (c:=c) ha hL Mw hd hbc h8 ?_ ?_ ?_ ?_ ?_ ?_ ?_ ?_ ?_ ?_ ?_
  case refine_11 =>
   intro e2 s2 UU c2 S4 OL O1;have p7:Env.get e2 7=.int .i64 (i:Int):=by
    rw[UU 7 (by omega)];simp only[go_sem,q7]
   rw[Z'] at OL;simp only[go_sem,p7,hw];have QR:(part (VS a.fa L) 0 a.next.length i).set i (Vs a.fa (gt L) i)=part (VS a.fa L) 0 a.next.length (i+1):=by
    rw[<-Qj (VS a.fa L) 0 Jh hd,<-VF (show i<(VS a.fa L).length by omega),Dz _ _ hd]
   refine IH (i+1) _ _ (by omega) ⟨by omega,fun t ht=>?_,?_,fun j hj=>by rw[S4 j hj,Z9,if_neg (fun e=>hj e.symm),hs j hj],by omega,O1,by rw[c2,QR]⟩
   ·have ZC:∀k:Nat,7<=k->(k=t)=False:=fun k hk=>by simp;omega
    simp only[go_sem,ZC];rw[UU t (by omega)];simp only[go_sem,ZC];exact hold t ht
   ·simp only[go_sem]
  case refine_10=>exact Xx.put (by omega) _
  case refine_9=>rw[Z'];omega
  case refine_8=>rw[Z9,if_pos rfl]
  case refine_7=>rw[Z9,if_neg (fun e=>hbc e.symm),gb']
  case refine_6=>rw[Z9,if_neg (fun e=>h8 e.symm),Mz]
  all_goals simp only[go_sem,q1,q4,q6,q7]
 ·have:i=a.next.length:=by omega
  subst this;rw[Qi _ _ Jh] at qc;simp only[go_sem,HM,q3,q7,Z8,alh];refine hk _ _ (fun t ht=>?_) qc hs Vl Xx;have ZC:∀k:Nat,7<=k->(k=t)=False:=fun k hk=>by simp;omega
  simp only[go_sem,ZC];exact hold t ht
def yz (A:Fa):Nat->List Nat->List Nat
 |0,L=>L
 |r+1,L=>bif VS A L==L then L else yz A r (VS A L)
def Ik (A:Fa):List Nat:=yz A (A.n+1) (List.replicate A.n 0)
theorem uJ {A:Fa}(hA:A.ok){f g:Nat->Nat}(h:∀s,s<A.n->f s=g s){s:Nat}(hs:s<A.n):Vs A f s=Vs A g s:=by
 have hE:∀u v,u<A.n->v<A.n->(A.E f u v<->A.E g u v):=fun u v hu hv=>by
  constructor
  ·intro k x hx;exact⟨(k x hx).1,by rw[<-h _ (hA.lt u x hu hx),<-h _ (hA.lt v x hv hx)];exact (k x hx).2⟩
  ·intro k x hx;exact⟨(k x hx).1,by rw[h _ (hA.lt u x hu hx),h _ (hA.lt v x hv hx)];exact (k x hx).2⟩
 obtain⟨a1,a2,a3⟩:=Sk A f s;obtain⟨b1,b2,b3⟩:=Sk A g s;have x1:¬Vs A f s<Vs A g s:=fun hl=>b3 _ hl ((hE s _ hs (by omega)).1 a2)
 have x2:¬Vs A g s<Vs A f s:=fun hl=>a3 _ hl ((hE s _ hs (by omega)).2 b2)
 omega
theorem FP {A:Fa}(hA:A.ok):∀(r:Nat) (L:List Nat) (f:Nat->Nat),L.length=A.n->(∀s,s<A.n->gt L s=f s)->(yz A r L).length=A.n/\∀s,s<A.n->gt (yz A r L) s=KF A r f s
 |0,L,f,hl,h=>⟨hl,h⟩
 |r+1,L,f,hl,h=>by
  have hn:∀s,s<A.n->gt (VS A L) s=Vs A f s:=fun s hs=>by rw[Dz A L hs];exact uJ hA h hs
  have e:(VS A L==L)=O5 (Vs A f) f A.n:=by
   rw[amj,beq_iff_eq,Nj]
   constructor
   ·intro e s hs;rw[<-hn s hs,<-h s hs,e]
   ·intro k;refine List.ext_getElem (by rw[TE,hl]) fun i h1 h2=>?_
    rw[<-VF h1,<-VF h2,hn i (by omega),h i (by omega)];exact k i (by omega)
  rw[yz,KF,e]
  cases O5 (Vs A f) f A.n with
  |true=>exact⟨hl,h⟩
  |false=>exact FP hA r _ _ (TE A L) hn
theorem za {A:Fa}(hA:A.ok):(Ik A).length=A.n:=(FP hA (A.n+1) (List.replicate A.n 0) (fun _=>0) (by simp) fun s hs=>by rw[VF (by simp;exact hs)];simp).1
theorem sw {A:Fa}(hA:A.ok){s:Nat}(hs:s<A.n):gt (Ik A) s=YM A s:=(FP hA (A.n+1) (List.replicate A.n 0) (fun _=>0) (by simp) fun s hs=>by rw[VF (by simp;exact hs)];simp).2 s hs
theorem yy:∀a b:List Nat,Qd (PV a) (PV b)=(a==b)
 |[],[]=>rfl
 |x::a,[]=>rfl
 |[],y::b=>rfl
 |x::a,y::b=>by
  have ih:=yy a b;show (bif (x:Int) != (y:Int) then false else Qd (PV a) (PV b))=_;rw[ih,ajQ];show _=(x==y&&a==b)
  cases h:x==y <;> simp[bne,h]
theorem Nm {s:St}{b d n:Nat}{cap:Option Nat}{L:List Nat}(hL:L.length=n)(hg:s.get b=some (.cells (ZO L) 3 false 0 0)):Yn U s (d+2) (.sl b 0 n cap 1)=some (.fz (ZO L)):=by
 have:=Ux (d:=d) (cap:=cap) hg;rw[Q0,hL] at this;exact this
theorem ajR {args:List AV}{s:St}(h:ZU args=false):X6 U (ZE U 109 args) 109 args s=UR U 109 (Y' (Yn U s 40) args) s:=Ke (by kernel_rfl) s h
theorem call109 {s:St}{b c n:Nat}{L N:List Nat}(hL:L.length=n)(hN:N.length=n)(hn:n<2^40)(gb:s.get b=some (.cells (ZO L) 3 false 0 0))(gc:s.get c=some (.cells (ZO N) 3 false 0 0)) :
  X6 U (ZE U 109 [.sl c 0 n (some n) 1,.sl b 0 n (some n) 1]) 109 [.sl c 0 n (some n) 1,.sl b 0 n (some n) 1] s=some (.bool (N==L),s):=by
 rw[ajR (by rfl),Xn,Nm hN gc,Xn,Nm hL gb,RF];have h:=aaT false false (PV N) (PV L) (by rw[Q0];omega);rw[WH,WH,yy] at h;exact Hc h (by kernel_rfl) rfl rfl s
theorem ajS {a:Yi}(ha:a.ok):ZE U 106 [Wd a]=some (.fz (ZO (Ik a.fa))):=by
 refine ZR ajJ (by kernel_rfl) (by simp[ZU,VJ]) ?_;rw[WJ];have nn:=ZL a.TH (a.next.map Zn);have nf:=ZL a.S6 (a.ZD.map Zv);have cn:=Zu a.TH (a.next.map Zn);have cf:=Zu a.S6 (a.ZD.map Zv);have ln:=ZI a.TH (a.next.map Zn);rw[agC] at ln;have Si:=ha.few;have m1:=fun (e:Env) (s:St) (ex:Ex) (h:Env.get e 14=.int .i64 (a.next.length:Int))=>@Ql _ ex 14 e s _ h (by omega)
 have m2:=fun (e:Env) (s:St) (ex:Ex) (h:Env.get e 21=.int .i64 (a.next.length:Int))=>@Ql _ ex 21 e s _ h (by omega)
 unfold SV Vy;simp only[go_sem,af1,ln,m1];refine YH (σ:=Nat) (fun i=>a.next.length+1-i) (fun _=>some (.fz (ZO (Ik a.fa)))) (fun i e s=>i<=a.next.length+1/\Env.get e 1=.ptr 8 0/\Env.get e 3=.int .i64 a.next.length/\Env.get e 5=.int .i64 (i:Nat)/\Fr s/\s.get 8=some (Ip a 72) /\
  ∃b L,Env.get e 4=.sl b 0 a.next.length (some a.next.length) 1/\L.length=a.next.length/\8<b/\b<s.next/\s.get b=some (.cells (ZO L) 3 false 0 0)/\yz a.fa (a.next.length+1-i) L=Ik a.fa) 0 ?_ rfl ?_
 ·rintro Lp i e s ⟨hi,g1,g3,g5,fr,gs,b,L,g4,hL,hb8,eG,gb,YA⟩ IH;by_cases hd:i<a.next.length+1
  ·have hle:decide ((i:Int)<=(a.next.length:Int))=true:=by simp;omega
   have hw:=ZN hd (by omega);simp only[go_sem,Bw,g3,g5,hle,m2];refine aex (b:=b) (c:=s.next) (L:=L) (ZB:=fun (x:Option AV)=>x=some (AV.fz (ZO (Ik a.fa)))) ha hL (by omega) (by omega) ?_ ?_ ?_ ?_ ?_ ?_ ?_ ?_ ?_ ?_ ?_
   case refine_11 =>
    intro e2 s2 UU c2 S4 OL O1;have p1:Env.get e2 1=.ptr 8 0:=by rw[UU 1 (by omega)];simp only[go_sem,g1]
    have p3:Env.get e2 3=.int .i64 a.next.length:=by rw[UU 3 (by omega)];simp only[go_sem,g3]
    have p4:Env.get e2 4=.sl b 0 a.next.length (some a.next.length) 1:=by rw[UU 4 (by omega)];simp only[go_sem,g4]
    have p5:Env.get e2 5=.int .i64 (i:Nat):=by rw[UU 5 (by omega)];simp only[go_sem,g5]
    have p6:Env.get e2 6=.sl s.next 0 a.next.length (some a.next.length) 1:=by rw[UU 6 (by omega)];simp only[go_sem]
    rw[Z_] at OL;have gb2:s2.get b=some (.cells (ZO L) 3 false 0 0):=by rw[S4 b (by omega),Z7,if_neg (by omega),gb]
    have gs2:s2.get 8=some (Ip a 72):=by rw[S4 8 (by omega),Z7,if_neg (by omega),gs]
    have WE:=call109 hL (TE a.fa L) (by omega) gb2 c2;rw[show a.next.length+1-i=(a.next.length+1-(i+1))+1 by omega,yz] at YA
    cases j9:(VS a.fa L==L) with
    |true =>
     rw[j9,cond_true] at YA;rw[j9] at WE;have hz:=Nm (d:=38) (cap:=some a.next.length) hL gb2;rw[YA] at hz;simp only[go_sem,p4,p6,WE];rw[VD] at hz;exact hz
    |false =>
     rw[j9,cond_false] at YA;rw[j9] at WE;simp only[go_sem,p4,p5,p6,WE,hw];refine IH (i+1) _ _ (by omega) ⟨by omega,?_,?_,?_,O1,gs2,s.next,VS a.fa L,?_,TE a.fa L,by omega,by omega,c2,YA⟩
     all_goals simp only[go_sem,p1,p3]
   case refine_10=>exact fr.new _
   case refine_9=>rw[Z_];omega
   case refine_8=>rw[Z7,if_pos rfl,K8]
   case refine_7=>rw[Z7,if_neg (by omega),gb]
   case refine_6=>rw[Z7,if_neg (by omega),gs]
   all_goals simp only[go_sem,g1,g3,g4]
   all_goals rfl
  ·have:i=a.next.length+1:=by omega
   subst this;have hle:decide (((a.next.length+1:Nat):Int)<=(a.next.length:Int))=false:=by simp;omega
   rw[Nat.sub_self,yz] at YA;have hz:=Nm (d:=38) (cap:=some a.next.length) hL gb;rw[YA] at hz;simp only[go_sem,Bw,g3,g4,g5,hle];rw[VD] at hz;exact hz
 ·refine⟨aic _,?_,?_,?_,?_,?_,9,List.replicate a.next.length 0,?_,by simp,by omega,?_,?_,rfl⟩
  case refine_4 =>
   repeat first|exact Fr.own|apply Fr.new|apply Fr.put|apply Fr.upto
   all_goals try simp only[go_sem]
  all_goals try simp only[go_sem,K8,Ip]
  all_goals first|rfl|omega
def yZ (l:List Nat)(c:Nat):Int:=bif decide (Xq l c<l.length) then (Xq l c:Int) else -1
def yY (c:Nat):Nat->List Nat->Int
 |_,[] => -1
 |i,x::l=>bif x==c then (i:Int) else yY c (i+1) l
theorem sr (c:Nat):∀(l:List Nat) (i:Nat),yY c i l=bif decide (Xq l c<l.length) then ((i+Xq l c:Nat):Int) else -1
 |[],i=>by simp[yY,Xq]
 |x::l,i=>by
  rw[yY,Xq,sr c l (i+1)]
  cases h:x==c with
  |true=>simp
  |false =>
   simp only[cond_false,akd];by_cases hl:Xq l c<l.length
   ·rw[decide_eq_true hl,decide_eq_true (by omega)];simp only[cond_true];omega
   ·rw[decide_eq_false hl,decide_eq_false (by omega)];rfl
theorem kz (l:List Nat)(c:Nat):yY c 0 l=yZ l c:=by rw[sr,yZ];simp only[ald]
theorem ajc (l:List Nat)(c:Nat)(hl:l.length<=2^40):ZE U 107 [.fz (ZO l),.int .i64 (c:Int)]=some (.int .i64 (yZ l c)):=by
 refine ZR ajd (by kernel_rfl) (by simp[ZU,still]) ?_;rw[<-kz];have ln:Ti (.fz (ZO l))=some (.int .i64 l.length):=by rw[<-WH,ZI,Ww]
 simp only[go_sem,afs];refine YH (σ:=Nat) (fun i=>l.length-i) (fun i=>some (AV.int .i64 (yY c i (l.drop i)))) (fun i e s=>i<=l.length/\Env.get e 0=.fz (ZO l)/\Env.get e 1=.int .i64 (c:Int)/\Env.get e 5=.int .i64 (i:Nat)) 0 ?_ rfl ?_
 ·rintro L i e s ⟨hi,g0,g1,g5⟩ ih;by_cases hd:i<l.length
  ·have hx:Ud 1 (.fz (ZO l)) (.int .i64 (i:Int))=some (.fp [.int .i64 ((gt l i:Nat):Int)] 0):=by
    have:=F6 (nl:=false) (l:=PV l) (i:=i) (by rw[Q0];exact hd);rw[WH] at this;rw[ZO,this];simp[PV,VF hd]
   have hw:=ZN hd (by omega);rw[abc hd,yY,<-VF hd]
   cases hb:gt l i==c with
   |true=>simp only[go_sem,HB,g0,g1,g5,Z8,hd,ln,hx,qw,hb]
   |false =>
    simp only[go_sem,HB,g0,g1,g5,Z8,hd,ln,hx,qw,hb,hw];refine ih (i+1) _ _ (by omega) ⟨by omega,?_,?_,?_⟩ <;> simp only[go_sem,g0,g1]
  ·have:i=l.length:=by omega
   subst this;simp only[go_sem,HB,g0,g5,Z8,alh,ln];rw[alO,yY]
 ·refine⟨aic _,?_,?_,?_⟩ <;> simp only[go_sem] <;> rfl
theorem aje {args:List AV}{s:St}(h:ZU args=false):X6 U (ZE U 107 args) 107 args s=UR U 107 (Y' (Yn U s 40) args) s:=Ke (by kernel_rfl) s h
theorem call107 {s:St}{b n:Nat}{cap:Option Nat}{L:List Nat}(hL:L.length=n)(hn:n<=2^40)(gb:s.get b=some (.cells (ZO L) 3 false 0 0))(c:Nat) :
  X6 U (ZE U 107 [.sl b 0 n cap 1,.int .i64 (c:Int)]) 107 [.sl b 0 n cap 1,.int .i64 (c:Int)] s=some (.int .i64 (yZ L c),s):=by
 rw[aje (by rfl),Xn,Nm hL gb,Xn,HP,RF];exact Hc (ajc L c (by omega)) (by kernel_rfl) rfl rfl s
theorem ai_ {s:St}{b n:Nat}{cap:Option Nat}{L:List Nat}(hL:L.length=n)(hc:cap=none\/cap=some n)(gb:s.get b=some (.cells (ZO L) 3 false 0 0))(hb:b<s.next)(k:Nat) :
  ∃s1,Rx 3 1 1 [.int .i64 (k:Int)] (.sl b 0 n cap 1) s=some (.sl s.next 0 (n+1) none 1,s1)/\s1.next=s.next+1/\s1.get s.next=some (.cells (ZO (L++[k])) 3 false 0 0)/\(∀j,j≠b->j≠s.next->s1.get j=s.get j)/\(Fr s->Fr s1):=by
 have MT:(ZO L).length=n*1:=by rw[Ww,hL,ah1]
 rcases hc with rfl|rfl
 ·refine⟨(s.put b .gone).new (.cells (ZO L++[.int .i64 (k:Int)]) 3 false 0 0),by rw[TR,gb,VA MT (by omega) rfl],rfl,?_,fun j h1 h2=>?_,fun hf=>(hf.put hb _).new _⟩
  ·rw[Z7,Z',if_pos rfl,Qa]
  ·rw[Z7,Z',if_neg (by omega),Z9,if_neg (by omega)]
 ·refine⟨s.new (.cells (ZO L++[.int .i64 (k:Int)]) 3 false 0 0),?_,rfl,?_,fun j h1 h2=>?_,fun hf=>hf.new _⟩
  ·have hg:s.cells b=some (ZO L):=by rw[Nl,gb];rfl
   simp only[Rx,hg];rw[<-MT,Ws];simp only;rw[if_neg (by omega)]
  ·rw[Z7,if_pos rfl,Qa]
  ·rw[Z7,if_neg (by omega)]
theorem y_ (κ:Nat->Nat)(c:Nat)(cs st:List Nat):Zs κ (c::cs) st=bif decide (Xq (st.map κ) (κ c)<st.length) then ((Zs κ cs st).1,Xq (st.map κ) (κ c)::(Zs κ cs st).2) else ((Zs κ cs (st++[c])).1,st.length::(Zs κ cs (st++[c])).2):=rfl
theorem y0 (c:Nat):∀l:List Nat,¬Xq l c<l.length->Xq (l++[c]) c=l.length
 |[],_=>by simp[Xq]
 |x::l,h=>by
  rw[alU,Xq];rw[Xq] at h
  cases hx:x==c with
  |true=>rw[hx] at h;simp at h
  |false =>
   rw[hx] at h;simp only[cond_false,akd] at h ⊢;rw[y0 c l (by omega)]
theorem su {l:List Nat}{c:Nat}(h:Xq l c<l.length):yZ l c=((Xq l c:Nat):Int):=by rw[yZ,decide_eq_true h];rfl
theorem kC {l:List Nat}{c:Nat}(h:¬Xq l c<l.length):yZ l c = -1:=by rw[yZ,decide_eq_false h];rfl
theorem Nn {l:List Nat}{i:Nat}(h:i<l.length):Ud 1 (.fz (ZO l)) (.int .i64 (i:Int))=some (.fp [.int .i64 ((gt l i:Nat):Int)] 0):=by
 have:=F6 (nl:=false) (l:=PV l) (i:=i) (by rw[Q0];exact h);rw[WH] at this;rw[ZO,this];simp[PV,VF h]
theorem DR {l:List Bool}{i:Nat}(k:Bool)(h:i<l.length):lay i [.bool k] (ZM l)=some (ZM (l.set i k)):=by
 rw[NH _ _ _ (by rw[WX];exact h)];simp[ZM,List.map_set]
def KS (A:Fa)(q:Nat):List Nat:=(XM A q).map (YM A)
theorem BG (A:Fa)(q:Nat):(KS A q).length=A.m:=by simp[KS,XM]
theorem abR (A:Fa)(q:Nat){x:Nat}(h:x<A.m):(KS A q)[x]'(by rw[BG];exact h)=YM A (A.nx q x):=by simp[KS,XM]
def XF (A:Fa)(q:Nat):List Bool:=(List.range A.m).map (A.fr q)
theorem S9 (A:Fa)(q:Nat):(XF A q).length=A.m:=by simp[XF]
theorem BH (A:Fa)(q:Nat){x:Nat}(h:x<A.m):(XF A q)[x]'(by rw[S9];exact h)=A.fr q x:=by simp[XF]
theorem ai6 {β:Type}{fin:Fl->β}{ks:List K}{ZB:β->Prop}{a:Yi}(ha:a.ok){L:List Nat}{i q b c f:Nat}{cap:Option Nat}(hq:q<a.next.length)(TN:cap=none\/cap=some L.length)(Ee:∀z∈L,z<a.next.length)(EG:(L.map id).Nodup)(hiL:i<L.length)(dL:L[i]? = some q)
  (hbc:b≠c)(hbf:b≠f)(hcf:c≠f)(h8b:8≠b)(h8c:8≠c)(h8f:8≠f)
  {e:Env}{s:St}(g1:Env.get e 1=.ptr 8 0)(g3:Env.get e 3=.fz (ZO (Ik a.fa)))(g4:Env.get e 4=.sl b 0 L.length cap 1)(g6:Env.get e 6=.int .i64 (i:Int))(g7:Env.get e 7=.sl c 0 (2^a.lines.toNat) (some (2^a.lines.toNat)) 1)(g8:Env.get e 8=.sl f 0 (2^a.lines.toNat) (some (2^a.lines.toNat)) 1)(g9:Env.get e 9=.int .i64 (0:Nat))
  (gs:s.get 8=some (Ip a 72))(gb:s.get b=some (.cells (ZO L) 3 false 0 0))(gc:s.get c=some (.cells (ZO (List.replicate (2^a.lines.toNat) 0)) 3 false 0 0))(gf:s.get f=some (.cells (ZM (List.replicate (2^a.lines.toNat) false)) 4 false 0 0))(nb:b<s.next)(nc:c<s.next)(nf:f<s.next)(fr:Fr s)
  (hk:∀e' s' b' Ru,(∀t:Nat,t<9->t≠4->Env.get e' t=Env.get e t)->Env.get e' 4=.sl b' 0 (Zs id (KS a.fa q) L).1.length Ru 1->(Ru=none\/Ru=some (Zs id (KS a.fa q) L).1.length)->(b'=b\/s.next<=b')->b'<s'.next->b'≠c->b'≠f ->
   s'.get b'=some (.cells (ZO (Zs id (KS a.fa q) L).1) 3 false 0 0)->s'.get c=some (.cells (ZO (Zs id (KS a.fa q) L).2) 3 false 0 0)->s'.get f=some (.cells (ZM (XF a.fa q)) 4 false 0 0) ->
   (∀j,j<s.next->j≠b->j≠c->j≠f->s'.get j=s.get j)->s.next<=s'.next->Fr s'->ZB (goN U fin ks e' s')) :
  ZB (SD U fin (.bk 2::ks) GK e s):=by
 have Si:=ha.few;have hA:=ha.M9;have Nb:=ha.m16;have eD:(KS a.fa q).length=2^a.lines.toNat:=BG a.fa q;have hFl:(XF a.fa q).length=2^a.lines.toNat:=S9 a.fa q;obtain⟨_,_,_,NA,_⟩:=TF (κ:=id) (KS a.fa q) L EG;have NA:(Zs id (KS a.fa q) L).2.length=2^a.lines.toNat:=by rw[NA,eD]
 generalize BW:(Zs id (KS a.fa q) L).2=kf at *;generalize Jd:(Zs id (KS a.fa q) L).1=Lf at *;have hq':q<a.ZD.length:=by rw[ha.fl];exact hq
 have r1:=Sf (nl:=a.TH) hq;have r2:=Se (nl:=a.S6) hq';unfold Ip at gs;refine YP (σ:=Nat) (fun x=>2^a.lines.toNat-x) (fun x e' s'=>x<=2^a.lines.toNat/\(∀t:Nat,t<9->t≠4->Env.get e' t=Env.get e t)/\Env.get e' 9=.int .i64 (x:Nat) /\
   s'.get c=some (.cells (ZO (part kf 0 (2^a.lines.toNat) x)) 3 false 0 0)/\s'.get f=some (.cells (ZM (part (XF a.fa q) false (2^a.lines.toNat) x)) 4 false 0 0) /\
   (∀j,j<s.next->j≠b->j≠c->j≠f->s'.get j=s.get j)/\s.next<=s'.next/\Fr s' /\
   ∃L' b' Ru,Zs id ((KS a.fa q).drop x) L'=(Lf,kf.drop x)/\(∀j,j<L.length->L'[j]? = L[j]?)/\L.length<=L'.length/\(∀z∈L',z<a.next.length)/\(L'.map id).Nodup /\
    Env.get e' 4=.sl b' 0 L'.length Ru 1/\(Ru=none\/Ru=some L'.length)/\(b'=b\/s.next<=b')/\b'<s'.next/\s'.get b'=some (.cells (ZO L') 3 false 0 0)) 0 ?_
  ⟨aic _,fun _ _ _=>rfl,g9,by rw[gc];unfold part;rw[amF,amg,Nat.sub_zero],by rw[gf];unfold part;rw[amF,amg,Nat.sub_zero],fun _ _ _ _ _=>rfl,agB _,fr,
   L,b,cap,by rw[amd,amd,<-Jd,<-BW],fun _ _=>rfl,agB _,Ee,EG,g4,TN,.inl rfl,nb,gb⟩
 rintro Lp x e' s' ⟨hx,hold,q9,qc,qf,hs,Vl,Xx,L',b',Ru,UO,vu,hle,vt,zd,q4,F3,TQ,nb',qb⟩ IH;have q1:=(hold 1 (by omega) (by omega)).trans g1;have q3:=(hold 3 (by omega) (by omega)).trans g3;have q6:=(hold 6 (by omega) (by omega)).trans g6;have q7:=(hold 7 (by omega) (by omega)).trans g7;have q8:=(hold 8 (by omega) (by omega)).trans g8;have h8n:8<s.next:=by
  refine Nat.lt_of_not_le fun h=>?_
  rw[fr 8 h] at gs
  cases gs
 have Mz:=(hs 8 h8n h8b h8c h8f).trans gs;have ai7:b'≠c:=by omega
 have ai8:b'≠f:=by omega
 have ai9:L'.length<=a.next.length:=Vn zd vt;by_cases hd:x<2^a.lines.toNat
 ·have hw:=ZN hd (by omega);have hxm:x<(KS a.fa q).length:=by omega
  have sT:a.fa.nx q x<a.next.length:=hA.lt q x hq hd;have n1:=ha.mz hq hd;have f1:=ha.abI hq hd;have o1:=Nn (l:=Ik a.fa) (i:=a.fa.nx q x) (by rw[za hA];exact sT);rw[sw hA sT] at o1;have hTx:(KS a.fa q)[x]=YM a.fa (a.fa.nx q x):=abR a.fa q hd;have hzn:YM a.fa (a.fa.nx q x)<a.next.length:=amw ((WM a.fa).le _) sT;rw[abc hxm,hTx,abc (show x<kf.length by omega),y_,List.map_id] at UO;simp only[id] at UO;have qa:i<L'.length:=by omega
  have hgi:=Yq (l:=L') (i:=i) qa;have hLq:gt L' i=q:=by
   have:=vu i hiL;rw[dL,aaa qa] at this;rw[VF qa];exact Option.some.inj this
  rw[hLq] at hgi;have WE:=fun (S:St) (h:S.get b'=some (.cells (ZO L') 3 false 0 0))=>call107 (s:=S) (cap:=Ru) (L:=L') rfl (by omega) h (YM a.fa (a.fa.nx q x))
  have hpk:(part kf 0 (2^a.lines.toNat) x).length=2^a.lines.toNat:=Ol kf 0 NA hx;have hpf:(part (XF a.fa q) false (2^a.lines.toNat) x).length=2^a.lines.toNat:=Ol (XF a.fa q) false hFl hx;have hfs:(part (XF a.fa q) false (2^a.lines.toNat) x).set x (a.fa.fr q x)=part (XF a.fa q) false (2^a.lines.toNat) (x+1):=by
   rw[<-Qj (XF a.fa q) false hFl hd,BH a.fa q hd]
  have abS:=DR (l:=part (XF a.fa q) false (2^a.lines.toNat) x) (i:=x) (a.fa.fr q x) (by omega);rw[hfs] at abS;generalize hz:YM a.fa (a.fa.nx q x)=z at *;have x1:(c=8)=False:=by simp;omega
  have x2:(c=b')=False:=by simp;omega
  have x3:(c=f)=False:=by simp;omega
  have x4:(f=8)=False:=by simp;omega
  have x5:(f=b')=False:=by simp;omega
  have x6:(f=c)=False:=by simp;omega
  by_cases Ue:Xq L' z<L'.length
  ·rw[decide_eq_true Ue] at UO;simp only[cond_true] at UO;have UF:Zs id ((KS a.fa q).drop (x+1)) L'=(Lf,kf.drop (x+1)):=by
    have h1:=congrArg Prod.fst UO;have h2:=congrArg Prod.snd UO;simp only[List.cons.injEq] at h1 h2;exact Prod.ext h1 h2.2
   have dK:kf[x]=Xq L' z:=by
    have h2:=congrArg Prod.snd UO;simp only[List.cons.injEq] at h2;exact h2.1.symm
   have kD:=Xd (l:=part kf 0 (2^a.lines.toNat) x) (i:=x) (Xq L' z) (by omega);rw[<-dK,Qj kf 0 NA hd,dK] at kD;rw[su Ue] at WE;have afo:decide (((Xq L' z:Nat):Int)<0)=false:=by simp
   simp only[go_sem,GK,q1,q3,q4,q6,q7,q8,q9,Mz,qb,qc,qf,Z8,hd,qa,hgi,n1,f1,o1,r1,r2,WE,afo,kD,abS,hw,ah1,x1,x2,x3];refine IH (x+1) _ _ (by omega) ⟨by omega,fun t ht h4=>?_,?_,?_,?_,fun j h1 h2 h3 h4=>?_,?_,?_,L',b',Ru,UF,vu,hle,vt,zd,?_,F3,TQ,?_,?_⟩
   ·have ZC:∀k:Nat,9<=k->(k=t)=False:=fun k hk=>by simp;omega
    simp only[go_sem,ZC];exact hold t ht h4
   ·simp only[go_sem]
   ·simp only[go_sem,x6]
   ·simp only[go_sem]
   ·rw[Z9,if_neg (fun e=>h4 e.symm),ZT,Z9,if_neg (fun e=>h3 e.symm),ZT];exact hs j h1 h2 h3 h4
   ·simp only[Z',Z6];omega
   ·exact (((Xx.upto (by omega)).put (by rw[Z6];omega) _).upto (by rw[Z',Z6];omega)).put (by rw[Z6];omega) _
   ·simp only[go_sem,q4]
   ·simp only[Z',Z6];omega
   ·simp only[go_sem,x2,x5,qb]
  ·rw[decide_eq_false Ue] at UO;simp only[cond_false] at UO;have UF:Zs id ((KS a.fa q).drop (x+1)) (L'++[z])=(Lf,kf.drop (x+1)):=by
    have h1:=congrArg Prod.fst UO;have h2:=congrArg Prod.snd UO;simp only[List.cons.injEq] at h1 h2;exact Prod.ext h1 h2.2
   have dK:kf[x]=L'.length:=by
    have h2:=congrArg Prod.snd UO;simp only[List.cons.injEq] at h2;exact h2.1.symm
   have Jl:(L'++[z]).length=L'.length+1:=by simp
   have afp:((L'++[z]).map id).Nodup:=by
    rw[List.map_id] at zd ⊢;rw[List.nodup_append];refine⟨zd,by simp,fun p hp r hr=>?_⟩;rw[ake.1 hr];rintro rfl;exact Ue ((HT L' p).2 hp)
   have afq:∀w∈L'++[z],w<a.next.length:=fun w hw=>by
    rcases amb.1 hw with h|h
    ·exact vt w h
    ·rw[ake.1 h];exact hzn
   have alo:(L'++[z]).length<=a.next.length:=Vn afp afq;have kD:=Xd (l:=part kf 0 (2^a.lines.toNat) x) (i:=x) L'.length (by omega);rw[<-dK,Qj kf 0 NA hd,dK] at kD;rw[kC Ue] at WE;have afo:decide ((-1:Int)<0)=true:=by decide
   have UP:(L'.length+1)*8<=1099511627776:=by omega
   have VP:L'.length+1<=1099511627776:=by omega
   simp only[go_sem,GK,q1,q3,q4,q6,q7,q9,Mz,qb,Z8,hd,qa,hgi,n1,o1,r1,WE,ah1,ZH,Nat.reducePow,Np,UP,VP];obtain⟨s1,a1,a2,a3,a4,a5⟩:=ai_ (s:=(s'.upto (s'.next+15)).new (.cells [.int .i64 (z:Int)] 3 false 0 0)) (b:=b') (cap:=Ru) (L:=L') rfl F3 (by rw[Z7,Z6,if_neg (by omega),ZT,qb]) (by rw[Z_,Z6];omega) z;rw[Z_,Z6] at a1 a2 a3 a4;rw[a1];have old:∀j,j<s'.next->j≠b'->s1.get j=s'.get j:=fun j h1 h2=>by rw[a4 j h2 (by omega),Z7,Z6,if_neg (by omega),ZT]
   have u8:=(old 8 (by omega) (by omega)).trans Mz;have uc:=(old c (by omega) (by omega)).trans qc;have uf:=(old f (by omega) (by omega)).trans qf;have kB:=fun (S:St) (h:S.get (s'.next+15+1)=some (.cells (ZO (L'++[z])) 3 false 0 0))=>call107 (s:=S) (cap:=none) (L:=L'++[z]) Jl (by omega) h z
   have Aj:=y0 z L' Ue;rw[su (show Xq (L'++[z]) z<(L'++[z]).length by omega),Aj] at kB;have afr:=Yq (l:=L'++[z]) (i:=i) (by omega);have ai':gt (L'++[z]) i=q:=by rw[HC qa,hLq]
   rw[ai'] at afr;have y2:(c=s'.next+15+1)=False:=by simp;omega
   have y5:(f=s'.next+15+1)=False:=by simp;omega
   have aja:i<L'.length+1:=by omega
   simp only[go_sem,q1,q6,q7,q8,q9,u8,uc,uf,a3,aja,afr,f1,r2,kB,kD,abS,hd,hw,ah1,x1,x3,y2];have mg:=a5 ((Xx.upto (by omega)).new _);refine IH (x+1) _ _ (by omega) ⟨by omega,fun t ht h4=>?_,?_,?_,?_,fun j h1 h2 h3 h4=>?_,?_,?_,L'++[z],s'.next+15+1,none,UF,fun j hj=>?_,by omega,afq,afp,?_,.inl rfl,.inr (by omega),?_,?_⟩
   ·have ZC:∀k:Nat,9<=k->(k=t)=False:=fun k hk=>by simp;omega
    have ajb:(4=t)=False:=by simp;omega
    simp only[go_sem,ZC,ajb];exact hold t ht h4
   ·simp only[go_sem]
   ·simp only[go_sem,x6]
   ·simp only[go_sem]
   ·rw[Z9,if_neg (fun e=>h4 e.symm),ZT,Z9,if_neg (fun e=>h3 e.symm),old j (by omega) (by omega)];exact hs j h1 h2 h3 h4
   ·simp only[Z',Z6];omega
   ·exact (((mg.put (by omega) _).upto (by rw[Z'];omega)).put (by rw[Z6];omega) _)
   ·rw[al0 (by omega)];exact vu j hj
   ·simp only[go_sem,Jl]
   ·simp only[Z',Z6];omega
   ·simp only[go_sem,y2,y5,a3]
 ·have:x=2^a.lines.toNat:=by omega
  subst this;have hd0:(KS a.fa q).drop (2^a.lines.toNat)=[]:=by rw[<-eD,alO]
  rw[hd0] at UO;have uq:L'=Lf:=congrArg Prod.fst UO;subst uq;rw[Qi _ _ NA] at qc;rw[Qi _ _ hFl] at qf;have lk:Ti (.sl c 0 (2^a.lines.toNat) (some (2^a.lines.toNat)) 1)=some (.int .i64 ((2^a.lines.toNat:Nat):Int)):=rfl;simp only[go_sem,GK,q7,q9,Z8,alh];refine hk _ _ b' Ru (fun t ht h4=>?_) ?_ F3 TQ nb' ai7 ai8 qb qc qf hs Vl Xx
  ·have ZC:∀k:Nat,9<=k->(k=t)=False:=fun k hk=>by simp;omega
   simp only[go_sem,ZC];exact hold t ht h4
  ·simp only[go_sem,q4]
theorem ZK.wC {s:St}{B:Nat}{t:TypeId}{i:Nat}{cs:List AV}{v:AV}(h:ZK s B t 1 i cs v)(hB:B<=s.next)(x:AV)(hx:Go.Am.Zz x=true) :
  ∃s1,Rx t 1 1 [x] v s=some (.sl s.next 0 (i+1) none 1,s1)/\s1.next=s.next+1/\ZK s1 B t 1 (i+1) (cs++[x]) (.sl s.next 0 (i+1) none 1) /\
   (∀j c t' lo hi,s.get j=some (.cells c t' false lo hi)->j<s.next->t'≠t->s1.get j=some (.cells c t' false lo hi))/\(∀j,j<B->s1.get j=s.get j)/\(Fr s->Fr s1):=by
 obtain⟨s1,a1,a2,a3,a4,a5⟩:=h.Gy hB (m:=1) (new:=[x]) (by omega) rfl (by simp[hx]);exact⟨s1,a1,a2,a3,fun j c t' lo hi hj Yh ZC=>by rw[a4 j (by omega) (h.other hj ZC),hj],fun j hj=>a4 j (by omega) (h.B8 (.inr hj)),a5⟩
theorem ZK.XS {s s':St}{B:Nat}{t:TypeId}{i:Nat}{cs:List AV}{v:AV}(h:ZK s B t 1 i cs v)(hn:s.next<=s'.next)(hg:∀j c,s.get j=some (.cells c t false 0 0)->j<s.next->B<=j->s'.get j=some (.cells c t false 0 0)):ZK s' B t 1 i cs v:=by
 rcases h with⟨h0,h1,h2⟩|⟨h0,h1,b,h2,h3,h4,h5⟩
 ·exact .inl ⟨h0,h1,h2⟩
 ·exact .inr ⟨h0,h1,b,h2,by omega,h4,hg b _ h5 h3 h2⟩
def NW (s:St)(b:Nat)(t:TypeId)(c:AV)(l:List AV):Prop:=∃j,c=.sl j 0 l.length (some l.length) 1/\j<s.next/\j≠b/\12<=j/\s.get j=some (.cells l t false 0 0)
theorem NW.mono {s s':St}{b b':Nat}{t:TypeId}{c:AV}{l:List AV}(h:NW s b t c l)(hn:s.next<=s'.next)(hb:∀j,j<s.next->j≠b->j≠b')(hg:∀j,j<s.next->j≠b->12<=j->s.get j=some (.cells l t false 0 0)->s'.get j=some (.cells l t false 0 0)):NW s' b' t c l:=by
 obtain⟨j,h1,h2,h3,h4,h5⟩:=h;exact⟨j,h1,by omega,hb j h2 h3,h4,hg j h2 h3 h4 h5⟩
theorem NW.Yn {s:St}{b d:Nat}{c:AV}{l:List AV}{t:TypeId}(h:NW s b t c l)(Et:YC U t=some false)(VY:size U t=some 1)(Re:l.all Zz=true)(hf:Y' (Go.Am.Yn U s d) l=some l):Go.Am.Yn U s (d+1) c=some (.fz l):=by
 obtain⟨j,rfl,_,_,_,h5⟩:=h;rw[VD,h5,Wo,ah1,Ws,Et,VY,TX,if_pos Re,VC,hf,Tb]
theorem Va {A:Type}{f:AV->Option AV}{g:A->AV}:∀{cs:List AV} {rs:List A},cs.length=rs.length->(∀j (h:j<cs.length) (h':j<rs.length),f cs[j]=some (g rs[j]))->Y' f cs=some (rs.map g)
 |[],[],_,_=>rfl
 |c::cs,r::rs,hl,h=>by
  have h0:=h 0 (by simp) (by simp);simp only[List.getElem_cons_zero] at h0;have ih:=Va (f:=f) (g:=g) (cs:=cs) (rs:=rs) (by simpa using hl) fun j h1 h2=>by
   have:=h (j+1) (by simpa using h1) (by simpa using h2)
   simpa using this
  rw[Xn,h0,ih,alT];rfl
 |[],_::_,hl,_=>by simp at hl
 |_::_,[],hl,_=>by simp at hl
def Zl (a:Yi):Yi:={ lines:=a.lines,TH:=true,next:=(U7 a.fa).map (fun x=>(false,PV x.2)),S6:=true,ZD:=(U7 a.fa).map (fun x=>(false,XF a.fa x.1)) }
theorem akL {a:Yi}(ha:a.ok){e:Env}{s:St}(g1:Env.get e 1=.ptr 8 0)(g2:Env.get e 2=.ptr 9 0)(g3:Env.get e 3=.fz (ZO (Ik a.fa)))(g4:Env.get e 4=.sl 10 0 1 (some 1) 1)(g5:Env.get e 5=.ptr 11 0)(g6:Env.get e 6=.int .i64 (0:Nat))
  (gs:s.get 8=some (Ip a 72))(g9:s.get 9=some (.cells [.int .i64 0,.ZW,.ZW] 72 false 0 0))(gb:s.get 10=some (.cells (ZO [YM a.fa 0]) 3 false 0 0))(go:s.get 11=some (.cells [.int .i64 a.lines,.ZW,.ZW] 72 false 0 0))(nx:12<=s.next)(fr:Fr s){ks:List K}{r:Option AV}
  (hk:∀e' s' v w,Env.get e' 5=.ptr 11 0->Env.get e' 2=.ptr 9 0->s'.get 11=some (.cells [.int .i64 a.lines,v,w] 72 false 0 0)->s'.get 9=some (.cells [.int .i64 0,.ZW,.ZW] 72 false 0 0)->Zz v=true->Zz w=true ->
   (∀S d,S.next=s'.next->(∀j,j≠9->S.get j=s'.get j)->Yn U S (d+3) v=some (ZG true ((U7 a.fa).map fun x=>AV.fz (ZO x.2))))->(∀S d,S.next=s'.next->(∀j,j≠9->S.get j=s'.get j)->Yn U S (d+3) w=some (ZG true ((U7 a.fa).map fun x=>AV.fz (ZM (XF a.fa x.1)))))->goN U (Mt U [.cell 2 72]) ks e' s'=r) :
  SD U (Mt U [.cell 2 72]) (.bk 0::ks) Ca e s=r:=by
 have Si:=ha.few;have hA:=ha.M9;have Nb:=ha.m16;have QC:=Tq U 3 true .i64 (n:=a.lines) (show 0<=a.lines/\a.lines<=16 by have:=ha.lines;omega);have hm:(2:Int)^a.lines.toNat=((2^a.lines.toNat:Nat):Int):=by have:=Ny a.lines;unfold RA at this;exact this
 rw[hm] at QC;have h0n:YM a.fa 0<a.next.length:=amw ((WM a.fa).le 0) ha.pos;refine YP (σ:=Nat) (ZB:=fun (x:Option AV)=>x=r) (fun i=>a.next.length-i) (fun i e s=>Env.get e 1=.ptr 8 0/\Env.get e 2=.ptr 9 0/\Env.get e 3=.fz (ZO (Ik a.fa))/\Env.get e 5=.ptr 11 0/\Env.get e 6=.int .i64 (i:Nat)/\s.get 8=some (Ip a 72)/\s.get 9=some (.cells [.int .i64 0,.ZW,.ZW] 72 false 0 0)/\12<=s.next/\Fr s /\
   ∃(L:List Nat) (b:Nat) (cap:Option Nat) (acc:List (Nat×List Nat)) (cN cF:List AV) (v w:AV),Env.get e 4=.sl b 0 L.length cap 1/\(cap=none\/cap=some L.length)/\s.get b=some (.cells (ZO L) 3 false 0 0)/\b<s.next/\(b=10\/12<=b)/\(∀z∈L,z<a.next.length)/\(L.map id).Nodup /\
    s.get 11=some (.cells [.int .i64 a.lines,v,w] 72 false 0 0)/\ZK s 12 40 1 i cN v/\ZK s 12 43 1 i cF w/\acc.length=i/\cN.length=i/\cF.length=i /\
    (∀j (h:j<acc.length) (h':j<cN.length),NW s b 3 cN[j] (ZO acc[j].2))/\(∀j (h:j<acc.length) (h':j<cF.length),NW s b 4 cF[j] (ZM (XF a.fa acc[j].1))) /\
    i<=L.length/\acc++UE id (KS a.fa) (a.next.length+1-i) i L=U7 a.fa) 0 ?_
  ⟨g1,g2,g3,g5,g6,gs,g9,nx,fr,[YM a.fa 0],10,some 1,[],[],[],.ZW,.ZW,g4,.inr rfl,gb,by omega,.inl rfl,fun z hz=>by rw[ake.1 hz];exact h0n,by simp,go,ZK.nil _ _ _ _,ZK.nil _ _ _ _,rfl,rfl,rfl,fun j h=>by simp at h,fun j h=>by simp at h,aic _,rfl⟩
 clear g1 g2 g3 g4 g5 g6 gs g9 gb go nx fr e s;rintro Lp i e s ⟨g1,g2,g3,g5,g6,gs,g9,nx,fr,L,b,cap,acc,cN,cF,v,w,g4,TN,gb,nb,hb,Ee,EG,go,hv,hw,Kc,Cz,Cy,xe,xd,hiL,YA⟩ IH;have agq:L.length<=a.next.length:=Vn EG Ee;by_cases hd:i<L.length
 ·have Rm:=ZN hd (by omega);have hq:L[i]<a.next.length:=Ee _ (adm hd);have dL:L[i]? = some L[i]:=aaa hd;rw[show a.next.length+1-i=(a.next.length+1-(i+1))+1 by omega,UE,dL] at YA;simp only at YA;generalize hqe:L[i]=q at *;have Mz:=gs;unfold Ip at Mz;have n8:∀q,(s.next+q=8)=False:=fun q=>by simp;omega
  have n8':(s.next=8)=False:=by simp;omega
  have m1:=fun (e:Env) (s:St) (ex:Ex) (h:Env.get e 28=.int .i64 ((2^a.lines.toNat:Nat):Int))=>@Ql _ ex 28 e s _ h (by omega)
  have m2:=fun (e:Env) (s:St) (ex:Ex) (h:Env.get e 32=.int .i64 ((2^a.lines.toNat:Nat):Int))=>@DG _ ex 32 e s _ h (by omega)
  simp only[go_sem,Ca,g1,g4,g6,Mz,Z8,hd,QC,m1,m2,n8'];refine ai6 (ZB:=fun (x:Option AV)=>x=r) (a:=a) (L:=L) (i:=i) (q:=q) (b:=b) (c:=s.next) (f:=s.next+1) (cap:=cap) ha hq TN Ee EG hd dL (by omega) (by omega) (by omega) (by omega) (by omega) (by omega) ?_ ?_ ?_ ?_ ?_ ?_ ?_ ?_ ?_ ?_ ?_ ?_ ?_ ?_ ?_ ?_
  case refine_16 =>
   intro e2 s2 b2 bN UU p4 iG VP nb2 akM akN qb2 qc2 qf2 S4 OL O1;simp only[Z_] at OL VP S4;have E:∀t:Nat,t<9->t≠4->t≠7->t≠8->Env.get e2 t=Env.get e t:=fun t h1 h4 h7 h8=>by
    rw[UU t h1 h4];have ZC:∀k:Nat,9<=k->(k=t)=False:=fun k hk=>by simp;omega
    have akO:(7=t)=False:=by simp;omega
    have uC:(8=t)=False:=by simp;omega
    simp only[go_sem,ZC,akO,uC]
   have p1:=(E 1 (by omega) (by omega) (by omega) (by omega)).trans g1;have p2:=(E 2 (by omega) (by omega) (by omega) (by omega)).trans g2;have p3:=(E 3 (by omega) (by omega) (by omega) (by omega)).trans g3;have p5:=(E 5 (by omega) (by omega) (by omega) (by omega)).trans g5;have p6:=(E 6 (by omega) (by omega) (by omega) (by omega)).trans g6;have p7:Env.get e2 7=.sl s.next 0 (2^a.lines.toNat) (some (2^a.lines.toNat)) 1:=by
    rw[UU 7 (by omega) (by omega)];simp only[go_sem]
   have p8:Env.get e2 8=.sl (s.next+1) 0 (2^a.lines.toNat) (some (2^a.lines.toNat)) 1:=by
    rw[UU 8 (by omega) (by omega)];simp only[go_sem]
   have old:∀j,j<s.next->j≠b->s2.get j=s.get j:=fun j h1 h2=>by
    rw[S4 j (by omega) h2 (by omega) (by omega),Z7,Z_,if_neg (by omega),Z7,if_neg (by omega)]
   have u8:=(old 8 (by omega) (by omega)).trans gs;have u9:=(old 9 (by omega) (by omega)).trans g9;have A':=(old 11 (by omega) (by omega)).trans go;have typ:∀j c t',s.get j=some (.cells c t' false 0 0)->t'≠3->j≠b:=fun j c t' h ht e=>by
    rw[e,gb] at h;cases h;exact ht rfl
   have Mv:ZK s2 12 40 1 i cN v:=hv.XS (by omega) fun j c h h1 _=>by rw[old j h1 (typ j c _ h (by decide))];exact h
   have Mx:ZK s2 12 43 1 i cF w:=hw.XS (by omega) fun j c h h1 _=>by rw[old j h1 (typ j c _ h (by decide))];exact h
   have nbb:∀j,j<s.next->j≠b->j≠b2:=fun j h1 h2=>by omega
   have acP:∀j (h:j<acc.length) (h':j<cN.length),NW s2 b2 3 cN[j] (ZO acc[j].2):=fun j h h'=>(xe j h h').mono (by omega) nbb fun j h1 h2 _ h5=>by rw[old j h1 h2];exact h5
   have acQ:∀j (h:j<acc.length) (h':j<cF.length),NW s2 b2 4 cF[j] (ZM (XF a.fa acc[j].1)):=fun j h h'=>(xd j h h').mono (by omega) nbb fun j h1 h2 _ h5=>by rw[old j h1 h2];exact h5
   have eD:(KS a.fa q).length=2^a.lines.toNat:=BG a.fa q;obtain⟨nd2,le2,_,kl2,_⟩:=TF (κ:=id) (KS a.fa q) L EG;have kl2:(Zs id (KS a.fa q) L).2.length=2^a.lines.toNat:=by rw[kl2,eD]
   have qx:∀z∈(Zs id (KS a.fa q) L).1,z<a.next.length:=by
    have:=(RT (κ:=id) (ρ:=id) (Q:=fun z=>z<a.next.length) (fun _ _ _ _=>Iff.rfl) (KS a.fa q) L (fun z hz=>by
     obtain⟨y,hy,rfl⟩:=alN.1 hz;obtain⟨x,hx,rfl⟩:=alN.1 hy;exact amw ((WM a.fa).le _) (hA.lt q x hq (al4.1 hx))) Ee).2
    exact this
   have hbN:NW s2 b2 3 (.sl s.next 0 (2^a.lines.toNat) (some (2^a.lines.toNat)) 1) (ZO (Zs id (KS a.fa q) L).2):=⟨s.next,by rw[Ww,kl2],by omega,fun e=>akM e.symm,nx,qc2⟩;have hbF:NW s2 b2 4 (.sl (s.next+1) 0 (2^a.lines.toNat) (some (2^a.lines.toNat)) 1) (ZM (XF a.fa q)):=⟨s.next+1,by rw[WX,S9];rfl,by omega,fun e=>akN e.symm,by omega,qf2⟩;generalize uq:(Zs id (KS a.fa q) L).1=Lf at *;generalize hkf:(Zs id (KS a.fa q) L).2=kf at *;have la1:=Mv.Xj;have la2:=Mx.Xj;have UP:(i+1)*24<=1099511627776:=by omega
   have VP:i+1<=1099511627776:=by omega
   simp only[go_sem,p5,p7,A',ZH,Nat.reducePow,amk,la1,UP,VP];generalize hcv:AV.sl s.next 0 (2^a.lines.toNat) (some (2^a.lines.toNat)) 1=cv at *;generalize fc:AV.sl (s.next+1) 0 (2^a.lines.toNat) (some (2^a.lines.toNat)) 1=cw at *;have eX:ZK (s2.new (.cells [cv] 40 false 0 0)) 12 40 1 i cN v:=Mv.XS (by rw[Z_];omega) fun j c h h1 _=>by rw[Z7,if_neg (by omega)];exact h
   have akP:Zz cv=true:=by rw[<-hcv];rfl
   have akQ:Zz cw=true:=by rw[<-fc];rfl
   have ccw:cw.cells=[cw]:=by rw[<-fc];rfl
   obtain⟨s4,a1,a2,a3,a4,a5,a6⟩:=eX.wC (by rw[Z_];omega) cv akP;have fr4:=a6 (O1.new _);rw[Z_] at a1 a2 a3 a4;rw[a1];have v11:s4.get 11=some (.cells [.int .i64 a.lines,v,w] 72 false 0 0):=by rw[a5 11 (by omega),Z7,if_neg (by omega),A']
   simp only[go_sem,p5,p8,v11,ccw,ZH,Nat.reducePow,amk,la2,UP,VP];have prA:∀x j c t',j≠11->j<s2.next->s2.get j=some (.cells c t' false 0 0)->t'≠40->(s4.put 11 x).get j=some (.cells c t' false 0 0):=fun x j c t' h1 h2 h3 h4=>by
    rw[Z9,if_neg (fun e=>h1 e.symm)];exact a4 j c t' 0 0 (by rw[Z7,if_neg (by omega)];exact h3) (by omega) h4
   have hw5:∀x,ZK ((s4.put 11 x).new (.cells [cw] 43 false 0 0)) 12 43 1 i cF w:=fun x=>Mx.XS (by rw[Z_,Z'];omega) fun j c h h1 h2=>by
    rw[Z7,Z',if_neg (by omega)];exact prA x j c _ (by omega) h1 h (by decide)
   generalize Jw:Uy.cells [.int .i64 a.lines,.sl (s2.next+1) 0 (i+1) none 1,w] 72 false 0 0=X1 at *;obtain⟨s7,b1,c2,b3,b4,b5,b6⟩:=(hw5 X1).wC (by rw[Z_,Z'];omega) cw akQ;have fr7:=b6 ((fr4.put (by omega) _).new _);rw[Z_,Z'] at b1 c2 b3 b4;rw[b1];have w11:s7.get 11=some (.cells [.int .i64 a.lines,.sl (s2.next+1) 0 (i+1) none 1,w] 72 false 0 0):=by rw[b5 11 (by omega),Z7,Z',if_neg (by omega),Z9,if_pos rfl,Jw]
   simp only[go_sem,p5,p6,w11,Rm];have prB:∀y j c t',j≠11->j<s2.next->s2.get j=some (.cells c t' false 0 0)->t'≠40->t'≠43->(s7.put 11 y).get j=some (.cells c t' false 0 0):=fun y j c t' h1 h2 h3 h4 h5=>by
    rw[Z9,if_neg (fun e=>h1 e.symm)];exact b4 j c t' 0 0 (by rw[Z7,Z',if_neg (by omega)];exact prA X1 j c t' h1 h2 h3 h4) (by omega) h5
   have low:∀y j,j<11->(s7.put 11 y).get j=s2.get j:=fun y j hj=>by
    rw[Z9,if_neg (by omega),b5 j (by omega),Z7,Z',if_neg (by omega),Z9,if_neg (by omega),a5 j (by omega),Z7,if_neg (by omega)]
   have hvE:∀y,ZK (s7.put 11 y) 12 40 1 (i+1) (cN++[cv]) (.sl (s2.next+1) 0 (i+1) none 1):=fun y=>a3.XS (by rw[Z'];omega) fun j c h h1 h2=>by
    rw[Z9,if_neg (by omega)];exact b4 j c _ 0 0 (by rw[Z7,Z',if_neg (by omega),Z9,if_neg (by omega)];exact h) (by omega) (by decide)
   have hwE:∀y,ZK (s7.put 11 y) 12 43 1 (i+1) (cF++[cw]) (.sl (s4.next+1) 0 (i+1) none 1):=fun y=>b3.XS (by rw[Z'];omega) fun j c h h1 h2=>by
    rw[Z9,if_neg (by omega)];exact h
   have ag8:∀y c l,NW s2 b2 3 c l->NW (s7.put 11 y) b2 3 c l:=fun y c l h=>h.mono (by rw[Z'];omega) (fun _ _ h=>h) fun j h1 h2 h3 h5=>prB y j _ _ (by omega) h1 h5 (by decide) (by decide)
   have ag9:∀y c l,NW s2 b2 4 c l->NW (s7.put 11 y) b2 4 c l:=fun y c l h=>h.mono (by rw[Z'];omega) (fun _ _ h=>h) fun j h1 h2 h3 h5=>prB y j _ _ (by omega) h1 h5 (by decide) (by decide)
   rw[List.append_cons] at YA;refine IH (i+1) _ _ (by omega) ⟨?_,?_,?_,?_,?_,by rw[low _ 8 (by omega),u8],by rw[low _ 9 (by omega),u9],by rw[Z'];omega,fr7.put (by omega) _,Lf,b2,bN,acc++[(q,kf)],cN++[cv],cF++[cw],_,_,?_,iG,prB _ _ _ _ (by omega) nb2 qb2 (by decide) (by decide),by rw[Z'];omega,by omega,qx,nd2,by rw[Z9,if_pos rfl],hvE _,hwE _,by simp[Kc],by simp[Cz],by simp[Cy],fun j h h'=>?_,fun j h h'=>?_,by omega,YA⟩
   case refine_7 =>
    by_cases hj:j<acc.length
    ·rw[al2 (by omega),al2 hj];exact ag8 _ _ _ (acP j hj (by omega))
    ·have hj:j=acc.length:=by rw[agy,alW] at h;omega
     subst hj;rw[al5 (by omega),al5 (by omega)];simp only[amC];exact ag8 _ _ _ hbN
   case refine_8 =>
    by_cases hj:j<acc.length
    ·rw[al2 (by omega),al2 hj];exact ag9 _ _ _ (acQ j hj (by omega))
    ·have hj:j=acc.length:=by rw[agy,alW] at h;omega
     subst hj;rw[al5 (by omega),al5 (by omega)];simp only[amC];exact ag9 _ _ _ hbF
   all_goals simp only[go_sem,p1,p2,p3,p4,p5]
  case refine_15=>exact (fr.new _).new _
  case refine_14=>simp only[Z_];omega
  case refine_13=>simp only[Z_];omega
  case refine_12=>simp only[Z_];omega
  case refine_11=>rw[Z7,Z_,if_pos rfl]
  case refine_10=>rw[Z7,Z_,if_neg (by omega),Z7,if_pos rfl,K8]
  case refine_9=>rw[Z7,Z_,if_neg (by omega),Z7,if_neg (by omega),gb]
  case refine_8=>rw[Z7,Z_,if_neg (by omega),Z7,if_neg (by omega),gs]
  all_goals simp only[go_sem,g1,g3,g4,g6]
  all_goals rfl
 ·have xb:i=L.length:=by omega
  have SX:UE id (KS a.fa) (a.next.length+1-i) i L=[]:=by
   rw[show a.next.length+1-i=(a.next.length-i)+1 by omega,UE,amm (by omega)]
  rw[SX,alZ] at YA;have hle:decide ((i:Int)<(L.length:Int))=false:=by rw[Z8];simp;omega
  simp only[go_sem,Ca,g4,g6,hle];have aaF:∀S:St,S.next=s.next->(∀j,j≠9->S.get j=s.get j)->ZK S 12 40 1 i cN v/\ZK S 12 43 1 i cF w/\(∀j (h:j<acc.length) (h':j<cN.length),NW S b 3 cN[j] (ZO acc[j].2))/\∀j (h:j<acc.length) (h':j<cF.length),NW S b 4 cF[j] (ZM (XF a.fa acc[j].1)):=fun S hn hg =>
   ⟨hv.XS (by omega) fun j c h _ h2=>by rw[hg j (by omega)];exact h,hw.XS (by omega) fun j c h _ h2=>by rw[hg j (by omega)];exact h,
    fun j h h'=>(xe j h h').mono (by omega) (fun _ _ h=>h) fun j _ _ h3 h5=>by rw[hg j (by omega)];exact h5,fun j h h'=>(xd j h h').mono (by omega) (fun _ _ h=>h) fun j _ _ h3 h5=>by rw[hg j (by omega)];exact h5⟩
  refine hk _ _ v w ?_ ?_ go g9 hv.Zz hw.Zz (fun S d hn hg=>?_) (fun S d hn hg=>?_)
  ·simp only[go_sem,g5]
  ·simp only[go_sem,g2]
  ·obtain⟨k1,k2,k3,k4⟩:=aaF S hn hg;have k1:ZK S 12 40 1 cN.length cN v:=by rw[Cz];exact k1
   have Re:cN.all Zz=true:=by
    rw[alK];intro x hx;obtain⟨j,hj,rfl⟩:=alP.1 hx;obtain⟨_,e,_⟩:=k3 j (by omega) hj;rw[e];rfl
   rw[<-YA];exact k1.Ub U Ed Ec Re (d:=d+2) (Va (by omega) fun j h h'=>(k3 j h' h).Yn Ka J' (XR _) (Ua _ _ _))
  ·obtain⟨k1,k2,k3,k4⟩:=aaF S hn hg;have k2:ZK S 12 43 1 cF.length cF w:=by rw[Cy];exact k2
   have Re:cF.all Zz=true:=by
    rw[alK];intro x hx;obtain⟨j,hj,rfl⟩:=alP.1 hx;obtain⟨_,e,_⟩:=k4 j (by omega) hj;rw[e];rfl
   rw[<-YA];exact k2.Ub U Eb Ea Re (d:=d+2) (Va (by omega) fun j h h'=>(k4 j h' h).Yn AI AH (U' _) (Sp _ _ _))
theorem c41 {a:Yi}(ha:a.ok):ZE U 41 [Wd a]=some (Wd (Zl a)):=by
 refine ZR k41 (by kernel_rfl) (by simp[ZU,VJ]) ?_;have h106:=ajS ha;rw[WJ] at h106 ⊢;have nn:=ZL a.TH (a.next.map Zn);have nf:=ZL a.S6 (a.ZD.map Zv);have cn:=Zu a.TH (a.next.map Zn);have cf:=Zu a.S6 (a.ZD.map Zv);have hA:=ha.M9;have o1:=Nn (l:=Ik a.fa) (i:=0) (by rw[za hA];exact ha.pos);rw[sw hA ha.pos] at o1;have o1:Ud 1 (.fz (ZO (Ik a.fa))) (.int .i64 0)=some (.fp [.int .i64 ((YM a.fa 0:Nat):Int)] 0):=o1;unfold SV Vy at h106 ⊢;simp only[go_sem,r41,h106,o1];refine akL ha ?_ ?_ ?_ ?_ ?_ ?_ ?_ ?_ ?_ ?_ ?_ ?_ ?_
 case refine_13 =>
  intro e' s' v w p5 p2 A' u9 nav naw fv fw;have hE:Wd (Zl a)=.agg [.int .i64 a.lines,ZG true ((U7 a.fa).map fun x=>AV.fz (ZO x.2)),ZG true ((U7 a.fa).map fun x=>AV.fz (ZM (XF a.fa x.1)))]:=by
   rw[WJ,SV,Vy,Zl];simp only[List.map_map];have e1:∀x:Nat×List Nat,(Zn∘fun x:Nat×List Nat=>(false,PV x.2)) x=AV.fz (ZO x.2):=fun x=>by simp only[Function.comp,Zn,WH];rfl
   have e2:∀x:Nat×List Nat,(Zv∘fun x:Nat×List Nat=>(false,XF a.fa x.1)) x=AV.fz (ZM (XF a.fa x.1)):=fun x=>by simp only[Function.comp,Zv,WH]
   rw[amc (fun x _=>e1 x),amc (fun x _=>e2 x)]
  have fv':=fun x=>fv (s'.put 9 x) 36 (by rw[Z']) fun j hj=>by rw[Z9,if_neg (fun e=>hj e.symm)]
  have fw':=fun x=>fw (s'.put 9 x) 36 (by rw[Z']) fun j hj=>by rw[Z9,if_neg (fun e=>hj e.symm)]
  rw[hE];simp only[go_sem,p5,p2,A',u9,nav,naw,fv',fw']
 case refine_12 =>
  repeat first|exact Fr.own|apply Fr.new|apply Fr.put|apply Fr.upto
  all_goals simp only[go_sem]
 all_goals simp only[go_sem]
 all_goals rfl
end Go.Am
namespace Go.Am
open Go
variable [Z4]
set_option maxRecDepth 100000
set_option maxHeartbeats 8000000
noncomputable def KR:RC:=(sO [YW 40 3 39 38] (sQ (cS 40 (.exit 2)) (sQ (.block 3 (sO [Zk 41 1 37 39,Z0 42 41,om 10 42] (sO [om 44 4,om 45 3,om 46 10,Zk 47 1 45 46,Z0 48 47,o 49 (.raw (.lookup 249 (.tmp 44) (.tmp 48) true)),om 43 49,Zi 50 43 0,Zi 51 43 1,om 11 50,om 12 51] (sQ (sO [om 52 12,Wh 53 52] (cT 53 (sO [om 54 5,YO 55 54,om 11 55] (sO [om 56 4,om 57 3,om 58 10,Zk 59 1 57 58,Z0 60 59,om 61 11,k_ 249 56 60 61] (oP [om 62 5,om 63 10,RQ 64 3 1 1 0 0 1 63,WZ 65 3 1 8 62 64,om 5 65]))))) (oP [om 66 8,om 67 11,RQ 68 3 1 1 0 0 1 67,WZ 69 3 1 8 66 68,om 8 69]))))) (oP [YT 70 3 39 1,om 39 70]))))
noncomputable def vr:Code:=KQ 104 0
theorem abT:O_ U vr=some (22,[(o 71 (.fa 1 (.t 6)),none),
 (o 72 (.SL (.t 71)),none),
 (om 73 8,none),
 (⟨some 74,none,some 3,false,.U3 40 1 1 [.ZW] [(0,1,(.t 73))]⟩,none),
 (⟨some 75,none,none,true,.app 40 1 24 (.t 72) (.t 74)⟩,none),
 (o 76 (.fa 2 (.t 6)),none),
 (o 77 (.SL (.t 76)),some (0,2)),
 (o 78 (.fa 2 (.t 1)),none),
 (o 79 (.SL (.t 78)),some (0,1)),
 (om 80 5,none),
 (om 81 7,none),
 (o 82 (.Jb 1 (.t 80) (.t 81)),none),
 (o 83 (.SL (.t 82)),some (0,1)),
 (o 84 (.Jb 1 (.t 79) (.t 83)),none),
 (o 85 (.SL (.t 84)),some (0,1)),
 (⟨some 86,none,none,true,.call 173 [(.t 85)]⟩,none),
 (⟨some 87,none,some 16,false,.U3 43 1 1 [.ZW] [(0,1,(.t 86))]⟩,none),
 (⟨some 88,none,none,true,.app 43 1 24 (.t 77) (.t 87)⟩,none),
 (o 89 (.fa 1 (.t 6)),none),
 (⟨none,none,none,true,.st 1 (.t 89) (.t 75)⟩,none),
 (o 90 (.fa 2 (.t 6)),none),
 (⟨none,none,none,true,.st 1 (.t 90) (.t 88)⟩,none)]):=by kernel_rfl
noncomputable def HA:RC:=(sQ (sO [om 24 7,om 25 5,YO 26 25,YW 27 3 24 26] (cS 27 (.exit 0))) (sQ (.block 1 (sO [VR 8] (sQ (sQ (.TP 10 [ZX 30 1 1,Z0 31 30,om 32 5,om 33 7,Zk 34 1 32 33,Z0 35 34,Zk 36 1 31 35,Z0 37 36,YO 38 37,ZA 39 0]) (.block 2 (.loop KR))) (.raw vr)))) (oP [om 28 7,YT 29 3 28 1,om 7 29])))
noncomputable def aft:RC:=(sO [Zp 1 69 0,Tg 2 0 69] (sO [Zr 13 3 1,YN 14 172 13,om 3 14] (sO [o 15 (.raw (.makeMap 249 none)),om 16 3,o 17 (.Jb 1 (.t 16) (vI 0)),Z0 18 17,oS (.raw (.insert 249 (.tmp 15) (.tmp 18) (.const (.int .i64 0)))),om 19 15,om 4 19] (sO [o 20 (.U3 3 1 1 [(iI 0)] [(0,1,(vI 0))]),om 5 20] (sO [ZX 21 0 1,Z0 22 21,tw 23 0 0 1 22,Tg 6 0 69,YU 3 6 23] (sQ (sO [ZA 7 0] (.block 0 (.loop HA))) (sO [Zr 91 3 6,YU 3 2 91] .ret)))))))
theorem ajf:Ze 104=some ([.cell 2 69],aft):=by kernel_rfl
noncomputable def ky:Code:=KQ 172 0
theorem mu:O_ U ky=some (23,[(om 47 4,none),
 (om 48 5,none),
 (o 49 (.Jb 1 (.t 47) (.t 48)),none),
 (o 50 (.SL (.t 49)),some (0,1)),
 (om 51 7,none),
 (om 52 5,none),
 (o 53 (.Jb 1 (.t 51) (.t 52)),none),
 (o 54 (.SL (.t 53)),some (0,1)),
 (om 55 4,none),
 (om 56 5,none),
 (o 57 (.Jb 1 (.t 55) (.t 56)),none),
 (o 58 (.SL (.t 57)),none),
 (om 59 7,none),
 (om 60 5,none),
 (o 61 (.Jb 1 (.t 59) (.t 60)),none),
 (o 62 (.SL (.t 61)),none),
 (o 63 (.Jb 1 (.t 58) (.t 62)),none),
 (o 64 (.SL (.t 63)),none),
 (om 65 6,none),
 (⟨some 66,none,some 19,false,.U3 3 1 1 [(.int .i64 0)] [(0,1,(.t 65))]⟩,none),
 (⟨some 67,none,none,true,.app 3 1 8 (.t 64) (.t 66)⟩,none),
 (o 68 (.Jb 1 (.t 50) (.t 54)),none),
 (⟨none,none,none,true,.st 1 (.t 68) (.t 67)⟩,none)]):=by kernel_rfl
noncomputable def Li:RC:=(sO [YW 43 3 42 41] (sQ (cS 43 (.exit 2)) (sQ (.block 3 (sO [om 44 42,Zk 45 1 40 42,Z0 46 45,om 6 44,om 7 46] (.raw ky))) (oP [YT 69 3 42 1,om 42 69]))))
noncomputable def Hz:RC:=(sO [YW 30 3 29 28] (sQ (cS 30 (.exit 0)) (sQ (.block 1 (sO [om 31 29,om 5 31] (sO [om 32 4,om 33 5,ZX 34 1 1,Z0 35 34,YO 36 35,Lg 37 66 36 36,Zk 38 1 32 33,YU 1 38 37] (sO [ZX 39 1 1,Z0 40 39,YO 41 40,ZA 42 0] (.block 2 (.loop Li)))))) (oP [YT 70 3 29 1,om 29 70]))))
noncomputable def Hy:RC:=(sO [YW 77 3 76 75] (sQ (cS 77 (.exit 4)) (sQ (.block 5 (sO [om 78 76,om 9 78] (oP [om 79 8,om 80 9,RQ 81 3 1 1 0 0 1 80,WZ 82 3 1 8 79 81,om 8 82]))) (oP [YT 83 3 76 1,om 76 83]))))
noncomputable def Lh:RC:=(sO [YW 138 3 137 136] (sQ (cS 138 (.exit 12)) (sQ (.block 13 (sO [Zk 139 1 135 137,Z0 140 139,om 17 140] (sO [om 141 3,om 142 17,YV 143 216 141 142] (cT 143 (oP [om 144 13,om 145 3,Yb 146 145,ZX 147 2 146,Z0 148 147,om 149 17,Zk 150 1 148 149,Z0 151 150,RQ 152 3 1 1 0 0 1 151,WZ 153 3 1 8 144 152,om 13 153]))))) (oP [YT 154 3 137 1,om 137 154]))))
noncomputable def Hx:RC:=(sO [YW 126 3 125 124] (sQ (cS 126 (.exit 10)) (sQ (.block 11 (sO [Zk 127 1 123 125,Z0 128 127,om 15 128] (sO [om 129 4,om 130 12,Zk 131 1 129 130,Z0 132 131,om 133 15,Zk 134 1 132 133,Z0 135 134,YO 136 135,ZA 137 0] (.block 12 (.loop Lh))))) (oP [YT 155 3 125 1,om 125 155]))))
noncomputable def KP:RC:=(sO [YW 159 3 158 157] (sQ (cS 159 (.exit 14)) (sQ (.block 15 (sO [Zk 160 1 156 158,Z0 161 160,om 19 161] (sO [om 162 3,om 163 19,YV 164 217 162 163,om 20 164] (sO [om 165 20,o 166 (.bin .geq 3 true (.t 165) (vI 0))] (cT 166 (oP [om 167 8,om 168 20,RQ 169 3 1 1 0 0 1 168,WZ 170 3 1 8 167 169,om 8 170])))))) (oP [YT 171 3 158 1,om 158 171]))))
noncomputable def Ic:RC:=(sO [YW 121 3 120 119] (sQ (cS 121 (.exit 8)) (sQ (.block 9 (sO [om 122 120,om 12 122] (sO [VR 13] (sQ (sO [om 123 11,YO 124 123,ZA 125 0] (.block 10 (.loop Hx))) (sO [om 156 13,YO 157 156,ZA 158 0] (.block 14 (.loop KP))))))) (oP [YT 172 3 120 1,om 120 172]))))
noncomputable def Hw:RC:=(sQ (sO [om 84 8,YO 85 84,UA 86 3 85 0] (cS 86 (.exit 6))) (.block 7 (sO [om 87 8,om 88 8,YO 89 88,O8 90 3 89 1,Zk 91 1 87 90,Z0 92 91,om 10 92] (sO [om 93 8,om 94 8,YO 95 94,O8 96 3 95 1,o 97 (.sll 1 (.t 93) none (some (.t 96))),om 8 97] (sQ (.TP 21 [om 98 3,Yb 99 98,ZX 100 0 99,Z0 101 100,om 102 3,Yb 103 102,ZX 104 3 103,Z0 105 104,om 106 10,Zk 107 1 105 106,Z0 108 107,om 109 3,Yb 110 109,ZX 111 4 110,Z0 112 111,om 113 10,Zk 114 1 112 113,Z0 115 114,o 116 (.sll 1 (.t 101) (some (.t 108)) (some (.t 115))),⟨some 117,none,none,true,.call 215 [(.t 116)]⟩,om 11 117]) (sO [om 118 4,YO 119 118,ZA 120 0] (.block 8 (.loop Ic))))))))
noncomputable def afu:RC:=(sO [Zp 1 69 0,VR 2] (sO [Zr 21 3 1,YN 22 214 21,om 3 22] (sO [ZX 23 0 1,Z0 24 23,MS 25 3 1 24,Lg 26 283 25 25,om 4 26] (sQ (sO [om 27 4,YO 28 27,ZA 29 0] (.block 0 (.loop Hz))) (sO [VR 8] (sQ (sO [om 71 3,Yb 72 71,ZX 73 3 72,Z0 74 73,YO 75 74,ZA 76 0] (.block 4 (.loop Hy))) (sQ (.block 6 (.loop Hw)) (sO [om 173 3,Yb 174 173,ZX 175 2 174,Z0 176 175,om 2 176] .ret))))))))
theorem ajg:Ze 172=some ([.tmp 2],afu):=by kernel_rfl
noncomputable def ku:Code:=KQ 214 0
theorem abU:O_ U ku=some (11,[(o 16 (.fa 1 (.t 1)),none),
 (o 17 (.SL (.t 16)),none),
 (o 18 (.SW (.t 17)),none),
 (⟨some 19,none,some 3,false,.raw (.makeSlice 40 (.tmp 18) (.tmp 18))⟩,none),
 (o 20 (.fa 1 (.t 1)),none),
 (o 21 (.SL (.t 20)),some (0,0)),
 (o 22 (.SW (.t 21)),some (0,0)),
 (⟨some 23,none,some 7,false,.raw (.makeSlice 40 (.tmp 22) (.tmp 22))⟩,none),
 (o 24 (.On [.ZW,.ZW,.ZW,.ZW,.ZW,.ZW] [(1,1,(.t 19)),(2,1,(.t 23))]),none),
 (⟨some 25,none,some 9,false,.box 285 (.t 24)⟩,none),
 (om 3 25,none)]):=by kernel_rfl
noncomputable def HQ:RC:=(sO [YW 38 3 37 36] (sQ (cS 38 (.exit 2)) (sQ (.block 3 (sO [Zk 39 1 35 37,Z0 40 39,om 10 40] (oP [om 41 10,YN 42 244 41,YV 43 131 8 42]))) (oP [YT 44 3 37 1,om 37 44]))))
noncomputable def Hv:RC:=(sO [YW 31 3 30 29] (sQ (cS 31 (.exit 0)) (sQ (.block 1 (sO [om 32 30,Zk 33 1 28 30,Z0 34 33,om 6 32,om 7 34] (sO [o 8 (.al [.Vk,.ZW] 207)] (sQ (sO [om 35 7,YO 36 35,ZA 37 0] (.block 2 (.loop HQ))) (sO [YN 45 133 8,om 11 45] (sQ (sO [om 46 4,om 47 11,zm 48 310 46 47,YO 49 48,VT 50 3 49 0] (cT 50 (oP [om 51 5,om 52 11,o 53 (.U3 9 1 1 [(.str [])] [(0,1,(.t 52))]),WZ 54 9 1 16 51 53,om 5 54]))) (oP [om 55 4,om 56 11,om 57 4,om 58 11,zm 59 310 57 58,om 60 6,RQ 61 3 1 1 0 0 1 60,WZ 62 3 1 8 59 61,k_ 310 55 56 62]))))))) (oP [YT 63 3 30 1,om 30 63]))))
noncomputable def vq:Code:=KQ 214 1
theorem abV:O_ U vq=some (25,[(om 71 3,none),
 (om 72 3,none),
 (om 73 3,none),
 (o 74 (.raw (.nilCheck (.tmp 73))),none),
 (o 75 (.fa 3 (.t 74)),none),
 (o 76 (.SL (.t 75)),none),
 (om 77 3,none),
 (o 78 (.raw (.nilCheck (.tmp 77))),none),
 (o 79 (.fa 0 (.t 78)),none),
 (o 80 (.SL (.t 79)),none),
 (o 81 (.SW (.t 80)),none),
 (⟨some 82,none,some 11,false,.U3 3 1 1 [(.int .i64 0)] [(0,1,(.t 81))]⟩,none),
 (⟨some 83,none,none,true,.app 3 1 8 (.t 76) (.t 82)⟩,none),
 (om 84 3,none),
 (o 85 (.raw (.nilCheck (.tmp 84))),none),
 (o 86 (.fa 5 (.t 85)),none),
 (o 87 (.SL (.t 86)),some (0,1)),
 (⟨some 88,none,some 17,false,.U3 3 1 1 [(.int .i64 0)] [(0,1,(.v (.int .i64 0)))]⟩,none),
 (⟨some 89,none,none,true,.app 3 1 8 (.t 87) (.t 88)⟩,none),
 (o 90 (.raw (.nilCheck (.tmp 71))),none),
 (o 91 (.fa 3 (.t 90)),none),
 (⟨none,none,none,true,.st 1 (.t 91) (.t 83)⟩,none),
 (o 92 (.raw (.nilCheck (.tmp 72))),none),
 (o 93 (.fa 5 (.t 92)),none),
 (⟨none,none,none,true,.st 1 (.t 93) (.t 89)⟩,none)]):=by kernel_rfl
noncomputable def KO:RC:=(sO [YW 99 3 98 97] (sQ (cS 99 (.exit 6)) (sQ (.block 7 (sO [Zk 100 1 96 98,Z0 101 100,om 15 101] (sQ (.TP 20 [om 102 3,Yb 103 102,ZX 104 1 103,Z0 105 104,om 106 15,om 107 3,Yb 108 107,ZX 109 2 108,Z0 110 109,om 111 15,om 112 3,Yb 113 112,ZX 114 0 113,Z0 115 114,YO 116 115,om 117 12,Zk 118 1 105 106,⟨none,none,none,true,.st 1 (.t 118) (.t 116)⟩,Zk 119 1 110 111,⟨none,none,none,true,.st 1 (.t 119) (.t 117)⟩]) (oP [om 120 3,om 121 3,Yb 122 121,ZX 123 0 122,Z0 124 123,om 125 15,RQ 126 3 1 1 0 0 1 125,WZ 127 3 1 8 124 126,Yb 128 120,ZX 129 0 128,YU 1 129 127])))) (oP [YT 130 3 98 1,om 98 130]))))
noncomputable def HU:RC:=(sO [YW 67 3 66 65] (sQ (cS 67 (.exit 4)) (sQ (.block 5 (sO [om 68 66,Zk 69 1 64 66,Z0 70 69,om 12 68,om 13 70] (sQ (.raw vq) (sQ (sO [om 94 4,om 95 13,zm 96 310 94 95,YO 97 96,ZA 98 0] (.block 6 (.loop KO))) (.TP 15 [om 131 3,om 132 3,Yb 133 132,ZX 134 4 133,Z0 135 134,om 136 3,Yb 137 136,ZX 138 0 137,Z0 139 138,YO 140 139,⟨some 141,none,some 10,false,.U3 3 1 1 [(iI 0)] [(0,1,(.t 140))]⟩,⟨some 142,none,none,true,.app 3 1 8 (.t 135) (.t 141)⟩,Yb 143 131,ZX 144 4 143,⟨none,none,none,true,.st 1 (.t 144) (.t 142)⟩]))))) (oP [YT 145 3 66 1,om 66 145]))))
noncomputable def abW:RC:=(sO [Zp 1 69 0,o 2 (.O9 (.v .Vk))] (sQ (.raw ku) (sO [o 26 (.raw (.makeMap 310 none)),om 4 26] (sO [VR 5] (sQ (sO [ZX 27 2 1,Z0 28 27,YO 29 28,ZA 30 0] (.block 0 (.loop Hv))) (sQ (sO [om 64 5,YO 65 64,ZA 66 0] (.block 4 (.loop HU))) (sO [om 146 3,om 2 146] .ret)))))))
theorem ajh:Ze 214=some ([.tmp 2],abW):=by kernel_rfl
noncomputable def kr:Code:=KQ 217 0
theorem kq:O_ U kr=some (32,[(om 84 0,none),
 (om 85 0,none),
 (om 86 0,none),
 (om 87 0,none),
 (o 88 (.raw (.nilCheck (.tmp 87))),none),
 (o 89 (.fa 3 (.t 88)),none),
 (o 90 (.SL (.t 89)),none),
 (om 91 7,none),
 (⟨some 92,none,some 8,false,.U3 3 1 1 [(.int .i64 0)] [(0,1,(.t 91))]⟩,none),
 (⟨some 93,none,none,true,.app 3 1 8 (.t 90) (.t 92)⟩,none),
 (om 94 0,none),
 (o 95 (.raw (.nilCheck (.tmp 94))),none),
 (o 96 (.fa 4 (.t 95)),none),
 (o 97 (.SL (.t 96)),some (0,1)),
 (om 98 8,none),
 (⟨some 99,none,some 15,false,.U3 3 1 1 [(.int .i64 0)] [(0,1,(.t 98))]⟩,none),
 (⟨some 100,none,none,true,.app 3 1 8 (.t 97) (.t 99)⟩,none),
 (om 101 0,none),
 (o 102 (.raw (.nilCheck (.tmp 101))),none),
 (o 103 (.fa 5 (.t 102)),none),
 (o 104 (.SL (.t 103)),some (0,2)),
 (⟨some 105,none,some 21,false,.U3 3 1 1 [(.int .i64 0)] [(0,1,(.v (.int .i64 0)))]⟩,none),
 (⟨some 106,none,none,true,.app 3 1 8 (.t 104) (.t 105)⟩,none),
 (o 107 (.raw (.nilCheck (.tmp 84))),none),
 (o 108 (.fa 3 (.t 107)),none),
 (⟨none,none,none,true,.st 1 (.t 108) (.t 93)⟩,none),
 (o 109 (.raw (.nilCheck (.tmp 85))),none),
 (o 110 (.fa 4 (.t 109)),none),
 (⟨none,none,none,true,.st 1 (.t 110) (.t 100)⟩,none),
 (o 111 (.raw (.nilCheck (.tmp 86))),none),
 (o 112 (.fa 5 (.t 111)),none),
 (⟨none,none,none,true,.st 1 (.t 112) (.t 106)⟩,none)]):=by kernel_rfl
noncomputable def KN:RC:=(sO [YW 122 3 121 120] (sQ (cS 122 (.exit 0)) (sQ (.block 1 (sO [Zk 123 1 119 121,Z0 124 123,om 10 124] (.TP 13 [om 125 0,Yb 126 125,ZX 127 2 126,Z0 128 127,om 129 10,om 130 0,Yb 131 130,ZX 132 3 131,Z0 133 132,YO 134 133,O8 135 3 134 1,Zk 136 1 128 129,⟨none,none,none,true,.st 1 (.t 136) (.t 135)⟩]))) (oP [YT 137 3 121 1,om 121 137]))))
noncomputable def ko:RC:=(sO [ZA 4 0] (sQ (.TP 24 [om 11 0,Yb 12 11,ZX 13 5 12,Z0 14 13,om 15 1,Zk 16 1 14 15,Z0 17 16,om 18 0,Yb 19 18,ZX 20 4 19,Z0 21 20,om 22 1,Zk 23 1 21 22,Z0 24 23,om 25 0,Yb 26 25,ZX 27 3 26,Z0 28 27,om 29 1,Zk 30 1 28 29,Z0 31 30,o 32 (.bin .sub 3 false (.t 24) (.t 31)),om 5 17,om 6 32]) (sO [om 33 0,Yb 34 33,ZX 35 5 34,Z0 36 35,om 37 1,Zk 38 1 36 37,Gg 1 38 0] (sQ (sO [om 39 5,om 40 6,ML 41 3 39 40] (cT 41 (sO [o 4 (.O9 (vI (-1)))] .ret))) (sQ (.TP 18 [om 42 0,Yb 43 42,ZX 44 3 43,Z0 45 44,om 46 1,Zk 47 1 45 46,Z0 48 47,om 49 0,Yb 50 49,ZX 51 3 50,Z0 52 51,om 53 1,Zk 54 1 52 53,Z0 55 54,om 56 5,TK 57 3 55 56,om 7 48,om 8 57]) (sQ (sO [om 58 5,o 59 (.bin .mul 3 true (vI 2) (.t 58)),om 60 6,o 61 (.bin .gtr 3 false (.t 59) (.t 60))] (cO 61 (sQ (.TP 10 [om 62 8,om 63 0,Yb 64 63,ZX 65 4 64,Z0 66 65,om 67 1,Zk 68 1 66 67,Z0 69 68,om 7 62,om 8 69]) (oP [om 70 0,Yb 71 70,ZX 72 4 71,Z0 73 72,om 74 1,om 75 7,Zk 76 1 73 74,YU 1 76 75])) (oP [om 77 0,Yb 78 77,ZX 79 3 78,Z0 80 79,om 81 1,om 82 8,Zk 83 1 80 81,YU 1 83 82]))) (sQ (.raw kr) (sQ (sO [om 113 0,Yb 114 113,ZX 115 0 114,Z0 116 115,om 117 7,om 118 8,o 119 (.sll 1 (.t 116) (some (.t 117)) (some (.t 118))),YO 120 119,ZA 121 0] (.block 0 (.loop KN))) (sO [om 138 0,Yb 139 138,ZX 140 3 139,Z0 141 140,YO 142 141,O8 143 3 142 1,om 4 143] .ret)))))))))
theorem aji:Ze 217=some ([.tmp 4],ko):=by kernel_rfl
end Go.Am
namespace Go.Am
open Go
variable [Z4]
set_option maxRecDepth 100000
set_option maxHeartbeats 4000000
structure LI (s:St)(pb n bl bp bs bb be bm:Nat)(p:Pt):Prop where
 g:s.get pb=some (.cells [.sl bl 0 p.list.length none 1,.sl bp 0 p.place.length (some n) 1,.sl bs 0 p.set.length (some n) 1,.sl bb 0 p.bg.length none 1,.sl be 0 p.en.length none 1,.sl bm 0 p.mr.length none 1] 285 false 0 0)
 gl:s.get bl=some (.cells (ZO p.list) 3 false 0 0)
 gp:s.get bp=some (.cells (ZO p.place) 3 false 0 0)
 gs:s.get bs=some (.cells (ZO p.set) 3 false 0 0)
 gb:s.get bb=some (.cells (ZO p.bg) 3 false 0 0)
 ge:s.get be=some (.cells (ZO p.en) 3 false 0 0)
 gm:s.get bm=some (.cells (ZO p.mr) 3 false 0 0)
 ne:[pb,bl,bp,bs,bb,be,bm].Nodup
 lt:∀j∈[pb,bl,bp,bs,bb,be,bm],j<s.next
theorem LI.mono {s s':St}{pb n bl bp bs bb be bm:Nat}{p:Pt}(h:LI s pb n bl bp bs bb be bm p)(hn:s.next<=s'.next)(hg:∀j∈[pb,bl,bp,bs,bb,be,bm],s'.get j=s.get j):LI s' pb n bl bp bs bb be bm p :=
 ⟨(hg _ (by simp)).trans h.g,(hg _ (by simp)).trans h.gl,(hg _ (by simp)).trans h.gp,(hg _ (by simp)).trans h.gs,(hg _ (by simp)).trans h.gb,(hg _ (by simp)).trans h.ge,(hg _ (by simp)).trans h.gm,h.ne,fun j hj=>Nat.lt_of_lt_of_le (h.lt j hj) hn⟩
structure Ap (pb bl bp bs bb be bm:Nat):Prop where
 n1:pb≠bl
 n2:pb≠bp
 n3:pb≠bs
 n4:pb≠bb
 n5:pb≠be
 n6:pb≠bm
 n7:bl≠bp
 n8:bl≠bs
 n9:bl≠bb
 fP:bl≠be
 wR:bl≠bm
 xE:bp≠bs
 mC:bp≠bb
 n14:bp≠be
 fO:bp≠bm
 n16:bs≠bb
 n17:bs≠be
 n18:bs≠bm
 n19:bb≠be
 WT:bb≠bm
 nX:be≠bm
theorem Ap.of {pb bl bp bs bb be bm:Nat}(ne:[pb,bl,bp,bs,bb,be,bm].Nodup):Ap pb bl bp bs bb be bm:=by
 simp only[amv,alL,List.not_mem_nil,not_or,or_false,List.nodup_nil,and_true] at ne;obtain⟨⟨n1,n2,n3,n4,n5,n6⟩,⟨n7,n8,n9,fP,wR⟩,⟨xE,mC,n14,fO⟩,⟨n16,n17,n18⟩,⟨n19,WT⟩,nX,-⟩:=ne;exact⟨n1,n2,n3,n4,n5,n6,n7,n8,n9,fP,wR,xE,mC,n14,fO,n16,n17,n18,n19,WT,nX⟩
theorem aq (args:List AV)(s:St):X6 U (ZE U 216 args) 216 args s=Rl U 216 args s:=(XI U 216 args s).symm
theorem aah (args:List AV)(s:St):X6 U (ZE U 217 args) 217 args s=Rl U 217 args s:=(XI U 217 args s).symm
theorem aey (args:List AV)(s:St):X6 U (ZE U 214 args) 214 args s=Rl U 214 args s:=(XI U 214 args s).symm
def aez (s0:St)(pb n bl bp bs bb be bm:Nat)(p:Pt)(v:Bool)(r:Option (AV×St)):Prop :=
 ∃s',r=some (.bool v,s')/\LI s' pb n bl bp bs bb be bm p/\s0.next<=s'.next/\Fr s'/\∀j,j<s0.next->j≠bl->j≠bp->j≠bm->s'.get j=s0.get j
theorem ahX {s:St}{pb n bl bp bs bb be bm:Nat}{p:Pt}(h:LI s pb n bl bp bs bb be bm p)(hw:p.Wf n)(hn:n<=2^20)(fr:Fr s){u:Nat}(hu:u<n) :
  aez s pb n bl bp bs bb be bm (p.Wz u).1 (p.Wz u).2 (Rl U 216 [.ptr pb 0,.int .i64 (u:Int)] s):=by
 suffices mn:aez s pb n bl bp bs bb be bm (p.Wz u).1 (p.Wz u).2 (go U (Sx U [.tmp 4]) [] d_ (YX 0 [.ptr pb 0,.int .i64 (u:Int)] .nil) s) by
  obtain⟨s',h1,h2⟩:=mn;exact⟨s',VE aip (by kernel_rfl) h1,h2⟩
 obtain⟨QK,S4,xm⟩:=hw.st u hu;obtain⟨Jd,BW,hk3⟩:=hw.sp _ QK;obtain⟨sV,EF⟩:=hw.pl u hu;obtain⟨g,gl,gp,gs,gb,ge,gm,ne,lt⟩:=h;have nd:=ne;have A:=Ap.of nd;clear ne;have EK:=hw.ll;have hlp:=hw.lp;have sU:=hw.ls;have hle:=hw.le;have qZ:=hw.lm;have q1:=Yq (l:=p.set) (i:=u) (by omega);have q2:=Yq (l:=p.place) (i:=u) (by omega);have Si:=hw.few;have lt':pb<s.next/\bl<s.next/\bp<s.next/\bs<s.next/\bb<s.next/\be<s.next/\bm<s.next:=by
  refine⟨lt _ (by simp),lt _ (by simp),lt _ (by simp),lt _ (by simp),lt _ (by simp),lt _ (by simp),lt _ (by simp)⟩
 obtain⟨sT,qx,lt3,lt4,kT,kp,WA⟩:=lt';unfold Pt.Wz;generalize hs:gt p.set u=k at *;generalize ha:gt p.place u=x at *;have q3:=Yq (l:=p.bg) (i:=k) QK;have q4:=Yq (l:=p.mr) (i:=k) (by omega);have hbk:=Jd;have w1:IntKind.i64.wrap (((gt p.bg k:Nat):Int)+((gt p.mr k:Nat):Int))=((gt p.bg k+gt p.mr k:Nat):Int):=by
  have:=hw.mr k QK;rw[wrap_i64] <;> omega
 have u1:u<p.set.length:=by omega
 have u2:u<p.place.length:=by omega
 have k2:k<p.mr.length:=by omega
 have OG:=hw.mr k QK;generalize ht:gt p.bg k+gt p.mr k=t at *
 cases hm:decide (x<t) with
 |true =>
  have fN:decide ((x:Int)<(t:Int))=true:=by rw[Z8];exact hm
  simp only[go_sem,d_,g,gp,gs,gb,gm,q1,q2,q3,q4,u1,u2,k2,QK,w1,fN,ah1];exact⟨_,rfl,LI.mono ⟨g,gl,gp,gs,gb,ge,gm,nd,lt⟩ (by rw[Z6];omega) fun j _=>ZT _ _ _,by rw[Z6];omega,fr.upto (by omega),fun j _ _ _ _=>ZT _ _ _⟩
 |false =>
  have hm':¬x<t:=by simpa using hm
  have BU:t<n:=by omega
  have fN:decide ((x:Int)<(t:Int))=false:=by rw[Z8];exact hm
  obtain⟨Af,B_⟩:=hw.li t BU;have q5:=Yq (l:=p.list) (i:=t) (by omega);generalize ho:gt p.list t=o at *;have y1:=Xd (l:=p.list) (i:=x) o (by omega);have y2:=Xd (l:=p.list.set x o) (i:=t) u (by rw[ami];omega);have y3:=Xd (l:=p.place) (i:=o) x (by omega);have y4:=Xd (l:=p.place.set o x) (i:=u) t (by rw[ami];omega);have y5:=Xd (l:=p.mr) (i:=k) (gt p.mr k+1) (by omega);have q6:=Yq (l:=p.mr.set k (gt p.mr k+1)) (i:=k) (by rw[ami];omega);rw[TT,if_pos ⟨rfl,by omega⟩] at q6;have w2:IntKind.i64.wrap (((gt p.mr k:Nat):Int)+1)=((gt p.mr k+1:Nat):Int):=by rw[wrap_i64] <;> omega
  have e1:(((gt p.mr k+1:Nat):Int)==1)=(gt p.mr k+1==1):=qw (gt p.mr k+1) 1;have u3:x<p.list.length:=by omega
  have u4:t<p.list.length:=by omega
  have u5:o<p.place.length:=by omega
  have z1:(bl=pb)=False:=eq_false A.n1.symm;have z2:(bl=bp)=False:=eq_false A.n7;have z3:(bl=bm)=False:=eq_false A.wR;have z4:(bp=pb)=False:=eq_false A.n2.symm;have z5:(bp=bm)=False:=eq_false A.fO;have z6:(bm=pb)=False:=eq_false A.n6.symm;simp only[go_sem,d_,g,gl,gp,gs,gb,gm,q1,q2,q3,q4,q5,q6,u1,u2,u3,u4,u5,k2,QK,w1,w2,fN,ah1,y1,y2,y3,y4,y5,z1,z2,z3,z4,z5,z6,e1];refine⟨_,rfl,⟨?_,?_,?_,?_,?_,?_,?_,nd,fun j hj=>?_⟩,?_,?_,fun j h1 h2 h3 h4=>?_⟩
  ·rw[Z9,if_neg A.n6.symm,Z9,if_neg A.n2.symm,Z9,if_neg A.n2.symm,ZT,Z9,if_neg A.n1.symm,Z9,if_neg A.n1.symm,ZT,ZT,g];simp only[ami]
  ·rw[Z9,if_neg A.wR.symm,Z9,if_neg A.n7.symm,Z9,if_neg A.n7.symm,ZT,Z9,if_pos rfl]
  ·rw[Z9,if_neg A.fO.symm,Z9,if_pos rfl]
  ·rw[Z9,if_neg A.n18.symm,Z9,if_neg A.xE,Z9,if_neg A.xE,ZT,Z9,if_neg A.n8,Z9,if_neg A.n8,ZT,ZT,gs]
  ·rw[Z9,if_neg A.WT.symm,Z9,if_neg A.mC,Z9,if_neg A.mC,ZT,Z9,if_neg A.n9,Z9,if_neg A.n9,ZT,ZT,gb]
  ·rw[Z9,if_neg A.nX.symm,Z9,if_neg A.n14,Z9,if_neg A.n14,ZT,Z9,if_neg A.fP,Z9,if_neg A.fP,ZT,ZT,ge]
  ·rw[Z9,if_pos rfl]
  ·simp only[Z',Z6];have:=lt j hj;omega
  ·simp only[Z',Z6];omega
  ·exact (((((((fr.upto (by omega)).upto (by rw[Z6];omega)).put (by rw[Z6];omega) _).put (by rw[Z',Z6];omega) _).upto (by rw[Z',Z',Z6];omega)).put (by rw[Z6];omega) _).put (by rw[Z',Z6];omega) _).put (by rw[Z',Z',Z6];omega) _
  ·rw[Z9,if_neg h4.symm,Z9,if_neg h3.symm,Z9,if_neg h3.symm,ZT,Z9,if_neg h2.symm,Z9,if_neg h2.symm,ZT,ZT]
end Go.Am
namespace Go.Am
open Go
variable [Z4]
set_option maxRecDepth 100000
set_option maxHeartbeats 8000000
def xF (es:List (XV×AV)):List (AV×AV):=es.map fun x=>(AV.str x.1,x.2)
def EB (k:XV):List (XV×AV)->Option AV
 |[]=>none
 |x::l=>bif k==x.1 then some x.2 else EB k l
def EA (k:XV)(v:AV):List (XV×AV)->List (XV×AV)
 |[]=>[(k,v)]
 |x::l=>bif k==x.1 then (k,v)::l else x::EA k v l
theorem DO (k:XV):∀es,UM (.str k) (xF es)=some (EB k es)
 |[]=>rfl
 |x::l=>by
  have ih:=DO k l;show UM (.str k) ((AV.str x.1,x.2)::xF l)=_;rw[UM,EB,VQ]
  cases k==x.1 with
  |true=>rfl
  |false=>exact ih
theorem z_ (k:XV)(v:AV):∀es,Ir (.str k) v (xF es)=some (xF (EA k v es))
 |[]=>rfl
 |x::l=>by
  have ih:=z_ k v l;show Ir (.str k) v ((AV.str x.1,x.2)::xF l)=_;rw[Ir,EA,VQ]
  cases k==x.1 with
  |true=>rfl
  |false=>simp only[ih];rfl
theorem DU {s:St}{m:Nat}{es:List (XV×AV)}(h:s.get m=some (.map (xF es) false))(k:XV):VK U 310 (.map m) (.str k) false s=some ((EB k es).getD .ZW):=by
 have hu:U.Zd 310=some (.map 9 40):=by kernel_rfl
 have h9:U.Zd 9=some .string:=by kernel_rfl
 have hz:zero U 40=some .ZW:=by kernel_rfl
 unfold VK;rw[hu];simp only[Uq,h9,if_true,h,DO]
 cases EB k es with
 |none=>simp only[hz];rfl
 |some v=>rfl
theorem qP {s:St}{m:Nat}{es:List (XV×AV)}(h:s.get m=some (.map (xF es) false))(k:XV)(v:AV):UX U 310 (.map m) (.str k) v s=some (s.put m (.map (xF (EA k v es)) false)):=by
 have hu:U.Zd 310=some (.map 9 40):=by kernel_rfl
 have h9:U.Zd 9=some .string:=by kernel_rfl
 unfold UX;rw[hu];simp only[Uq,h9,if_true,h,z_]
noncomputable def ml (t:TypeId)(m k v:Option AV)(s:St):Option (AV×St):=match m,k,v with
 |some m,some k,some v=>OA (UX U t m k v s)
 |_,_,_=>none
theorem Ez (ex:Ex)(e:Env)(s:St)(t:TypeId)(m k v:Operand):YI U ex e (.mapUpdate t m k v) s=ml t (eval U e m) (eval U e k) (eval U e v) s:=by
 unfold ml;simp only[YI];rfl
theorem zZ (ex:Ex)(e:Env)(s:St)(t:TypeId)(m k v:Operand):YI U ex e (.insert t m k v) s=ml t (eval U e m) (eval U e k) (eval U e v) s:=by
 unfold ml;simp only[YI];rfl
theorem qO (t:TypeId)(m k v:AV)(s:St):ml t (some m) (some k) (some v) s=OA (UX U t m k v s):=(fun h=>h) rfl
theorem zY (ex:Ex)(e:Env)(s:St)(t:TypeId):YI U ex e (.makeMap t none) s=some (.map s.next,s.new (.map [] false)):=(fun h=>h) rfl
attribute [go_sem ↓] Ez zZ zY
attribute [go_sem] qO
def SP (len:XV->Nat):List XV->List Nat->List (XV×AV)
 |k::ks,b::bs=>(k,.sl b 0 (len k) none 1)::SP len ks bs
 |_,_=>[]
theorem Cf {len:XV->Nat}:∀{ks:List XV} {bs:List Nat} {j:Nat} (hn:ks.Nodup) (hl:bs.length=ks.length) (h:j<ks.length),EB ks[j] (SP len ks bs)=some (.sl (bs[j]'(by omega)) 0 (len ks[j]) none 1)
 |k::ks,b::bs,0,hn,hl,h=>by simp[SP,EB]
 |k::ks,b::bs,j+1,hn,hl,h=>by
  rw[amv] at hn;have hj:j<ks.length:=by simpa using h
  have ih:=Cf (len:=len) (bs:=bs) hn.2 (by simpa using hl) hj;have ZC:(ks[j]==k)=false:=by
   have:ks[j]≠k:=fun e=>hn.1 (e ▸ adm hj)
   simpa using this
  simp only[List.getElem_cons_succ,SP,EB,ZC,cond_false];exact ih
 |k::ks,[],_,_,hl,_=>by simp at hl
 |[],_,_,_,_,h=>by simp at h
theorem DN {len:XV->Nat}{k:XV}:∀{ks:List XV} {bs:List Nat},k∉ks->EB k (SP len ks bs)=none
 |[],bs,_=>by cases bs <;> rfl
 |x::ks,[],_=>rfl
 |x::ks,b::bs,h=>by
  rw[alL,not_or] at h;have ZC:(k==x)=false:=by simpa using h.1
  simp only[SP,EB,ZC,cond_false];exact DN h.2
theorem GF {len M7:XV->Nat}:∀{ks:List XV} {bs:List Nat},(∀k∈ks,len k=M7 k)->SP len ks bs=SP M7 ks bs
 |[],bs,_=>by cases bs <;> rfl
 |x::ks,[],_=>rfl
 |x::ks,b::bs,h=>by
  simp only[SP];rw[h x (aba ..),GF fun k hk=>h k (aab _ hk)]
theorem ti {len M7:XV->Nat}:∀{ks:List XV} {bs:List Nat} {j b':Nat} (hn:ks.Nodup) (hl:bs.length=ks.length) (h:j<ks.length),(∀k∈ks,k≠ks[j]->len k=M7 k)->EA ks[j] (.sl b' 0 (M7 ks[j]) none 1) (SP len ks bs)=SP M7 ks (bs.set j b')
 |k::ks,b::bs,0,b',hn,hl,h,hc=>by
  rw[amv] at hn;simp only[List.getElem_cons_zero,SP,EA,beq_self_eq_true,cond_true,List.set_cons_zero];rw[GF fun x hx=>hc x (aab _ hx) fun e=>by simp at e;exact hn.1 (e ▸ hx)]
 |k::ks,b::bs,j+1,b',hn,hl,h,hc=>by
  rw[amv] at hn;have hj:j<ks.length:=by simpa using h
  have aeb:k≠ks[j]:=fun e=>hn.1 (e ▸ adm hj)
  have ZC:(ks[j]==k)=false:=by simpa using aeb.symm
  have ih:=ti (len:=len) (M7:=M7) (bs:=bs) (b':=b') hn.2 (by simpa using hl) hj fun x hx hxe=>hc x (aab _ hx) (by simpa using hxe)
  simp only[List.getElem_cons_succ,SP,EA,ZC,cond_false,List.set_cons_succ];rw[ih,hc k (aba ..) (by simpa using aeb)]
 |k::ks,[],_,_,_,hl,_,_=>by simp at hl
 |[],_,_,_,_,_,h,_=>by simp at h
theorem zX {len M7:XV->Nat}{k:XV}{b':Nat}:∀{ks:List XV} {bs:List Nat},k∉ks->bs.length=ks.length->(∀x∈ks,len x=M7 x)->EA k (.sl b' 0 (M7 k) none 1) (SP len ks bs)=SP M7 (ks++[k]) (bs++[b'])
 |[],[],_,_,_=>by simp[SP,EA]
 |x::ks,b::bs,h,hl,hc=>by
  rw[alL,not_or] at h;have ZC:(k==x)=false:=by simpa using h.1
  have ih:=zX (len:=len) (M7:=M7) (b':=b') (bs:=bs) h.2 (by simpa using hl) fun y hy=>hc y (aab _ hy)
  simp only[SP,EA,ZC,cond_false,alU];rw[ih,hc x (aba ..)]
 |[],_::_,_,hl,_=>by simp at hl
 |_::_,[],_,hl,_=>by simp at hl
theorem aec {β:Type}{fin:Fl->β}{ks:List K}{ZB:β->Prop}{nl:Bool}{l:List Bool}(hl:l.length<=2^20){b:Nat}{e:Env}{s:St}(g8:Env.get e 8=.ptr b 0)(g35:Env.get e 35=ZG nl (ZM l))(g36:Env.get e 36=.int .i64 l.length)(g37:Env.get e 37=.int .i64 (0:Nat))
  (hb:Iq s b [])(fr:Fr s)
  (hk:∀e' s',(∀t:Nat,t<10->Env.get e' t=Env.get e t)->(∀t:Nat,26<t->t<35->Env.get e' t=Env.get e t)->Iq s' b (QQ l)->(∀j,j<b->s'.get j=s.get j)->s.next<=s'.next->Fr s'->ZB (goN U fin ks e' s')) :
  ZB (SD U fin (.bk 2::ks) HQ e s):=by
 have aed:∀l:List Bool,(QQ l).length<=l.length*5:=by
  intro l
  induction l with
  |nil=>simp[QQ]
  |cons x l ih =>
   have:(QQ (x::l)).length=(zW x).length+(QQ l).length:=by simp[QQ]
   have h5:(zW x).length<=5:=by cases x <;> simp[zW]
   simp only[akd];omega
 refine YP (σ:=Nat) (fun i=>l.length-i) (fun i e' s'=>i<=l.length/\(∀t:Nat,t<10->Env.get e' t=Env.get e t)/\(∀t:Nat,26<t->t<37->Env.get e' t=Env.get e t)/\Env.get e' 37=.int .i64 (i:Nat)/\Iq s' b (QQ (l.take i))/\(∀j,j<b->s'.get j=s.get j)/\s.next<=s'.next/\Fr s') 0 ?_
  ⟨aic _,fun _ _=>rfl,fun _ _ _=>rfl,g37,hb,fun _ _=>rfl,agB _,fr⟩
 rintro Lp i e' s' ⟨hi,hold,UU,tg,hbi,hs,Vl,Xx⟩ IH;have q8:=(hold 8 (by omega)).trans g8;have q35:=(UU 35 (by omega) (by omega)).trans g35;have q36:=(UU 36 (by omega) (by omega)).trans g36;by_cases hd:i<l.length
 ·have hw:=ZN hd (by omega);have hx:=NO (nl:=nl) hd;have h244:=ah2 l[i];have Jd:=aed (l.take i);have htl:(l.take i).length=i:=by rw[amr];omega
  have h5:(zW l[i]).length<=5:=by cases l[i] <;> simp[zW]
  obtain⟨s2,r,e1,e2,e3,e4,e5⟩:=ah3 hbi Xx (zW l[i]) (abg _) (by omega);simp only[go_sem,HQ,q8,q35,q36,tg,Z8,hd,hx,h244,mj,e1,hw];have eJ:QQ (l.take (i+1))=QQ (l.take i)++zW l[i]:=by rw[alX hd,QQ,List.flatMap_append];simp[QQ]
  refine IH (i+1) _ _ (by omega) ⟨by omega,fun t ht=>?_,fun t h1 h2=>?_,?_,by rw[eJ];exact e2,fun j hj=>by rw[e5 j hj,hs j hj],by omega,e3⟩
  ·have ZC:∀k:Nat,10<=k->(k=t)=False:=fun k hk=>by simp;omega
   simp only[go_sem,ZC];exact hold t ht
  ·have ZC:∀k:Nat,37<=k->(k=t)=False:=fun k hk=>by simp;omega
   have aee:(10=t)=False:=by simp;omega
   simp only[go_sem,ZC,aee];exact UU t h1 h2
  ·simp only[go_sem]
 ·have:i=l.length:=by omega
  subst this;rw[amH] at hbi;simp only[go_sem,HQ,q36,tg,Z8,alh];refine hk _ _ (fun t ht=>?_) (fun t h1 h2=>?_) hbi hs Vl Xx
  ·have ZC:∀k:Nat,10<=k->(k=t)=False:=fun k hk=>by simp;omega
   simp only[go_sem,ZC];exact hold t ht
  ·have ZC:∀k:Nat,37<=k->(k=t)=False:=fun k hk=>by simp;omega
   simp only[go_sem,ZC];exact UU t h1 (by omega)
theorem Ai {s:St}{b n:Nat}{L:List Nat}(hL:L.length=n)(hg:s.get b=some (.cells (ZO L) 3 false 0 0))(k:Nat) :
  Rx 3 1 1 [.int .i64 (k:Int)] (.sl b 0 n none 1) s=some (.sl s.next 0 (n+1) none 1,(s.put b .gone).new (.cells (ZO (L++[k])) 3 false 0 0)):=by
 have MT:(ZO L).length=n*1:=by rw[Ww,hL,ah1]
 rw[TR,hg,VA MT (by omega) rfl,Qa]
def strs (l:List XV):List AV:=l.map .str
def Zg (a:Yi)(u:Nat):XV:=QQ (a.ZD.getD u (true,[])).2
structure Grp (s:St)(m:Nat)(κ:Nat->XV)(i:Nat)(bl:List Nat)(vo:AV):Prop where
 gm:s.get m=some (.map (xF (SP (fun k=>(RU κ k i).length) (Yu κ i) bl)) false)
 len:bl.length=(Yu κ i).length
 nd:bl.Nodup
 E1:∀j (h:j<bl.length) (h':j<(Yu κ i).length),m<bl[j]/\bl[j]<s.next/\s.get bl[j]=some (.cells (ZO (RU κ (Yu κ i)[j] i)) 3 false 0 0)
 row:ZK s (m+1) 9 1 (Yu κ i).length (strs (Yu κ i)) vo
theorem tG (κ:Nat->XV)(k:XV)(n:Nat):(RU κ k n).length<=n:=by
 have:=List.length_filter_le (fun i=>decide (κ i=k)) (List.range n);rw[List.length_range] at this;exact this
theorem C0 {b:Nat}:∀{l:List Nat} {j:Nat},l.Nodup->b∉l->(l.set j b).Nodup
 |[],j,_,_=>by simp
 |x::l,0,h,hb=>by
  rw[amv] at h;rw[List.set_cons_zero,amv];exact⟨fun hm=>hb (aab _ hm),h.2⟩
 |x::l,j+1,h,hb=>by
  rw[amv] at h;rw[alL,not_or] at hb;rw[List.set_cons_succ,amv];refine⟨fun hm=>?_,C0 h.2 hb.2⟩;rcases List.mem_or_eq_of_mem_set hm with h1|h1
  ·exact h.1 h1
  ·exact hb.1 h1.symm
theorem afx {β:Type}{fin:Fl->β}{ks:List K}{ZB:β->Prop}{a:Yi}(ha:a.ok){m:Nat}{e:Env}{s:St}(g4:Env.get e 4=.map m)(g5:Env.get e 5=.ZW)(g28:Env.get e 28=ZG a.S6 (a.ZD.map Zv))(g29:Env.get e 29=.int .i64 a.ZD.length)(g30:Env.get e 30=.int .i64 (0:Nat))
  (gm:s.get m=some (.map [] false))(nm:m<s.next)(fr:Fr s)
  (hk:∀e' s' bl vo,(∀t:Nat,t<5->Env.get e' t=Env.get e t)->Env.get e' 5=vo->Grp s' m (Zg a) a.next.length bl vo->(∀j,j<m->s'.get j=s.get j)->s.next<=s'.next->Fr s'->ZB (goN U fin ks e' s')) :
  ZB (SD U fin (.bk 0::ks) Hv e s):=by
 have Si:=ha.few;have MB:=ha.fl;refine YP (σ:=Nat) (fun i=>a.ZD.length-i) (fun i e' s'=>i<=a.ZD.length/\(∀t:Nat,t<5->Env.get e' t=Env.get e t)/\Env.get e' 28=ZG a.S6 (a.ZD.map Zv)/\Env.get e' 29=.int .i64 a.ZD.length/\Env.get e' 30=.int .i64 (i:Nat)/\(∀j,j<m->s'.get j=s.get j)/\s.next<=s'.next/\Fr s' /\
   ∃bl vo,Env.get e' 5=vo/\Grp s' m (Zg a) i bl vo) 0 ?_
  ⟨aic _,fun _ _=>rfl,g28,g29,g30,fun _ _=>rfl,agB _,fr,[],.ZW,g5,⟨by rw[gm];rfl,rfl,by simp,fun j h=>by simp at h,ZK.nil _ _ _ _⟩⟩
 rintro Lp i e' s' ⟨hi,hold,q28,q29,q30,hs,Vl,Xx,bl,vo,q5,G⟩ IH;have q4:=(hold 4 (by omega)).trans g4;by_cases hd:i<a.ZD.length
 ·have Rm:=ZN hd (by omega);have hx:=Se (nl:=a.S6) hd;have ot:=ha.XF i hd;have Nb:=ha.m16;have Jl:=ZI a.ZD[i].1 (ZM a.ZD[i].2);rw[WX] at Jl;have hκ:Zg a i=QQ a.ZD[i].2:=by unfold Zg;rw[XK hd]
  simp only[go_sem,Hv,q28,q29,q30,Z8,hd,hx,Jl];refine aec (nl:=a.ZD[i].1) (l:=a.ZD[i].2) (b:=s'.next) (by omega) ?_ ?_ ?_ ?_ ?_ ?_ ?_
  case refine_7 =>
   intro e2 s2 QF fh hbi S4 OL O1;rw[<-hκ] at hbi;have NA:(Zg a i).length<=2^39:=by
    have:∀l:List Bool,(QQ l).length<=l.length*5:=by
     intro l
     induction l with
     |nil=>simp[QQ]
     |cons x l ih =>
      have:(QQ (x::l)).length=(zW x).length+(QQ l).length:=by simp[QQ]
      have h5:(zW x).length<=5:=by cases x <;> simp[zW]
      simp only[akd];omega
    have:=this a.ZD[i].2;rw[hκ];omega
   obtain⟨s3,c1,c2,c3,c4⟩:=mf hbi O1 NA;rw[Z_] at OL;have old:∀j,j<s'.next->s3.get j=s'.get j:=fun j hj=>by rw[c4 j (by omega),S4 j hj,Z7,if_neg (by omega)]
   have p4:Env.get e2 4=.map m:=by rw[QF 4 (by omega)];simp only[go_sem,q4]
   have p5:Env.get e2 5=vo:=by rw[QF 5 (by omega)];simp only[go_sem,q5]
   have p6:Env.get e2 6=.int .i64 (i:Nat):=by rw[QF 6 (by omega)];simp only[go_sem]
   have p8:Env.get e2 8=.ptr s'.next 0:=by rw[QF 8 (by omega)];simp only[go_sem]
   have p28:Env.get e2 28=ZG a.S6 (a.ZD.map Zv):=by rw[fh 28 (by omega) (by omega)];simp only[go_sem,q28]
   have p29:Env.get e2 29=.int .i64 a.ZD.length:=by rw[fh 29 (by omega) (by omega)];simp only[go_sem,q29]
   have p30:Env.get e2 30=.int .i64 (i:Nat):=by rw[fh 30 (by omega) (by omega)];simp only[go_sem,q30]
   have pl:∀t:Nat,t<5->Env.get e2 t=Env.get e t:=fun t ht=>by
    rw[QF t (by omega)];have ZC:∀k:Nat,6<=k->(k=t)=False:=fun k hk=>by simp;omega
    simp only[go_sem,ZC];exact hold t ht
   obtain⟨Gm,wY,Gnd,wX,eK⟩:=G;have nm':m<s'.next:=by omega
   have um:=(old m nm').trans Gm;have hgl:=tG (Zg a) (Zg a i) i;have lk:=fun (S:St) (h:S.get m=some (.map (xF (SP (fun k=>(RU (Zg a) k i).length) (Yu (Zg a) i) bl)) false))=>DU h (Zg a i)
   have up:=fun (S:St) (v:AV) (h:S.get m=some (.map (xF (SP (fun k=>(RU (Zg a) k i).length) (Yu (Zg a) i) bl)) false))=>qP h (Zg a i) v
   have ib:RU (Zg a) (Zg a i) (i+1)=RU (Zg a) (Zg a i) i++[i]:=by rw[Kr,if_pos rfl]
   by_cases Ue:Zg a i∈Yu (Zg a) i
   ·obtain⟨j,hj,hje⟩:=alP.1 Ue;have mB:j<bl.length:=by omega
    obtain⟨b1,b2,b3⟩:=wX j mB hj;rw[hje] at b3;have EH:=Cf (len:=fun k=>(RU (Zg a) k i).length) (bs:=bl) (PD (Zg a) i) wY hj;rw[hje] at EH;have Aq:0<(RU (Zg a) (Zg a i) i).length:=by
     obtain⟨u,GJ,OC⟩:=(Tj (Zg a) (Zg a i) i).1 Ue;exact List.length_pos_of_mem ((PE _ _ _ _).2 ⟨GJ,OC⟩)
    rw[EH] at lk;simp only[amG] at lk;have hz:(((RU (Zg a) (Zg a i) i).length:Int)==0)=false:=by simp;intro e;rw[e] at Aq;simp at Aq
    have u3:=(old _ b2).trans b3;have ax:=fun (S:St) (h:S.get bl[j]=some (.cells (ZO (RU (Zg a) (Zg a i) i)) 3 false 0 0))=>Ai rfl h i
    have UP:((RU (Zg a) (Zg a i) i).length+1)*8<=1099511627776:=by omega
    have VP:(RU (Zg a) (Zg a i) i).length+1<=1099511627776:=by omega
    have z1:(s3.next=m)=False:=by simp;omega
    have z2:(s3.next+1=m)=False:=by simp;omega
    have z3:(bl[j]=m)=False:=by simp;omega
    have z4:(s3.next=bl[j])=False:=by simp;omega
    simp only[go_sem,p4,p6,p8,p30,ta,c1,um,lk,up,hz,u3,ax,ZH,Nat.reducePow,amk,UP,VP,z1,z2,z3,z4,Rm];have Ig:Yu (Zg a) (i+1)=Yu (Zg a) i:=by rw[Yu,if_pos Ue]
    have R_:∀x y z k,k<s3.next->k≠m->k≠bl[j]->((((s3.new x).put bl[j] y).new z).put m (.map (xF (SP (fun k=>(RU (Zg a) k (i+1)).length) (Yu (Zg a) i) (bl.set j (s3.next+1)))) false)).get k=s3.get k:=fun x y z k h1 h2 h3=>by
     rw[Z9,if_neg h2.symm,Z7,Z',Z_,if_neg (by omega),Z9,if_neg h3.symm,Z7,if_neg (by omega)]
    have zT:=ti (len:=fun k=>(RU (Zg a) k i).length) (M7:=fun k=>(RU (Zg a) k (i+1)).length) (bs:=bl) (b':=s3.next+1) (PD (Zg a) i) wY hj (fun k _ TI=>by
     rw[hje] at TI;simp only[Kr,if_neg (fun e=>TI (Eq.symm e))])
    rw[hje] at zT;simp only[ib,agy,alW] at zT;rw[zT];have lbl:∀x∈bl,x<s'.next:=fun x hx=>by
     obtain⟨k,Jd,rfl⟩:=alP.1 hx;exact (wX k Jd (by omega)).2.1
    refine IH (i+1) _ _ (by omega) ⟨by omega,fun t ht=>?_,?_,?_,?_,fun k hk=>?_,by simp only[Z',Z_];omega,(((c3.new _).put (by rw[Z_];omega) _).new _).put (by rw[Z_,Z',Z_];omega) _,bl.set j (s3.next+1),vo,?_,⟨?_,?_,?_,fun k h h'=>?_,?_⟩⟩
    ·have ZC:∀k:Nat,6<=k->(k=t)=False:=fun k hk=>by simp;omega
     simp only[go_sem,ZC];exact pl t ht
    ·simp only[go_sem,p28]
    ·simp only[go_sem,p29]
    ·simp only[go_sem]
    ·rw[R_ _ _ _ k (by omega) (by omega) (by omega),old k (by omega),hs k hk]
    ·simp only[go_sem,p5]
    ·rw[Z9,if_pos rfl,Ig]
    ·rw[ami,Ig];exact wY
    ·exact C0 Gnd fun hm=>by have:=lbl _ hm;omega
    ·rw[ami] at h;have h'':k<(Yu (Zg a) i).length:=by rw[<-Ig];exact h'
     have hko:(Yu (Zg a) (i+1))[k]=(Yu (Zg a) i)[k]:=by simp only[Ig]
     rw[hko];by_cases nT:k=j
     ·subst nT;rw[List.getElem_set_self,hje,ib];refine⟨by omega,by simp only[Z',Z_];omega,?_⟩;rw[Z9,if_neg (by omega),Z7,Z',Z_,if_pos rfl]
     ·rw[List.getElem_set_ne (fun e=>nT e.symm)];obtain⟨d1,d2,d3⟩:=wX k h h'';have ZC:bl[k]≠bl[j]:=fun e=>nT ((List.getElem_inj Gnd).1 e)
      have TI:(Yu (Zg a) i)[k]≠Zg a i:=fun e=>nT ((List.getElem_inj (PD (Zg a) i)).1 (e.trans hje.symm))
      refine⟨d1,by simp only[Z',Z_];omega,?_⟩;rw[R_ _ _ _ _ (by omega) (by omega) ZC,old _ d2,d3,Kr,if_neg (fun e=>TI e.symm)]
    ·rw[Ig];refine eK.XS (by simp only[Z',Z_];omega) fun k c h1 h2 h3=>?_
     rw[R_ _ _ _ k (by omega) (by omega) (fun e=>by rw[e,b3] at h1;cases h1),old k h2];exact h1
   ·have EH:=DN (len:=fun k=>(RU (Zg a) k i).length) (bs:=bl) Ue;rw[EH] at lk;simp only[Option.getD_none] at lk;have hg0:RU (Zg a) (Zg a i) i=[]:=by
     refine List.eq_nil_iff_forall_not_mem.2 fun u hu=>Ue ?_
     obtain⟨h1,h2⟩:=(PE _ _ _ _).1 hu;exact (Tj _ _ _).2 ⟨u,h1,h2⟩
    have hvo:ZK s3 (m+1) 9 1 (Yu (Zg a) i).length (strs (Yu (Zg a) i)) vo:=eK.XS (by omega) fun k c h1 h2 h3=>by rw[old k h2];exact h1
    have akA:ZK (s3.new (.cells [.str (Zg a i)] 9 false 0 0)) (m+1) 9 1 (Yu (Zg a) i).length (strs (Yu (Zg a) i)) vo:=hvo.XS (by rw[Z_];omega) fun k c h1 h2 h3=>by rw[Z7,if_neg (by omega)];exact h1
    obtain⟨s5,d1,d2,d3,d4,d5,d6⟩:=akA.wC (by rw[Z_];omega) (.str (Zg a i)) rfl;rw[Z_] at d1 d2 d3 d4;have la:=hvo.Xj;have tM:=GV (Zg a) i;have UP:((Yu (Zg a) i).length+1)*16<=1099511627776:=by omega
    have VP:(Yu (Zg a) i).length+1<=1099511627776:=by omega
    simp only[go_sem,p4,p5,p8,ta,c1,um,lk,ZH,Nat.reducePow,amk,UP,VP,la];rw[d1];have v5m:s5.get m=some (.map (xF (SP (fun k=>(RU (Zg a) k i).length) (Yu (Zg a) i) bl)) false):=by rw[d5 m (by omega),Z7,if_neg (by omega)];exact um
    have z1:(s5.next=m)=False:=by simp;omega
    have z2:(s5.next+1=m)=False:=by simp;omega
    simp only[go_sem,p4,p6,p30,v5m,lk,up,ZH,Nat.reducePow,amk,Rm,z1,z2];have Ig:Yu (Zg a) (i+1)=Yu (Zg a) i++[Zg a i]:=by rw[Yu,if_neg Ue]
    have lV:RU (Zg a) (Zg a i) (i+1)=[i]:=by rw[ib,hg0];rfl
    have agY:∀k,k≠Zg a i->RU (Zg a) k (i+1)=RU (Zg a) k i:=fun k TI=>by rw[Kr,if_neg (fun e=>TI (Eq.symm e))]
    have zT:=zX (len:=fun k=>(RU (Zg a) k i).length) (M7:=fun k=>(RU (Zg a) k (i+1)).length) (bs:=bl) (b':=s5.next+1) Ue wY (fun k hk=>by
     have:k≠Zg a i:=fun e=>Ue (e ▸ hk)
     simp only[agY k this])
    simp only[lV,alW] at zT;rw[zT];have R_:∀x y k,k<s5.next->k≠m->(((s5.new x).new y).put m (.map (xF (SP (fun k=>(RU (Zg a) k (i+1)).length) (Yu (Zg a) i++[Zg a i]) (bl++[s5.next+1]))) false)).get k=s5.get k:=fun x y k h1 h2=>by
     rw[Z9,if_neg h2.symm,Z7,Z_,if_neg (by omega),Z7,if_neg (by omega)]
    have akB:∀k,k<m->s5.get k=s'.get k:=fun k hk=>by rw[d5 k (by omega),Z7,if_neg (by omega),old k (by omega)]
    have akC:∀k c,s'.get k=some (.cells c 3 false 0 0)->k<s'.next->s5.get k=some (.cells c 3 false 0 0):=fun k c h1 h2=>d4 k c 3 0 0 (by rw[Z7,if_neg (by omega),old k h2];exact h1) (by omega) (by decide)
    have lbl:∀x∈bl,x<s'.next:=fun x hx=>by
     obtain⟨k,Jd,rfl⟩:=alP.1 hx;exact (wX k Jd (by omega)).2.1
    refine IH (i+1) _ _ (by omega) ⟨by omega,fun t ht=>?_,?_,?_,?_,fun k hk=>?_,by simp only[Z',Z_];omega,(((d6 (c3.new _)).new _).new _).put (by simp only[Z_];omega) _,bl++[s5.next+1],.sl (s3.next+1) 0 ((Yu (Zg a) i).length+1) none 1,?_,⟨?_,?_,?_,fun k h h'=>?_,?_⟩⟩
    ·have ZC:∀k:Nat,6<=k->(k=t)=False:=fun k hk=>by simp;omega
     have acZ:(5=t)=False:=by simp;omega
     simp only[go_sem,ZC,acZ];exact pl t ht
    ·simp only[go_sem,p28]
    ·simp only[go_sem,p29]
    ·simp only[go_sem]
    ·rw[R_ _ _ k (by omega) (by omega),akB k hk,hs k hk]
    ·simp only[go_sem]
    ·rw[Z9,if_pos rfl,Ig]
    ·rw[Ig,agy,agy,wY];rfl
    ·rw[List.nodup_append];refine⟨Gnd,by simp,fun x hx y hy=>?_⟩;rw[ake.1 hy];have:=lbl x hx;omega
    ·by_cases hkb:k<bl.length
     ·obtain⟨e1,e2,e3⟩:=wX k hkb (by omega);have hko:(Yu (Zg a) (i+1))[k]=(Yu (Zg a) i)[k]'(by omega):=by simp only[Ig];rw[al2 (by omega)]
      have TI:(Yu (Zg a) i)[k]'(by omega)≠Zg a i:=fun e=>Ue (e ▸ adm (by omega))
      rw[hko,al2 hkb,agY _ TI];refine⟨e1,by simp only[Z',Z_];omega,?_⟩;rw[R_ _ _ _ (by omega) (by omega)];exact akC _ _ e3 e2
     ·have NA:k=bl.length:=by rw[agy,alW] at h;omega
      subst NA;have hko:(Yu (Zg a) (i+1))[bl.length]=Zg a i:=by simp only[Ig];rw[al5 (by omega)];simp
      rw[hko,al5 (by omega),lV];simp only[amC];refine⟨by omega,by simp only[Z',Z_];omega,?_⟩;rw[Z9,if_neg (by omega),Z7,Z_,if_pos rfl];rfl
    ·have e1:(Yu (Zg a) (i+1)).length=(Yu (Zg a) i).length+1:=by rw[Ig];simp
     have e2:strs (Yu (Zg a) (i+1))=strs (Yu (Zg a) i)++[.str (Zg a i)]:=by rw[Ig];simp[strs]
     rw[e1,e2];refine d3.XS (by simp only[Z',Z_];omega) fun k c h1 h2 h3=>?_
     rw[R_ _ _ k (by omega) (by omega)];exact h1
  case refine_6=>exact Xx.new _
  case refine_5 =>
   refine⟨.Vk,.ZW,?_,.inl rfl,by rw[Z_];omega,ZK.nil _ _ _ _⟩;rw[Z7,if_pos rfl]
  all_goals simp only[go_sem]
  all_goals rfl
 ·have:i=a.ZD.length:=by omega
  subst this;simp only[go_sem,Hv,q29,q30,Z8,alh];rw[MB] at G;refine hk _ _ bl vo (fun t ht=>?_) ?_ G hs Vl Xx
  ·have ZC:∀k:Nat,6<=k->(k=t)=False:=fun k hk=>by simp;omega
   simp only[go_sem,ZC];exact hold t ht
  ·simp only[go_sem,q5]
theorem acI {b n f t:Nat}{cap:Option Nat}(hc:cap=none\/cap=some n)(h1:f<=t)(h2:t<=n):Es 1 (.sl b 0 n cap 1) (some (.int .i64 (f:Int))) (some (.int .i64 (t:Int)))=some (.sl b f (t-f) (cap.map (·-f)) 1):=by
 have e1:Yz (some (.int .i64 (t:Int))) n n=some t:=by simp[Yz];omega
 have e2:Yz (some (.int .i64 (f:Int))) 0 t=some f:=by simp[Yz];omega
 rcases hc with rfl|rfl
 ·simp only[Es,Option.getD_none,e1,e2,ah1,ald,if_true]
 ·simp only[Es,amG,e1,e2,ah1,ald,if_true]
theorem vJ {s:St}{b n:Nat}{L:List Nat}(hL:L.length=n)(hg:s.get b=some (.cells (ZO L) 3 false 0 0))(k:Nat) :
  Rx 3 1 1 [.int .i64 (k:Int)] (.sl b 0 n none 1) s=some (.sl s.next 0 (n+1) none 1,(s.put b .gone).new (.cells (ZO (L++[k])) 3 false 0 0)):=by
 have MT:(ZO L).length=n*1:=by rw[Ww,hL,ah1]
 rw[TR,hg,VA MT (by omega) rfl,Qa]
theorem ik {s:St}{b n:Nat}{L:List Nat}(hL:L.length=n)(hg:s.get b=some (.cells (ZO L) 3 false 0 0)) :
  Rx 3 1 1 [.int .i64 0] (.sl b 0 n none 1) s=some (.sl s.next 0 (n+1) none 1,(s.put b .gone).new (.cells (ZO (L++[0])) 3 false 0 0)):=vJ hL hg 0
theorem Jv {l:List Nat}{f t:Nat}(h:t<=l.length):(piece l f t).length=t-f:=by unfold piece;simp;omega
theorem ij {l:List Nat}{f t i:Nat}(h:t<=l.length)(hi:i<t-f):(piece l f t)[i]'(by rw[Jv h];exact hi)=gt l (f+i):=by
 rw[VF (by omega)];unfold piece;rw[List.getElem_take,List.getElem_drop]
theorem akl {β:Type}{fin:Fl->β}{ks:List K}{ZB:β->Prop}{pb bl bs n f t K m x1 x4 x5:Nat}{L S:List Nat}{vp ve vm:AV}{c:Option Nat}{bb:Nat}(hft:f<=t)(ht:t<=L.length)(hL:L.length<=2^20)(hK:K<=2^20)(hS:S.length=n)(Ee:∀i,i<L.length->gt L i<n)(l8:pb≠bs)(sU:bl≠bs)
  {e:Env}{s:St}(g0:Env.get e 0=.ptr pb 0)(nD:Env.get e 119=.sl bl f (t-f) c 1)(nC:Env.get e 120=.int .i64 ((t-f:Nat):Int))(acW:Env.get e 121=.int .i64 (0:Nat))
  (gp:s.get pb=some (.cells [.sl bl 0 L.length none 1,vp,.sl bs 0 n (some n) 1,.sl bb 0 (K+1) none 1,ve,vm] 285 false 0 0))(gl:s.get bl=some (.cells (ZO L) 3 false 0 0))(gs:s.get bs=some (.cells (ZO S) 3 false 0 0))(LQ:bs<s.next)(fr:Fr s)
  (hk:∀e' s',Env.get e' 0=.ptr pb 0->s'.get bs=some (.cells (ZO (Xs K (piece L f t) S)) 3 false 0 0)->(∀j,j≠bs->s'.get j=s.get j)->s.next<=s'.next->Fr s'->ZB (goN U fin ks e' s')) :
  ZB (SD U fin (.bk 0::ks) KN e s):=by
 have Mw:=Jv (f:=f) ht;refine YP (σ:=Nat) (fun i=>t-f-i) (fun i e' s'=>i<=t-f/\Env.get e' 0=.ptr pb 0/\Env.get e' 119=.sl bl f (t-f) c 1/\Env.get e' 120=.int .i64 ((t-f:Nat):Int)/\Env.get e' 121=.int .i64 (i:Nat)/\(∀j,j≠bs->s'.get j=s.get j)/\s.next<=s'.next/\Fr s' /\
   ∃S',S'.length=n/\s'.get bs=some (.cells (ZO S') 3 false 0 0)/\Xs K ((piece L f t).drop i) S'=Xs K (piece L f t) S) 0 ?_
  ⟨aic _,g0,nD,nC,acW,fun _ _=>rfl,agB _,fr,S,hS,gs,rfl⟩
 rintro Lp i e' s' ⟨hi,q0,nz,xp,agH,hs,Vl,Xx,S',hS',qs,QR⟩ IH;have gp':=(hs pb l8).trans gp;have gl':=(hs bl sU).trans gl;by_cases hd:i<t-f
 ·have hw:=ZN hd (by omega);have o1:=Yq (l:=L) (i:=f+i) (by omega);have hu:=Ee (f+i) (by omega);have OE:=Xd (l:=S') (i:=gt L (f+i)) K (by omega);rw[abc (by rw[Mw];exact hd),ij ht hd,Xs] at QR;have w1:IntKind.i64.wrap (((K+1:Nat):Int)-1)=(K:Int):=by rw[wrap_i64] <;> omega
  have z1:(bs=pb)=False:=eq_false l8.symm;have z2:(bs=bl)=False:=eq_false sU.symm;simp (maxSteps:=2000000) +contextual only[go_sem,KN,q0,nz,xp,agH,Z8,hd,gp',gl',qs,o1,hu,OE,w1,hw,ah1,z1,z2];refine IH (i+1) _ _ (by omega) ⟨by omega,?_,?_,?_,?_,fun j hj=>?_,?_,?_,S'.set (gt L (f+i)) K,by rw[ami];exact hS',?_,QR⟩
  ·simp +contextual only[go_sem,q0]
  ·simp +contextual only[go_sem,nz]
  ·simp +contextual only[go_sem,xp]
  ·simp +contextual only[go_sem,hw]
  ·rw[Z9,if_neg hj.symm,ZT];exact hs j hj
  ·rw[Z',Z6];omega
  ·exact (Xx.upto (by omega)).put (by rw[Z6];omega) _
  ·rw[Z9,if_pos rfl]
 ·have:i=t-f:=by omega
  subst this;have hdn:(piece L f t).drop (t-f)=[]:=by rw[<-Mw,alO]
  rw[hdn,Xs] at QR;simp (maxSteps:=2000000) +contextual only[go_sem,KN,xp,agH,Z8,alh];refine hk _ _ ?_ (by rw[qs,QR]) hs Vl Xx;simp +contextual only[go_sem,q0]
def bD (s0:St)(pb n bl bp bs bb be bm:Nat)(p:Pt)(v:Int)(r:Option (AV×St)):Prop :=
 ∃s' Pg Pf Pe,r=some (.int .i64 v,s')/\LI s' pb n bl bp bs Pg Pf Pe p/\s0.next<=s'.next/\Fr s'/\(Pg=bb\/s0.next<=Pg)/\(Pf=be\/s0.next<=Pf)/\(Pe=bm\/s0.next<=Pe) /\
  ∀j,j<s0.next->j≠pb->j≠bs->j≠bb->j≠be->j≠bm->s'.get j=s0.get j
theorem f217 {s S:St}{e:Env}{pb n bl bp bs bb be bm b1 b2 b3 f t:Nat}{c:Option Nat}{p:Pt}{bg' en' mr':List Nat}(Hd:bg'.length=p.bg.length+1)(Ew:en'.length=p.en.length+1)(hml:mr'.length=p.mr.length+1)(h:LI s pb n bl bp bs bb be bm p)(hw:p.Wf n)(hn:n<=2^19)(hft:f<=t)(ht:t<=n)
  (UP:s.next<=b1)(VP:b1<b2)(Ba:b2<b3)(hb4:b3<S.next)
  (g0:Env.get e 0=.ptr pb 0)(nD:Env.get e 119=.sl bl f (t-f) c 1)(nC:Env.get e 120=.int .i64 ((t-f:Nat):Int))(acW:Env.get e 121=.int .i64 (0:Nat))
  (gp:S.get pb=some (.cells [.sl bl 0 p.list.length none 1,.sl bp 0 p.place.length (some n) 1,.sl bs 0 p.set.length (some n) 1,.sl b1 0 (p.bg.length+1) none 1,.sl b2 0 (p.en.length+1) none 1,.sl b3 0 (p.mr.length+1) none 1] 285 false 0 0))
  (gs:S.get bs=some (.cells (ZO p.set) 3 false 0 0))(k1:S.get b1=some (.cells (ZO bg') 3 false 0 0))(k2:S.get b2=some (.cells (ZO en') 3 false 0 0))(k3:S.get b3=some (.cells (ZO mr') 3 false 0 0))(fr:Fr S)
  (hold:∀j,j<s.next->j≠pb->j≠bs->j≠bb->j≠be->j≠bm->S.get j=s.get j) :
  bD s pb n bl bp bs bb be bm { list:=p.list,place:=p.place,set:=Xs p.bg.length (piece p.list f t) p.set,bg:=bg',en:=en',mr:=mr' } p.bg.length
   (SD U (Sx U [.tmp 4]) [.bk 0,.sq (.seq (.ops [⟨some 138,none,none,false,.O9 (.t 0)⟩,⟨some 139,none,none,false,.raw (.nilCheck (.tmp 138))⟩,⟨some 140,none,none,false,.fa 3 (.t 139)⟩,⟨some 141,none,none,false,.SL (.t 140)⟩,⟨some 142,none,none,false,.SW (.t 141)⟩,
    ⟨some 143,none,none,false,.bin .sub 3 true (.t 142) (.v (.int .i64 1))⟩,⟨some 4,none,none,false,.O9 (.t 143)⟩]) .ret)] KN e S):=by
 have A:=Ap.of h.ne;have sU:=hw.ls;have EK:=hw.ll;have hlp:=hw.lp;have Si:=hw.few;have Wy:=h.lt pb (by simp);have lbl:=h.lt bl (by simp);have lbp:=h.lt bp (by simp);have lbs:=h.lt bs (by simp);have gl:S.get bl=some (.cells (ZO p.list) 3 false 0 0):=(hold bl lbl A.n1.symm A.n8 A.n9 A.fP A.wR).trans h.gl;have gpl:S.get bp=some (.cells (ZO p.place) 3 false 0 0):=(hold bp lbp A.n2.symm A.xE A.mC A.n14 A.fO).trans h.gp;have gp':=gp;rw[sU] at gp';refine akl (ZB:=bD s pb n bl bp bs bb be bm { list:=p.list,place:=p.place,set:=Xs p.bg.length (piece p.list f t) p.set,bg:=bg',en:=en',mr:=mr' } p.bg.length) (x1:=0) (x4:=0) (x5:=0) (m:=0) (K:=p.bg.length) hft (by omega) (by omega) (by omega) sU (fun i hi=>(hw.li i (by omega)).1) A.n3 A.n8 g0 nD nC acW gp' gl gs (by omega) fr ?_;intro e' s' q0 qs hs Vl Xx;have w1:IntKind.i64.wrap (((p.bg.length+1:Nat):Int)-1)=(p.bg.length:Int):=by rw[wrap_i64] <;> omega
 have hp:=(hs pb A.n3).trans gp;simp (maxSteps:=2000000) +contextual only[go_sem,q0,hp,w1];refine⟨s',b1,b2,b3,rfl,⟨?_,(hs bl A.n8).trans gl,(hs bp A.xE).trans gpl,qs,(hs b1 (by omega)).trans k1,(hs b2 (by omega)).trans k2,(hs b3 (by omega)).trans k3,?_,?_⟩,by omega,Xx,.inr UP,.inr (by omega),.inr (by omega),fun j h1 h2 h3 h4 h5 h6=>by rw[hs j h3,hold j h1 h2 h3 h4 h5 h6]⟩
 ·rw[hp];simp only[Mb,Hd,Ew,hml]
 ·have:=A.n1;have:=A.n2;have:=A.n3;have:=A.n7;have:=A.n8;have:=A.xE;simp only[amv,alL,List.not_mem_nil,not_or,or_false,List.nodup_nil,and_true,not_false_eq_true];refine⟨⟨A.n1,A.n2,A.n3,?_,?_,?_⟩,⟨A.n7,A.n8,?_,?_,?_⟩,⟨A.xE,?_,?_,?_⟩,⟨?_,?_,?_⟩,⟨?_,?_⟩,?_⟩ <;> omega
 ·intro j hj;simp only[alL,List.not_mem_nil,or_false] at hj;rcases hj with rfl|rfl|rfl|rfl|rfl|rfl|rfl <;> omega
theorem akm {s:St}{pb n bl bp bs bb be bm:Nat}{p:Pt}(h:LI s pb n bl bp bs bb be bm p)(hw:p.Wf n)(hn:n<=2^19)(fr:Fr s){k:Nat}(hk:k<p.bg.length)(oq:0<gt p.mr k) :
  bD s pb n bl bp bs bb be bm (p.cut k).1 (bif (p.cut k).2 then (p.bg.length:Int) else -1) (Rl U 217 [.ptr pb 0,.int .i64 (k:Int)] s):=by
 suffices mn:bD s pb n bl bp bs bb be bm (p.cut k).1 (bif (p.cut k).2 then (p.bg.length:Int) else -1) (go U (Sx U [.tmp 4]) [] ko (YX 0 [.ptr pb 0,.int .i64 (k:Int)] .nil) s) by
  obtain⟨s',b1,b2,b3,h1,h2⟩:=mn;exact⟨s',b1,b2,b3,VE aji (by kernel_rfl) h1,h2⟩
 obtain⟨Jd,BW,hk3⟩:=hw.sp k hk;have OG:=hw.mr k hk;obtain⟨g,gl,gp,gs,gb,ge,gm,nd,lt⟩:=h;have A:=Ap.of nd;have EK:=hw.ll;have hlp:=hw.lp;have sU:=hw.ls;have hle:=hw.le;have qZ:=hw.lm;have Si:=hw.few;have lt':pb<s.next/\bl<s.next/\bp<s.next/\bs<s.next/\bb<s.next/\be<s.next/\bm<s.next:=by
  refine⟨lt _ (by simp),lt _ (by simp),lt _ (by simp),lt _ (by simp),lt _ (by simp),lt _ (by simp),lt _ (by simp)⟩
 obtain⟨sT,qx,lt3,lt4,kT,kp,WA⟩:=lt';have q1:=Yq (l:=p.mr) (i:=k) (by omega);have q2:=Yq (l:=p.en) (i:=k) (by omega);have q3:=Yq (l:=p.bg) (i:=k) hk;have km:k<p.mr.length:=by omega
 have ke:k<p.en.length:=by omega
 have w1:IntKind.i64.wrap (((gt p.en k:Nat):Int)-((gt p.bg k:Nat):Int))=((gt p.en k-gt p.bg k:Nat):Int):=by rw[wrap_i64] <;> omega
 have y1:=Xd (l:=p.mr) (i:=k) 0 km;have y1:lay k [.int .i64 0] (ZO p.mr)=some (ZO (p.mr.set k 0)):=y1;have z1:(bm=pb)=False:=eq_false A.n6.symm;have z2:(bm=bb)=False:=eq_false A.WT.symm;have z3:(bm=be)=False:=eq_false A.nX.symm;have e1:=qw (gt p.mr k) (gt p.en k-gt p.bg k);unfold Pt.cut
 cases Xa:gt p.mr k==gt p.en k-gt p.bg k with
 |true =>
  rw[Xa] at e1;simp (maxSteps:=2000000) +contextual only[go_sem,ko,g,gb,ge,gm,q1,q2,q3,hk,km,ke,w1,y1,ah1,z1,z2,z3,e1,cond_true];refine⟨_,bb,be,bm,rfl,⟨?_,?_,?_,?_,?_,?_,?_,nd,fun j hj=>?_⟩,?_,?_,.inl rfl,.inl rfl,.inl rfl,fun j h1 h2 h3 h4 h5 h6=>?_⟩
  ·rw[Z9,if_neg A.n6.symm,ZT,g];simp only[ami]
  ·rw[Z9,if_neg A.wR.symm,ZT,gl]
  ·rw[Z9,if_neg A.fO.symm,ZT,gp]
  ·rw[Z9,if_neg A.n18.symm,ZT,gs]
  ·rw[Z9,if_neg A.WT.symm,ZT,gb]
  ·rw[Z9,if_neg A.nX.symm,ZT,ge]
  ·rw[Z9,if_pos rfl]
  ·simp only[Z',Z6];have:=lt j hj;omega
  ·simp only[Z',Z6];omega
  ·exact (fr.upto (by omega)).put (by rw[Z6];omega) _
  ·rw[Z9,if_neg h6.symm,ZT]
 |false =>
  rw[Xa] at e1;have M0:∀j q,j<s.next->(j=s.next+q)=False:=fun j q hj=>by simp;omega
  have Kl:∀j q,j<s.next->(s.next+q=j)=False:=fun j q hj=>by simp;omega
  have xh:∀q,q≠0->(s.next+q=s.next)=False:=fun q hq=>by simp;omega
  have xg:∀q,q≠0->(s.next=s.next+q)=False:=fun q hq=>by simp;omega
  have Nc:=fr.at;have w2:IntKind.i64.wrap (((gt p.bg k:Nat):Int)+((gt p.mr k:Nat):Int))=((gt p.bg k+gt p.mr k:Nat):Int):=by rw[wrap_i64] <;> omega
  have w3:IntKind.i64.wrap (2*((gt p.mr k:Nat):Int))=2*((gt p.mr k:Nat):Int):=by rw[wrap_i64] <;> omega
  have e2:decide (2*((gt p.mr k:Nat):Int)>((gt p.en k-gt p.bg k:Nat):Int))=decide (2*gt p.mr k>gt p.en k-gt p.bg k):=by congr 1;apply propext;omega
  have z4:(be=pb)=False:=eq_false A.n5.symm;have z5:(be=bb)=False:=eq_false A.n19.symm;have z6:(be=bm)=False:=eq_false A.nX;have z7:(bb=pb)=False:=eq_false A.n4.symm;have z8:(bb=be)=False:=eq_false A.n19;have z9:(bb=bm)=False:=eq_false A.WT;have x1:(pb=bs)=False:=eq_false A.n3;have x2:(bb=bs)=False:=eq_false A.n16.symm;have x3:(be=bs)=False:=eq_false A.n17.symm;have x4:(bm=bs)=False:=eq_false A.n18.symm;have x5:(pb=bb)=False:=eq_false A.n4;have x6:(pb=be)=False:=eq_false A.n5;have x7:(pb=bm)=False:=eq_false A.n6;have UP:(p.bg.length+1)*8<=1099511627776:=by omega
  have VP:p.bg.length+1<=1099511627776:=by omega
  have Ba:(p.en.length+1)*8<=1099511627776:=by omega
  have hb4:p.en.length+1<=1099511627776:=by omega
  have tA:(p.mr.length+1)*8<=1099511627776:=by omega
  have nZ:p.mr.length+1<=1099511627776:=by omega
  cases h2:decide (2*gt p.mr k>gt p.en k-gt p.bg k) with
  |true =>
   rw[h2] at e2;have y2:=Xd (l:=p.en) (i:=k) (gt p.bg k+gt p.mr k) ke;have sl1:=acI (b:=bl) (n:=p.list.length) (f:=gt p.bg k+gt p.mr k) (t:=gt p.en k) (.inl rfl) (by omega) (by omega);have a1:=fun (S:St) (h:S.get bb=some (.cells (ZO p.bg) 3 false 0 0))=>vJ rfl h (gt p.bg k+gt p.mr k)
   have a2:=fun (S:St) (h:S.get be=some (.cells (ZO (p.en.set k (gt p.bg k+gt p.mr k))) 3 false 0 0))=>vJ (n:=p.en.length) (by simp) h (gt p.en k)
   have a3:=fun (S:St) (h:S.get bm=some (.cells (ZO (p.mr.set k 0)) 3 false 0 0))=>ik (n:=p.mr.length) (by simp) h
   simp (maxSteps:=2000000) +contextual only[go_sem,ko,g,gb,ge,gm,q1,q2,q3,hk,km,ke,w1,w2,w3,y1,y2,ah1,z1,z2,z3,z4,z5,z6,z7,z8,z9,e1,e2,cond_true,cond_false,Uc kq,M0,Kl,sT,qx,lt3,lt4,kT,kp,WA,Nc,a1,a2,a3,ZH,Nat.reducePow,amk,UP,VP,Ba,hb4,tA,nZ,akc,Option.isNone_none,xh,xg,sl1,Option.map_none];refine f217 (b1:=s.next+84) (b2:=s.next+85) (b3:=s.next+86) (c:=none) (by simp) (by simp) (by simp) ⟨g,gl,gp,gs,gb,ge,gm,nd,lt⟩ hw hn (by omega) (by omega) (by omega) (by omega) (by omega) ?_ ?_ ?_ ?_ ?_ ?_ ?_ ?_ ?_ ?_ ?_ ?_
   case refine_1=>simp only[Z',Z_,Z6];omega
   case refine_11 =>
    repeat first|exact fr|apply Fr.new|apply Fr.put|apply Fr.upto
    all_goals try simp only[Z',Z_,Z6]
    all_goals omega
   case refine_12 =>
    intro j h1 h2 h3 h4 h5 h6;have v1:(pb=j)=False:=eq_false h2.symm;have v2:(bs=j)=False:=eq_false h3.symm;have v3:(bb=j)=False:=eq_false h4.symm;have v4:(be=j)=False:=eq_false h5.symm;have v5:(bm=j)=False:=eq_false h6.symm;have v6:∀q,(s.next+q=j)=False:=fun q=>Kl j q h1
    simp only[Z9,Z7,Z',Z_,ZT,Z6,v1,v3,v4,v5,v6,if_false,akc]
   all_goals simp +contextual only[go_sem,g,gs,z1,z2,z3,z4,z5,z6,z7,z8,z9,x1,x2,x3,x4,x5,x6,x7,M0,Kl,sT,qx,lt3,lt4,kT,kp,WA,akc]
   all_goals first|rfl|simp
  |false =>
   rw[h2] at e2;have y2:=Xd (l:=p.bg) (i:=k) (gt p.bg k+gt p.mr k) hk;have sl1:=acI (b:=bl) (n:=p.list.length) (f:=gt p.bg k) (t:=gt p.bg k+gt p.mr k) (.inl rfl) (by omega) (by omega);have a1:=fun (S:St) (h:S.get bb=some (.cells (ZO (p.bg.set k (gt p.bg k+gt p.mr k))) 3 false 0 0))=>vJ (n:=p.bg.length) (by simp) h (gt p.bg k)
   have a2:=fun (S:St) (h:S.get be=some (.cells (ZO p.en) 3 false 0 0))=>vJ (n:=p.en.length) rfl h (gt p.bg k+gt p.mr k)
   have a3:=fun (S:St) (h:S.get bm=some (.cells (ZO (p.mr.set k 0)) 3 false 0 0))=>ik (n:=p.mr.length) (by simp) h
   simp (maxSteps:=2000000) +contextual only[go_sem,ko,g,gb,ge,gm,q1,q2,q3,hk,km,ke,w1,w2,w3,y1,y2,ah1,z1,z2,z3,z4,z5,z6,z7,z8,z9,e1,e2,cond_true,cond_false,Uc kq,M0,Kl,sT,qx,lt3,lt4,kT,kp,WA,Nc,a1,a2,a3,ZH,Nat.reducePow,amk,UP,VP,Ba,hb4,tA,nZ,akc,Option.isNone_none,xh,xg,sl1,Option.map_none];refine f217 (b1:=s.next+74) (b2:=s.next+75) (b3:=s.next+76) (c:=none) (by simp) (by simp) (by simp) ⟨g,gl,gp,gs,gb,ge,gm,nd,lt⟩ hw hn (by omega) (by omega) (by omega) (by omega) (by omega) ?_ ?_ ?_ ?_ ?_ ?_ ?_ ?_ ?_ ?_ ?_ ?_
   case refine_1=>simp only[Z',Z_,Z6];omega
   case refine_11 =>
    repeat first|exact fr|apply Fr.new|apply Fr.put|apply Fr.upto
    all_goals try simp only[Z',Z_,Z6]
    all_goals omega
   case refine_12 =>
    intro j h1 h2 h3 h4 h5 h6;have v1:(pb=j)=False:=eq_false h2.symm;have v2:(bs=j)=False:=eq_false h3.symm;have v3:(bb=j)=False:=eq_false h4.symm;have v4:(be=j)=False:=eq_false h5.symm;have v5:(bm=j)=False:=eq_false h6.symm;have v6:∀q,(s.next+q=j)=False:=fun q=>Kl j q h1
    simp only[Z9,Z7,Z',Z_,ZT,Z6,v1,v3,v4,v5,v6,if_false,akc]
   all_goals simp +contextual only[go_sem,g,gs,z1,z2,z3,z4,z5,z6,z7,z8,z9,x1,x2,x3,x4,x5,x6,x7,M0,Kl,sT,qx,lt3,lt4,kT,kp,WA,akc]
   all_goals first|rfl|simp
def HS (s:St)(N:Nat)(L:List Nat)(v:AV):Prop:=(v=.ZW/\L=[])\/∃b,v=.sl b 0 L.length none 1/\s.get b=some (.cells (ZO L) 3 false 0 0)/\N<=b/\b<s.next
def Xb (v:AV)(j:Nat):Prop:=∃n,v=.sl j 0 n none 1
theorem Yl (b n j:Nat):Xb (.sl b 0 n none 1) j<->b=j:=by
 constructor
 ·rintro⟨m,h⟩;cases h;rfl
 ·rintro rfl;exact⟨n,rfl⟩
theorem V' (j:Nat):¬Xb .ZW j:=by rintro⟨m,h⟩;cases h
theorem HS.keep {s s':St}{N:Nat}{L:List Nat}{v:AV}(h:HS s N L v)(hn:s.next<=s'.next)(hg:∀j,j<s.next->N<=j->Xb v j->s'.get j=s.get j):HS s' N L v:=by
 rcases h with h|⟨b,h1,h2,h3,h4⟩
 ·exact .inl h
 ·exact .inr ⟨b,h1,by rw[hg b h4 h3 ⟨_,h1⟩];exact h2,h3,by omega⟩
theorem HS.lt {s:St}{N:Nat}{L:List Nat}{v:AV}(h:HS s N L v){j:Nat}(hj:Xb v j):N<=j/\j<s.next:=by
 rcases h with⟨h,_⟩|⟨b,h1,h2,h3,h4⟩
 ·rw[h] at hj;exact absurd hj (V' j)
 ·rw[h1,Yl] at hj;subst hj;exact⟨h3,h4⟩
structure kV (s:St)(pb n bp bs N:Nat)(p:Pt)(vl ve:AV)(b1 b3:Nat):Prop where
 g:s.get pb=some (.cells [vl,.sl bp 0 n (some n) 1,.sl bs 0 n (some n) 1,.sl b1 0 p.bg.length none 1,ve,.sl b3 0 p.mr.length none 1] 285 false 0 0)
 gp:s.get bp=some (.cells (ZO p.place) 3 false 0 0)
 gs:s.get bs=some (.cells (ZO p.set) 3 false 0 0)
 gb:s.get b1=some (.cells (ZO p.bg) 3 false 0 0)
 gm:s.get b3=some (.cells (ZO p.mr) 3 false 0 0)
 l:HS s N p.list vl
 e:HS s N p.en ve
 h1:N<=b1/\b1<s.next/\N<=b3/\b3<s.next/\b1≠b3
 dl:∀j,Xb vl j->j≠b1/\j≠b3/\¬Xb ve j
 de:∀j,Xb ve j->j≠b1/\j≠b3
 lo:pb<N/\bp<N/\bs<N/\pb≠bp/\pb≠bs/\bp≠bs/\N<=s.next
 lp:p.place.length=n
 ls:p.set.length=n
theorem adZ {β:Type}{fin:Fl->β}{ks:List K}{ZB:β->Prop}{pb n bp bs N b1 b3 K gb:Nat}{p:Pt}{vl ve:AV}{G:List Nat}{e:Env}{s:St}(hn:n<=2^19)(hG:∀u∈G,u<n)(hb:p.list.length+G.length<=2^20)(hK:K<=2^20)
  (g3:Env.get e 3=.ptr pb 0)(Iw:Env.get e 12=.int .i64 (K:Int))(g96:Env.get e 96=.sl gb 0 G.length none 1)(g97:Env.get e 97=.int .i64 G.length)(g98:Env.get e 98=.int .i64 (0:Nat))
  (hgb:s.get gb=some (.cells (ZO G) 3 false 0 0))(Yh:gb<N)(ZC:gb≠pb/\gb≠bp/\gb≠bs)(M:kV s pb n bp bs N p vl ve b1 b3)(fr:Fr s)
  (hk:∀e' s' Av,(∀t:Nat,t<15\/15<t/\t<98->Env.get e' t=Env.get e t)->kV s' pb n bp bs N (Wt K G p) Av ve b1 b3->(∀j,j<N->j≠pb->j≠bp->j≠bs->s'.get j=s.get j)->s.next<=s'.next->Fr s'->ZB (goN U fin ks e' s')) :
  ZB (SD U fin (.bk 6::ks) KO e s):=by
 refine YP (σ:=Nat) (fun i=>G.length-i) (fun i e' s'=>i<=G.length/\(∀t:Nat,t<15\/15<t/\t<98->Env.get e' t=Env.get e t)/\Env.get e' 98=.int .i64 (i:Nat)/\(∀j,j<N->j≠pb->j≠bp->j≠bs->s'.get j=s.get j)/\s.next<=s'.next/\Fr s' /\
   ∃p' Av,kV s' pb n bp bs N p' Av ve b1 b3/\Wt K (G.drop i) p'=Wt K G p/\p'.list.length=p.list.length+i) 0 ?_
  ⟨aic _,fun _ _=>rfl,g98,fun _ _ _ _ _=>rfl,agB _,fr,p,vl,M,rfl,rfl⟩
 rintro Lp i e' s' ⟨hi,hold,q98,hs,Vl,Xx,p',Av,M',oN,hlen⟩ IH;have q3:=(hold 3 (by omega)).trans g3;have fK:=(hold 12 (by omega)).trans Iw;have q96:=(hold 96 (by omega)).trans g96;have q97:=(hold 97 (by omega)).trans g97;by_cases hd:i<G.length
 ·have hw:=ZN hd (by omega);have ahd:=(hs gb Yh ZC.1 ZC.2.1 ZC.2.2).trans hgb;have o1:=Yq (l:=G) (i:=i) hd;have hu:=hG _ (adm hd);rw[VF hd] at o1;rw[abc hd,Wt] at oN;generalize G[i]=u at *;obtain⟨g,gp,gs,gb1,gm,hl,he,⟨c1,c2,c3,c4,c5⟩,dl,de,⟨d1,d2,d3,d4,d5,d6,d7⟩,lp,ls⟩:=M';have y1:=Xd (l:=p'.place) (i:=u) p'.list.length (by omega);have y2:=Xd (l:=p'.set) (i:=u) K (by omega);have u1:u<n:=hu;have z1:(bp=pb)=False:=eq_false d4.symm;have z2:(bp=bs)=False:=eq_false d6;have z3:(bs=pb)=False:=eq_false d5.symm;have z4:(bs=bp)=False:=eq_false d6.symm;have UP:(p'.list.length+1)*8<=1099511627776:=by omega
  have VP:p'.list.length+1<=1099511627776:=by omega
  have tA:(0+1)*8<=1099511627776:=by omega
  have nZ:0+1<=1099511627776:=by omega
  have f1:∀q,(s'.next+q=pb)=False:=fun q=>by simp;omega
  have f2:∀q,(s'.next+q=bp)=False:=fun q=>by simp;omega
  have f3:∀q,(s'.next+q=bs)=False:=fun q=>by simp;omega
  have f6:∀b,N<=b->(pb=b)=False:=fun b hb=>by simp;omega
  have f7:∀b,N<=b->(bp=b)=False:=fun b hb=>by simp;omega
  have f8:∀b,N<=b->(bs=b)=False:=fun b hb=>by simp;omega
  have f9:∀b,N<=b->(b=pb)=False:=fun b hb=>by simp;omega
  have f11:∀b,N<=b->(b=bp)=False:=fun b hb=>by simp;omega
  have f12:∀b,N<=b->(b=bs)=False:=fun b hb=>by simp;omega
  have Ib:∀t:Nat,t<15\/15<t/\t<98->((15=t)=False/\∀k:Nat,98<=k->(k=t)=False):=fun t ht=>⟨by simp;omega,fun k hk=>by simp;omega⟩
  have key:∀(E:Env) (S:St),(∀t:Nat,t<15\/15<t/\t<98->Env.get E t=Env.get e' t)->Env.get E 98=.int .i64 ((i+1:Nat):Int) ->
    S.get pb=some (.cells [.sl (s'.next+21) 0 (p'.list.length+1) none 1,.sl bp 0 n (some n) 1,.sl bs 0 n (some n) 1,.sl b1 0 p'.bg.length none 1,ve,.sl b3 0 p'.mr.length none 1] 285 false 0 0) ->
    S.get bp=some (.cells (ZO (p'.place.set u p'.list.length)) 3 false 0 0)->S.get bs=some (.cells (ZO (p'.set.set u K)) 3 false 0 0)->S.get (s'.next+21)=some (.cells (ZO (p'.list++[u])) 3 false 0 0) ->
    (∀j,j<s'.next->j≠pb->j≠bp->j≠bs->¬Xb Av j->S.get j=s'.get j)->s'.next+21<S.next->Fr S->ZB (SD U fin (.bk 6::ks) Lp E S):=by
   intro E S k1 k2 k3 k4 k5 k6 k7 k8 k9;refine IH (i+1) _ _ (by omega) ⟨by omega,fun t ht=>(k1 t ht).trans (hold t ht),k2,fun j h1 h2 h3 h4=>(k7 j (by omega) h2 h3 h4 fun h=>by have:=hl.lt h;omega).trans (hs j h1 h2 h3 h4),by omega,k9,{ list:=p'.list++[u],place:=p'.place.set u p'.list.length,set:=p'.set.set u K,bg:=p'.bg,en:=p'.en,mr:=p'.mr },.sl (s'.next+21) 0 (p'.list.length+1) none 1,⟨k3,k4,k5,(k7 b1 c2 (by omega) (by omega) (by omega) fun h=>(dl _ h).1 rfl).trans gb1,(k7 b3 c4 (by omega) (by omega) (by omega) fun h=>(dl _ h).2.1 rfl).trans gm,.inr ⟨s'.next+21,by simp,k6,by omega,k8⟩,he.keep (by omega) fun j h1 h2 h3=>k7 j h1 (by omega) (by omega) (by omega) fun h=>(dl _ h).2.2 h3,⟨c1,by omega,c3,by omega,c5⟩,fun j hj=>?_,de,⟨d1,d2,d3,d4,d5,d6,by omega⟩,by rw[ami];exact lp,by rw[ami];exact ls⟩,oN,by simp[hlen];omega⟩;rw[Yl] at hj;subst hj;refine⟨by omega,by omega,fun h=>?_⟩;have:=he.lt h;omega
  rcases hl with⟨rfl,hl⟩|⟨bl,rfl,hg,e1,e2⟩
  ·rw[hl] at key;rw[hl,List.length_nil] at y1;have y1:lay u [.int .i64 0] (ZO p'.place)=some (ZO (p'.place.set u 0)):=y1;simp only[go_sem,KO,q3,fK,q96,q97,q98,Z8,hd,hw,ahd,o1,g,gp,gs,u1,y1,y2,ah1,z1,z2,z3,ZH,Nat.reducePow,amk,tA,nZ,V_,ald,akc,f1];refine key _ _ (fun t ht=>?_) ?_ ?_ ?_ ?_ ?_ (fun j h1 h2 h3 h4 h5=>?_) ?_ ?_
   ·obtain⟨fO,n98⟩:=Ib t ht;simp only[go_sem,fO,n98]
   ·simp only[go_sem]
   ·simp only[go_sem]
   ·simp only[go_sem,eq_false d4,f2,akc,z4]
   ·simp only[go_sem,eq_false d5,f3,akc]
   ·simp only[go_sem,akc,Nat.reduceAdd,(fun q=>f6 (s'.next+q) (by omega):∀q,(pb=s'.next+q)=False)];rfl
   ·have e0:∀q,(s'.next+q=j)=False:=fun q=>by simp;omega
    simp only[Z9,Z7,Z',Z_,Z6,ZT,akc,Nat.reduceAdd,e0,eq_false h2.symm,eq_false h3.symm,eq_false h4.symm,if_false]
   ·simp only[Z',Z_,Z6];omega
   ·repeat first|exact Xx|apply Fr.new|apply Fr.put|apply Fr.upto
    all_goals try simp only[Z',Z_,Z6]
    all_goals omega
  ·have a1:=fun (S:St) (h:S.get bl=some (.cells (ZO p'.list) 3 false 0 0))=>Ai rfl h u
   have f10:∀q,(s'.next+q=bl)=False:=fun q=>by simp;omega
   simp only[go_sem,KO,q3,fK,q96,q97,q98,Z8,hd,hw,ahd,o1,g,gp,gs,u1,y1,y2,ah1,z1,z2,z3,ZH,Nat.reducePow,UP,VP,akc,f1,f7,f8,f9,f10,e1,hg,a1];refine key _ _ (fun t ht=>?_) ?_ ?_ ?_ ?_ ?_ (fun j h1 h2 h3 h4 h5=>?_) ?_ ?_
   ·obtain⟨fO,n98⟩:=Ib t ht;simp only[go_sem,fO,n98]
   ·simp only[go_sem]
   ·simp only[go_sem]
   ·simp only[go_sem,eq_false d4,f2,f11,e1,z4,akc]
   ·simp only[go_sem,eq_false d5,f3,f12,e1,akc]
   ·simp only[go_sem,akc,Nat.reduceAdd,(fun q=>f6 (s'.next+q) (by omega):∀q,(pb=s'.next+q)=False)]
   ·have e0:∀q,(s'.next+q=j)=False:=fun q=>by simp;omega
    rw[Yl] at h5;simp only[Z9,Z7,Z',Z_,Z6,ZT,akc,Nat.reduceAdd,e0,eq_false h2.symm,eq_false h3.symm,eq_false h4.symm,eq_false h5,if_false]
   ·simp only[Z',Z_,Z6];omega
   ·repeat first|exact Xx|apply Fr.new|apply Fr.put|apply Fr.upto
    all_goals try simp only[Z',Z_,Z6]
    all_goals omega
 ·have:i=G.length:=by omega
  subst this;rw[alO,Wt] at oN;subst oN;simp only[go_sem,KO,q97,q98,Z8,alh];refine hk _ _ Av (fun t ht=>?_) M' hs Vl Xx;have ZC:∀k:Nat,98<=k->(k=t)=False:=fun k hk=>by simp;omega
  simp only[go_sem,ZC];exact hold t ht
def As (s:St)(pb n bp bs N:Nat)(p:Pt):Prop :=
 (p=⟨[],p.place,p.set,[],[],[]⟩/\s.get pb=some (.cells [.ZW,.sl bp 0 n (some n) 1,.sl bs 0 n (some n) 1,.ZW,.ZW,.ZW] 285 false 0 0)/\s.get bp=some (.cells (ZO p.place) 3 false 0 0)/\s.get bs=some (.cells (ZO p.set) 3 false 0 0)) \/
 ∃bl bb be bm,LI s pb n bl bp bs bb be bm p/\N<=bl/\N<=bb/\N<=be/\N<=bm
theorem adY {β:Type}{fin:Fl->β}{ks:List K}{ZB:β->Prop}{pb n bp bs N:Nat}{p:Pt}{e:Env}{s:St}(hn:n<=2^19)(Mw:p.place.length=n)(l8:p.set.length=n)(hbg:p.bg.length<=2^20)(hmr:p.mr.length<=2^20)(g3:Env.get e 3=.ptr pb 0)
  (lo:pb<N/\bp<N/\bs<N/\pb≠bp/\pb≠bs/\bp≠bs/\N<=s.next)(h:As s pb n bp bs N p)(fr:Fr s)
  (hk:∀e' s' vl ve b1 b3,(∀t:Nat,t<71->Env.get e' t=Env.get e t)->kV s' pb n bp bs N { p with bg:=p.bg++[p.list.length],mr:=p.mr++[0] } vl ve b1 b3->(∀j,j<N->j≠pb->s'.get j=s.get j)->s.next<=s'.next->Fr s'->ZB (goN U fin ks e' s')) :
  ZB (go U fin ks (.raw vq) e s):=by
 obtain⟨d1,d2,d3,d4,d5,d6,d7⟩:=lo;rw[Uc abV];have Nc:=fr.at;have Ib:∀t:Nat,t<71->(∀k:Nat,71<=k->(k=t)=False):=fun t ht=>fun k hk=>by simp;omega
 have f1:∀q,(s.next+q=pb)=False:=fun q=>by simp;omega
 have f2:∀q,(s.next+q=bp)=False:=fun q=>by simp;omega
 have f3:∀q,(s.next+q=bs)=False:=fun q=>by simp;omega
 have f6:∀b,N<=b->(pb=b)=False:=fun b hb=>by simp;omega
 have f9:∀b,N<=b->(b=pb)=False:=fun b hb=>by simp;omega
 have M0:∀j q,j<s.next->(j=s.next+q)=False:=fun j q hj=>by simp;omega
 have Kl:∀j q,j<s.next->(s.next+q=j)=False:=fun j q hj=>by simp;omega
 have Wy:pb<s.next:=by omega
 have xh:∀q,q≠0->(s.next+q=s.next)=False:=fun q hq=>by simp;omega
 have xg:∀q,q≠0->(s.next=s.next+q)=False:=fun q hq=>by simp;omega
 have key:∀(E:Env) (S:St) (vl ve:AV) (b1 b3:Nat),(∀t:Nat,t<71->Env.get E t=Env.get e t) ->
   S.get pb=some (.cells [vl,.sl bp 0 n (some n) 1,.sl bs 0 n (some n) 1,.sl b1 0 (p.bg.length+1) none 1,ve,.sl b3 0 (p.mr.length+1) none 1] 285 false 0 0) ->
   S.get b1=some (.cells (ZO (p.bg++[p.list.length])) 3 false 0 0)->S.get b3=some (.cells (ZO (p.mr++[0])) 3 false 0 0)->s.next<=b1->b1<b3->b3<S.next->HS s N p.list vl->HS s N p.en ve->(∀j,Xb vl j->¬Xb ve j) ->
   s.get bp=some (.cells (ZO p.place) 3 false 0 0)->s.get bs=some (.cells (ZO p.set) 3 false 0 0) ->
   (∀j,j<s.next->j≠pb->Xb vl j\/Xb ve j\/j<N->S.get j=s.get j)->Fr S->ZB (goN U fin ks E S):=by
  intro E S vl ve b1 b3 k1 k2 k3 k4 k5 k6 k7 k8 k9 nj k11 k12 k13 k14;refine hk E S vl ve b1 b3 k1 ⟨?_,?_,?_,k3,k4,?_,?_,⟨by omega,by omega,by omega,k7,by omega⟩,fun j hj=>⟨?_,?_,nj j hj⟩,fun j hj=>⟨?_,?_⟩,⟨d1,d2,d3,d4,d5,d6,by omega⟩,Mw,l8⟩ (fun j h1 h2=>k13 j (by omega) h2 (.inr (.inr h1))) (by omega) k14
  ·rw[k2];simp only[agy,alW]
  ·exact (k13 bp (by omega) d4.symm (.inr (.inr d2))).trans k11
  ·exact (k13 bs (by omega) d5.symm (.inr (.inr d3))).trans k12
  ·exact k8.keep (by omega) fun j h1 h2 h3=>k13 j h1 (by omega) (.inl h3)
  ·exact k9.keep (by omega) fun j h1 h2 h3=>k13 j h1 (by omega) (.inr (.inl h3))
  ·have:=k8.lt hj;omega
  ·have:=k8.lt hj;omega
  ·have:=k9.lt hj;omega
  ·have:=k9.lt hj;omega
 rcases h with⟨hp,g,gp,gs⟩|⟨bl,bb,be,bm,P,n1,n2,n3,n4⟩
 ·obtain⟨L,pl,st,bg,en,mr⟩:=p;simp only[Pt.mk.injEq] at hp;obtain⟨rfl,-,-,rfl,rfl,rfl⟩:=hp;simp only[go_sem,g3,g,V_,ZH,ah1,amk,Nat.reducePow,ald,akc,Nc,f1,List.length_nil,xh,xg,Option.isNone_none];refine key _ _ .ZW .ZW (s.next+25) (s.next+26) (fun t ht=>?_) ?_ ?_ ?_ (by omega) (by omega) ?_ (.inl ⟨rfl,rfl⟩) (.inl ⟨rfl,rfl⟩) (fun j h=>absurd h (V' j)) gp gs (fun j h1 h2 _=>?_) ?_
  ·have ZC:=Ib t ht;simp only[go_sem,ZC]
  ·simp only[go_sem]
  ·simp[go_sem,Wy,M0,akc];rfl
  ·simp[go_sem,Wy,M0,akc];rfl
  ·simp only[Z',Z_,Z6];omega
  ·have e0:∀q,(s.next+q=j)=False:=fun q=>by simp;omega
   simp only[Z9,Z7,Z',Z_,Z6,ZT,akc,Nat.reduceAdd,e0,eq_false h2.symm,if_false]
  ·repeat first|exact fr|apply Fr.new|apply Fr.put|apply Fr.upto
   all_goals try simp only[Z',Z_,Z6]
   all_goals omega
 ·obtain⟨g,gl,gp,gs,gb,ge,gm,ne,lt⟩:=P;have A:=Ap.of ne;have qx:=lt bl (by simp);have kT:=lt bb (by simp);have kp:=lt be (by simp);have WA:=lt bm (by simp);have a1:=fun (S:St) (h:S.get bb=some (.cells (ZO p.bg) 3 false 0 0))=>vJ rfl h p.list.length
  have a3:=fun (S:St) (h:S.get bm=some (.cells (ZO p.mr) 3 false 0 0))=>ik rfl h
  have UP:(p.bg.length+1)*8<=1099511627776:=by omega
  have VP:p.bg.length+1<=1099511627776:=by omega
  have tA:(p.mr.length+1)*8<=1099511627776:=by omega
  have nZ:p.mr.length+1<=1099511627776:=by omega
  have z1:(bb=pb)=False:=eq_false A.n4.symm;have z2:(bm=pb)=False:=eq_false A.n6.symm;have z3:(bb=bm)=False:=eq_false A.WT;have z4:(pb=bb)=False:=eq_false A.n4;have z5:(pb=bm)=False:=eq_false A.n6;have z6:(bm=bb)=False:=eq_false A.WT.symm;simp only[go_sem,g3,g,gb,gm,ZH,ah1,Nat.reducePow,ald,akc,Nc,f1,a1,a3,UP,VP,tA,nZ,z1,z2,z3,M0,Kl,xh,xg,kT,WA,Option.isNone_none];refine key _ _ (.sl bl 0 p.list.length none 1) (.sl be 0 p.en.length none 1) (s.next+25) (s.next+26) (fun t ht=>?_) ?_ ?_ ?_ (by omega) (by omega) ?_ (.inr ⟨bl,rfl,gl,n1,qx⟩) (.inr ⟨be,rfl,ge,n3,kp⟩) (fun j h=>?_) gp gs (fun j h1 h2 h3=>?_) ?_
  ·have ZC:=Ib t ht;simp only[go_sem,ZC]
  ·rw[Mw,l8];simp only[go_sem]
  ·simp[go_sem,Wy,M0,WA,akc]
  ·simp[go_sem,Wy,M0,akc]
  ·simp only[Z',Z_,Z6];omega
  ·rw[Yl] at h ⊢;subst h;exact A.fP.symm
  ·have e0:∀q,(s.next+q=j)=False:=fun q=>by simp;omega
   have e1:(bb=j)=False:=by
    simp only[eq_iff_iff,iff_false];rintro rfl;rw[Yl,Yl] at h3;have:=A.n9;have:=A.n19;omega
   have e2:(bm=j)=False:=by
    simp only[eq_iff_iff,iff_false];rintro rfl;rw[Yl,Yl] at h3;have:=A.wR;have:=A.nX;omega
   simp only[Z9,Z7,Z',Z_,Z6,ZT,akc,Nat.reduceAdd,e0,e1,e2,eq_false h2.symm,if_false]
  ·repeat first|exact fr|apply Fr.new|apply Fr.put|apply Fr.upto
   all_goals try simp only[Z',Z_,Z6]
   all_goals omega
theorem GU (c:Nat)(x y z:List Nat):∀(l:List Nat) (p:Pt),Wt c l { p with bg:=x,mr:=y,en:=z }={ Wt c l p with bg:=x,mr:=y,en:=z }
 |[],_=>rfl
 |u::l,p=>by
  rw[Wt,Wt];exact GU c x y z l { p with place:=p.place.set u p.list.length,set:=p.set.set u c,list:=p.list++[u] }
def dE:RC:=(.TP 15 [⟨some 131,none,none,false,.O9 (.t 3)⟩,
 ⟨some 132,none,none,false,.O9 (.t 3)⟩,
 ⟨some 133,none,none,false,.raw (.nilCheck (.tmp 132))⟩,
 ⟨some 134,none,none,false,.fa 4 (.t 133)⟩,
 ⟨some 135,none,none,false,.SL (.t 134)⟩,
 ⟨some 136,none,none,false,.O9 (.t 3)⟩,
 ⟨some 137,none,none,false,.raw (.nilCheck (.tmp 136))⟩,
 ⟨some 138,none,none,false,.fa 0 (.t 137)⟩,
 ⟨some 139,none,none,false,.SL (.t 138)⟩,
 ⟨some 140,none,none,false,.SW (.t 139)⟩,
 ⟨some 141,none,some 10,false,.U3 3 1 1 [(.int .i64 0)] [(0,1,(.t 140))]⟩,
 ⟨some 142,none,none,true,.app 3 1 8 (.t 135) (.t 141)⟩,
 ⟨some 143,none,none,false,.raw (.nilCheck (.tmp 131))⟩,
 ⟨some 144,none,none,false,.fa 4 (.t 143)⟩,
 ⟨none,none,none,true,.st 1 (.t 144) (.t 142)⟩])
theorem ad0 {β:Type}{fin:Fl->β}{ks:List K}{ZB:β->Prop}{pb n bp bs N b1 b3:Nat}{p:Pt}{vl ve:AV}{e:Env}{s:St}(hn:n<=2^19)(ek:p.list≠[])(hen:p.en.length<=2^20)(g3:Env.get e 3=.ptr pb 0)(M:kV s pb n bp bs N p vl ve b1 b3)(fr:Fr s)
  (hk:∀e' s',(∀t:Nat,t<131->Env.get e' t=Env.get e t)->As s' pb n bp bs N { p with en:=p.en++[p.list.length] }->(∀j,j<N->j≠pb->s'.get j=s.get j)->s.next<=s'.next->Fr s'->ZB (goN U fin ks e' s')) :
  ZB (go U fin ks dE e s):=by
 obtain⟨g,gp,gs,gb1,gm,hl,he,⟨c1,c2,c3,c4,c5⟩,dl,de,⟨d1,d2,d3,d4,d5,d6,d7⟩,lp,ls⟩:=M;have Ib:∀t:Nat,t<131->(∀k:Nat,131<=k->(k=t)=False):=fun t ht=>fun k hk=>by simp;omega
 have Wy:pb<s.next:=by omega
 have Nc:=fr.at;have M0:∀j q,j<s.next->(j=s.next+q)=False:=fun j q hj=>by simp;omega
 have Kl:∀j q,j<s.next->(s.next+q=j)=False:=fun j q hj=>by simp;omega
 have f1:∀q,(s.next+q=pb)=False:=fun q=>by simp;omega
 obtain⟨bl,rfl,hg,e1,e2⟩:∃b,vl=.sl b 0 p.list.length none 1/\s.get b=some (.cells (ZO p.list) 3 false 0 0)/\N<=b/\b<s.next:=by
  rcases hl with⟨_,h⟩|h
  ·exact absurd h ek
  ·exact h
 obtain⟨x1,x2,x3⟩:=dl bl ((Yl _ _ _).2 rfl);have key:∀(E:Env) (S:St) (be:Nat),(∀t:Nat,t<131->Env.get E t=Env.get e t) ->
   S.get pb=some (.cells [.sl bl 0 p.list.length none 1,.sl bp 0 n (some n) 1,.sl bs 0 n (some n) 1,.sl b1 0 p.bg.length none 1,.sl be 0 (p.en.length+1) none 1,.sl b3 0 p.mr.length none 1] 285 false 0 0) ->
   S.get be=some (.cells (ZO (p.en++[p.list.length])) 3 false 0 0)->s.next<=be->be<S.next ->
   (∀j,j<s.next->j≠pb->¬Xb ve j->S.get j=s.get j)->Fr S->ZB (goN U fin ks E S):=by
  intro E S be k1 k2 k3 k4 k5 k6 k7;have hve:∀j,j<N->¬Xb ve j:=fun j hj h=>by have:=he.lt h;omega
  refine hk E S k1 (.inr ⟨bl,b1,be,b3,⟨?_,?_,?_,?_,?_,k3,?_,?_,?_⟩,e1,c1,by omega,c3⟩) (fun j h1 h2=>k6 j (by omega) h2 (hve j h1)) (by omega) k7
  ·simp only[k2,lp,ls,agy,alW]
  ·exact (k6 bl e2 (by omega) x3).trans hg
  ·exact (k6 bp (by omega) (by omega) (hve bp d2)).trans gp
  ·exact (k6 bs (by omega) (by omega) (hve bs d3)).trans gs
  ·exact (k6 b1 c2 (by omega) fun h=>(de _ h).1 rfl).trans gb1
  ·exact (k6 b3 c4 (by omega) fun h=>(de _ h).2 rfl).trans gm
  ·simp only[amv,alL,List.not_mem_nil,not_or,or_false,List.nodup_nil,and_true,not_false_eq_true];refine⟨⟨?_,d4,d5,?_,?_,?_⟩,⟨?_,?_,x1,?_,x2⟩,⟨d6,?_,?_,?_⟩,⟨?_,?_,?_⟩,⟨?_,?_⟩,?_⟩ <;> omega
  ·intro j hj;simp only[alL,List.not_mem_nil,or_false] at hj;rcases hj with rfl|rfl|rfl|rfl|rfl|rfl|rfl <;> omega
 rcases he with⟨rfl,hh⟩|⟨be,rfl,EH,e3,e4⟩
 ·have UP:(0+1)*8<=1099511627776:=by omega
  simp only[go_sem,dE,g3,g,ZH,V_,ah1,amk,Nat.reducePow,ald,Nc,f1,Option.isNone_none];refine key _ _ (s.next+15) (fun t ht=>?_) ?_ ?_ (by omega) ?_ (fun j h1 h2 h3=>?_) ?_
  ·have ZC:=Ib t ht;simp only[go_sem,ZC]
  ·simp only[go_sem,hh]
  ·rw[hh];simp[go_sem,M0,Wy];rfl
  ·simp only[Z',Z_,Z6];omega
  ·have e0:∀q,(s.next+q=j)=False:=fun q=>by simp;omega
   simp only[Z9,Z7,Z',Z6,ZT,e0,eq_false h2.symm,if_false]
  ·repeat first|exact fr|apply Fr.new|apply Fr.put|apply Fr.upto
   all_goals try simp only[Z',Z_,Z6]
   all_goals omega
 ·have UP:(p.en.length+1)*8<=1099511627776:=by omega
  have VP:p.en.length+1<=1099511627776:=by omega
  have a1:=fun (S:St) (h:S.get be=some (.cells (ZO p.en) 3 false 0 0))=>vJ rfl h p.list.length
  have z1:(be=pb)=False:=by simp;omega
  have z2:(pb=be)=False:=by simp;omega
  simp only[go_sem,dE,g3,g,ZH,a1,EH,ah1,Nat.reducePow,ald,Nc,f1,Kl,e4,UP,VP,z1,Option.isNone_none];refine key _ _ (s.next+15) (fun t ht=>?_) ?_ ?_ (by omega) ?_ (fun j h1 h2 h3=>?_) ?_
  ·have ZC:=Ib t ht;simp only[go_sem,ZC]
  ·simp only[go_sem]
  ·simp[go_sem,M0,Wy]
  ·simp only[Z',Z_,Z6];omega
  ·have e0:∀q,(s.next+q=j)=False:=fun q=>by simp;omega
   rw[Yl] at h3;simp only[Z9,Z7,Z',Z6,ZT,e0,eq_false h2.symm,eq_false h3,if_false]
  ·repeat first|exact fr|apply Fr.new|apply Fr.put|apply Fr.upto
   all_goals try simp only[Z',Z_,Z6]
   all_goals omega
theorem GY (c:Nat):∀(l:List Nat) (p:Pt),(Wt c l p).list=p.list++l
 |[],p=>by simp[Wt]
 |u::l,p=>by rw[Wt,GY c l];simp
theorem GX (c:Nat):∀(l:List Nat) (p:Pt),(Wt c l p).bg=p.bg/\(Wt c l p).en=p.en/\(Wt c l p).mr=p.mr/\(Wt c l p).place.length=p.place.length/\(Wt c l p).set.length=p.set.length
 |[],p=>by simp[Wt]
 |u::l,p=>by
  have ih:=GX c l { p with place:=p.place.set u p.list.length,set:=p.set.set u c,list:=p.list++[u] };rw[Wt]
  simpa using ih
theorem adX {β:Type}{fin:Fl->β}{ks:List K}{ZB:β->Prop}{κ:Nat->XV}{pb n bp bs m N:Nat}{bl:List Nat}{vo:AV}{e:Env}{s:St}{p:Pt}(hn:n<=2^9)(g3:Env.get e 3=.ptr pb 0)(g4:Env.get e 4=.map m)(g64:Env.get e 64=vo)(g65:Env.get e 65=.int .i64 (Yu κ n).length)(g66:Env.get e 66=.int .i64 (0:Nat))
  (G:Grp s m κ n bl vo)(lo:pb<m/\bp<m/\bs<m/\pb≠bp/\pb≠bs/\bp≠bs/\m<s.next)
  (hp:p=⟨[],List.replicate n 0,List.replicate n 0,[],[],[]⟩)(h:As s pb n bp bs s.next p)(fr:Fr s)
  (hk:∀e' s',(∀t:Nat,t<12->Env.get e' t=Env.get e t)->As s' pb n bp bs s.next (Wi κ n)->(∀j,j<m->j≠pb->j≠bp->j≠bs->s'.get j=s.get j)->s.next<=s'.next->Fr s'->ZB (goN U fin ks e' s')) :
  ZB (SD U fin (.bk 4::ks) HU e s):=by
 have tM:=GV κ n;obtain⟨d1,d2,d3,d4,d5,d6,d7⟩:=lo;refine YP (σ:=Nat) (fun i=>(Yu κ n).length-i) (fun i e' s'=>i<=(Yu κ n).length/\(∀t:Nat,t<12\/15<t/\t<66->Env.get e' t=Env.get e t)/\Env.get e' 66=.int .i64 (i:Nat)/\(∀j,j<s.next->j≠pb->j≠bp->j≠bs->s'.get j=s.get j)/\s.next<=s'.next/\Fr s' /\
   ∃p',As s' pb n bp bs s.next p'/\DV κ n ((Yu κ n).drop i) p'=Wi κ n/\p'.place.length=n/\p'.set.length=n/\p'.bg.length=i/\p'.mr.length=i/\p'.en.length=i/\p'.list.length<=i*n) 0 ?_
  ⟨aic _,fun _ _=>rfl,g66,fun _ _ _ _ _=>rfl,agB _,fr,p,h,by rw[hp];rfl,by rw[hp];simp,by rw[hp];simp,by rw[hp];rfl,by rw[hp];rfl,by rw[hp];rfl,by rw[hp];simp⟩
 rintro Lp i e' s' ⟨hi,hold,q66,hs,Vl,Xx,p',P,Ar,w1,w2,w3,w4,w5,w6⟩ IH;have q3:=(hold 3 (by omega)).trans g3;have q4:=(hold 4 (by omega)).trans g4;have q64:=(hold 64 (by omega)).trans g64;have q65:=(hold 65 (by omega)).trans g65;by_cases hd:i<(Yu κ n).length
 ·obtain⟨Gm,wY,Gnd,wX,eK⟩:=G;have hw:=ZN hd (by omega);obtain⟨bo,rfl,ho,e1,e2⟩:∃b,vo=.sl b 0 (Yu κ n).length none 1/\s.get b=some (.cells (strs (Yu κ n)) 9 false 0 0)/\m+1<=b/\b<s.next:=by
   rcases eK with⟨h,_,_⟩|⟨_,_,b,h1,h2,h3,h4⟩
   ·omega
   ·exact⟨b,h3,h4,h1,h2⟩
  have Vo:=(hs bo e2 (by omega) (by omega) (by omega)).trans ho;have o1:(strs (Yu κ n))[i]? = some (.str (Yu κ n)[i]):=by unfold strs;rw[alV,aaa hd];rfl
  have hib:i<bl.length:=by omega
  obtain⟨b1,b2,b3⟩:=wX i hib hd;have hex:∃u,u<n/\κ u=(Yu κ n)[i]:=(Tj κ _ n).1 (adm hd);have hgl:=tG κ (Yu κ n)[i] n;have Aq:(RU κ (Yu κ n)[i] n)≠[]:=by
   obtain⟨u,h1,h2⟩:=hex;exact List.ne_nil_of_mem ((PE κ _ n u).2 ⟨h1,h2⟩)
  have EH:=Cf (len:=fun k=>(RU κ k n).length) (bs:=bl) (PD κ n) wY hd;have lk:=fun (S:St) (h:S.get m=some (.map (xF (SP (fun k=>(RU κ k n).length) (Yu κ n) bl)) false))=>DU h (Yu κ n)[i]
  rw[EH] at lk;simp only[amG] at lk;rw[abc hd,DV] at Ar;have hmul:i*n<=2^9*2^9:=Nat.mul_le_mul (by omega) hn;simp only[go_sem,HU,q64,q65,q66,Z8,hd,Vo,o1,ah1];refine adY (p:=p') (s:=s') (by omega) w1 w2 (by omega) (by omega) ?_ ⟨by omega,by omega,by omega,d4,d5,d6,Vl⟩ P Xx ?_
  ·simp only[go_sem,q3]
  intro EM s2 vl ve c1 c3 QF M S4 OL O1;have p3:Env.get EM 3=.ptr pb 0:=by rw[QF 3 (by omega)];simp only[go_sem,q3]
  have p4:Env.get EM 4=.map m:=by rw[QF 4 (by omega)];simp only[go_sem,q4]
  have p12:Env.get EM 12=.int .i64 (i:Nat):=by rw[QF 12 (by omega)];simp only[go_sem]
  have Aw:Env.get EM 13=.str (Yu κ n)[i]:=by rw[QF 13 (by omega)];simp only[go_sem]
  have um:s2.get m=some (.map (xF (SP (fun k=>(RU κ k n).length) (Yu κ n) bl)) false):=(S4 m d7 (by omega)).trans ((hs m d7 (by omega) (by omega) (by omega)).trans Gm);simp only[go_sem,p4,Aw,um,lk];refine adZ (K:=i) (gb:=bl[i]) (G:=RU κ (Yu κ n)[i] n) (by omega) (fun u hu=>((PE _ _ _ _).1 hu).1) (by simp only;omega) (by omega) ?_ ?_ ?_ ?_ ?_ ((S4 _ b2 (by omega)).trans ((hs _ b2 (by omega) (by omega) (by omega)).trans b3)) b2 ⟨by omega,by omega,by omega⟩ M O1 ?_
  case refine_6 =>
   intro e3 s3 Av Eg M3 xm aa_ rC;have r3:Env.get e3 3=.ptr pb 0:=by rw[Eg 3 (by omega)];simp only[go_sem,p3]
   rw[GU] at M3;have hal:=GY i (RU κ (Yu κ n)[i] n) p';obtain⟨t1,t2,t3,t4,t5⟩:=GX i (RU κ (Yu κ n)[i] n) p';rw[w3] at Ar;refine ad0 (by omega) ?_ (by simp only[w5];omega) r3 M3 rC ?_
   ·simp only[hal];intro h;exact Aq (List.append_eq_nil_iff.1 h).2
   ·intro e4 s4 h4a P4 hs4 alj fr4;have o66:Env.get e4 66=.int .i64 (i:Nat):=by
     rw[h4a 66 (by omega),Eg 66 (by omega)];simp only[go_sem];rw[QF 66 (by omega)];simp only[go_sem,q66]
    simp only[go_sem,o66,hw];refine IH (i+1) _ _ (by omega) ⟨by omega,fun t ht=>?_,?_,fun j h1 h2 h3 h4=>?_,by omega,fr4,_,P4,?_,?_,?_,?_,?_,?_,?_⟩
    ·have ZC:∀k:Nat,66<=k->(k=t)=False:=fun k hk=>by simp;omega
     simp only[go_sem,ZC];rw[h4a t (by omega),Eg t (by omega)];simp only[go_sem,ZC];rw[QF t (by omega)];have ahE:(12=t)=False:=by simp;omega
     have ahF:(13=t)=False:=by simp;omega
     simp only[go_sem,ZC,ahE,ahF];exact hold t ht
    ·simp only[go_sem]
    ·rw[hs4 j h1 h2,xm j h1 h2 h3 h4,S4 j h1 h2,hs j h1 h2 h3 h4]
    ·exact Ar
    ·exact t4.trans w1
    ·exact t5.trans w2
    ·simp[w3]
    ·simp[w4]
    ·simp[w5]
    ·simp only[hal,agy,Nat.succ_mul];omega
  all_goals simp only[go_sem,p3,p12]
  all_goals rfl
 ·have:i=(Yu κ n).length:=by omega
  subst this;rw[alO,DV] at Ar;subst Ar;simp only[go_sem,HU,q65,q66,Z8,alh];refine hk _ _ (fun t ht=>?_) P (fun j h1 h2 h3 h4=>hs j (by omega) h2 h3 h4) Vl Xx;have ZC:∀k:Nat,66<=k->(k=t)=False:=fun k hk=>by simp;omega
  simp only[go_sem,ZC];exact hold t (by omega)
theorem ki {base i a:Nat}{e:Env}{s:St}{n:Nat}(h:Env.get e a=.int .i64 (n:Int))(hn:n<=2^20) :
  WG U base (some i) e s (.raw (.makeSlice 40 (.tmp a) (.tmp a)))=some (.sl (base+i) 0 n (some n) 1,s.put (base+i) (.cells (ZO (List.replicate n 0)) 3 false 0 0)):=by
 have h40:U.Zd 40=some (.slice 3):=by kernel_rfl
 have hz:zero U 3=some (.int .i64 0):=by kernel_rfl
 have hi:(U.inf 3).map (fun i=>(i.bytes,i.size))=some (8,1):=by kernel_rfl
 have e1:ZO (List.replicate n 0)=List.replicate n (.int .i64 0):=by simp[ZO,PV,ints]
 cases hj:U.inf 3 with
 |none=>rw[hj] at hi;cases hi
 |some j =>
  rw[hj] at hi;simp only[amo,Option.some.injEq,Prod.mk.injEq] at hi;obtain⟨h1,h2⟩:=hi;rw[e1,<-VN];simp only[WG,qY,YI,eval,h,h40,hj,hz];rw[if_pos ⟨by omega,by omega,by rw[h1];omega,by omega,by rw[h2];rfl,by omega⟩,h2];rfl
def abX (s0:St)(n:Nat)(p:Pt)(r:Option (AV×St)):Prop :=
 ∃s' pb bl bp bs bb be bm,r=some (.ptr pb 0,s')/\LI s' pb n bl bp bs bb be bm p/\s0.next<=pb/\s0.next<=bl/\s0.next<=bp/\s0.next<=bs/\s0.next<=bb/\s0.next<=be/\s0.next<=bm/\s0.next<=s'.next/\Fr s'/\∀j,j<s0.next->s'.get j=s0.get j
theorem ajj {a:Yi}(ha:a.ok){s:St}(fr:Fr s):abX s a.next.length (Wi (Zg a) a.next.length) (Rl U 214 [Wd a] s):=by
 suffices mn:abX s a.next.length (Wi (Zg a) a.next.length) (go U (Sx U [.tmp 2]) [] abW (YX 0 [Wd a] .nil) s) by
  obtain⟨s',pb,bl,bp,bs,bb,be,bm,h1,h2⟩:=mn;exact⟨s',pb,bl,bp,bs,bb,be,bm,VE ajh (by kernel_rfl) h1,h2⟩
 have Aq:=ha.pos;have Si:=ha.few;have ajk:a.next.length<=2^20:=by omega
 have Nc:=fr.at;have M0:∀j q,j<s.next->(j=s.next+q)=False:=fun j q hj=>by simp;omega
 have Kl:∀j q,j<s.next->(s.next+q=j)=False:=fun j q hj=>by simp;omega
 have xh:∀q,q≠0->(s.next+q=s.next)=False:=fun q hq=>by simp;omega
 have xg:∀q,q≠0->(s.next=s.next+q)=False:=fun q hq=>by simp;omega
 have mk:=fun (base i t:Nat) (e:Env) (S:St) (h:Env.get e t=.int .i64 (a.next.length:Int))=>ki (base:=base) (i:=i) (s:=S) h ajk
 have hl:=ZI a.TH (a.next.map Zn);rw[agC] at hl;have Tk:=ZI a.S6 (a.ZD.map Zv);rw[agC] at Tk;have MB:=ha.fl;rw[WJ];simp only[go_sem,abW,Uc abU,akc,Nc,xh,xg,↓mk,SV,Vy,hl,Tk];have AL:∀x y z w v,Fr ((((((s.new x).upto (s.next+12)).put (s.next+4) y).put (s.next+8) z).put (s.next+10) w).new v):=fun x y z w v=>by
  repeat first|exact fr|apply Fr.new|apply Fr.put|apply Fr.upto
  all_goals try simp only[Z',Z_,Z6]
  all_goals omega
 refine afx ha (m:=s.next+12) ?_ ?_ ?_ ?_ ?_ ?_ ?_ (AL _ _ _ _ _) ?_
 case refine_8 =>
  intro e1 s1 bl vo h1a h1v G QK ajl mg;have p3:Env.get e1 3=.ptr (s.next+10) 0:=by rw[h1a 3 (by omega)];simp only[go_sem]
  have p4:Env.get e1 4=.map (s.next+12):=by rw[h1a 4 (by omega)];simp only[go_sem]
  have og:=G.row.len;simp only[Z',Z_,Z6] at ajl;have fH:∀j,j<s.next->s1.get j=s.get j:=fun j hj=>by
   rw[QK j (by omega)];have e0:∀q,(s.next+q=j)=False:=fun q=>by simp;omega
   have e2:(s.next=j)=False:=by simp;omega
   simp only[Z9,Z7,Z',Z6,ZT,e0,e2,if_false]
  have v10:s1.get (s.next+10)=some (.cells [.ZW,.sl (s.next+4) 0 a.next.length (some a.next.length) 1,.sl (s.next+8) 0 a.next.length (some a.next.length) 1,.ZW,.ZW,.ZW] 285 false 0 0):=by
   rw[QK _ (by omega)];simp[go_sem]
  have v4:s1.get (s.next+4)=some (.cells (ZO (List.replicate a.next.length 0)) 3 false 0 0):=by
   rw[QK _ (by omega)];simp[go_sem]
  have v8:s1.get (s.next+8)=some (.cells (ZO (List.replicate a.next.length 0)) 3 false 0 0):=by
   rw[QK _ (by omega)];simp[go_sem]
  simp only[go_sem,h1v,og];refine adX (ZB:=abX s a.next.length (Wi (Zg a) a.next.length)) (pb:=s.next+10) (bp:=s.next+4) (bs:=s.next+8) (m:=s.next+12) (N:=0) (p:=⟨[],List.replicate a.next.length 0,List.replicate a.next.length 0,[],[],[]⟩) (by omega) ?_ ?_ ?_ ?_ ?_ G ⟨by omega,by omega,by omega,by omega,by omega,by omega,by omega⟩ rfl (.inl ⟨rfl,v10,v4,v8⟩) mg ?_
  case refine_6 =>
   intro e2 s2 QF P S4 OL O1;have p3:Env.get e2 3=.ptr (s.next+10) 0:=by rw[QF 3 (by omega)];simp only[go_sem,p3]
   simp only[go_sem,p3];rcases P with⟨hP,_⟩|⟨c1,c2,c3,c4,Q,n1,n2,n3,n4⟩
   ·have:=(yV (Zg a) a.next.length).st 0 Aq ((Tj _ _ _).2 ⟨0,Aq,rfl⟩);rw[hP] at this;have:=this.1;simp at this
   ·exact⟨s2,s.next+10,c1,s.next+4,s.next+8,c2,c3,c4,rfl,Q,by omega,by omega,by omega,by omega,by omega,by omega,by omega,by omega,O1,fun j hj=>by rw[S4 j (by omega) (by omega) (by omega) (by omega),fH j hj]⟩
  all_goals simp only[go_sem,p3,p4]
  all_goals rfl
 all_goals try simp only[Z',Z_,Z6]
 all_goals try simp[go_sem]
theorem agc (args:List AV)(s:St):X6 U (ZE U 215 args) 215 args s=Rl U 215 args s:=(XI U 215 args s).symm
theorem Ks:∀(k f:Nat) (l:List AV),f+k<=l.length->XA k f l=some ((l.drop f).take k)
 |0,f,l,_=>by rw[Sq];simp
 |k+1,f,[],h=>by simp at h
 |k+1,0,x::l,h=>by
  rw[Sr,Ks k 0 l (by simp at h ⊢;omega)];rfl
 |k+1,f+1,x::l,h=>by
  rw[Dh,Ks (k+1) f l (by simp at h ⊢;omega)];rfl
theorem oI (L:List Nat)(f k:Nat):((ZO L).drop f).take k=ZO ((L.drop f).take k):=by
 unfold ZO PV ints;simp only[List.map_drop,List.map_take]
theorem T1 {t:TypeId}{n m:Nat}{new:List AV}{b len k:Nat}{s:St}{cs:List AV}{lo hi:Nat}(hg:s.get b=some (.cells cs t false lo hi))(hl:cs.length=len*n)(hk:¬len+m<=k) :
  Rx t n m new (.sl b 0 len (some k) n) s=some (.sl s.next 0 (len+m) none n,s.new (.cells (cs++new) t false 0 0)):=by
 simp only[Rx,St.cells,hg];rw[<-hl,Ws];simp only;rw[if_neg hk]
theorem agX (b o l z:Nat)(c:Option Nat):Wg U .eql 40 true (.sl b o l c z) .ZW=some (.bool false):=by
 have h:U.Zd 40=some (.slice 3):=by kernel_rfl
 simp only[Wg,IY,Au,h]
theorem aj3 {s:St}{b f k:Nat}{cap:Option Nat}{L:List Nat}(hg:s.get b=some (.cells (ZO L) 3 false 0 0))(hb:b<s.next)(hf:f+k<=L.length)(hk:0<k)(hL:L.length<=2^20) :
  Rl U 215 [.sl b f k cap 1] s=some (.sl (s.next+1) 0 k none 1,(s.new (.cells [] 3 false 0 0)).new (.cells (ZO ((L.drop f).take k)) 3 false 0 0)):=by
 refine VE ajK (by kernel_rfl) ?_;have hgr:XA k f (ZO L)=some (ZO ((L.drop f).take k)):=by rw[Ks _ _ _ (by rw[Ww];omega),oI]
 have hsr:∀S:St,S.get b=some (.cells (ZO L) 3 false 0 0)->Wc 1 (.sl b f k cap 1) S=some (k,ZO ((L.drop f).take k)):=fun S h=>by
  rw[Da,ah1,h];simp only[bH,cellsOf,hgr,ix]
 have hl:(ZO ((L.drop f).take k)).length=k*1:=by rw[Ww];simp;omega
 have hap:∀S:St,S.get s.next=some (.cells [] 3 false 0 0)->B7 3 1 8 (.sl s.next 0 0 (some 0) 1) (some (k,ZO ((L.drop f).take k))) S=some (.sl S.next 0 (0+k) none 1,S.new (.cells ([]++ZO ((L.drop f).take k)) 3 false 0 0)):=fun S h=>by
  rw[ZH hl (by simp only[Np];omega) (by simp only[Np];omega) (by omega),T1 h rfl (by omega)]
 have z:(s.next=b)=False:=by simp;omega
 simp only[go_sem,af2,agX,hg,hsr,hap,z,ald]
def NP (s:St)(N:Nat)(L:List Nat)(v:AV):Prop:=(v=.ZW/\L=[])\/∃b R,v=.sl b 0 L.length none 1/\s.get b=some (.cells (ZO (L++R)) 3 false 0 0)/\N<=b/\b<s.next
theorem NP.keep {s s':St}{N:Nat}{L:List Nat}{v:AV}(h:NP s N L v)(hn:s.next<=s'.next)(hg:∀j,j<s.next->N<=j->Xb v j->s'.get j=s.get j):NP s' N L v:=by
 rcases h with h|⟨b,R,h1,h2,h3,h4⟩
 ·exact .inl h
 ·exact .inr ⟨b,R,h1,by rw[hg b h4 h3 ⟨_,h1⟩];exact h2,h3,by omega⟩
theorem NP.lt {s:St}{N:Nat}{L:List Nat}{v:AV}(h:NP s N L v){j:Nat}(hj:Xb v j):N<=j/\j<s.next:=by
 rcases h with⟨h,_⟩|⟨b,R,h1,h2,h3,h4⟩
 ·rw[h] at hj;exact absurd hj (V' j)
 ·rw[h1,Yl] at hj;subst hj;exact⟨h3,h4⟩
theorem NP.Xj {s:St}{N:Nat}{L:List Nat}{v:AV}(h:NP s N L v):Go.Am.Xj v=L.length:=by
 rcases h with⟨rfl,rfl⟩|⟨b,R,rfl,h2,h3,h4⟩ <;> rfl
theorem NP.SW {s:St}{N:Nat}{L:List Nat}{v:AV}(h:NP s N L v):Ti v=some (.int .i64 L.length):=by
 rcases h with⟨rfl,rfl⟩|⟨b,R,rfl,h2,h3,h4⟩ <;> rfl
theorem NP.app {s:St}{N:Nat}{L:List Nat}{v:AV}(h:NP s N L v)(hN:N<=s.next)(k:Nat) :
  ∃s1,Rx 3 1 1 [.int .i64 (k:Int)] v s=some (.sl s.next 0 (L.length+1) none 1,s1)/\s1.next=s.next+1/\NP s1 N (L++[k]) (.sl s.next 0 (L.length+1) none 1)/\(∀j,j<s.next->¬Xb v j->s1.get j=s.get j)/\(Fr s->Fr s1):=by
 rcases h with⟨rfl,rfl⟩|⟨b,R,rfl,h2,h3,h4⟩
 ·refine⟨_,V_ _ _ _ _ _,rfl,.inr ⟨s.next,[],rfl,?_,hN,by rw[Z_];omega⟩,fun j hj _=>by rw[Z7,if_neg (by omega)],fun hf=>hf.new _⟩;rw[Z7,if_pos rfl];rfl
 ·have e:(ZO (L++R)).take (L.length*1)=ZO L:=by
   unfold ZO PV ints;rw[alY,alY,ah1,List.take_left' (by simp)]
  refine⟨(s.put b .gone).new (.cells (ZO (L++[k])) 3 false 0 0),?_,rfl,.inr ⟨s.next,[],by simp,?_,hN,by rw[Z_,Z'];omega⟩,fun j hj hb=>?_,fun hf=>(hf.put h4 _).new _⟩
  ·rw[TR,h2];have hgr:XA (L.length*1) 0 (ZO (L++R))=some (ZO L):=by
    rw[Ks _ _ _ (by rw[Ww];simp),amd,e]
   simp only[iw,hgr];rw[if_pos ⟨trivial,by omega,trivial,rfl⟩,Qa]
  ·rw[Z7,Z',if_pos rfl,alZ]
  ·rw[Yl] at hb;rw[Z7,Z',if_neg (by omega),Z9,if_neg hb]
theorem NP.get {s:St}{N:Nat}{L:List Nat}{v:AV}(h:NP s N L v){i:Nat}(hi:i<L.length) :
  ∃b R,v=.sl b 0 L.length none 1/\s.get b=some (.cells (ZO (L++R)) 3 false 0 0)/\(ZO (L++R))[i]? = some (.int .i64 (L[i]:Nat)):=by
 rcases h with⟨rfl,rfl⟩|⟨b,R,rfl,h2,h3,h4⟩
 ·simp at hi
 ·refine⟨b,R,rfl,h2,?_⟩;rw[Yq (by simp;omega),HC hi,VF hi]
def ah (b:Nat)(s s':St):Prop:=∀j c t,j<s.next->j≠b->s.get j=some (.cells c t false 0 0)->t≠5->s'.get j=s.get j
theorem af {s:St}{b:Nat}{bs:XV}(h:Iq s b bs)(hf:Fr s)(t:XV)(ht:t≠[])(hlen:bs.length+t.length<=2^39) :
  ∃s' r,Rl U 131 [.ptr b 0,.str t] s=some (r,s')/\Iq s' b (bs++t)/\Fr s'/\s.next<=s'.next/\ah b s s':=by
 obtain⟨p,v,hg,hp,hb,hv⟩:=h;obtain⟨s0,g1,g2,g3,g4,g5⟩:=abh hg hp hb;have Jl:=hv.Xj;have UP:(bs.length+t.length)*1<=1099511627776:=by omega
 have VP:bs.length+t.length<=1099511627776:=by omega
 have fu:(t.length=0)=False:=by simp[ht]
 have Pd:ZK s0 (b+1) 5 1 bs.length (XW bs) v:=hv.mono (by omega) fun j hj wJ=>g4 j (by omega)
 obtain⟨s1,e1,e2,e3,e4,e5⟩:=Pd.Gy (by omega) (m:=t.length) (new:=XW t) (by intro h0;simp[ht] at h0) (by rw[RK];omega) (K' t);have kb:=e4 b (by omega) (Pd.B8 (.inr (by omega)));rw[g3] at kb;rw[g2] at e1 e2 e3;refine⟨s1.put b (.cells [.ptr b 0,.sl s.next 0 (bs.length+t.length) none 1] 207 false 0 0),.XU [.int .i64 t.length,.TO],?_,⟨.ptr b 0,.sl s.next 0 (bs.length+t.length) none 1,by rw[Z9,if_pos rfl],.inr rfl,by rw[Z'];omega,?_⟩,(e5 (g5 hf)).put (by omega) _,by rw[Z'];omega,fun j c t' hj mB hc eV=>?_⟩
 ·refine VE aef (by kernel_rfl) ?_;simp only[go_sem,abi,abj,g1,g3,K_,ZH,Jl,VP,Nat.reducePow,RK,fu,ah1,not_false_eq_true];rw[e1];simp only[go_sem,kb]
 ·have hl:(bs++t).length=bs.length+t.length:=by simp
  rw[hl];have xn:XW (bs++t)=XW bs++XW t:=by simp[XW]
  rw[xn];exact e3.mono (by rw[Z'];omega) fun j hj _=>by rw[Z9,if_neg (by omega)]
 ·rw[Z9,if_neg (by omega),e4 j (by omega) (Pd.other (by rw[g4 j mB];exact hc) eV),g4 j mB]
theorem ae {s:St}{b:Nat}{bs:XV}(h:Iq s b bs)(hf:Fr s)(c:UInt8)(hlen:bs.length+1<=2^39) :
  ∃s',Rl U 130 [.ptr b 0,.int .u8 c.toNat] s=some (.TO,s')/\Iq s' b (bs++[c])/\Fr s'/\s.next<=s'.next/\ah b s s':=by
 obtain⟨p,v,hg,hp,hb,hv⟩:=h;obtain⟨s0,g1,g2,g3,g4,g5⟩:=abh hg hp hb;have Jl:=hv.Xj;have UP:(bs.length+1)*1<=1099511627776:=by omega
 have VP:bs.length+1<=1099511627776:=by omega
 have Pd:ZK (s0.new (.cells [.int .u8 c.toNat] 5 false 0 0)) (b+1) 5 1 bs.length (XW bs) v:=hv.mono (by rw[Z_];omega) fun j hj wJ=>by rw[Z7,if_neg (by omega),g4 j (by omega)]
 obtain⟨s1,e1,e2,e3,e4,e5⟩:=Pd.Gy (by rw[Z_];omega) (m:=1) (new:=[.int .u8 c.toNat]) (by omega) rfl rfl;have kb:=e4 b (by rw[Z_];omega) (Pd.B8 (.inr (by omega)));rw[Z7,if_neg (by omega),g3] at kb;rw[Z_,g2] at e1 e2 e3;refine⟨s1.put b (.cells [.ptr b 0,.sl (s.next+1) 0 (bs.length+1) none 1] 207 false 0 0),?_,⟨.ptr b 0,.sl (s.next+1) 0 (bs.length+1) none 1,by rw[Z9,if_pos rfl],.inr rfl,by rw[Z'];omega,?_⟩,(e5 ((g5 hf).new _)).put (by omega) _,by rw[Z'];omega,fun j c' t' hj mB hc eV=>?_⟩
 ·refine VE ah4 (by kernel_rfl) ?_;simp only[go_sem,aeg,abj,g1,g2,g3,ZH,Jl,UP,VP,Nat.reducePow];rw[e1];simp only[go_sem,kb]
 ·have hl:(bs++[c]).length=bs.length+1:=by simp
  rw[hl];have xn:XW (bs++[c])=XW bs++[.int .u8 c.toNat]:=by simp[XW]
  rw[xn];exact e3.mono (by rw[Z'];omega) fun j hj _=>by rw[Z9,if_neg (by omega)]
 ·rw[Z9,if_neg (by omega),e4 j (by rw[Z_];omega) (Pd.other (by rw[Z7,if_neg (by omega),g4 j mB];exact hc) eV),Z7,if_neg (by omega),g4 j mB]
theorem aac (args:List AV)(s:St):X6 U (ZE U 130 args) 130 args s=Rl U 130 args s:=(XI U 130 args s).symm
theorem ah5 {args:List AV}{s:St}(h:ZU args=false):X6 U (ZE U 175 args) 175 args s=UR U 175 (Y' (Yn U s 40) args) s:=Ke (by kernel_rfl) s h
theorem RJ (l:List Int)(s:St):Wc 1 (.fz (ints l)) s=some (l.length,ints l):=by
 have h1:(ints l).all (fun x=>x.cells.length==1)=true:=by
  rw[alK];intro x hx;obtain⟨n,_,rfl⟩:=alN.1 hx;rfl
 have h2:(ints l).flatMap AV.cells=ints l:=by
  unfold ints;rw[List.flatMap_map]
  induction l with
  |nil=>rfl
  |cons x l ih=>rw[al7,alT,ih (by
    rw[ints,alT,List.all_cons,agw] at h1;exact h1.2)];rfl
 simp only[Wc,h1,h2,YK];rfl
theorem Oz {L:List Int}{i:Nat}(h:i<L.length):L.take (i+1)=L.take i++[L[i]]:=alX h
theorem ah6 {Yy:List Int}{a k g last:Int}(X5:r7 (a::k::g::last::Yy))(h0:Yy≠[])(hl:Yy.length<=2^20):ZE U 175 [.fz (ints Yy),.agg [.int .i64 a,.int .i64 k,.int .i64 g],.int .i64 last]=some (.str (Qn (a::k::g::last::Yy))):=by
 refine ZR aeh (by kernel_rfl) (by simp[ZU,still]) ?_;obtain⟨L,hL⟩:∃L,L=a::k::g::last::Yy:=⟨_,rfl⟩;have hLl:L.length=4+Yy.length:=by rw[hL];simp;omega
 have eB:Yy.length≠0:=fun e=>h0 (al6.1 e)
 rw[<-hL] at X5 ⊢;have Mg:=fun S=>RJ Yy S
 simp only[go_sem,ez,Mg];have e1:B7 3 1 8 (.sl 10 0 4 (some 4) 1) (some (Yy.length,ints Yy)) ((((X8 U).new (.cells [.int .i64 a,.int .i64 k,.int .i64 g] 167 false 0 0)).new (.cells [.Vk,.ZW] 207 false 0 0)).new (.cells [.int .i64 a,.int .i64 k,.int .i64 g,.int .i64 last] 3 false 0 0))=some (.sl 11 0 (4+Yy.length) none 1,((((X8 U).new (.cells [.int .i64 a,.int .i64 k,.int .i64 g] 167 false 0 0)).new (.cells [.Vk,.ZW] 207 false 0 0)).new (.cells [.int .i64 a,.int .i64 k,.int .i64 g,.int .i64 last] 3 false 0 0)).new (.cells (ints L) 3 false 0 0)):=by
  have hz:Go.Am.Xj (.sl 10 0 4 (some 4) 1)=4:=rfl;rw[ZH (by rw[YK];omega) (by rw[hz];omega) (by rw[hz];omega) eB,T1 (cs:=[.int .i64 a,.int .i64 k,.int .i64 g,.int .i64 last]) (lo:=0) (hi:=0) (by simp only[go_sem]) rfl (by omega)];rw[hL];rfl
 rw[e1];simp only[go_sem];obtain⟨S0,J8⟩:∃S0,S0=((((X8 U).new (.cells [.int .i64 a,.int .i64 k,.int .i64 g] 167 false 0 0)).new (.cells [.Vk,.ZW] 207 false 0 0)).new (.cells [.int .i64 a,.int .i64 k,.int .i64 g,.int .i64 last] 3 false 0 0)).new (.cells (ints L) 3 false 0 0):=⟨_,rfl⟩;rw[<-J8];have EO:S0.next=12:=by rw[J8];simp only[go_sem]
 have gL0:S0.get 11=some (.cells (ints L) 3 false 0 0):=by rw[J8];simp only[go_sem]
 have gb0:S0.get 9=some (.cells [.Vk,.ZW] 207 false 0 0):=by rw[J8];simp only[go_sem]
 have fr0:Fr S0:=by rw[J8];exact (((Fr.own.new _).new _).new _).new _
 rw[<-hLl];refine YP (ZB:=fun (o:Option AV)=>o=some (.str (Qn L))) (σ:=Nat) (fun i=>L.length-i) (fun i e' s'=>i<=L.length/\Env.get e' 7=.ptr 9 0/\Env.get e' 19=.sl 11 0 L.length none 1/\Env.get e' 20=.int .i64 (L.length:Nat)/\Env.get e' 21=.int .i64 (i:Nat)/\s'.get 11=some (.cells (ints L) 3 false 0 0)/\12<=s'.next/\Fr s'/\Iq s' 9 (Qn (L.take i))) 0 ?_
  ⟨aic _,?_,?_,?_,?_,gL0,by omega,fr0,⟨.Vk,.ZW,gb0,.inl rfl,by omega,ZK.nil _ _ _ _⟩⟩
 ·rintro Lp i e' s' ⟨hi,q7,ey,mh,q21,gL,Vl,Xx,hB⟩ IH;by_cases hd:i<L.length
  ·have hw:=ZN hd (by omega);have hx:(ints L)[i]? = some (.int .i64 L[i]):=by rw[ints,alV,aaa hd];rfl
   obtain⟨o1,o2⟩:=X5 L[i] (adm hd);have hit:=aad L[i] o1 o2;obtain⟨f1,f2,_,_⟩:=Qm o1 o2;have NA:=Oy (L.take i) fun x hx=>X5 x (List.mem_of_mem_take hx)
   rw[amr] at NA;obtain⟨s1,r1,h131,B1,mg,n1,K1⟩:=af hB Xx (Bf L[i]) f1 (by omega);obtain⟨s2,h130,B2,O1,n2,K2⟩:=ae B1 mg 32 (by rw[agy];omega);have g1:=K1 11 _ _ (by omega) (by omega) gL (by decide);have gL1:=g1.trans gL;have g2:=K2 11 _ _ (by omega) (by omega) gL1 (by decide);have gL2:=g2.trans gL1;have h130:Rl U 130 [.ptr 9 0,.int .u8 32] s1=some (.TO,s2):=h130;simp only[go_sem,K9,q7,ey,mh,q21,Z8,hd,gL,hx,hit,mj,h131,aac,h130,hw,ald,ah1];refine IH (i+1) _ _ (by omega) ⟨by omega,?_,?_,?_,?_,gL2,by omega,O1,?_⟩
   case refine_5=>rw[Oz hd,zV];exact B2
   all_goals simp only[go_sem,q7,ey,mh]
  ·have xb:i=L.length:=by omega
   subst xb;rw[amH] at hB;have NA:=Oy L X5;obtain⟨s3,h133,n3,rC,_⟩:=mf hB Xx (by omega);simp only[go_sem,K9,q7,mh,q21,Z8,alh,ta,h133]
 all_goals simp only[go_sem]
 all_goals rfl
def CH (s:St)(L:List Nat)(v:AV):Prop:=(v=.ZW/\L=[])\/∃b,v=.sl b 0 L.length none 1/\s.get b=some (.cells (ZO L) 3 false 0 0)/\b<s.next
theorem CH.keep {s s':St}{L:List Nat}{v:AV}(h:CH s L v)(hn:s.next<=s'.next)(hg:∀j,j<s.next->Xb v j->s'.get j=s.get j):CH s' L v:=by
 rcases h with h|⟨b,h1,h2,h4⟩
 ·exact .inl h
 ·exact .inr ⟨b,h1,by rw[hg b h4 ⟨_,h1⟩];exact h2,by omega⟩
theorem CH.SW {s:St}{L:List Nat}{v:AV}(h:CH s L v):Ti v=some (.int .i64 L.length):=by
 rcases h with⟨rfl,rfl⟩|⟨b,rfl,h2,h4⟩ <;> rfl
def Xk (pb bl bp bs bb be bm j:Nat):Prop:=j≠pb/\j≠bl/\j≠bp/\j≠bs/\j≠bb/\j≠be/\j≠bm
theorem LI.fZ {s:St}{pb n bl bp bs bb be bm:Nat}{p:Pt}(h:LI s pb n bl bp bs bb be bm p):pb<s.next/\bl<s.next/\bp<s.next/\bs<s.next/\bb<s.next/\be<s.next/\bm<s.next :=
 ⟨h.lt _ (by simp),h.lt _ (by simp),h.lt _ (by simp),h.lt _ (by simp),h.lt _ (by simp),h.lt _ (by simp),h.lt _ (by simp)⟩
theorem ad9 {β:Type}{fin:Fl->β}{ks:List K}{ZB:β->Prop}{pb n bl bp bs bb be bm N:Nat}{p:Pt}{T us:List Nat}{tv vB:AV}{e:Env}{s:St}(hn:n<=2^19)(h:LI s pb n bl bp bs bb be bm p)(hw:p.Wf n)(hU:∀u∈us,u<n)(hul:us.length<=2^20)(eD:T.length+us.length<=2^30)
  (g3:Env.get e 3=.ptr pb 0)(Bl:Env.get e 13=tv)(ahU:Env.get e 135=vB)(ahV:Env.get e 136=.int .i64 us.length)(ahW:Env.get e 137=.int .i64 (0:Nat))
  (hT:NP s N T tv)(uo:∀j,Xb tv j->Xk pb bl bp bs bb be bm j)(hN:N<=s.next)(hB:CH s us vB)(hBf:∀j,Xb vB j->Xk pb bl bp bs bb be bm j/\¬Xb tv j)(fr:Fr s)
  (hk:∀e' s' JT,(∀t:Nat,t<13\/17<t/\t<137->Env.get e' t=Env.get e t)->Env.get e' 13=JT->LI s' pb n bl bp bs bb be bm (YD us p T).1->NP s' N (YD us p T).2 JT->(∀j,Xb JT j->Xb tv j\/s.next<=j) ->
   (∀j,j<s.next->j≠bl->j≠bp->j≠bm->¬Xb tv j->s'.get j=s.get j)->s.next<=s'.next->Fr s'->ZB (goN U fin ks e' s')) :
  ZB (SD U fin (.bk 12::ks) Lh e s):=by
 refine YP (σ:=Nat) (fun i=>us.length-i) (fun i e' s'=>i<=us.length/\(∀t:Nat,t<13\/17<t/\t<137->Env.get e' t=Env.get e t)/\Env.get e' 137=.int .i64 (i:Nat)/\s.next<=s'.next/\Fr s' /\
   ∃p' T' JT,Env.get e' 13=JT/\LI s' pb n bl bp bs bb be bm p'/\p'.Wf n/\YD (us.drop i) p' T'=YD us p T/\T'.length<=T.length+i/\NP s' N T' JT/\(∀j,Xb JT j->Xb tv j\/s.next<=j)/\(∀j,j<s.next->j≠bl->j≠bp->j≠bm->¬Xb tv j->s'.get j=s.get j)) 0 ?_
  ⟨aic _,fun _ _=>rfl,ahW,agB _,fr,p,T,tv,Bl,h,hw,rfl,by omega,hT,fun j=>.inl,fun _ _ _ _ _ _=>rfl⟩
 rintro Lp i e' s' ⟨hi,hold,eC,Vl,Xx,p',T',JT,Cb,P,LS,OG,hlen,hT',U2,hs⟩ IH;have q3:=(hold 3 (by omega)).trans g3;have ad_:=(hold 135 (by omega)).trans ahU;have abb:=(hold 136 (by omega)).trans ahV;by_cases hd:i<us.length
 ·have Rm:=ZN hd (by omega);have lts:=h.fZ;have B2:=hB.keep Vl fun j h1 h2=>by obtain⟨h3,h4⟩:=hBf j h2;unfold Xk at h3;exact hs j h1 (by omega) (by omega) (by omega) h4
  obtain⟨b,rfl,hg,hb⟩:∃b,vB=.sl b 0 us.length none 1/\s'.get b=some (.cells (ZO us) 3 false 0 0)/\b<s'.next:=by
   rcases B2 with⟨_,h⟩|h
   ·rw[h] at hd;simp at hd
   ·exact h
  have o1:=Yq (l:=us) (i:=i) hd;have hu:=hU _ (adm hd);rw[VF hd] at o1;rw[abc hd,YD] at OG;generalize us[i]=u at *;obtain⟨s2,c1,P2,c2,c3,c4⟩:=ahX P LS (by omega) Xx hu;obtain⟨m1,m2,m3,m4,m5,m6,m7⟩:=MD LS hu;have T2:=hT'.keep c2 fun j h1 h2 h3=>by
   have:Xk pb bl bp bs bb be bm j:=by
    rcases U2 j h3 with h4|h4
    ·exact uo j h4
    ·unfold Xk;omega
   unfold Xk at this;exact c4 j h1 (by omega) (by omega) (by omega)
  have fs:∀j,j<s.next->j≠bl->j≠bp->j≠bm->¬Xb tv j->s2.get j=s.get j:=fun j h1 h2 h3 h4 h5=>by rw[c4 j (by omega) h2 h3 h4,hs j h1 h2 h3 h4 h5]
  cases VP:(p'.Wz u).2 with
  |false =>
   rw[VP] at c1 OG;rw[cond_false] at OG;simp only[go_sem,Lh,q3,ad_,abb,eC,Z8,hd,hg,o1,aq,c1,Rm,ah1];refine IH (i+1) _ _ (by omega) ⟨by omega,fun t ht=>?_,?_,by omega,c3,_,T',JT,?_,P2,m1,OG,by omega,T2,U2,fs⟩
   ·have ZC:∀k:Nat,137<=k->(k=t)=False:=fun k hk=>by simp;omega
    have Ah:(17=t)=False:=by simp;omega
    simp only[go_sem,ZC,Ah];exact hold t ht
   ·simp only[go_sem]
   ·simp only[go_sem,Cb]
  |true =>
   rw[VP] at c1 OG;rw[cond_true] at OG;have Xz:gt p'.set u=gt (p'.Wz u).1.set u:=by rw[m2]
   have lsu:=m1.ls;have o2:=Yq (l:=(p'.Wz u).1.set) (i:=u) (by omega);have fS:=T2.Xj;have tA:(T'.length+1)*8<=1099511627776:=by omega
   have nZ:T'.length+1<=1099511627776:=by omega
   simp only[go_sem,Lh,q3,Cb,ad_,abb,eC,Z8,hd,hg,o1,aq,c1,ah1,P2.g,P2.gs,o2,hu,lsu,ZH,Nat.reducePow,fS,tA,nZ];have T3:NP (s2.new (.cells [.int .i64 ((gt (p'.Wz u).1.set u:Nat):Int)] 3 false 0 0)) N T' JT:=T2.keep (by rw[Z_];omega) fun j h1 _ _=>by rw[Z7,if_neg (by omega)]
   obtain⟨s4,d1,d2,d3,d4,d5⟩:=T3.app (by rw[Z_];omega) (gt (p'.Wz u).1.set u);rw[Z_] at d1 d2 d3 d4;rw[d1];simp only[go_sem,eC,Rm];rw[<-Xz] at d3;have k4:∀j,j<s2.next->¬Xb JT j->s4.get j=s2.get j:=fun j h1 h2=>by rw[d4 j (by omega) h2,Z7,if_neg (by omega)]
   have hP:∀j,Xb JT j->Xk pb bl bp bs bb be bm j:=fun j hj=>by
    rcases U2 j hj with h4|h4
    ·exact uo j h4
    ·unfold Xk;omega
   refine IH (i+1) _ _ (by omega) ⟨by omega,fun t ht=>?_,?_,by omega,d5 (c3.new _),_,T'++[gt p'.set u],.sl (s2.next+1) 0 (T'.length+1) none 1,?_,P2.mono (by omega) fun j hj=>k4 j (P2.lt j hj) fun hb=>?_,m1,OG,by simp;omega,d3,fun j hj=>?_,fun j h1 h2 h3 h4 h5=>?_⟩
   ·have ZC:∀k:Nat,137<=k->(k=t)=False:=fun k hk=>by simp;omega
    have Ah:(17=t)=False:=by simp;omega
    have nu:(13=t)=False:=by simp;omega
    simp only[go_sem,ZC,Ah,nu];exact hold t ht
   ·simp only[go_sem]
   ·simp only[go_sem]
   ·have:=hP j hb;unfold Xk at this;simp only[alL,List.not_mem_nil,or_false] at hj;omega
   ·rw[Yl] at hj;omega
   ·by_cases hb:Xb JT j
    ·rcases U2 j hb with h6|h6
     ·exact absurd h6 h5
     ·omega
    ·rw[k4 j (by omega) hb,fs j h1 h2 h3 h4 h5]
 ·have:i=us.length:=by omega
  subst this;rw[alO,YD] at OG;rw[<-OG] at hk;simp only[go_sem,Lh,abb,eC,Z8,alh];refine hk _ _ JT (fun t ht=>?_) ?_ P hT' U2 hs Vl Xx
  ·have ZC:∀k:Nat,137<=k->(k=t)=False:=fun k hk=>by simp;omega
   have Ah:(17=t)=False:=by simp;omega
   simp only[go_sem,ZC];exact hold t ht
  ·simp only[go_sem,Cb]
structure AT (s:St)(B m n:Nat)(bf:Nat->Nat->List Nat)(lo hi:Nat)(bx:Nat->Nat)(vs:Nat->Nat->AV):Prop where
 g:s.get B=some (.cells ((List.range m).map fun x=>.sl (bx x) 0 n (some n) 1) 66 false 0 0)
 row:∀x,x<m->s.get (bx x)=some (.cells ((List.range n).map (vs x)) 40 false 0 0)
 bl:∀x,x<m->∀c,c<n->CH s (bf x c) (vs x c)
 hB:lo<=B/\B<hi
 hx:∀x,x<m->lo<=bx x/\bx x<hi
 hv:∀x,x<m->∀c,c<n->∀j,Xb (vs x c) j->lo<=j/\j<hi
 le:hi<=s.next
theorem AT.keep {s s':St}{B m n:Nat}{bf:Nat->Nat->List Nat}{lo hi:Nat}{bx:Nat->Nat}{vs:Nat->Nat->AV}(h:AT s B m n bf lo hi bx vs)(hn:s.next<=s'.next)(hg:∀j,lo<=j->j<hi->s'.get j=s.get j):AT s' B m n bf lo hi bx vs :=
 ⟨(hg _ h.hB.1 h.hB.2).trans h.g,fun x hx=>(hg _ (h.hx x hx).1 (h.hx x hx).2).trans (h.row x hx),fun x hx c hc=>(h.bl x hx c hc).keep hn fun j _ hj=>hg j (h.hv x hx c hc j hj).1 (h.hv x hx c hc j hj).2,h.hB,h.hx,h.hv,by have:=h.le;omega⟩
def Ou (lo hi j:Nat):Prop:=j<lo\/hi<=j
theorem NG (f:Nat->AV){n i:Nat}(h:i<n):((List.range n).map f)[i]? = some (f i):=by
 rw[alV,List.getElem?_range h];rfl
theorem Fc {n:Nat}:∀(us:List Nat) (p:Pt) (T:List Nat),p.Wf n->(∀u∈us,u<n)->(YD us p T).1.Wf n
 |[],p,T,h,_=>h
 |u::l,p,T,h,hu=>by
  rw[YD];exact Fc l _ _ (MD h (hu u (aba ..))).1 fun x hx=>hu x (aab _ hx)
theorem OT:∀(us:List Nat) (p:Pt) (T:List Nat),(YD us p T).2.length<=T.length+us.length
 |[],p,T=>by simp[YD]
 |u::l,p,T=>by
  rw[YD];have:=OT l (p.Wz u).1 (bif (p.Wz u).2 then T++[gt p.set u] else T);have h2:(bif (p.Wz u).2 then T++[gt p.set u] else T).length<=T.length+1:=by cases (p.Wz u).2 <;> simp
  rw[akd];omega
theorem adA {β:Type}{fin:Fl->β}{ks:List K}{ZB:β->Prop}{pb n m bl bp bs bb be bm N B lo hi x:Nat}{bf:Nat->Nat->List Nat}{bx:Nat->Nat}{vs:Nat->Nat->AV}{p:Pt}{T ms:List Nat}{tv mv:AV}{e:Env}{s:St}(hn:n<=2^9)(hm:m<=2^9)(hx:x<m)(h:LI s pb n bl bp bs bb be bm p)(hw:p.Wf n)(hM:∀u∈ms,u<n)(hml:ms.length<=2^9)(eD:T.length+ms.length*n<=2^29)
  (hbf:∀c,c<n->(bf x c).length<=n/\∀u∈bf x c,u<n)
  (g3:Env.get e 3=.ptr pb 0)(g4:Env.get e 4=.sl B 0 m (some m) 1)(Iw:Env.get e 12=.int .i64 (x:Int))(Bl:Env.get e 13=tv)(akU:Env.get e 123=mv)(akV:Env.get e 124=.int .i64 ms.length)(akW:Env.get e 125=.int .i64 (0:Nat))
  (hT:NP s N T tv)(uo:∀j,Xb tv j->Xk pb bl bp bs bb be bm j/\Ou lo hi j)(hN:N<=s.next)(hMr:CH s ms mv)(hMf:∀j,Xb mv j->Xk pb bl bp bs bb be bm j/\¬Xb tv j)
  (hB:AT s B m n bf lo hi bx vs)(fj:∀j,Ou lo hi j\/Xk pb bl bp bs bb be bm j)(fr:Fr s)
  (hk:∀e' s' JT,(∀t:Nat,t<13\/17<t/\t<125->Env.get e' t=Env.get e t)->Env.get e' 13=JT->LI s' pb n bl bp bs bb be bm (YD (ms.flatMap (bf x)) p T).1->NP s' N (YD (ms.flatMap (bf x)) p T).2 JT->(∀j,Xb JT j->Xb tv j\/s.next<=j) ->
   (∀j,j<s.next->j≠bl->j≠bp->j≠bm->¬Xb tv j->s'.get j=s.get j)->s.next<=s'.next->Fr s'->ZB (goN U fin ks e' s')) :
  ZB (SD U fin (.bk 10::ks) Hx e s):=by
 refine YP (σ:=Nat) (fun i=>ms.length-i) (fun i e' s'=>i<=ms.length/\(∀t:Nat,t<13\/17<t/\t<125->Env.get e' t=Env.get e t)/\Env.get e' 125=.int .i64 (i:Nat)/\s.next<=s'.next/\Fr s' /\
   ∃p' T' JT,Env.get e' 13=JT/\LI s' pb n bl bp bs bb be bm p'/\p'.Wf n/\YD ((ms.drop i).flatMap (bf x)) p' T'=YD (ms.flatMap (bf x)) p T/\T'.length<=T.length+i*n/\NP s' N T' JT/\(∀j,Xb JT j->Xb tv j\/s.next<=j)/\(∀j,j<s.next->j≠bl->j≠bp->j≠bm->¬Xb tv j->s'.get j=s.get j)) 0 ?_
  ⟨aic _,fun _ _=>rfl,akW,agB _,fr,p,T,tv,Bl,h,hw,rfl,by simp,hT,fun j=>.inl,fun _ _ _ _ _ _=>rfl⟩
 rintro Lp i e' s' ⟨ra,hold,adl,Vl,Xx,p',T',JT,Cb,P,LS,OG,hlen,hT',U2,hs⟩ IH;have q3:=(hold 3 (by omega)).trans g3;have q4:=(hold 4 (by omega)).trans g4;have fK:=(hold 12 (by omega)).trans Iw;have akX:=(hold 123 (by omega)).trans akU;have ahg:=(hold 124 (by omega)).trans akV;have lts:=h.fZ;by_cases hd:i<ms.length
 ·have Rm:=ZN hd (by omega);have hle:=hB.le;have B2:=hB.keep Vl fun j h1 h2=>by
   have h3:Xk pb bl bp bs bb be bm j:=by rcases fj j with h|h;unfold Ou at h;omega;exact h
   unfold Xk at h3;exact hs j (by omega) (by omega) (by omega) (by omega) fun hb=>by have:=(uo j hb).2;unfold Ou at this;omega
  have M2:=hMr.keep Vl fun j h1 h2=>by obtain⟨h3,h4⟩:=hMf j h2;unfold Xk at h3;exact hs j h1 (by omega) (by omega) (by omega) h4
  obtain⟨b,rfl,hg,hb⟩:∃b,mv=.sl b 0 ms.length none 1/\s'.get b=some (.cells (ZO ms) 3 false 0 0)/\b<s'.next:=by
   rcases M2 with⟨_,h⟩|h
   ·rw[h] at hd;simp at hd
   ·exact h
  have o1:=Yq (l:=ms) (i:=i) hd;have hu:=hM _ (adm hd);rw[VF hd] at o1;rw[abc hd,al7,Jo] at OG;generalize ms[i]=c at *;obtain⟨f1,f2⟩:=hbf c hu;have o2:=NG (fun x=>(AV.sl (bx x) 0 n (some n) 1)) hx;have o3:=NG (vs x) hu;have Pd:=B2.row x hx;have Mv:=B2.bl x hx c hu;have eX:=Mv.SW;have Ue:i*n+n<=ms.length*n:=by
   have:(i+1)*n<=ms.length*n:=amt n hd;rw[Nat.succ_mul] at this;exact this
  have hB2:=B2.g;have hTP:∀j,Xb JT j->Xk pb bl bp bs bb be bm j/\(Ou lo hi j):=fun j hj=>by
   rcases U2 j hj with h4|h4
   ·exact uo j h4
   ·refine⟨by unfold Xk;omega,by unfold Ou;omega⟩
  simp only[go_sem,Hx,q4,fK,akX,ahg,adl,Z8,hd,hg,o1,o2,o3,hx,hu,hB2,Pd,eX,ah1];refine ad9 (N:=N) (p:=p') (T:=T') (tv:=JT) (us:=bf x c) (by omega) P LS f2 (by omega) (by omega) ?_ ?_ ?_ ?_ ?_ hT' (fun j hj=>(hTP j hj).1) (by omega) Mv (fun j hj=>?_) Xx ?_
  case refine_7 =>
   intro e2 s2 tv2 QF fh P3 T3 xm fs3 fg rC;have akY:Env.get e2 125=.int .i64 (i:Nat):=by rw[QF 125 (by omega)];simp only[go_sem,adl]
   simp only[go_sem,akY,Rm];refine IH (i+1) _ _ (by omega) ⟨by omega,fun t ht=>?_,?_,by omega,rC,_,_,tv2,?_,P3,Fc _ _ _ LS f2,OG,?_,T3,fun j hj=>?_,fun j h1 h2 h3 h4 h5=>?_⟩
   ·have ZC:∀k:Nat,125<=k->(k=t)=False:=fun k hk=>by simp;omega
    have ahh:(15=t)=False:=by simp;omega
    simp only[go_sem,ZC];rw[QF t (by omega)];simp only[go_sem,ZC,ahh];exact hold t ht
   ·simp only[go_sem]
   ·simp only[go_sem,fh]
   ·have:=OT (bf x c) p' T';rw[Nat.succ_mul];omega
   ·rcases xm j hj with h6|h6
    ·exact U2 j h6
    ·right;omega
   ·by_cases hb:Xb JT j
    ·rcases U2 j hb with h6|h6
     ·exact absurd h6 h5
     ·omega
    ·rw[fs3 j (by omega) h2 h3 h4 hb,hs j h1 h2 h3 h4 h5]
  case refine_6 =>
   have h1:=B2.hv x hx c hu j hj;refine⟨?_,fun hb=>?_⟩
   ·rcases fj j with h|h
    ·unfold Ou at h;omega
    ·exact h
   ·have:=(hTP j hb).2;unfold Ou at this;omega
  all_goals simp only[go_sem,q3,Cb]
  all_goals rfl
 ·have:i=ms.length:=by omega
  subst this;rw[alO,List.flatMap_nil,YD] at OG;rw[<-OG] at hk;simp only[go_sem,Hx,ahg,adl,Z8,alh];refine hk _ _ JT (fun t ht=>?_) ?_ P hT' U2 hs Vl Xx
  ·have ZC:∀k:Nat,125<=k->(k=t)=False:=fun k hk=>by simp;omega
   have Ah:(17=t)=False:=by simp;omega
   simp only[go_sem,ZC];exact hold t ht
  ·simp only[go_sem,Cb]
theorem adB {β:Type}{fin:Fl->β}{ks:List K}{ZB:β->Prop}{pb n bl bp bs bb be bm N:Nat}{p:Pt}{T W:List Nat}{tv wv:AV}{e:Env}{s:St}(hn:n<=2^9)(h:LI s pb n bl bp bs bb be bm p)(hw:p.Wf n)(EG:T.Nodup)(hTp:∀k∈T,k<p.bg.length/\0<gt p.mr k)(eD:T.length<=2^29)(hWl:W.length+T.length<=2^30)
  (g3:Env.get e 3=.ptr pb 0)(g8:Env.get e 8=wv)(akD:Env.get e 156=tv)(akE:Env.get e 157=.int .i64 T.length)(akF:Env.get e 158=.int .i64 (0:Nat))
  (hT:NP s N T tv)(hW:NP s N W wv)(hN:N<=s.next)(uo:∀j,Xb tv j->Xk pb bl bp bs bb be bm j/\¬Xb wv j)(PQ:∀j,Xb wv j->Xk pb bl bp bs bb be bm j)(fr:Fr s)
  (hk:∀e' s' Ph Pg Pf Pe,(∀t:Nat,t<8\/8<t/\t<19\/20<t/\t<156->Env.get e' t=Env.get e t)->Env.get e' 8=Ph->LI s' pb n bl bp bs Pg Pf Pe (SZ T p W).1->NP s' N (SZ T p W).2 Ph->(∀j,Xb Ph j->Xb wv j\/s.next<=j)->(∀j,Xb Ph j->Xk pb bl bp bs Pg Pf Pe j) ->
   (Pg=bb\/s.next<=Pg)->(Pf=be\/s.next<=Pf)->(Pe=bm\/s.next<=Pe) ->
   (∀j,j<s.next->j≠pb->j≠bs->j≠bb->j≠be->j≠bm->¬Xb wv j->s'.get j=s.get j)->s.next<=s'.next->Fr s'->ZB (goN U fin ks e' s')) :
  ZB (SD U fin (.bk 14::ks) KP e s):=by
 refine YP (σ:=Nat) (fun i=>T.length-i) (fun i e' s'=>i<=T.length/\(∀t:Nat,t<8\/8<t/\t<19\/20<t/\t<158->Env.get e' t=Env.get e t)/\Env.get e' 158=.int .i64 (i:Nat)/\s.next<=s'.next/\Fr s' /\
   ∃p' W' Ph Pg Pf Pe,Env.get e' 8=Ph/\LI s' pb n bl bp bs Pg Pf Pe p'/\p'.Wf n/\(∀k∈T.drop i,k<p'.bg.length/\0<gt p'.mr k)/\SZ (T.drop i) p' W'=SZ T p W/\W'.length<=W.length+i/\NP s' N W' Ph/\(∀j,Xb Ph j->Xb wv j\/s.next<=j)/\(∀j,Xb Ph j->Xk pb bl bp bs Pg Pf Pe j) /\
    (Pg=bb\/s.next<=Pg)/\(Pf=be\/s.next<=Pf)/\(Pe=bm\/s.next<=Pe)/\(∀j,j<s.next->j≠pb->j≠bs->j≠bb->j≠be->j≠bm->¬Xb wv j->s'.get j=s.get j)) 0 ?_
  ⟨aic _,fun _ _=>rfl,akF,agB _,fr,p,W,wv,bb,be,bm,g8,h,hw,hTp,rfl,by omega,hW,fun j=>.inl,PQ,.inl rfl,.inl rfl,.inl rfl,fun _ _ _ _ _ _ _ _=>rfl⟩
 rintro Lp i e' s' ⟨ra,hold,bB,Vl,Xx,p',W',Ph,Pg,Pf,Pe,q8,P,LS,agZ,J7,hlen,rE,U2,Iy,xn,hbe,hbm,hs⟩ IH;have q3:=(hold 3 (by omega)).trans g3;have ag0:=(hold 156 (by omega)).trans akD;have ac0:=(hold 157 (by omega)).trans akE;have lts:=h.fZ;by_cases hd:i<T.length
 ·have Rm:=ZN hd (by omega);have T2:=hT.keep Vl fun j h1 h2 h3=>by
   obtain⟨h4,h5⟩:=uo j h3;unfold Xk at h4;exact hs j h1 (by omega) (by omega) (by omega) (by omega) (by omega) h5
  obtain⟨b,R,rfl,hg,o1⟩:=T2.get hd;have Fo:=agZ T[i] (by rw[abc hd];exact aba ..);rw[abc hd,SZ] at J7;have UF:∀k∈T.drop (i+1),(k<p'.bg.length/\0<gt p'.mr k)/\k≠T[i]:=fun k hk=>by
   refine⟨agZ k (by rw[abc hd];exact aab _ hk),?_⟩;have hdn:(T.drop i).Nodup:=EG.sublist (List.drop_sublist i T);rw[abc hd,amv] at hdn;rintro rfl;exact hdn.1 hk
  generalize T[i]=k at *;obtain⟨Jd,BW⟩:=Fo;have hc:=A6 LS Jd BW;obtain⟨s2,cb,ce,cm,c1,P2,c2,c3,c4,c5,c6,c7⟩:=akm P LS (by omega) Xx Jd BW;have aaO:=P.fZ;have CZ:∀x∈T.drop (i+1),x<(p'.cut k).1.bg.length/\0<gt (p'.cut k).1.mr x:=fun x hx=>by
   obtain⟨⟨h1,h2⟩,h3⟩:=UF x hx;have hlen:=hc.len;rw[hc.mr x h1 h3];exact⟨by omega,h2⟩
  have W2:=rE.keep c2 fun j h1 h2 h3=>by
   have h4:=Iy j h3;unfold Xk at h4;exact c7 j h1 (by omega) (by omega) (by omega) (by omega) (by omega)
  have Si:=LS.few;have fs:∀j,j<s.next->j≠pb->j≠bs->j≠bb->j≠be->j≠bm->¬Xb wv j->s2.get j=s.get j:=fun j h1 h2 h3 h4 h5 h6 h7=>by
   rw[c7 j (by omega) h2 h3 (by omega) (by omega) (by omega),hs j h1 h2 h3 h4 h5 h6 h7]
  cases VP:(p'.cut k).2 with
  |false =>
   rw[VP] at c1 J7;rw[cond_false] at J7 c1;simp only[go_sem,KP,q3,q8,ag0,ac0,bB,Z8,hd,hg,o1,aah,c1,Rm,ah1];refine IH (i+1) _ _ (by omega) ⟨by omega,fun t ht=>?_,?_,by omega,c3,_,W',Ph,cb,ce,cm,?_,P2,hc.wf,CZ,J7,by omega,W2,U2,fun j hj=>?_,by omega,by omega,by omega,fs⟩
   ·have ZC:∀k:Nat,158<=k->(k=t)=False:=fun k hk=>by simp;omega
    have ia:(19=t)=False:=by simp;omega
    have h_:(20=t)=False:=by simp;omega
    simp only[go_sem,ZC,ia,h_];exact hold t ht
   ·simp only[go_sem]
   ·simp only[go_sem,q8]
   ·have h4:=Iy j hj;have h5:=rE.lt hj;unfold Xk at h4 ⊢;omega
  |true =>
   rw[VP] at c1 J7;rw[cond_true] at J7 c1;have fS:=W2.Xj;have EH:decide ((p'.bg.length:Int)>=0)=true:=by simp
   have tA:(W'.length+1)*8<=1099511627776:=by omega
   have nZ:W'.length+1<=1099511627776:=by omega
   simp only[go_sem,KP,q3,q8,ag0,ac0,bB,Z8,hd,hg,o1,aah,c1,ah1,ZH,Nat.reducePow,fS,tA,nZ];have T3:NP (s2.new (.cells [.int .i64 (p'.bg.length:Int)] 3 false 0 0)) N W' Ph:=W2.keep (by rw[Z_];omega) fun j h1 _ _=>by rw[Z7,if_neg (by omega)]
   obtain⟨s4,d1,d2,d3,d4,d5⟩:=T3.app (by rw[Z_];omega) p'.bg.length;rw[Z_] at d1 d2 d3 d4;rw[d1];simp only[go_sem,bB,Rm];have k4:∀j,j<s2.next->¬Xb Ph j->s4.get j=s2.get j:=fun j h1 h2=>by rw[d4 j (by omega) h2,Z7,if_neg (by omega)]
   have alA:=P2.fZ;refine IH (i+1) _ _ (by omega) ⟨by omega,fun t ht=>?_,?_,by omega,d5 (c3.new _),_,W'++[p'.bg.length],.sl (s2.next+1) 0 (W'.length+1) none 1,cb,ce,cm,?_,P2.mono (by omega) fun j hj=>k4 j (P2.lt j hj) fun hb=>?_,hc.wf,CZ,J7,by simp;omega,d3,fun j hj=>?_,fun j hj=>?_,by omega,by omega,by omega,fun j h1 h2 h3 h4 h5 h6 h7=>?_⟩
   ·have ZC:∀k:Nat,158<=k->(k=t)=False:=fun k hk=>by simp;omega
    have ia:(19=t)=False:=by simp;omega
    have h_:(20=t)=False:=by simp;omega
    have uC:(8=t)=False:=by simp;omega
    simp only[go_sem,ZC,ia,h_,uC];exact hold t ht
   ·simp only[go_sem]
   ·simp only[go_sem]
   ·have h4:=Iy j hb;have h5:=rE.lt hb;unfold Xk at h4;simp only[alL,List.not_mem_nil,or_false] at hj;omega
   ·rw[Yl] at hj;omega
   ·rw[Yl] at hj;unfold Xk;omega
   ·by_cases hb:Xb Ph j
    ·rcases U2 j hb with h8|h8
     ·exact absurd h8 h7
     ·omega
    ·rw[k4 j (by omega) hb,fs j h1 h2 h3 h4 h5 h6 h7]
 ·have:i=T.length:=by omega
  subst this;rw[alO,SZ] at J7;rw[<-J7] at hk;simp only[go_sem,KP,ac0,bB,Z8,alh];refine hk _ _ Ph Pg Pf Pe (fun t ht=>?_) ?_ P rE U2 Iy xn hbe hbm hs Vl Xx
  ·have ZC:∀k:Nat,158<=k->(k=t)=False:=fun k hk=>by simp;omega
   simp only[go_sem,ZC];exact hold t (by omega)
  ·simp only[go_sem,q8]
theorem Eh {f:Nat->List Nat}{n:Nat}:∀{ms:List Nat},(∀u∈ms,u<n)->(∀c,c<n->(f c).length<=n)->(ms.flatMap f).length<=ms.length*n
 |[],_,_=>by simp
 |c::l,h1,h2=>by
  have ih:=Eh (f:=f) (ms:=l) (fun u hu=>h1 u (aab _ hu)) h2;have:=h2 c (h1 c (aba ..));rw[al7,agy,akd,Nat.succ_mul];omega
theorem ady {β:Type}{fin:Fl->β}{ks:List K}{ZB:β->Prop}{pb n m bl bp bs bb be bm N B lo hi:Nat}{bf:Nat->Nat->List Nat}{nx:Nat->Nat->Nat}{bx:Nat->Nat}{vs:Nat->Nat->AV}{p:Pt}{W ms:List Nat}{wv mv:AV}{e:Env}{s:St}(hn:n<=2^9)(hm:m<=2^8)(h:LI s pb n bl bp bs bb be bm p)(hw:p.Wf n)(hz:p.Zero)(hM:∀u∈ms,u<n)(hml:ms.length<=2^9)(hWl:W.length<=2^20)
  (hb:∀y,y<m->∀c,c<n->∀u,u∈bf y c<->u<n/\nx u y=c)(Hd:∀y,y<m->∀c,c<n->(bf y c).length<=n)
  (g3:Env.get e 3=.ptr pb 0)(g4:Env.get e 4=.sl B 0 m (some m) 1)(g8:Env.get e 8=wv)(fk:Env.get e 11=mv)(nD:Env.get e 119=.int .i64 (m:Int))(nC:Env.get e 120=.int .i64 (0:Nat))
  (hW:NP s N W wv)(PQ:∀j,Xb wv j->Xk pb bl bp bs bb be bm j/\Ou lo hi j)(hN:N<=s.next)(hMr:CH s ms mv)(hMf:∀j,Xb mv j->Xk pb bl bp bs bb be bm j/\¬Xb wv j)
  (hB:AT s B m n bf lo hi bx vs)(fj:∀j,Ou lo hi j\/Xk pb bl bp bs bb be bm j)(fr:Fr s)
  (hk:∀e' s' Ph Pg Pf Pe,(∀t:Nat,t<8\/8<t/\t<12->Env.get e' t=Env.get e t)->Env.get e' 8=Ph->LI s' pb n bl bp bs Pg Pf Pe (OW bf ms m 0 p W).1->NP s' N (OW bf ms m 0 p W).2 Ph->(∀j,Xb Ph j->Xb wv j\/s.next<=j)->(∀j,Xb Ph j->Xk pb bl bp bs Pg Pf Pe j) ->
   (Pg=bb\/s.next<=Pg)->(Pf=be\/s.next<=Pf)->(Pe=bm\/s.next<=Pe) ->
   (∀j,j<s.next->Xk pb bl bp bs bb be bm j->¬Xb wv j->s'.get j=s.get j)->s.next<=s'.next->Fr s'->ZB (goN U fin ks e' s')) :
  ZB (SD U fin (.bk 8::ks) Ic e s):=by
 have alb:=hw.few;refine YP (σ:=Nat) (fun x=>m-x) (fun x e' s'=>x<=m/\(∀t:Nat,t<8\/8<t/\t<12\/20<t/\t<120->Env.get e' t=Env.get e t)/\Env.get e' 120=.int .i64 (x:Nat)/\s.next<=s'.next/\Fr s' /\
   ∃p' W' Ph Pg Pf Pe,Env.get e' 8=Ph/\LI s' pb n bl bp bs Pg Pf Pe p'/\p'.Wf n/\p'.Zero/\OW bf ms (m-x) x p' W'=OW bf ms m 0 p W/\W'.length+p.bg.length=W.length+p'.bg.length/\NP s' N W' Ph/\(∀j,Xb Ph j->Xb wv j\/s.next<=j)/\(∀j,Xb Ph j->Xk pb bl bp bs Pg Pf Pe j) /\
    (Pg=bb\/s.next<=Pg)/\(Pf=be\/s.next<=Pf)/\(Pe=bm\/s.next<=Pe)/\(∀j,j<s.next->Xk pb bl bp bs bb be bm j->¬Xb wv j->s'.get j=s.get j)) 0 ?_
  ⟨aic _,fun _ _=>rfl,nC,agB _,fr,p,W,wv,bb,be,bm,g8,h,hw,hz,rfl,rfl,hW,fun j=>.inl,fun j hj=>(PQ j hj).1,.inl rfl,.inl rfl,.inl rfl,fun _ _ _ _=>rfl⟩
 rintro Lp x e' s' ⟨gg,hold,xp,Vl,Xx,p',W',Ph,Pg,Pf,Pe,q8,P,LS,f_,nB,hlen,rE,U2,Iy,xn,hbe,hbm,hs⟩ IH;have q3:=(hold 3 (by omega)).trans g3;have q4:=(hold 4 (by omega)).trans g4;have tT:=(hold 11 (by omega)).trans fk;have nz:=(hold 119 (by omega)).trans nD;have lts:=h.fZ;have hle:=hB.le;have Si:=LS.few;by_cases hd:x<m
 ·have Rm:=ZN hd (by omega);have B2:=hB.keep Vl fun j h1 h2=>by
   have h3:Xk pb bl bp bs bb be bm j:=by rcases fj j with h|h;unfold Ou at h;omega;exact h
   exact hs j (by omega) h3 fun hb=>by have:=(PQ j hb).2;unfold Ou at this;omega
  have M2:=hMr.keep Vl fun j h1 h2=>by obtain⟨h3,h4⟩:=hMf j h2;exact hs j h1 h3 h4
  have ahp:∀j,Xb mv j->j<s.next:=fun j hj=>by
   rcases hMr with⟨rfl,_⟩|⟨b,rfl,_,hb⟩
   ·exact absurd hj (V' j)
   ·rw[Yl] at hj;omega
  have ahq:∀j,Xb mv j->Xk pb bl bp bs Pg Pf Pe j/\¬Xb Ph j:=fun j hj=>by
   obtain⟨h3,h4⟩:=hMf j hj;have h5:=ahp j hj;refine⟨by unfold Xk at h3 ⊢;omega,fun h6=>?_⟩;rcases U2 j h6 with h7|h7
   ·exact h4 h7
   ·omega
  have ahr:∀j,Ou lo hi j\/Xk pb bl bp bs Pg Pf Pe j:=fun j=>by
   rcases fj j with h3|h3
   ·exact .inl h3
   ·unfold Xk at h3 ⊢;unfold Ou;omega
  have alg:∀j,Xb Ph j->Ou lo hi j:=fun j hj=>by
   rcases U2 j hj with h3|h3
   ·exact (PQ j h3).2
   ·unfold Ou;omega
  have Kf:=A5 LS f_ W' (nx:=fun u=>nx u x) hM (hb x hd);have MC:∀u∈ms.flatMap (bf x),u<n:=fun u hu=>by
   rw[List.mem_flatMap] at hu;obtain⟨c,h1,h2⟩:=hu;exact ((hb x hd c (hM c h1) u).1 h2).1
  have fu:Tch p' []:=⟨by simp,fun k hk=>by simp[f_ k hk],fun k hk=>by simp at hk⟩;have ny:=PR (ms.flatMap (bf x)) LS fu MC;have adz:=OT (ms.flatMap (bf x)) p' [];have MB:=Eh hM (fun c hc=>Hd x hd c hc);rw[List.length_nil,ald] at adz;have tS:ms.length*n<=2^9*2^9:=Nat.mul_le_mul hml hn;rw[show m-x=(m-(x+1))+1 by omega,OW] at nB;unfold rF at nB Kf;simp only[go_sem,Ic,tT,nz,xp,Z8,hd,M2.SW];refine adA (N:=N) (p:=p') (T:=[]) (tv:=.ZW) (ms:=ms) (mv:=mv) (B:=B) (m:=m) (lo:=lo) (hi:=hi) (x:=x) (bf:=bf) (bx:=bx) (vs:=vs) (by omega) (by omega) hd P LS hM (by omega) (by simp;omega) (fun c hc=>⟨Hd x hd c hc,fun u hu=>((hb x hd c hc u).1 hu).1⟩) ?_ ?_ ?_ ?_ ?_ ?_ ?_ (.inl ⟨rfl,rfl⟩) (fun j hj=>absurd hj (V' j)) (by omega) M2 (fun j hj=>⟨(ahq j hj).1,V' j⟩) B2 ahr Xx ?_
  case refine_8 =>
   intro e2 s2 tv2 QF fh P2 T2 ht2 fs2 rD O1;have p8:Env.get e2 8=Ph:=by rw[QF 8 (by omega)];simp only[go_sem,q8]
   have p3:Env.get e2 3=.ptr pb 0:=by rw[QF 3 (by omega)];simp only[go_sem,q3]
   have aaO:=P.fZ;have W2:=rE.keep rD fun j h1 h2 h3=>by
    have h4:=Iy j h3;unfold Xk at h4;exact fs2 j h1 (by omega) (by omega) (by omega) (V' j)
   simp only[go_sem,fh,T2.SW];refine adB (N:=N) (p:=(YD (ms.flatMap (bf x)) p' []).1) (T:=(YD (ms.flatMap (bf x)) p' []).2) (tv:=tv2) (W:=W') (wv:=Ph) (by omega) P2 ny.wf ny.aR.nd (fun k hk=>⟨ny.aR.lt k hk,(ny.aR.mem k (ny.aR.lt k hk)).1 hk⟩) (by omega) (by omega) ?_ ?_ ?_ ?_ ?_ T2 W2 (by omega) (fun j hj=>?_) Iy O1 ?_
   case refine_7 =>
    intro e3 s3 wv3 cb ce cm Eg h3b P3 W3 xm hf3 hcb hce Ef fs3 fg rC;have ahs:Env.get e3 120=.int .i64 (x:Nat):=by
     rw[Eg 120 (by omega)];simp only[go_sem];rw[QF 120 (by omega)];simp only[go_sem,xp]
    simp only[go_sem,ahs,Rm];have PY:=Kf.rG;refine IH (x+1) _ _ (by omega) ⟨by omega,fun t ht=>?_,?_,by omega,rC,_,_,wv3,cb,ce,cm,?_,P3,Kf.wf,Kf.zero,nB,by omega,W3,fun j hj=>?_,hf3,by omega,by omega,by omega,fun j h1 h2 h3=>?_⟩
    ·have ZC:∀k:Nat,120<=k->(k=t)=False:=fun k hk=>by simp;omega
     have adC:(12=t)=False:=by simp;omega
     have nu:(13=t)=False:=by simp;omega
     simp only[go_sem,ZC];rw[Eg t (by omega)];simp only[go_sem,ZC];rw[QF t (by omega)];simp only[go_sem,ZC,adC,nu];exact hold t ht
    ·simp only[go_sem]
    ·simp only[go_sem,h3b]
    ·rcases xm j hj with h6|h6
     ·exact U2 j h6
     ·right;omega
    ·by_cases hb:Xb Ph j
     ·rcases U2 j hb with h6|h6
      ·exact absurd h6 h3
      ·omega
     ·unfold Xk at h2;rw[fs3 j (by omega) (by omega) (by omega) (by omega) (by omega) (by omega) hb,fs2 j (by omega) (by omega) (by omega) (by omega) (V' j),hs j h1 h2 h3]
   case refine_6 =>
    rcases ht2 j hj with h6|h6
    ·exact absurd h6 (V' j)
    ·refine⟨by unfold Xk;omega,fun hb=>?_⟩;have:=rE.lt hb;omega
   all_goals simp only[go_sem,p3,p8]
   all_goals rfl
  all_goals simp only[go_sem,q3,q4]
  all_goals rfl
 ·have:x=m:=by omega
  subst this;rw[Nat.sub_self,OW] at nB;rw[<-nB] at hk;simp only[go_sem,Ic,nz,xp,Z8,alh];refine hk _ _ Ph Pg Pf Pe (fun t ht=>?_) ?_ P rE U2 Iy xn hbe hbm hs Vl Xx
  ·have ZC:∀k:Nat,120<=k->(k=t)=False:=fun k hk=>by simp;omega
   simp only[go_sem,ZC];exact hold t (by omega)
  ·simp only[go_sem,q8]
theorem aj2 {b n k:Nat}(h:k<=n):Es 1 (.sl b 0 n none 1) none (some (.int .i64 (k:Int)))=some (.sl b 0 k none 1):=by
 have e1:Yz (some (.int .i64 (k:Int))) n n=some k:=by simp[Yz];omega
 have e2:Yz none 0 k=some 0:=by simp[Yz]
 simp only[Es,Option.getD_none,e1,e2,ah1,ald,if_true,Option.map_none,Nat.sub_zero]
theorem iW (Xy:Nat->Nat->List Nat)(m f:Nat)(p:Pt):Hh Xy m f p []=p:=by
 cases f <;> rfl
theorem iV (A:Fa)(x c:Nat):(M5 A x c).length<=A.n:=by
 unfold M5;have:=List.length_filter_le (fun u=>A.nx u x==c) (List.range A.n);rw[List.length_range] at this;exact this
theorem afT {β:Type}{fin:Fl->β}{ks:List K}{ZB:β->Prop}{A:Fa}(hA:A.ok){pb bl bp bs bb be bm N B lo hi F:Nat}{bx:Nat->Nat}{vs:Nat->Nat->AV}{p:Pt}{W:List Nat}{wv:AV}{e:Env}{s:St}(hn:A.n<=2^9)(hm:A.m<=2^8)(h:LI s pb A.n bl bp bs bb be bm p)(hH:ft A p W)(hF:F<=2^12)(hme:2*(A.n-p.bg.length)+W.length<=F)
  (g3:Env.get e 3=.ptr pb 0)(g4:Env.get e 4=.sl B 0 A.m (some A.m) 1)(g8:Env.get e 8=wv)
  (hW:NP s N W wv)(PQ:∀j,Xb wv j->Xk pb bl bp bs bb be bm j/\Ou lo hi j)(hN:N<=s.next)
  (hB:AT s B A.m A.n (M5 A) lo hi bx vs)(fj:∀j,Ou lo hi j\/Xk pb bl bp bs bb be bm j)(fr:Fr s)
  (hk:∀e' s' Pg Pf Pe,Env.get e' 3=.ptr pb 0->LI s' pb A.n bl bp bs Pg Pf Pe (Hh (M5 A) A.m F p W)->ZB (goN U fin ks e' s')) :
  ZB (SD U fin (.bk 6::ks) Hw e s):=by
 have lts:=h.fZ;have hle:=hB.le;refine YP (σ:=Nat) (fun f=>f) (fun f e' s'=>f<=F/\Env.get e' 3=.ptr pb 0/\Env.get e' 4=.sl B 0 A.m (some A.m) 1/\s.next<=s'.next/\Fr s' /\
   ∃p' W' Ph Pg Pf Pe,Env.get e' 8=Ph/\LI s' pb A.n bl bp bs Pg Pf Pe p'/\ft A p' W'/\2*(A.n-p'.bg.length)+W'.length<=f/\Hh (M5 A) A.m f p' W'=Hh (M5 A) A.m F p W/\NP s' N W' Ph/\(∀j,Xb Ph j->Xk pb bl bp bs Pg Pf Pe j/\Ou lo hi j)/\AT s' B A.m A.n (M5 A) lo hi bx vs/\(∀j,Ou lo hi j\/Xk pb bl bp bs Pg Pf Pe j)) F ?_
  ⟨agB _,g3,g4,agB _,fr,p,W,wv,bb,be,bm,g8,h,hH,hme,rfl,hW,PQ,hB,fj⟩
 rintro Lp f e' s' ⟨hf,q3,q4,Vl,Xx,p',W',Ph,Pg,Pf,Pe,q8,P,bU,acG,iU,rE,Iy,B',acH⟩ IH;have EK:=rE.SW;rcases List.eq_nil_or_concat W' with rfl|⟨W0,k,rfl⟩
 ·rw[iW] at iU;simp only[go_sem,Hw,q8,EK];refine hk _ _ Pg Pf Pe ?_ (by rw[<-iU];exact P);simp only[go_sem,q3]
 ·rw[List.concat_eq_append] at *;obtain⟨f,rfl⟩:∃g,f=g+1:=⟨f-1,by simp at acG;omega⟩;have Je:(W0++[k]).getLast? = some k:=by simp
  obtain⟨H2,bR⟩:=AZ hA (fun y _ c _ u=>KG A y c u) bU Je;rw[Hh,Je] at iU;simp only[List.dropLast_concat] at iU H2 bR;have hkW:=bU.work k (by simp);obtain⟨k1,k2,k3⟩:=bU.wf.sp k hkW;have Si:=bU.wf.few;have alu:=bU.wf.le;have alv:=bU.wf.ll;have PY:W0.length+1<=F:=by simp at acG;omega
  have hlen:(W0++[k]).length=W0.length+1:=by simp
  rw[hlen] at EK;obtain⟨b,R,rfl,hg,eG⟩:∃b R,Ph=.sl b 0 (W0.length+1) none 1/\s'.get b=some (.cells (ZO (W0++[k]++R)) 3 false 0 0)/\N<=b/\b<s'.next:=by
   rcases rE with⟨_,h⟩|⟨b,R,h1,h2,h3,h4⟩
   ·simp at h
   ·exact⟨b,R,by rw[h1,hlen],h2,h3,h4⟩
  have o1:(ZO (W0++[k]++R))[W0.length]? = some (.int .i64 (k:Nat)):=by
   rw[Yq (by simp),HC (by simp),yx (agB _),Nat.sub_self];rfl
  have w1:IntKind.i64.wrap (((W0.length+1:Nat):Int)-1)=(W0.length:Int):=by rw[wrap_i64] <;> omega
  have fI:decide (((W0.length+1:Nat):Int)>0)=true:=by simp
  have sl1:=aj2 (b:=b) (n:=W0.length+1) (k:=W0.length) (by omega);have o2:=Yq (l:=p'.bg) (i:=k) hkW;have o3:=Yq (l:=p'.en) (i:=k) (by omega);have ke:k<p'.en.length:=by omega
  have sl2:=acI (b:=bl) (n:=p'.list.length) (f:=gt p'.bg k) (t:=gt p'.en k) (.inl rfl) (by omega) (by omega);have aaO:=P.fZ;obtain⟨t1,t2,t3,t4,t5,t6,t7⟩:=aaO;have c1:=aj3 (s:=s'.upto (s'.next+21)) (b:=bl) (f:=gt p'.bg k) (k:=gt p'.en k-gt p'.bg k) (cap:=none) (L:=p'.list) (by rw[ZT];exact P.gl) (by rw[Z6];omega) (by omega) (by omega) (by omega);have M0:∀j q,j<s'.next->(s'.next+q=j)=False:=fun j q hj=>by simp;omega
  have lb:=eG.2;have q1:W0.length<W0.length+1:=by omega
  simp only[go_sem,Hw,q3,q4,q8,EK,hg,o1,w1,fI,sl1,o2,o3,hkW,ke,sl2,P.g,P.gb,P.ge,ah1,agc,c1,Option.map_none,q1];have fQ:∀j x y,j<s'.next->((((s'.upto (s'.next+21)).new x).new y).get j=s'.get j):=fun j x y hj=>by
   rw[Z7,Z_,Z6,if_neg (by omega),Z7,Z6,if_neg (by omega),ZT]
  have Mw:(piece p'.list (gt p'.bg k) (gt p'.en k)).length=gt p'.en k-gt p'.bg k:=Jv (by omega);have hms:∀u∈piece p'.list (gt p'.bg k) (gt p'.en k),u<A.n:=fun u hu=>by
   obtain⟨i,h1,h2,rfl⟩:=(NR (by omega)).1 hu;exact (bU.wf.li i (by omega)).1
  refine ady (N:=N) (n:=A.n) (m:=A.m) (nx:=A.nx) (B:=B) (lo:=lo) (hi:=hi) (bx:=bx) (vs:=vs) (bf:=M5 A) (p:=p') (W:=W0) (wv:=.sl b 0 W0.length none 1) (ms:=piece p'.list (gt p'.bg k) (gt p'.en k)) (mv:=.sl (s'.next+22) 0 (gt p'.en k-gt p'.bg k) none 1) hn hm (P.mono (by simp only[Z_,Z6];omega) fun j hj=>fQ j _ _ (P.lt j hj)) bU.wf bU.zero hms (by omega) (by omega) (fun y _ c _ u=>KG A y c u) (fun y _ c _=>iV A y c) ?_ ?_ ?_ ?_ ?_ ?_ (.inr ⟨b,[k]++R,rfl,?_,eG.1,?_⟩) (fun j hj=>?_) ?_ (.inr ⟨s'.next+22,?_,?_,?_⟩) (fun j hj=>?_) (B'.keep (by simp only[Z_,Z6];omega) fun j h1 h2=>fQ j _ _ (by omega)) acH ?_ ?_
  case refine_16 =>
   intro e2 s2 wv2 cb ce cm QF fh P2 W2 S4 hf2 hcb hce Ef fs2 rD O1;simp only[Z_,Z6] at rD fs2 S4 hcb hce Ef;simp only[go_sem];refine IH f _ _ (by omega) ⟨by omega,?_,?_,by omega,O1,_,_,wv2,cb,ce,cm,fh,P2,H2,by simp at acG;omega,iU,W2,fun j hj=>⟨hf2 j hj,?_⟩,?_,fun j=>?_⟩
   ·rw[QF 3 (by omega)];simp only[go_sem,q3]
   ·rw[QF 4 (by omega)];simp only[go_sem,q4]
   ·rcases S4 j hj with h6|h6
    ·rw[Yl] at h6;exact (Iy j ((Yl _ _ _).2 h6)).2
    ·unfold Ou;omega
   ·refine B'.keep (by omega) fun j h1 h2=>?_
    have h3:Xk pb bl bp bs Pg Pf Pe j:=by rcases acH j with h|h;unfold Ou at h;omega;exact h
    rw[fs2 j (by omega) h3 (fun hb=>by
     rw[Yl] at hb;have:=(Iy j ((Yl _ _ _).2 hb)).2;unfold Ou at this;omega),fQ j _ _ (by omega)]
   ·rcases acH j with h3|h3
    ·exact .inl h3
    ·unfold Xk at h3 ⊢;unfold Ou;omega
  case refine_15=>exact ((Xx.upto (by omega)).new _).new _
  case refine_14 =>
   rw[Yl] at hj;subst hj;rw[Yl];refine⟨by unfold Xk;omega,by omega⟩
  case refine_13=>simp only[Z_,Z6];omega
  case refine_12=>rw[Z7,Z_,Z6,if_pos rfl];rfl
  case refine_11=>rw[Mw]
  case refine_10=>simp only[Z_,Z6];omega
  case refine_9 =>
   rw[Yl] at hj;exact Iy j ((Yl _ _ _).2 hj)
  case refine_8=>simp only[Z_,Z6];omega
  case refine_7=>rw[fQ _ _ _ eG.2,hg,alS]
  all_goals simp only[go_sem,q3,q4]
  all_goals rfl
end Go.Am
