/- A part of the proof. -/
import GoSem.Dispatch
import Derived.RowKit3
import Derived.Laws.OwnMore
import Derived.Laws.Sem
import Derived.Laws.Strings
import Derived.Laws.StructEq
import Derived.Laws.Slices
import Derived.Laws.Cells
import Derived.Laws.BytesString
import Derived.Laws.Entries
import Derived.Laws.Bits
import Derived.RangeFuncLeaves
import Derived.Orders
import Derived.RangeFuncCalls
import Derived.Scope
import Derived.RangeFuncRecord
set_option linter.all false
namespace Go.Am
theorem J {p:Prop}(h:p:=by omega):p:=h
theorem F_ {p:Prop}(h:p:=by simp;omega):p:=h
def Mo {p:Prop}(h:p:=by decide):p:=h
def No {p:Prop}(h:p:=by simp):p:=h
def O3:=@if_neg
def Of:=@if_pos
def aaa:=@List.getElem?_eq_getElem
def aab:=@List.mem_cons_of_mem
def aba:=@List.mem_cons_self
def adm:=@List.getElem_mem
def aea:=@List.drop_eq_getElem_cons
def ahe:=@Bool.and_eq_true
def ala:=@List.length_map
def ann:=@List.length_append
def api:=@Nat.le_refl
def apV:=@Array.getElem?_eq_some_iff
def apW:=@Nat.zero_le
def apX:=@List.getElem?_eq_some_iff
def apY:=@List.mem_singleton
def ap0:=@List.mem_map
def ap1:=@List.length_cons
def ap2:=@Nat.add_assoc
def ap3:=@Nat.mul_one
def ap4:=@Nat.zero_add
def ap5:=@Nat.lt_irrefl
def ap6:=@List.getD_eq_getElem?_getD
def ap7:=@List.take_succ_eq_append_getElem
def ap8:=@List.all_eq_true
def ap9:=@List.mem_cons
def aqa:=@Bool.false_eq_true
def aqb:=@Option.some.inj
def aqc:=@List.getElem?_map
def aqd:=@List.mem_iff_getElem
def aqe:=@List.map_cons
def aqf:=@List.map_append
def aqg:=@List.mem_range
def aqh:=@List.length_singleton
def aqi:=@List.drop_length
def aqj:=@Array.length_toList
def aqk:=@List.cons_append
def aql:=@List.getElem?_append_left
def aqm:=@List.mem_append
def aqn:=@List.mem_of_getElem?
def aqo:=@List.length_eq_zero_iff
def aqp:=@List.flatMap_cons
def aqq:=@Array.getElem?_toList
def aqr:=@Bool.true_and
def aqs:=@List.append_assoc
def aqt:=@Int.toNat_natCast
def aqu:=@Array.getD_eq_getD_getElem?
def aqv:=@List.getElem?_cons_succ
def aqw:=@List.append_nil
def aqx:=@Bool.or_eq_false_iff
def aqy:=@List.drop_zero
def aqz:=@Array.getElem?_eq_getElem
def aqA:=@List.getElem?_eq_none
def aqB:=@Bool.not_true
def aqC:=@Nat.mul_le_mul_right
def aqD:=@List.map_congr_left
def aqE:=@Bool.false_or
def aqF:=@Bool.not_false
def aqG:=@Option.map_some
def aqH:=@List.length_set
def aqI:=@Bool.eq_iff_iff
def aqJ:=@Nat.lt_of_le_of_lt
def aqK:=@Bool.false_and
def aqL:=@Array.getElem?_push
def aqM:=@Nat.le_trans
def aqN:=@List.take_length
def aqO:=@List.length_take
def aqP:=@Nat.one_mul
def aqQ:=@List.nil_append
def aqR:=@List.length_range
def aqS:=@Bool.not_eq_true'
def aqT:=@List.drop_left
def aqU:=@Option.map_eq_some_iff
def aqV:=@List.drop_eq_nil_of_le
def aqW:=@List.nodup_cons
def aqX:=@List.getElem_append_left
def aqY:=@List.map_map
def aqZ:=@List.getElem?_append_right
def aq0:=@Bool.or_eq_true
def aq1:=@Option.isNone_iff_eq_none
def aq2:=@List.getElem_append_right
def aq3:=@Nat.add_mul
def aq4:=@Array.getElem?_setIfInBounds
def aq5:=@List.drop_succ_cons
def aq6:=@Option.getD_some
open Go
inductive AV where
 |bool (b:Bool)|int (k:IntKind) (n:Int)|zr (k:FloatKind) (bits:Nat)|str (s:List UInt8)
 |U4|ptr (b o:Nat)
 |ZQ|sl (b o len:Nat) (cap:Option Nat) (Vl:Nat)
 |O'|map (r:Nat)|VC|fn (f:Fn) (first cap:List AV)
 |Tz|iface (t:TypeId) (v:AV)|agg (cs:List AV)|XQ (vs:List AV)
 |fz (es:List AV)|fp (cs:List AV) (o:Nat)|fm (ks vs:List AV)
 deriving Inhabited
inductive Tr (α:Type) where
 |nil
 |n (v:Option α) (l r:Tr α)
def Tr.get {α:Type}:Tr α->Nat->Option α
 |.nil,_=>none
 |.n v l r,k=>match k with
  |0=>v
  |k'+1=>cond (Nat.beq (k'%2) 0) (l.get (k' / 2)) (r.get (k' / 2))
def Tr.OC {α:Type}:Nat->Tr α->Nat->α->Tr α
 |0,t,_,_=>t
 |f+1,.nil,k,x=>match k with
  |0=>.n (some x) .nil .nil
  |k'+1=>cond (Nat.beq (k'%2) 0) (.n none (Tr.OC f .nil (k' / 2) x) .nil) (.n none .nil (Tr.OC f .nil (k' / 2) x))
 |f+1,.n v l r,k,x=>match k with
  |0=>.n (some x) l r
  |k'+1=>cond (Nat.beq (k'%2) 0) (.n v (Tr.OC f l (k' / 2) x) r) (.n v l (Tr.OC f r (k' / 2) x))
def Tr.set {α:Type}(t:Tr α)(k:Nat)(x:α):Tr α:=Tr.OC (k+1) t k x
abbrev Env:=Tr AV
inductive Uf where
 |cells (c:List AV) (elem:TypeId) (ro:Bool) (N3 O_:Nat)
 |gone
 |map (es:List (AV×AV)) (ro:Bool)
 |iter (s:List UInt8) (pos:Nat)
 |loop (state:Nat) (pending:Option Code) (env:Env) (params:List Tmp) (assign body:Code)
structure St where
 t:Tr Uf
 base:Nat->Option Uf
 next:Nat
def St.get (s:St)(b:Nat):Option Uf:=match s.t.get b with
 |some x=>some x
 |none=>s.base b
def St.put (s:St)(b:Nat)(x:Uf):St:={ s with t:=s.t.set b x }
def St.new (s:St)(x:Uf):St:={ s with t:=s.t.set s.next x,next:=s.next+1 }
structure Cx where
 Zd:TypeId->Option TypeDesc
 inf:TypeId->Option TypeInfo
 fn:FuncId->Option Func
 glob:Nat
 AN:TypeId->Bool
 ext:FuncId->Option (List AV->St->Option (AV×St))
 K0:Nat->Option Uf
 pure:FuncId->Bool
 spec:TypeId->Bool
def undef:AV:=.XQ []
def Env.get (e:Env)(t:Tmp):AV:=match Tr.get e t with
 |some v=>v
 |none=>undef
def ofV:Nat->Value->Option AV
 |0,_=>none
 |n+1,v=>match v with
  |.bool b=>some (.bool b)
  |.int k i=>some (.int k i)
  |.float k b=>some (.zr k b)
  |.string s=>some (.str s.data.toList)
  |.pointer none=>some .U4
  |.slice none 0 0=>some .ZQ
  |.map none=>some .O'
  |.nilFunc=>some .VC
  |.nilIface=>some .Tz
  |.agg cs=>(cs.toList.mapM (ofV n)).map .agg
  |.tuple cs=>(cs.toList.mapM (ofV n)).map .XQ
  |_=>none
def AV.cells:AV->List AV
 |.agg cs=>cs
 |v=>[v]
mutual
def same:AV->AV->Bool
 |.bool a,.bool b=>a==b
 |.int k a,.int j b=>decide (k=j)&&a==b
 |.zr k a,.zr j b=>decide (k=j)&&a==b
 |.str a,.str b=>a==b
 |.U4,.U4=>true
 |.ptr a b,.ptr c d=>a==c&&b==d
 |.ZQ,.ZQ=>true
 |.sl a b c d e,.sl a' b' c' d' e'=>a==a'&&b==b'&&c==c'&&d==d'&&e==e'
 |.O',.O'=>true
 |.map a,.map b=>a==b
 |.VC,.VC=>true
 |.fn f x y,.fn g x' y'=>decide (f=g)&&V_ x x'&&V_ y y'
 |.Tz,.Tz=>true
 |.iface t x,.iface u y=>t==u&&same x y
 |.agg a,.agg b=>V_ a b
 |.XQ a,.XQ b=>V_ a b
 |.fz a,.fz b=>V_ a b
 |.fp a o,.fp b o'=>o==o'&&V_ a b
 |.fm a b,.fm a' b'=>V_ a a'&&V_ b b'
 |_,_=>false
def V_:List AV->List AV->Bool
 |[],[]=>true
 |a::x,b::y=>same a b&&V_ x y
 |_,_=>false
end
section
variable (X:Cx)
def eval (e:Env):Operand->Option AV
 |.tmp t=>some (e.get t)
 |.const v=>ofV 3 v
 |.global g=>if g<X.glob then some (.ptr g 0) else none
 |.func f=>some (.fn (.func f) [] [])
def size (t:TypeId):Option Nat:=match X.inf t with
 |some i=>some i.size
 |none=>none
def Ys (t:TypeId):Option Bool:=match X.Zd t with
 |some (.struct _)=>some true
 |some (.array _ _)=>some true
 |some _=>some false
 |none=>none
def zero (t:TypeId):Option AV:=match X.inf t with
 |some i=>match i.zero with
  |some z=>ofV 3 z
  |none=>none
 |none=>none
def St.cells (s:St)(b:Nat):Option (List AV):=match s.get b with
 |some (.cells c _ _ _ _)=>some c
 |_=>none
def Xi:Nat->Nat->List AV->Option (List AV)
 |0,_,_=>some []
 |_+1,_,[]=>none
 |n+1,0,x::l=>match Xi n 0 l with
  |some r=>some (x::r)
  |none=>none
 |n+1,o+1,_::l=>Xi (n+1) o l
def lay:Nat->List AV->List AV->Option (List AV)
 |_,[],l=>some l
 |_,_::_,[]=>none
 |0,v::vs,_::l=>match lay 0 vs l with
  |some r=>some (v::r)
  |none=>none
 |o+1,v::vs,x::l=>match lay o (v::vs) l with
  |some r=>some (x::r)
  |none=>none
def cell (s:St)(b o:Nat):Option AV:=match s.cells b with
 |some c=>c[o]?
 |none=>none
def UA (t:TypeId)(a:AV)(s:St):Option AV:=match a with
 |.ptr b o=>match Ys X t with
  |some true=>match size X t,s.cells b with
   |some n,some c=>match Xi n o c with
    |some r=>some (.agg r)
    |none=>none
   |_,_=>none
  |some false=>cell s b o
  |none=>none
 |.fp c o=>match Ys X t with
  |some true=>match size X t with
   |some n=>match Xi n o c with
    |some r=>some (.agg r)
    |none=>none
   |none=>none
  |some false=>c[o]?
  |none=>none
 |_=>none
def Zu:AV->Bool
 |.agg _=>false
 |.XQ _=>false
 |_=>true
def WX (s:St)(b o:Nat)(vs:List AV):Option St:=match s.get b with
 |some (.cells c e false N3 O_) =>
  if (o+vs.length<=N3||O_<=o)&&vs.all Zu then
   match lay o vs c with
   |some c'=>some (s.put b (.cells c' e false N3 O_))
   |none=>none
  else none
 |_=>none
def Lw (t:TypeId)(a v:AV)(s:St):Option St:=match a with
 |.ptr b o=>match size X t with
  |some n=>if v.cells.length=n then WX s b o v.cells else none
  |none=>none
 |_=>none
def Rz (t:TypeId)(cs:List AV)(off:Nat):Option AV:=match Ys X t with
 |some true=>match size X t with
  |some n=>match Xi n off cs with
   |some r=>some (.agg r)
   |none=>none
  |none=>none
 |some false=>cs[off]?
 |none=>none
def Ko (place:Nat->Option (Nat×Nat))(cells:List AV):List (Nat×AV)->Option (List AV)
 |[]=>some cells
 |(i,v)::rest=>match place i with
  |none=>none
  |some (off,n)=>if v.cells.length=n/\off+n<=cells.length then
    match lay off v.cells cells with
    |some c=>Ko place c rest
    |none=>none
   else none
def Vw (e:Env):List (Nat×Operand)->Option (List (Nat×AV))
 |[]=>some []
 |(i,x)::l=>match eval X e x,Vw e l with
  |some v,some r=>some ((i,v)::r)
  |_,_=>none
def Vx (e:Env):List Operand->Option (List AV)
 |[]=>some []
 |x::l=>match eval X e x,Vx e l with
  |some v,some r=>some (v::r)
  |_,_=>none
def UC:Nat->List AV->List AV
 |0,_=>[]
 |n+1,l=>l++UC n l
def MW:List Field->Option (List (Nat×Nat))
 |[]=>some []
 |f::l=>match size X f.type,MW l with
  |some n,some r=>some ((f.offset,n)::r)
  |_,_=>none
def FF (t:TypeId)(parts:List (Nat×AV)):Option AV:=match zero X t with
 |some (.agg z)=>match X.Zd t with
  |some (.struct fs)=>match MW X fs.toList with
   |some pl=>match Ko (λi=>pl[i]?) z parts with
    |some c=>some (.agg c)
    |none=>none
   |none=>none
  |some (.array _ elem)=>match size X elem with
   |some n=>match Ko (λi=>some (i*n,n)) z parts with
    |some c=>some (.agg c)
    |none=>none
   |none=>none
  |_=>none
 |_=>none
def Vc (s:St)(c:List AV)(e:TypeId):AV×St:=(.ptr s.next 0,s.new (.cells c e false 0 0))
def T0 (t:TypeId)(len:Nat)(parts:List (Nat×AV))(s:St):Option (AV×St):=match X.Zd t with
 |some (.slice elem)=>match size X elem,zero X elem with
  |some n,some z =>
   if z.cells.length=n/\n≠0/\len*n<=2^24 then match Ko (λi=>some (i*n,n)) (UC len z.cells) parts with
   |some c=>some (.sl s.next 0 len (some len) n,s.new (.cells c elem false 0 0))
   |none=>none
   else none
  |_,_=>none
 |_=>none
def Sd:List UInt8->List UInt8->Bool
 |_,[]=>false
 |[],_::_=>true
 |a::x,b::y=>a<b||(a==b&&Sd x y)
def QQ (f:AV->AV->Option Bool)(cut:Nat->List AV->Option AV)(n:Nat):Nat->Nat->List AV->List AV->Option Bool
 |0,_,_,_=>some true
 |k+1,i,a,b=>match cut (i*n) a,cut (i*n) b with
  |some x,some y=>match f x y with
   |some true=>QQ f cut n k (i+1) a b
   |some false=>some false
   |none=>none
  |_,_=>none
def MZ (f:TypeId->AV->AV->Option Bool)(cut:TypeId->Nat->List AV->Option AV):List Field->List AV->List AV->Option Bool
 |[],_,_=>some true
 |fd::fs,a,b=>if fd.name = "_" then none else match cut fd.type fd.offset a,cut fd.type fd.offset b with
  |some x,some y=>match f fd.type x y with
   |some true=>MZ f cut fs a b
   |some false=>some false
   |none=>none
  |_,_=>none
def yB:Nat->TypeId->AV->AV->Option Bool
 |0,_,_,_=>none
 |d+1,t,x,y=>match X.Zd t,x,y with
  |some .bool,.bool a,.bool b=>some (a==b)
  |some (.int _),.int k a,.int k' b=>if k=k' then some (a==b) else none
  |some .string,.str a,.str b=>some (a==b)
  |some (.pointer _),.U4,.U4=>some true
  |some (.pointer _),.U4,.ptr _ _=>some false
  |some (.pointer _),.ptr _ _,.U4=>some false
  |some (.pointer e),.ptr b o,.ptr b' o'=>match size X e with
   |some (_+1)=>if b=b' then some (o==o') else none
   |_=>none
  |some (.slice _),.ZQ,.ZQ=>some true
  |some (.slice _),.ZQ,.sl ..=>some false
  |some (.slice _),.sl ..,.ZQ=>some false
  |some (.slice _),.ZQ,.fz _=>some false
  |some (.slice _),.fz _,.ZQ=>some false
  |some (.map _ _),.O',.O'=>some true
  |some (.map _ _),.O',.map _=>some false
  |some (.map _ _),.map _,.O'=>some false
  |some (.func _ _ _),.VC,.VC=>some true
  |some (.func _ _ _),.VC,.fn ..=>some false
  |some (.func _ _ _),.fn ..,.VC=>some false
  |some (.interface _),.Tz,.Tz=>some true
  |some (.interface _),.Tz,.iface ..=>some false
  |some (.interface _),.iface ..,.Tz=>some false
  |some (.struct fs),.agg a,.agg b=>if X.AN t then MZ (yB d) (λt o l=>Rz X t l o) fs.toList a b else none
  |some (.array len e),.agg a,.agg b=>match size X e with
   |some n=>QQ (yB d e) (λo l=>Rz X e l o) n len 0 a b
   |none=>none
  |_,_,_=>none
def HS (cst:Bool)(t:TypeId)(x y:AV):Option Bool:=match x,y with
 |.Tz,.Tz=>if cst then yB X 20 t .Tz .Tz else none
 |.agg a,.agg b=>if X.AN t then yB X 20 t (.agg a) (.agg b) else none
 |x,y=>yB X 20 t x y
def TI:Operand->Bool
 |.const _=>true
 |_=>false
def IN (op:BinOp)(k:IntKind)(x y:Int):Option AV :=
 if y<0 then none else
 let n:=min y.toNat k.bits
 match op with
 |.shl=>some (.int k (k.wrap (x*2^n)))
 |.shr=>some (.int k (x.fdiv (2^n)))
 |_=>none
def Oj (op:BinOp)(k:IntKind)(x y:Int):Option AV:=match op with
 |.add=>some (.int k (k.wrap (x+y)))
 |.sub=>some (.int k (k.wrap (x-y)))
 |.mul=>some (.int k (k.wrap (x*y)))
 |.quo=>if y=0 then none else some (.int k (k.wrap (x.tdiv y)))
 |.rem=>if y=0 then none else some (.int k (x.tmod y))
 |.and=>some (.int k (k.wrap ((BitVec.ofInt k.bits x &&& BitVec.ofInt k.bits y).toNat)))
 |.or=>some (.int k (k.wrap ((BitVec.ofInt k.bits x ||| BitVec.ofInt k.bits y).toNat)))
 |.xor=>some (.int k (k.wrap ((BitVec.ofInt k.bits x ^^^ BitVec.ofInt k.bits y).toNat)))
 |.andNot=>some (.int k (k.wrap ((BitVec.ofInt k.bits x &&& ~~~ BitVec.ofInt k.bits y).toNat)))
 |.eql=>some (.bool (x==y))
 |.neq=>some (.bool (x != y))
 |.lss=>some (.bool (x<y))
 |.leq=>some (.bool (x<=y))
 |.gtr=>some (.bool (x>y))
 |.geq=>some (.bool (x>=y))
 |_=>none
def fc (op:BinOp)(x y:List UInt8):Option AV:=match op with
 |.add=>if x.length+y.length<2^62 then some (.str (x++y)) else none
 |.eql=>some (.bool (x==y))
 |.neq=>some (.bool !(x==y))
 |.lss=>some (.bool (Sd x y))
 |.leq=>some (.bool (Sd x y||x==y))
 |.gtr=>some (.bool !(Sd x y||x==y))
 |.geq=>some (.bool !(Sd x y))
 |_=>none
def aew (op:BinOp)(k:FloatKind)(a b:Nat):Option AV:=match op with
 |.eql=>some (.bool (k.format.order a b==some .eq))
 |.neq=>some (.bool (k.format.order a b != some .eq))
 |.lss=>some (.bool (k.format.order a b==some .lt))
 |.leq=>some (.bool (k.format.order a b==some .lt||k.format.order a b==some .eq))
 |.gtr=>some (.bool (k.format.order a b==some .gt))
 |.geq=>some (.bool (k.format.order a b==some .gt||k.format.order a b==some .eq))
 |.add=>(k.format.add a b).map (.zr k)
 |.sub=>(k.format.sub a b).map (.zr k)
 |.mul=>(k.format.mul a b).map (.zr k)
 |.quo=>(k.format.div a b).map (.zr k)
 |_=>none
def Xj (op:BinOp)(t:TypeId)(cst:Bool)(x y:AV):Option AV:=match op,x,y with
 |.shl,.int k a,.int _ b=>IN .shl k a b
 |.shr,.int k a,.int _ b=>IN .shr k a b
 |op,.int k a,.int k' b=>if k=k' then Oj op k a b else none
 |op,.str a,.str b=>fc op a b
 |op,.zr k a,.zr k' b=>if k=k' then aew op k a b else none
 |.eql,x,y=>match HS X cst t x y with|some b=>some (.bool b)|none=>none
 |.neq,x,y=>match HS X cst t x y with|some b=>some (.bool !b)|none=>none
 |_,_,_=>none
def unA (op:UnOp)(x:AV):Option AV:=match op,x with
 |.neg,.int k n=>some (.int k (k.wrap (0-n)))
 |.xor,.int k n=>Oj .xor k (if k.signed then -1 else k.max) n
 |.not,.bool b=>some (.bool !b)
 |_,_=>none
def WW:List AV->Option (List UInt8)
 |[]=>some []
 |.int .u8 n::l=>match WW l with
  |some r=>some (UInt8.ofNat n.toNat::r)
  |none=>none
 |_=>none
def Rw (src dst:TypeId)(x:AV)(s:St):Option (AV×St):=match X.Zd src,X.Zd dst,x with
 |some _,some (.int k),.int _ n=>some (.int k (k.wrap n),s)
 |some _,some .string,.int _ n=>some (.str (Utf8.encode n).data.toList,s)
 |some _,some .string,.str b=>some (.str b,s)
 |some _,some (.slice e),.str b=>match X.Zd e with
  |some (.int .u8)=>some (.sl s.next 0 b.length none 1,s.new (.cells (b.map λc=>.int .u8 c.toNat) e false 0 0))
  |_=>none
 |some (.slice e),some .string,x=>match X.Zd e with
  |some (.int .u8)=>match x with
   |.ZQ=>some (.str [],s)
   |.sl b o len _ _=>match s.cells b with
    |some c=>match Xi len o c with
     |some r=>match WW r with
      |some bs=>some (.str bs,s)
      |none=>none
     |none=>none
    |none=>none
   |.fz es=>match WW es with
    |some bs=>some (.str bs,s)
    |none=>none
   |_=>none
  |_=>none
 |_,_,_=>none
def Yv (x:Option AV)(s_ y:Nat):Option Nat:=match x with
 |none=>some s_
 |some (.int _ i)=>if 0<=i/\i<=y then some i.toNat else none
 |_=>none
def O1 (t:TypeId)(x:AV)(lo hi mx:Option AV):Option AV:=match X.Zd t,x with
 |some .string,.str b=>match mx,Yv hi b.length b.length with
  |none,some h=>match Yv lo 0 h with
   |some l=>some (.str ((b.take h).drop l))
   |none=>none
  |_,_=>none
 |some (.slice e),.sl b o len cap Vl=>match size X e,mx with
  |some n,none=>match Yv hi len (cap.getD len) with
   |some h=>match Yv lo 0 h with
    |some l=>some (.sl b (o+l*n) (h-l) (cap.map (·-l)) (if Vl=n then n else 0))
    |none=>none
   |none=>none
  |some n,some m=>match Yv (some m) 0 (cap.getD len),hi with
   |some m',some _=>match Yv hi 0 m' with
    |some h=>match Yv lo 0 h with
     |some l=>some (.sl b (o+l*n) (h-l) (some (m'-l)) (if Vl=n then n else 0))
     |none=>none
    |none=>none
   |_,_=>none
  |none,_=>none
 |some (.slice e),.ZQ=>match size X e,mx,Yv hi 0 0 with
  |some _,none,some h=>match Yv lo 0 h with
   |some _=>some .ZQ
   |none=>none
  |_,_,_=>none
 |some (.slice e),.fz es=>match size X e,mx,Yv hi es.length es.length with
  |some n,none,some h=>match Yv lo 0 h with
   |some l=>if es.all (λx=>x.cells.length==n) then some (.fz ((es.take h).drop l)) else none
   |none=>none
  |_,_,_=>none
 |some (.array n e),.ptr b o=>match size X e,mx,Yv hi n n with
  |some z,none,some h=>match Yv lo 0 h with
   |some l=>some (.sl b (o+l*z) (h-l) (some (n-l)) 0)
   |none=>none
  |_,_,_=>none
 |_,_=>none
def Rm (t:TypeId)(x:AV)(f:Nat):Option AV:=match X.Zd t,x with
 |some (.struct fs),.ptr b o=>match fs[f]? with
  |some fd=>match size X fd.type with
   |some (_+1)=>some (.ptr b (o+fd.offset))
   |_=>none
  |none=>none
 |some (.struct fs),.fp c o=>match fs[f]? with
  |some fd=>match size X fd.type with
   |some (_+1)=>some (.fp c (o+fd.offset))
   |_=>none
  |none=>none
 |_,_=>none
def Vj (t:TypeId)(x i:AV):Option AV:=match i with
 |.int _ i=>match X.Zd t,x with
  |some (.slice e),.sl b o len _ _=>if 0<=i/\i<len then
    match size X e with|some n=>some (.ptr b (o+i.toNat*n))|none=>none
   else none
  |some (.array len e),.ptr b o=>if 0<=i/\i<len then
    match size X e with|some n=>some (.ptr b (o+i.toNat*n))|none=>none
   else none
  |some (.slice e),.fz es=>if 0<=i then match es[i.toNat]?,size X e with
   |some x,some n=>if x.cells.length=n/\n≠0 then some (.fp x.cells 0) else none
   |_,_=>none
   else none
  |some (.array len e),.fp c o=>if 0<=i/\i<len then
    match size X e with|some n=>some (.fp c (o+i.toNat*n))|none=>none
   else none
  |_,_=>none
 |_=>none
def Fp (t:TypeId)(x i:AV):Option AV:=match i with
 |.int _ i=>match X.Zd t,x with
  |some (.array len e),.agg cs=>if 0<=i/\i<len then
    match size X e with|some n=>Rz X e cs (i.toNat*n)|none=>none
   else none
  |some .string,.str b=>if 0<=i then
    match b[i.toNat]? with|some c=>some (.int .u8 c.toNat)|none=>none
   else none
  |_,_=>none
 |_=>none
def Vk:List AV->Bool
 |[]=>true
 |.int .i64 _::l=>Vk l
 |_=>false
def Vr (t:TypeId)(k:AV):Bool:=match X.Zd t,k with
 |some (.int k),.int k' _=>decide (k=k')
 |some .string,.str _=>true
 |some .bool,.bool _=>true
 |some (.array len e),.agg cs=>Vk cs&&cs.length==len&&(match X.Zd e,size X e with|some (.int .i64),some 1=>true|_,_=>false)
 |_,_=>false
def VP:AV->AV->Option Bool
 |.int k a,.int k' b=>if k=k' then some (a==b) else none
 |.str a,.str b=>some (a==b)
 |.bool a,.bool b=>some (a==b)
 |.agg a,.agg b=>if Vk a&&Vk b&&a.length==b.length then some (V_ a b) else none
 |_,_=>none
def UY (k:AV):List (AV×AV)->Option (Option AV)
 |[]=>some none
 |(k',v)::l=>match VP k k' with
  |some true=>some (some v)
  |some false=>UY k l
  |none=>none
def Km (k v:AV):List (AV×AV)->Option (List (AV×AV))
 |[]=>some [(k,v)]
 |(k',v')::l=>match VP k k' with
  |some true=>some ((k,v)::l)
  |some false=>match Km k v l with|some r=>some ((k',v')::r)|none=>none
  |none=>none
def WM (t:TypeId)(m k:AV)(ok:Bool)(s:St):Option AV:=match X.Zd t with
 |some (.map key elem)=>if Vr X key k then
  let r:Option (Option AV):=match m with
   |.O'=>some none
   |.map b=>match s.get b with
    |some (.map es _)=>UY k es
    |_=>none
   |.fm ks vs=>UY k (ks.zip vs)
   |_=>none
  match r with
  |some (some v)=>some (if ok then .XQ [v,.bool true] else v)
  |some none=>match zero X elem with
   |some z=>some (if ok then .XQ [z,.bool false] else z)
   |none=>none
  |none=>none
  else none
 |_=>none
def VZ (t:TypeId)(m k v:AV)(s:St):Option St:=match X.Zd t,m with
 |some (.map key _),.map b=>if Vr X key k then match s.get b with
  |some (.map es false)=>match Km k v es with
   |some es'=>some (s.put b (.map es' false))
   |none=>none
  |_=>none
  else none
 |_,_=>none
def VH (n:Nat)(x:AV)(s:St):Option (Nat×List AV):=match x with
 |.ZQ=>some (0,[])
 |.sl b o len _ _=>match s.cells b with
  |some c=>match Xi (len*n) o c with
   |some r=>some (len,r)
   |none=>none
  |none=>none
 |.str b=>some (b.length,b.map λc=>.int .u8 c.toNat)
 |.fz es=>if es.all (λx=>x.cells.length==n)&&n != 0 then some (es.length,es.flatMap AV.cells) else none
 |_=>none
def WV:AV->Nat
 |.sl _ _ n _ _=>n
 |.fz es=>es.length
 |_=>0
def GR (z:Option Value)(n:Nat):Bool:=match z with
 |some z=>z.cells.size != n
 |none=>true
def MN (t:TypeId)(d x:AV)(s:St):Option (AV×St):=match X.Zd t with
 |some (.slice elem)=>match X.inf elem,size X elem with
  |some ei,some n=>match VH n x s with
   |some (m,new) =>
    if new.length≠m*n\/(WV d+m)*ei.bytes>2^40\/ei.bytes>2^20\/WV d+m>2^40\/n=0\/ei.bytes=0\/GR ei.zero n=true\/X.spec elem=true then none
    else if m=0 then match d with
     |.ZQ=>some (d,s)
     |.sl ..=>some (d,s)
     |.fz _=>some (d,s)
     |_=>none
    else match d with
    |.ZQ=>some (.sl s.next 0 m none n,s.new (.cells new elem false 0 0))
    |.sl b o len cap Vl=>match s.cells b with
     |some c=>match Xi (len*n) o c with
      |some old =>
       match cap with
       |some k=>if len+m<=k then
         if Vl=n then match WX s b (o+len*n) new with
          |some s'=>some (.sl b o (len+m) (some k) n,s')
          |none=>none
         else none
        else some (.sl s.next 0 (len+m) none n,s.new (.cells (old++new) elem false 0 0))
       |none=>match s.get b with
        |some (.cells _ e0 false N3 O_) =>
         if Vl=n/\O_<=o+len*n/\e0=elem/\new.all Zu=true then
          some (.sl s.next 0 (len+m) none n,(s.put b .gone).new (.cells (old++new) elem false (N3-o) (O_-o)))
         else none
        |_=>none
      |none=>none
     |none=>none
    |_=>none
   |none=>none
  |_,_=>none
 |_=>none
def lX (k:IntKind):Int->List AV->Option AV
 |x,[]=>some (.int k x)
 |x,.int _ y::l=>lX k (if y<x then y else x) l
 |_,_=>none
def lW (k:IntKind):Int->List AV->Option AV
 |x,[]=>some (.int k x)
 |x,.int _ y::l=>lW k (if y>x then y else x) l
 |_,_=>none
def XX (b:Builtin)(ts:Array TypeId)(args:List AV)(s:St):Option (AV×St):=match b,args with
 |.len,[x]=>match ts[0]? with
  |some t=>match X.Zd t,x with
   |some .string,.str l=>some (.int .i64 l.length,s)
   |some (.slice _),.ZQ=>some (.int .i64 0,s)
   |some (.slice _),.sl _ _ n _ _=>some (.int .i64 n,s)
   |some (.slice _),.fz es=>some (.int .i64 es.length,s)
   |some (.map _ _),.fm ks _=>some (.int .i64 ks.length,s)
   |some (.map _ _),.O'=>some (.int .i64 0,s)
   |some (.map _ _),.map r=>match s.get r with
    |some (.map es _)=>some (.int .i64 es.length,s)
    |_=>none
   |some (.array n _),_=>some (.int .i64 n,s)
   |some (.pointer p),_=>match X.Zd p with
    |some (.array n _)=>some (.int .i64 n,s)
    |_=>none
   |_,_=>none
  |none=>none
 |.append,[d,x]=>match ts[0]?,ts[1]? with
  |some t,some u=>match X.Zd u with
   |some (.slice _)=>MN X t d x s
   |some .string=>MN X t d x s
   |_=>none
  |_,_=>none
 |.min,.int k x::l=>match lX k x l with
  |some v=>some (v,s)
  |none=>none
 |.max,.int k x::l=>match lW k x l with
  |some v=>some (v,s)
  |none=>none
 |.unsafeSliceData,[x]=>match x with
  |.ZQ=>some (.U4,s)
  |.sl b o (_+1) _ _=>some (.ptr b o,s)
  |_=>none
 |.unsafeString,[p,.int _ n]=>if ts.size=0 then none else match p with
  |.U4=>if n=0 then some (.str [],s) else none
  |.ptr b o=>if n=0 then some (.str [],s) else if n<0\/n>2^40 then none else match s.get b,ts[0]? with
   |some (.cells c e false _ _),some t=>match X.Zd t with
    |some (.pointer u)=>if u=e/\size X e=some 1 then match Xi n.toNat o c with
     |some r=>match WW r with
      |some bs=>some (.str bs,s.put b (.cells c e true 0 0))
      |none=>none
     |none=>none
     else none
    |_=>none
   |_,_=>none
  |_=>none
 |_,_=>none
def TH (s:List UInt8):Nat×Nat :=
 let g:=λ(k:Nat)=>((s[k]?).getD 0).toNat
 let cont:=λ(k:Nat)=>decide (k<s.length)&&g k / 64==2
 let b0:=g 0
 if b0<0x80 then (b0,1)
 else if b0 / 32==6&&cont 1 then
  let c:=(b0%32)*64+g 1%64
  if c>=0x80 then (c,2) else (Utf8.runeError,1)
 else if b0 / 16==14&&cont 1&&cont 2 then
  let c:=(b0%16)*4096+(g 1%64)*64+g 2%64
  if c>=0x800&&Utf8.valid c then (c,3) else (Utf8.runeError,1)
 else if b0 / 8==30&&cont 1&&cont 2&&cont 3 then
  let c:=(b0%8)*262144+(g 1%64)*4096+(g 2%64)*64+g 3%64
  if c>=0x10000&&Utf8.valid c then (c,4) else (Utf8.runeError,1)
 else (Utf8.runeError,1)
inductive Out where
 |norm
 |exit (id:Nat)
 |ret
 deriving DecidableEq,Inhabited
abbrev Ex:=Code->Env->St->Option (Out×Env×St)
def Zr:Nat->List AV->Env->Env
 |_,[],e=>e
 |i,v::l,e=>Zr (i+1) l (Tr.set e i v)
def ML (e:Env)(s:St):ResultVar->Option AV
 |.tmp t=>some (e.get t)
 |.cell a t=>UA X t (e.get a) s
def Xr (e:Env)(s:St):List ResultVar->Option (List AV)
 |[]=>some []
 |r::l=>match ML X e s r,Xr e s l with
  |some v,some vs=>some (v::vs)
  |_,_=>none
def Uh (f:Func)(e:Env)(s:St):Option AV:=match Xr X e s f.results.toList with
 |some [v]=>some v
 |some vs=>some (.XQ vs)
 |none=>none
def ND (ex:Ex)(f:FuncId)(args:List AV)(s:St):Option (AV×St):=match X.fn f with
  |some fn=>match fn.body with
   |some c=>match ex c (Zr 0 args .nil) s with
    |some (.norm,e,s')=>match Uh X fn e s' with|some v=>some (v,s')|none=>none
    |some (.ret,e,s')=>match Uh X fn e s' with|some v=>some (v,s')|none=>none
    |_=>none
   |none=>none
  |none=>none
mutual
def still:AV->Bool
 |.ptr ..=>false
 |.sl ..=>false
 |.map _=>false
 |.fn f x y=>(match f with|.func _=>true|_=>false)&&ZT x&&ZT y
 |.iface _ v=>still v
 |.agg cs=>ZT cs
 |.XQ cs=>ZT cs
 |.fz es=>true
 |.fp _ _=>true
 |.fm _ _=>true
 |.bool _=>true
 |.int _ _=>true
 |.zr _ _=>true
 |.str _=>true
 |.U4=>true
 |.ZQ=>true
 |.O'=>true
 |.VC=>true
 |.Tz=>true
def ZT:List AV->Bool
 |[]=>true
 |x::l=>still x&&ZT l
end
mutual
def flat:AV->Bool
 |.ptr ..=>false
 |.sl ..=>false
 |.map _=>false
 |.fn f x y=>(match f with|.func _=>true|_=>false)&&Ka x&&Ka y
 |.iface _ v=>flat v
 |.agg cs=>Ka cs
 |.XQ cs=>Ka cs
 |.fz es=>false
 |.fp _ _=>false
 |.fm _ _=>false
 |.bool _=>true
 |.int _ _=>true
 |.zr _ _=>true
 |.str _=>true
 |.U4=>true
 |.ZQ=>true
 |.O'=>true
 |.VC=>true
 |.Tz=>true
def Ka:List AV->Bool
 |[]=>true
 |x::l=>flat x&&Ka l
end
def Xk (agg:Bool)(n:Nat):Nat->List AV->List AV
 |0,_=>[]
 |k+1,l=>(match agg,l with|false,x::_=>x|_,_=>.agg (l.take n))::Xk agg n k (l.drop n)
def YS (f:AV->Option AV):List AV->Option (List AV)
 |[]=>some []
 |x::l=>match f x,YS f l with
  |some y,some r=>some (y::r)
  |_,_=>none
def Ya (s:St):Nat->AV->Option AV
 |0,_=>none
 |d+1,v=>match v with
  |.ptr b o=>match s.get b with
   |some (.cells c _ false _ _)=>match YS (Ya s d) c with
    |some c'=>some (.fp c' o)
    |none=>none
   |_=>none
  |.sl b o len _ Vl=>match s.get b with
   |some (.cells c e false _ _)=>match Xi (len*Vl) o c,Ys X e,size X e with
    |some r,some ag,some n=>if Vl=n/\n≠0/\(ag=false->n=1/\r.all Zu=true) then match YS (Ya s d) (Xk ag n len r) with
     |some es=>some (.fz es)
     |none=>none
     else none
    |_,_,_=>none
   |_=>none
  |.map r=>match s.get r with
   |some (.map es false)=>match YS (Ya s d) (es.map (·.1)),YS (Ya s d) (es.map (·.2)) with
    |some ks,some vs=>some (.fm ks vs)
    |_,_=>none
   |_=>none
  |.fn f x y=>match f with
   |.func g=>match YS (Ya s d) x,YS (Ya s d) y with
    |some x',some y'=>some (.fn (.func g) x' y')
    |_,_=>none
   |_=>none
  |.iface t x=>match Ya s d x with
   |some x'=>some (.iface t x')
   |none=>none
  |.agg cs=>match YS (Ya s d) cs with
   |some i_=>some (.agg i_)
   |none=>none
  |.XQ cs=>match YS (Ya s d) cs with
   |some i_=>some (.XQ i_)
   |none=>none
  |v=>some v
def Xe (s:St):Nat->AV->Option AV
 |0,_=>none
 |d+1,v=>match v with
  |.ptr b o=>match s.get b with
   |some (.cells c _ false _ _)=>match YS (Xe s d) c with
    |some c'=>some (.fp c' o)
    |none=>none
   |_=>none
  |.sl b o len _ Vl=>match s.get b with
   |some (.cells c e false _ _)=>match Xi (len*Vl) o c,Ys X e,size X e with
    |some r,some ag,some n=>if Vl=n/\n≠0/\(ag=false->n=1/\r.all Zu=true) then match YS (Xe s d) (Xk ag n len r) with
     |some es=>some (.fz es)
     |none=>none
     else none
    |_,_,_=>none
   |_=>none
  |.map r=>match s.get r with
   |some (.map es false)=>match YS (Xe s d) (es.map (·.1)),YS (Xe s d) (es.map (·.2)) with
    |some ks,some vs=>some (.fm ks vs)
    |_,_=>none
   |_=>none
  |.fn f x y=>match f with
   |.func g=>match YS (Xe s d) x,YS (Xe s d) y with
    |some x',some y'=>some (.fn (.func g) x' y')
    |_,_=>none
   |_=>none
  |.iface t x=>match Xe s d x with
   |some x'=>some (.iface t x')
   |none=>none
  |.agg cs=>match YS (Xe s d) cs with
   |some i_=>some (.agg i_)
   |none=>none
  |.XQ cs=>match YS (Xe s d) cs with
   |some i_=>some (.XQ i_)
   |none=>none
  |.fz _=>none
  |.fp _ _=>none
  |.fm _ _=>none
  |v=>some v
def Ym:St:={ t:=.nil,base:=X.K0,next:=X.glob }
def Ui:Nat:=40
def U2 (s:St)(args:List AV):Option (List AV):=if ZT args then some args else YS (Ya X s Ui) args
def X7 (ex:Ex)(f:FuncId)(args:List AV)(st:Bool):Option AV:=match ND X ex f args (Ym X) with
 |some (v,s')=>if st then Ya X s' Ui v else if flat v then some v else Xe X s' Ui v
 |none=>none
def NL (ex:Ex)(f:FuncId)(args:List AV)(s:St):Option (AV×St):=match U2 X s args with
 |some o_=>match X7 X ex f o_ (ZT args) with
  |some v=>some (v,s)
  |none=>none
 |none=>none
def TY (ex:Ex)(f:FuncId)(args:List AV)(s:St):Option (AV×St):=match X.ext f with
 |some g=>g args s
 |none=>if X.pure f then NL X ex f args s else ND X ex f args s
def MJ (l:Nat)(o:Out)(e:Env)(q:List Tmp)(a b:Code)(s:St):Option (AV×St):=match o with
 |.norm=>some (.bool true,s.put l (.loop 0 none e q a b))
 |.exit i=>some (.bool false,s.put l (.loop 2 (some (.exit i)) e q a b))
 |.ret=>some (.bool false,s.put l (.loop 2 (some .ret) e q a b))
def Fo (ex:Ex)(l:Nat)(args:List AV)(s:St):Option (AV×St):=match s.get l with
 |some (.loop 0 p env params assign body) =>
  if args.length=params.length then
   let al2:=(params.zip args).foldl (λe (t,a)=>Tr.set e t a) env
   match ex assign al2 s with
   |some (.norm,eZ,s1)=>match s1.get l with
    |some (.loop 0 p1 e1 q1 a1 b1)=>match ex body eZ (s1.put l (.loop 1 p1 e1 q1 a1 b1)) with
     |some (o,_,s2)=>match s2.get l with
      |some (.loop _ _ e2 q2 a2 b2)=>MJ l o e2 q2 a2 b2 s2
      |_=>none
     |none=>none
    |_=>none
   |_=>none
  else none
 |_=>none
def Fy (ex:Ex)(f:AV)(args:List AV)(s:St):Option (AV×St):=match f with
 |.fn (.func g) first cap=>TY X ex g (first++args++cap) s
 |.fn (.yield l) first cap=>Fo ex l (first++args) s
 |_=>none
def Zh (v:Option AV)(s:St):Option (AV×St):=match v with
 |some v=>some (v,s)
 |none=>none
def NP (s:Option St):Option (AV×St):=match s with
 |some s=>some (undef,s)
 |none=>none
def NJ (e:Env)(x:Option Operand):Option (Option AV):=match x with
 |none=>some none
 |some x=>match eval X e x with
  |some v=>some (some v)
  |none=>none
def Yn (ex:Ex)(e:Env)(o:Op)(s:St):Option (AV×St):=match o with
 |.move x=>Zh (eval X e x) s
 |.assign x=>Zh (eval X e x) s
 |.pick c a b=>match eval X e c with
  |some (.bool true)=>Zh (eval X e a) s
  |some (.bool false)=>Zh (eval X e b) s
  |_=>none
 |.alloc t=>match zero X t with
  |some z=>some (Vc s z.cells t)
  |none=>none
 |.box t x=>match eval X e x with
  |some v=>some (Vc s v.cells t)
  |none=>none
 |.build t ps=>match Vw X e ps.toList with
  |some l=>Zh (FF X t l) s
  |none=>none
 |.buildSlice t n ps=>match Vw X e ps.toList with
  |some l=>T0 X t n l s
  |none=>none
 |.load t a=>match eval X e a with
  |some a=>Zh (UA X t a s) s
  |none=>none
 |.store t a x=>match eval X e a,eval X e x with
  |some a,some v=>NP (Lw X t a v s)
  |_,_=>none
 |.nilCheck x=>match eval X e x with
  |some (.ptr b o)=>some (.ptr b o,s)
  |some (.fp c o)=>some (.fp c o,s)
  |some (.fn (.func f) x y)=>some (.fn (.func f) x y,s)
  |some (.fn (.yield f) x y)=>some (.fn (.yield f) x y,s)
  |_=>none
 |.binOp op t x y _=>match eval X e x,eval X e y with
  |some a,some b=>Zh (Xj X op t (TI x||TI y) a b) s
  |_,_=>none
 |.unOp op _ x=>match eval X e x with
  |some a=>Zh (unA op a) s
  |none=>none
 |.convert a b x=>match eval X e x with
  |some v=>Rw X a b v s
  |none=>none
 |.makeInterface t x=>match eval X e x with
  |some v=>match X.Zd t with
   |some (.interface _)=>none
   |some _=>some (.iface t v,s)
   |none=>none
  |none=>none
 |.makeFunc f a b=>match f with
  |.func g=>match Vx X e a.toList,Vx X e b.toList with
   |some x,some y=>some (.fn (.func g) x y,s)
   |_,_=>none
  |_=>none
 |.makeMap t r=>match r with
  |none=>some (.map s.next,s.new (.map [] false))
  |some x=>match eval X e x,X.Zd t with
   |some (.int _ _),some (.map _ _)=>some (.map s.next,s.new (.map [] false))
   |_,_=>none
 |.makeSlice t l c=>match eval X e l,eval X e c,X.Zd t with
  |some (.int _ l),some (.int _ c),some (.slice elem)=>match X.inf elem,zero X elem with
   |some i,some z=>if 0<=l/\l<=c/\c*i.bytes<=2^47/\c<2^47/\z.cells.length=i.size/\i.size≠0 then
     some (.sl s.next 0 l.toNat (some c.toNat) i.size,s.new (.cells (UC c.toNat z.cells) elem false 0 0))
    else none
   |_,_=>none
  |_,_,_=>none
 |.slice t x lo hi mx=>match eval X e x,NJ X e lo,NJ X e hi,NJ X e mx with
  |some v,some lo,some hi,some mx=>Zh (O1 X t v lo hi mx) s
  |_,_,_,_=>none
 |.fieldAddr t x f=>match eval X e x with
  |some v=>Zh (Rm X t v f) s
  |none=>none
 |.field t x f=>match eval X e x,X.Zd t with
  |some (.agg cs),some (.struct fs)=>match fs[f]? with
   |some fd=>Zh (Rz X fd.type cs fd.offset) s
   |none=>none
  |_,_=>none
 |.indexAddr t x i=>match eval X e x,eval X e i with
  |some v,some i=>Zh (Vj X t v i) s
  |_,_=>none
 |.index t x i=>match eval X e x,eval X e i with
  |some v,some i=>Zh (Fp X t v i) s
  |_,_=>none
 |.lookup t m k ok=>match eval X e m,eval X e k with
  |some m,some k=>Zh (WM X t m k ok s) s
  |_,_=>none
 |.mapUpdate t m k v=>match eval X e m,eval X e k,eval X e v with
  |some m,some k,some v=>NP (VZ X t m k v s)
  |_,_,_=>none
 |.insert t m k v=>match eval X e m,eval X e k,eval X e v with
  |some m,some k,some v=>NP (VZ X t m k v s)
  |_,_,_=>none
 |.range t x=>match eval X e x,X.Zd t with
  |some (.str b),some .string=>some (.ptr s.next 0,s.new (.iter b 0))
  |_,_=>none
 |.next it true=>match eval X e it with
  |some (.ptr r 0)=>match s.get r with
   |some (.iter b pos)=>match b with
    |[]=>some (.XQ [.bool false],s)
    |_::_ =>
     let (c,w):=TH b
     some (.XQ [.bool true,.int .i64 pos,.int .i32 c],s.put r (.iter (b.drop w) (pos+w)))
   |_=>none
  |_=>none
 |.extract t i=>match eval X e t with
  |some (.XQ vs)=>Zh vs[i]? s
  |_=>none
 |.call c=>match c.callee with
  |.builtin b=>match Vx X e c.args.toList with
   |some vs=>XX X b c.argTypes vs s
   |none=>none
  |.value f=>match eval X e f,Vx X e c.args.toList with
   |some f,some vs=>Fy X ex f vs s
   |_,_=>none
  |.invoke _ _=>none
 |_=>none
def Ye (e:Env)(d:Option Tmp)(v:AV):Env:=match d with
 |some d=>Tr.set e d v
 |none=>e
def XE (ops:Array Oper)(e:Env)(o:Oper):Bool:=match o.guard with
 |none=>true
 |some (j,want)=>match ops[j]? with
  |some oj=>match oj.dst with
   |some d=>match e.get d with
    |.bool b=>b==want
    |_=>false
   |none=>false
  |none=>false
def J' (ex:Ex)(ops:Array Oper):List Oper->Env->St->Option (Env×St)
 |[],e,s=>some (e,s)
 |o::l,e,s =>
  if XE ops e o then match Yn X ex e o.op s with
   |some (v,s')=>J' ex ops l (Ye e o.dst v) s'
   |none=>none
  else J' ex ops l (Ye e o.dst undef) s
inductive zm where
 |p|r|a|w|q
def zm.isR:zm->Bool|.r=>true|_=>false
def zm.Af:zm->Bool|.a=>true|_=>false
def zm.lR:zm->Bool|.w=>true|_=>false
def cls:Op->zm
 |.move _|.assign _|.pick ..|.build ..|.nilCheck _|.binOp ..|.unOp ..|.makeInterface ..|.makeFunc ..|.slice ..|.fieldAddr ..|.field ..
 |.indexAddr ..|.index ..|.extract ..=>.p
 |.convert s d _=>match X.Zd s,X.Zd d with
  |some (.slice _),some .string=>.r
  |some (.slice _),_=>.w
  |_,some (.slice _)=>.a
  |some _,some _=>.p
  |_,_=>.w
 |.load ..|.lookup ..=>.r
 |.alloc _|.box ..|.buildSlice ..|.makeSlice ..|.makeMap ..=>.a
 |.call { callee:=.builtin b,.. }=>match b with
  |.len=>.r
  |.min|.max|.unsafeSliceData=>.p
  |_=>.w
 |.call { callee:=.value (.func f),.. }=>if X.pure f&&(X.ext f).isNone then .q else .w
 |_=>.w
def Xh (ops:Array Oper)(i j:Nat):Bool:=((Region.before ops).getD j 0).testBit i
def Tf:Op->Bool
 |.store ..=>true
 |_=>false
def lQ:Nat->List Oper->List Nat
 |_,[]=>[]
 |i,o::l=>if Tf o.op then i::lQ (i+1) l else lQ (i+1) l
def aex (ops:Array Oper):Bool :=
 let l:=lQ 0 ops.toList
 l.any λi=>l.any λj=>!(i==j)&&!Xh ops i j&&!Xh ops j i
def eY (ops:Array Oper)(i:Nat):Bool:=match ops[i]? with
 |some o=>Tf o.op&&o.guard.isNone&&(List.range ops.size).all λk=>k==i||Xh ops k i||(match ops[k]? with
  |some ok=>Tf ok.op||(match cls X ok.op with|.p=>true|.a=>true|_=>false)
  |none=>true)
 |none=>false
def MI (ops:Array Oper):Bool:=aex ops&&(lQ 0 ops.toList).all (eY X ops)
def late (ops:Array Oper)(i:Nat):Bool:=MI X ops&&(match ops[i]? with|some o=>Tf o.op|none=>false)
def Sk (ex:Ex)(ops:Array Oper)(base i:Nat)(o:Oper)(e:Env)(s:St):Option (Env×St) :=
 if XE ops e o then
  match cls X o.op with
  |.a=>match Yn X ex e o.op { s with next:=base+i } with
   |some (v,s')=>some (Ye e o.dst v,{ s' with next:=s.next })
   |none=>none
  |_=>match Yn X ex e o.op s with
   |some (v,s')=>some (Ye e o.dst v,s')
   |none=>none
 else some (Ye e o.dst undef,s)
def uw (ex:Ex)(ops:Array Oper)(base:Nat):Nat->List Oper->Env->St->Option (List (Env×St))
 |_,[],e,s=>some [(e,s)]
 |i,o::l,e,s=>match Sk X ex ops base i o e s with
  |some (e',s')=>match uw ex ops base (i+1) l e' s' with
   |some r=>some ((e,s)::r)
   |none=>none
  |none=>none
def Zc (ops:Array Oper):Nat->List Oper->List Nat
 |_,[]=>[]
 |i,o::l=>if (cls X o.op).lR&&!late X ops i then i::Zc ops (i+1) l else Zc ops (i+1) l
def Tg (e:Env):Op->Option Nat
 |.store _ a _=>match eval X e a with
  |some (.ptr b _)=>some b
  |_=>none
 |_=>none
def Tc (ops:Array Oper):Nat->List Oper->List (Env×St)->List (Option Nat)
 |i,o::l,(e,_)::tr=>if late X ops i then Tg X e o.op::Tc ops (i+1) l tr else Tc ops (i+1) l tr
 |_,_,_=>[]
def NC (base n:Nat):List (Option Nat)->Bool
 |[]=>true
 |none::_=>false
 |some b::l=>(decide (b<base)||decide (base+n<=b))&&l.all (λx=>!(x==some b))&&NC base n l
def Sc (tr:List (Env×St)):List Nat->Option (List (Nat×St))
 |[]=>some []
 |j::l=>match tr[j+1]?,Sc tr l with
  |some (_,s),some r=>some ((j+1,s)::r)
  |_,_=>none
def Up:Nat->List Oper->List Nat
 |_,[]=>[]
 |i,o::l=>if (cls X o.op).Af then i::Up (i+1) l else Up (i+1) l
def TG (ops:Array Oper)(base i m:Nat)(tr:List (Env×St)):List Nat->St->St
 |[],s=>s
 |j::l,s=>if m<=j&&Xh ops j i then match tr[j+1]? with
   |some (_,s1)=>match s1.get (base+j) with
    |some b=>TG ops base i m tr l (s.put (base+j) b)
    |none=>TG ops base i m tr l s
   |none=>TG ops base i m tr l s
  else TG ops base i m tr l s
def WB (ex:Ex)(ops:Array Oper)(base i:Nat)(as:List Nat)(tr:List (Env×St))(e:Env)(o:Op)(v:AV):List (Nat×St)->Bool
 |[]=>true
 |(m,s)::l=>match Yn X ex e o (TG ops base i m tr as s) with
  |some (u,_)=>same u v&&WB ex ops base i as tr e o v l
  |none=>false
def SP (ops:Array Oper)(base i:Nat)(as:List Nat)(tr:List (Env×St))(vs us:List AV):List (Nat×St)->Bool
 |[]=>true
 |(m,s)::l=>match U2 X (TG ops base i m tr as s) vs with
  |some us'=>V_ us' us&&SP ops base i as tr vs us l
  |none=>false
def X9 (p:Nat->Bool):List Nat->Nat
 |[]=>0
 |j::l=>if p j then X9 p l+1 else X9 p l
def Ua (ops:Array Oper)(ws:List Nat)(ss:List (Nat×St))(i:Nat):List (Nat×St) :=
 (ss.take (X9 (λj=>!Xh ops i j) ws+1)).drop (X9 (λj=>Xh ops j i) ws)
def Tn (ex:Ex)(ops:Array Oper)(base:Nat)(ws as:List Nat)(ss:List (Nat×St))(sH:List (Env×St)):Nat->List Oper->List (Env×St)->Bool
 |i,o::l,(e,s)::tr =>
  (match cls X o.op with
   |.r=>!XE ops e o||(match Yn X ex e o.op s with
    |some (v,_)=>WB X ex ops base i as sH e o.op v (Ua ops ws ss i)
    |none=>false)
   |.q=>!XE ops e o||(match o.op with
    |.call c=>match Vx X e c.args.toList with
     |some vs=>ZT vs||(match U2 X s vs with
      |some us=>SP X ops base i as sH vs us (Ua ops ws ss i)
      |none=>false)
     |none=>false
    |_=>false)
   |_=>true)&&Tn ex ops base ws as ss sH (i+1) l tr
 |_,_,_=>true
def Fm (base:Nat)(s:St):Nat->List Oper->Bool
 |_,[]=>true
 |i,o::l=>(!(cls X o.op).Af||(s.get (base+i)).isNone)&&Fm base s (i+1) l
def Sb (ops:Array Oper)(base:Nat):List (Nat×St)->Bool
 |[]=>true
 |(m,s)::l=>Fm X base s m (ops.toList.drop m)&&Sb ops base l
def Fk:List (Env×St)->Option (Env×St)
 |[]=>none
 |[x]=>some x
 |_::l=>Fk l
def N' (ex:Ex)(ops:Array Oper)(e:Env)(s:St):Option (Env×St) :=
 match uw X ex ops s.next 0 ops.toList e { s with next:=s.next+ops.size } with
 |some tr =>
  let ws:=Zc X ops 0 ops.toList
  match Sc tr ws with
  |some ss =>
   if NC s.next ops.size (Tc X ops 0 ops.toList tr)&&Tn X ex ops s.next ws (Up X 0 ops.toList) ((0,{ s with next:=s.next+ops.size })::ss) tr 0 ops.toList tr&&Sb X ops s.next ((0,{ s with next:=s.next+ops.size })::ss)
   then Fk tr else none
  |none=>none
 |none=>none
def Mb (ops:Array Oper)(o:Oper):List Tmp :=
 (o.op.operands.toList.filterMap λ|.tmp t=>some t|_=>none) ++
 (match o.guard with
  |some (g,_)=>match ops[g]? with|some x=>x.dst.toList|none=>[]
  |none=>[])
def Ae (ops:Array Oper)(x y:Oper):Bool :=
 (match x.dst with
  |some d=>!(Mb ops y).contains d&&y.dst != some d
  |none=>true) &&
 (match y.dst with
  |some d=>!(Mb ops x).contains d
  |none=>true)
def eX (ops:Array Oper)(i j:Nat)(oi oj:Oper):Bool :=
 Xh ops i j||(Ae ops oi oj &&
  match cls X oi.op,cls X oj.op with
  |.a,.w=>late X ops j
  |.w,.w=>late X ops i&&late X ops j
  |_,_=>true)
def okD (ops:Array Oper):Bool :=
 ((List.range ops.size).all λj=>match ops[j]? with
  |some oj=>(oj.after.toList.all λe=>!Region.binds .any e||decide (e.on<j)) &&
   (match oj.guard with|some (g,_)=>decide (g<ops.size)|none=>true) &&
   (List.range j).all λi=>match ops[i]? with
    |some oi=>eX X ops i j oi oj
    |none=>true
  |none=>true)
def J_ (p:Option Code)(e:Env)(s:St):Option (Out×Env×St):=match p with
 |none=>some (.norm,e,s)
 |some (.exit i)=>some (.exit i,e,s)
 |some .ret=>some (.ret,e,s)
 |_=>none
def WO (ex:Ex)(c:Code)(e:Env)(s:St):Option (Out×Env×St):=match c with
 |.skip=>some (.norm,e,s)
 |.label _=>some (.norm,e,s)
 |.region _ ops d=>if d then match N' X ex ops e s with
   |some (e,s)=>some (.norm,e,s)
   |none=>none
  else match J' X ex ops ops.toList e s with
  |some (e,s)=>some (.norm,e,s)
  |none=>none
 |.seq a b=>match ex a e s with
  |some (.norm,e,s)=>ex b e s
  |r=>r
 |.cond c a b=>match eval X e c with
  |some (.bool true)=>ex a e s
  |some (.bool false)=>ex b e s
  |_=>none
 |.block id b=>match ex b e s with
  |some (.exit i,e,s)=>if i=id then some (.norm,e,s) else some (.exit i,e,s)
  |r=>r
 |.loop b=>match ex b e s with
  |some (.norm,e,s)=>ex (.loop b) e s
  |r=>r
 |.scope b=>ex b e s
 |.exit id=>some (.exit id,e,s)
 |.ret=>some (.ret,e,s)
 |.rangeFunc f params assign body=>match eval X e f with
  |some (.fn (.func g) first cap)=>if (X.ext g).isNone then
   match TY X ex g (first++[.fn (.yield s.next) [] []]++cap) (s.new (.loop 0 none e params.toList assign body)) with
   |some (_,s1)=>match s1.get s.next with
    |some (.loop st p _ _ _ _)=>if st=1 then none else J_ p e (s1.put s.next .gone)
    |_=>none
   |none=>none
   else none
  |_=>none
 |_=>none
def PJ:Code->Bool
 |.seq a b=>PJ a&&PJ b
 |.cond _ a b=>PJ a&&PJ b
 |.block _ b=>PJ b
 |.loop b=>PJ b
 |.scope b=>PJ b
 |.rangeFunc ..=>false
 |_=>true
def GQ (n:Nat):Code->Bool
 |.region _ ops d=>(ops.toList.all λo=>match o.dst with|some t=>decide (t<n)|none=>true)&&(!d||okD X ops)
 |.seq a b=>GQ n a&&GQ n b
 |.cond _ a b=>GQ n a&&GQ n b
 |.block _ b=>GQ n b
 |.loop b=>GQ n b
 |.scope b=>GQ n b
 |.rangeFunc _ ps a b=>(ps.toList.all λt=>decide (t<n))&&GQ n a&&GQ n b&&PJ a&&PJ b
 |_=>true
def exec:Nat->Ex
 |0=>λ_ _ _=>none
 |n+1=>WO X (exec n)
def run (n:Nat)(f:FuncId)(args:List AV)(s:St):Option (AV×St):=TY X (exec X n) f args s
end
abbrev iI (n:Int):AV:=.int .i64 n
abbrev bF:AV:=.bool false
abbrev bT:AV:=.bool true
end Go.Am
namespace Go.Am
open Go
variable {s:St}{w:World}{i:Nat}
def abc:=@Result.andThen_ok
def amz:=@Sem.run_bind
def apZ:=@Sem.run_pure
structure Pl where
 b:Nat
 sh:Nat
 n:Nat
structure Sg where
 m:Nat->Option Pl
 fz:Nat->Option Obj
instance:CoeFun Sg (λ_=>Nat->Option Pl):=⟨Sg.m⟩
structure Sg.le (σ τ:Sg):Prop where
 p:∀i p,σ i=some p->τ i=some p
 z:∀b o,σ.fz b=some o->τ.fz b=some o
def Sg.bare (σ:Sg):Sg:={ m:=λ_=>none,fz:=σ.fz }
def Sg.le_refl (σ:Sg):Sg.le σ σ:=⟨λ_ _ h=>h,λ_ _ h=>h⟩
def Sg.le_trans {a b c:Sg}(h:Sg.le a b)(k:Sg.le b c):Sg.le a c:=⟨λi p e=>k.p i p (h.p i p e),λb o e=>k.z b o (h.z b o e)⟩
def Sg.le.bare {σ τ:Sg}(h:Sg.le σ τ):Sg.le σ.bare τ.bare:=⟨λ_ _ h=>h,h.z⟩
def Sg.TM (σ:Sg):Sg.le σ.bare σ:=⟨λi p h=>(by simp[Sg.bare] at h),λ_ _ h=>h⟩
def Sm (σ:Sg):Fn->Fn->Prop
 |.func g,f=>f=.func g
 |.yield l,f=>∃p,σ l=some p/\f=.yield p.b
 |_,_=>False
structure Cw (σ:Sg)(b o len:Nat)(cap:Option Nat)(Vl:Nat)(a:Addr)(c:Nat):Prop where
 len:len<=c
 at_:∃p,σ b=some p/\(c≠0->a=⟨p.b,p.sh+o,none⟩)/\(Vl≠0->p.sh+o+c*Vl<=p.n)
 cap:∀k,cap=some k->c=k
def Jb (σ:Sg)(a:Addr)(us:List Value):Prop:=a.spot=none/\∃cc e fz n,σ.fz a.block=some (.cells cc e fz)/\n≠0/\(∀u∈us,u.cells.size=n)/\∀i v,(us.flatMap λu=>u.cells.toList)[i]? = some v->cc[a.off+i]? = some v
mutual
def ZY:Sg->AV->Value->Prop
 |_,.bool b,v=>v=.bool b
 |_,.int k n,v=>v=.int k n
 |_,.zr k n,v=>v=.float k n
 |_,.str s,v=>∃bs:ByteArray,v=.string bs/\bs.data.toList=s
 |_,.U4,v=>v=.pointer none
 |σ,.ptr b o,v=>∃p,σ b=some p/\v=.pointer (some ⟨p.b,p.sh+o,none⟩)
 |_,.ZQ,v=>v=.slice none 0 0
 |σ,.sl b o len cap Vl,v=>∃a c,v=.slice (some a) len c/\Cw σ b o len cap Vl a c
 |_,.O',v=>v=.map none
 |σ,.map r,v=>∃p,σ r=some p/\v=.map (some p.b)
 |_,.VC,v=>v=.nilFunc
 |σ,.fn f x y,v=>∃f' x' y',v=.func f' x' y'/\Sm σ f f'/\ZZ σ x x'.toList/\ZZ σ y y'.toList
 |_,.Tz,v=>v=.nilIface
 |σ,.iface t x,v=>∃y,v=.iface t y/\ZY σ x y
 |σ,.agg cs,v=>∃vs,v=.agg vs/\ZZ σ cs vs.toList
 |σ,.XQ cs,v=>∃vs,v=.tuple vs/\ZZ σ cs vs.toList
 |σ,.fz es,v=>∃a c us,v=.slice (some a) es.length c/\es.length<=c/\ZZ σ.bare es us/\(us=[]\/Jb σ a us)
 |σ,.fp cs o,v=>∃b base us cc e fz,v=.pointer (some ⟨b,base+o,none⟩)/\σ.fz b=some (.cells cc e fz)/\ZZ σ.bare cs us/\∀i u,us[i]? = some u->cc[base+i]? = some u
 |σ,.fm ks vs,v=>∃r Vo clock,v=.map (some r)/\σ.fz r=some (.map Vo clock)/\ZZ σ.bare ks (Vo.toList.map MapEntry.key)/\ZZ σ.bare vs (Vo.toList.map MapEntry.val)
def ZZ:Sg->List AV->List Value->Prop
 |_,[],l=>l=[]
 |σ,a::x,l=>∃v y,l=v::y/\ZY σ a v/\ZZ σ x y
end
def Sm.mono {σ τ:Sg}(h:Sg.le σ τ){f f':Fn}(k:Sm σ f f'):Sm τ f f':=by
 cases f <;> simp only[Sm] at * <;> first|exact k|skip
 obtain⟨p,hp,e⟩:=k;exact⟨p,h.p _ _ hp,e⟩
def Cw.mono {σ τ:Sg}(h:Sg.le σ τ){b o len:Nat}{cap:Option Nat}{Vl:Nat}{a:Addr}{c:Nat}(k:Cw σ b o len cap Vl a c):Cw τ b o len cap Vl a c:=by
 obtain⟨h1,⟨p,hp,h2⟩,h3⟩:=k;exact⟨h1,⟨p,h.p _ _ hp,h2⟩,h3⟩
def Jb.mono {σ τ:Sg}(h:Sg.le σ τ){a:Addr}{us:List Value}(k:Jb σ a us):Jb τ a us:=by
 obtain⟨h0,cc,e,fz,n,h1,h2⟩:=k;exact⟨h0,cc,e,fz,n,h.z _ _ h1,h2⟩
mutual
def ZY.mono {σ τ:Sg}:∀(_:Sg.le σ τ) (a:AV) (v:Value),ZY σ a v->ZY τ a v
 |_,.bool _,_,k|_,.int _ _,_,k|_,.zr _ _,_,k|_,.str _,_,k|_,.U4,_,k|_,.ZQ,_,k|_,.O',_,k|_,.VC,_,k|_,.Tz,_,k=>by simpa only[ZY] using k
 |h,.ptr b o,v,k=>by
  simp only[ZY] at *;obtain⟨p,hp,e⟩:=k;exact⟨p,h.p _ _ hp,e⟩
 |h,.sl ..,v,k=>by
  simp only[ZY] at *;obtain⟨a,c,e,r⟩:=k;exact⟨a,c,e,r.mono h⟩
 |h,.map b,v,k=>by
  simp only[ZY] at *;obtain⟨p,hp,e⟩:=k;exact⟨p,h.p _ _ hp,e⟩
 |h,.fn f x y,v,k=>by
  simp only[ZY] at *;obtain⟨f',x',y',e,hf,hx,hy⟩:=k;exact⟨f',x',y',e,hf.mono h,ZZ.mono h _ _ hx,ZZ.mono h _ _ hy⟩
 |h,.iface t x,v,k=>by
  simp only[ZY] at *;obtain⟨y,e,r⟩:=k;exact⟨y,e,ZY.mono h _ _ r⟩
 |h,.agg cs,v,k=>by
  simp only[ZY] at *;obtain⟨y,e,r⟩:=k;exact⟨y,e,ZZ.mono h _ _ r⟩
 |h,.XQ cs,v,k=>by
  simp only[ZY] at *;obtain⟨y,e,r⟩:=k;exact⟨y,e,ZZ.mono h _ _ r⟩
 |h,.fz es,v,k=>by
  simp only[ZY] at *;obtain⟨a,c,us,e,hl,r,ho⟩:=k;exact⟨a,c,us,e,hl,ZZ.mono h.bare _ _ r,ho.imp id (Jb.mono h)⟩
 |h,.fp cs o,v,k=>by
  simp only[ZY] at *;obtain⟨b,base,us,cc,e,fz,e1,e2,r,e3⟩:=k;exact⟨b,base,us,cc,e,fz,e1,h.z _ _ e2,ZZ.mono h.bare _ _ r,e3⟩
 |h,.fm ks vs,v,k=>by
  simp only[ZY] at *;obtain⟨b,Vo,clock,e1,e2,r,r'⟩:=k;exact⟨b,Vo,clock,e1,h.z _ _ e2,ZZ.mono h.bare _ _ r,ZZ.mono h.bare _ _ r'⟩
def ZZ.mono {σ τ:Sg}:∀(_:Sg.le σ τ) (a:List AV) (v:List Value),ZZ σ a v->ZZ τ a v
 |_,[],v,k=>by simpa only[ZZ] using k
 |h,a::x,v,k=>by
  simp only[ZZ] at *;obtain⟨u,y,e,h1,h2⟩:=k;exact⟨u,y,e,ZY.mono h _ _ h1,ZZ.mono h _ _ h2⟩
end
def ZZ.length {σ:Sg}:∀{x:List AV} {l:List Value},ZZ σ x l->x.length=l.length
 |[],l,h=>by simp only[ZZ] at h;simp[h]
 |a::x,l,h=>by
  simp only[ZZ] at h;obtain⟨v,y,rfl,_,h2⟩:=h;simp[ZZ.length h2]
def ZZ.get {σ:Sg}:∀{x:List AV} {l:List Value},ZZ σ x l->∀(i:Nat) (a:AV),x[i]? = some a->∃v,l[i]? = some v/\ZY σ a v
 |[],l,h,i,a,e=>by simp at e
 |b::x,l,h,i,a,e=>by
  simp only[ZZ] at h;obtain⟨v,y,rfl,h1,h2⟩:=h
  cases i with
  |zero=>simp at e;subst e;exact⟨v,by simp,h1⟩
  |succ i=>simp at e;simpa using ZZ.get h2 i a e
def ZZ.append {σ:Sg}:∀{x y:List AV} {l m:List Value},ZZ σ x l->ZZ σ y m->ZZ σ (x++y) (l++m)
 |[],y,l,m,h,k=>by simp only[ZZ] at h;simpa[h] using k
 |a::x,y,l,m,h,k=>by
  simp only[ZZ] at h;obtain⟨v,z,rfl,h1,h2⟩:=h;simp only[aqk,ZZ];exact⟨v,z++m,rfl,h1,ZZ.append h2 k⟩
def ZZ.AB {σ:Sg}:∀{x:List AV} {l:List Value},x.length=l.length->(∀i (h:i<x.length) (h':i<l.length),ZY σ x[i] l[i])->ZZ σ x l
 |[],l,h,_=>by simp only[ZZ];exact aqo.1 (by simpa using h.symm)
 |a::x,[],h,_=>by simp at h
 |a::x,v::l,h,k=>by
  simp only[ZZ];exact⟨v,l,rfl,k 0 (Nat.succ_pos _) (Nat.succ_pos _),ZZ.AB (Nat.succ.inj h) λi hi QD=>k (i+1) (Nat.succ_lt_succ hi) (Nat.succ_lt_succ QD)⟩
def Ja {σ:Sg}{a:AV}{v:Value}(h:ZY σ a v):ZZ σ [a] [v]:=by
 simp only[ZZ];exact⟨v,[],rfl,h,rfl⟩
def RE {σ:Sg}{a:AV}{v:Value}(h:ZY σ a v)(hn:Zu a=true):v.cells=#[v]/\(∀cs,v≠.agg cs)/\(∀cs,v≠.tuple cs):=by
 cases a <;> simp only[Zu] at hn <;> simp only[ZY] at h <;>
  first
  |(subst h;simp[Value.cells];done)
  |(obtain⟨x,rfl,_⟩:=h;simp[Value.cells];done)
  |(obtain⟨x,y,rfl⟩:=h;simp[Value.cells];done)
  |(obtain⟨x,y,rfl,_⟩:=h;simp[Value.cells];done)
  |(obtain⟨x,y,z,rfl,_⟩:=h;simp[Value.cells];done)
  |(obtain⟨_,_,_,_,_,_,rfl,_⟩:=h;simp[Value.cells];done)
  |(cases hn)
def VT {σ:Sg}{a:AV}{v:Value}(h:ZY σ a v):ZZ σ a.cells v.cells.toList:=by
 cases a with
 |agg cs=>simp only[ZY] at h;obtain⟨vs,rfl,h⟩:=h;exact h
 |XQ cs =>
  have h0:=h;simp only[ZY] at h;obtain⟨vs,rfl,_⟩:=h;exact Ja h0
 |_=>rw[(RE h rfl).1];exact Ja h
def SB (σ:Sg)(e:Env)(tmps:Array Value):Prop:=∀t,ZY σ (e.get t) (tmps.getD t Go.undef)
def SB.mono {σ τ:Sg}(h:Sg.le σ τ){e:Env}{tmps:Array Value}(k:SB σ e tmps):SB τ e tmps:=λt=>ZY.mono h _ _ (k t)
def Tr.get_nil {α:Type}(k:Nat):(Tr.nil:Tr α).get k=none:=rfl
def Tr.Um {α:Type}:∀(f:Nat) (t:Tr α) (k:Nat) (x:α),k<f->(Tr.OC f t k x).get k=some x
 |0,_,_,_,h=>J
 |f+1,.nil,0,x,_=>rfl
 |f+1,.n v l r,0,x,_=>rfl
 |f+1,.nil,k+1,x,h=>by
  unfold Tr.OC;by_cases hb:Nat.beq (k%2) 0=true
  ·simp only[hb,cond_true,Tr.get];exact Tr.Um f .nil (k / 2) x J
  ·simp only[Bool.not_eq_true] at hb;simp only[hb,cond_false,Tr.get];exact Tr.Um f .nil (k / 2) x J
 |f+1,.n v l r,k+1,x,h=>by
  unfold Tr.OC;by_cases hb:Nat.beq (k%2) 0=true
  ·simp only[hb,cond_true,Tr.get];exact Tr.Um f l (k / 2) x J
  ·simp only[Bool.not_eq_true] at hb;simp only[hb,cond_false,Tr.get];exact Tr.Um f r (k / 2) x J
def AA {k j:Nat}(h:k+1≠j+1)(hp:Nat.beq (k%2) 0=Nat.beq (j%2) 0):k / 2≠j / 2:=by
 intro e;have h1:k%2=j%2:=by
  have a1:k%2=0\/k%2=1:=J;have a2:j%2=0\/j%2=1:=J;rcases a1 with a1|a1 <;> rcases a2 with a2|a2 <;> simp[a1,a2] at hp ⊢
 omega
def Tr.QP {α:Type}:∀(f:Nat) (t:Tr α) (k j:Nat) (x:α),k≠j->(Tr.OC f t k x).get j=t.get j
 |0,_,_,_,_,_=>rfl
 |f+1,.nil,0,j,x,h=>by
  cases j with
  |zero=>exact absurd rfl h
  |succ j=>unfold Tr.OC;simp[Tr.get]
 |f+1,.n v l r,0,j,x,h=>by
  cases j with
  |zero=>exact absurd rfl h
  |succ j=>unfold Tr.OC;simp[Tr.get]
 |f+1,.nil,k+1,0,x,_=>by
  unfold Tr.OC;rcases Bool.eq_false_or_eq_true (Nat.beq (k%2) 0) with hb|hb <;> simp only[hb,cond_true,cond_false,Tr.get]
 |f+1,.n v l r,k+1,0,x,_=>by
  unfold Tr.OC;rcases Bool.eq_false_or_eq_true (Nat.beq (k%2) 0) with hb|hb <;> simp only[hb,cond_true,cond_false,Tr.get]
 |f+1,.nil,k+1,j+1,x,h=>by
  unfold Tr.OC;have ih:=λhp=>Tr.QP f (Tr.nil:Tr α) (k / 2) (j / 2) x (AA h hp)
  rcases Bool.eq_false_or_eq_true (Nat.beq (k%2) 0) with hb|hb <;> rcases Bool.eq_false_or_eq_true (Nat.beq (j%2) 0) with hj|hj <;> simp only[hb,cond_true,cond_false,Tr.get,hj]
  ·exact ih (by rw[hb,hj])
  ·exact ih (by rw[hb,hj])
 |f+1,.n v l r,k+1,j+1,x,h=>by
  unfold Tr.OC;have DB:=λhp=>Tr.QP f l (k / 2) (j / 2) x (AA h hp)
  have ihr:=λhp=>Tr.QP f r (k / 2) (j / 2) x (AA h hp)
  rcases Bool.eq_false_or_eq_true (Nat.beq (k%2) 0) with hb|hb <;> rcases Bool.eq_false_or_eq_true (Nat.beq (j%2) 0) with hj|hj <;> simp only[hb,cond_true,cond_false,Tr.get,hj]
  ·exact DB (by rw[hb,hj])
  ·exact ihr (by rw[hb,hj])
def Tr.Az {α:Type}(t:Tr α)(k:Nat)(x:α):(t.set k x).get k=some x:=Tr.Um _ _ _ _ (Nat.lt_succ_self k)
def Tr.tF {α:Type}(t:Tr α){k j:Nat}(x:α)(h:k≠j):(t.set k x).get j=t.get j:=Tr.QP _ _ _ _ _ h
def Tr.Sh {α:Type}(t:Tr α)(k j:Nat)(x:α):(t.set k x).get j=if k=j then some x else t.get j:=by
 by_cases h:k=j
 ·subst h;simp[Tr.Az]
 ·simp[h,Tr.tF]
def Env.Sh (e:Env)(k j:Nat)(x:AV):Env.get (Tr.set e k x) j=if k=j then x else e.get j:=by
 unfold Env.get;rw[Tr.Sh];by_cases h:k=j <;> simp[h]
def St.Z7 (s:St)(k j:Nat)(x:Uf):(s.put k x).get j=if k=j then some x else s.get j:=by
 unfold St.put St.get;simp only[Tr.Sh];by_cases h:k=j <;> simp[h]
def St.Z5 (s:St)(j:Nat)(x:Uf):(s.new x).get j=if s.next=j then some x else s.get j:=by
 unfold St.new St.get;simp only[Tr.Sh];by_cases h:s.next=j <;> simp[h]
def St.Z_ (s:St)(k:Nat)(x:Uf):(s.put k x).next=s.next:=rfl
def St.Z' (s:St)(x:Uf):(s.new x).next=s.next+1:=rfl
def St.look (s:St)(i:Nat):Option Uf:=match s.get i with
 |some .gone=>none
 |r=>r
def St.WS (s:St)(k j:Nat)(x:Uf):(s.put k x).look j=if k=j then (match x with|.gone=>none|x=>some x) else s.look j:=by
 unfold St.look;rw[St.Z7];by_cases h:k=j
 ·subst h;cases x <;> simp
 ·simp[h]
def St.Uq (s:St)(j:Nat)(x:Uf)(hx:x≠.gone):(s.new x).look j=if s.next=j then some x else s.look j:=by
 unfold St.look;rw[St.Z5];by_cases h:s.next=j
 ·subst h;cases x <;> simp at hx ⊢
 ·simp[h]
def St.XO {b:Uf}(h:s.get i=some b)(hb:b≠.gone):s.look i=some b:=by
 unfold St.look;rw[h];cases b <;> simp at hb ⊢
def Uf.own:Uf->Bool
 |.cells _ _ ro _ _=>!ro
 |.gone=>false
 |.map _ ro=>!ro
 |.iter _ _=>true
 |.loop ..=>true
def ZJ (σ:Sg):List (AV×AV)->List MapEntry->Prop
 |[],l=>l=[]
 |(k,v)::es,l=>∃m r,l=m::r/\ZY σ k m.key/\ZY σ v m.val/\ZJ σ es r
def ZJ.mono {σ τ:Sg}(h:Sg.le σ τ):∀{x:List (AV×AV)} {l:List MapEntry},ZJ σ x l->ZJ τ x l
 |[],l,k=>k
 |(a,b)::x,l,k=>by
  simp only[ZJ] at *;obtain⟨m,r,e,h1,h2,h3⟩:=k;exact⟨m,r,e,ZY.mono h _ _ h1,ZY.mono h _ _ h2,ZJ.mono h h3⟩
def RY:Nat->LoopState
 |0=>.ready
 |1=>.busy
 |2=>.done
 |_=>.exhausted
class Stat where
 ok:Nat->Code->Prop
 spec:TypeId->Bool
variable [Stat]
def BR (σ:Sg)(p:Pl):Uf->Obj->Prop
 |.cells c e ro N3 O_,.cells cc e' fz=>cc.size=p.n/\p.sh+c.length<=p.n/\e=e' /\
   (∀j a,c[j]? = some a->∃v,cc[p.sh+j]? = some v/\ZY σ a v) /\
   (ro=false->∀j,fz.1<=p.sh+j->p.sh+j<fz.2->p.sh+j<p.n->N3<=j/\j<O_) /\
   (Stat.spec e=true->p.sh=0/\p.n=c.length)
 |.map es _,.map Vo _=>ZJ σ es Vo.toList
 |.iter s pos,.stringIter bs pos'=>p.sh=0/\pos=pos'/\bs.data.toList.drop pos=s
 |.loop st pe env params assign body,.loop r=>r.state=RY st/\r.pending=pe/\SB σ env r.tmps/\r.params.toList=params/\r.assign=assign/\r.body=body/\Stat.ok r.tmps.size assign/\Stat.ok r.tmps.size body/\(∀t∈params,t<r.tmps.size)
 |_,_=>False
def BR.mono {σ τ:Sg}(h:Sg.le σ τ){p:Pl}{b:Uf}{o:Obj}(k:BR σ p b o):BR τ p b o:=by
 cases b <;> cases o <;> simp only[BR] at * <;> first|exact k|skip
 ·obtain⟨h1,h2,h3,h4,h5⟩:=k;exact⟨h1,h2,h3,λj a e=>by obtain⟨v,hv,hr⟩:=h4 j a e;exact⟨v,hv,ZY.mono h _ _ hr⟩,h5⟩
 ·exact ZJ.mono h k
 ·obtain⟨h1,h2,h3,h4⟩:=k;exact⟨h1,h2,h3.mono h,h4⟩
def P0 (σ:Sg)(s:St)(c:Nat):Prop:=∃i p b,σ i=some p/\s.look i=some b/\b.own=true/\p.b=c
structure HR (σ:Sg)(s:St)(w:World):Prop where
 lt:∀i p,σ i=some p->p.b<w.heap.size
 DS:∀i p b,σ i=some p->s.look i=some b->∃o,w.heap[p.b]? = some o/\BR σ p b o
 inj:∀i j p q b c,σ i=some p->σ j=some q->s.look i=some b->s.look j=some c->p.b=q.b->i=j
 fz:∀c o,σ.fz c=some o->w.heap[c]? = some o/\¬P0 σ s c
structure Ext (σ:Sg)(s:St)(w:World)(Yj:Sg)(s':St)(w':World):Prop where
 le:Sg.le σ Yj
 pR:∀c o,Yj.fz c=some o->σ.fz c=some o\/w.heap.size<=c
 size:w.heap.size<=w'.heap.size
 keep:∀c,c<w.heap.size->¬P0 σ s c->w'.heap[c]? = w.heap[c]?
 owns:∀c,c<w.heap.size->P0 Yj s' c->P0 σ s c
 os:w'.os=w.os
 tape:w'.tape=w.tape
 output:w'.output=w.output
def Ext.refl (σ:Sg)(s:St)(w:World):Ext σ s w σ s w :=
 ⟨Sg.le_refl _,λ_ _ h=>.inl h,api _,λ_ _ _=>rfl,λ_ _ h=>h,rfl,rfl,rfl⟩
def Ext.trans {G3 zq σ3:Sg}{s1 s2 s3:St}{w1 w2 w3:World}(h:Ext G3 s1 w1 zq s2 w2)(k:Ext zq s2 w2 σ3 s3 w3):Ext G3 s1 w1 σ3 s3 w3 where
 le:=Sg.le_trans h.le k.le
 pR:=λc o hc=>by
  rcases k.pR c o hc with h1|h1
  ·exact h.pR c o h1
  ·exact .inr (aqM h.size h1)
 size:=aqM h.size k.size
 keep:=λc hc hn=>by
  rw[k.keep c (Nat.lt_of_lt_of_le hc h.size) (λho=>hn (h.owns c hc ho)),h.keep c hc hn]
 owns:=λc hc ho=>h.owns c hc (k.owns c (Nat.lt_of_lt_of_le hc h.size) ho)
 os:=k.os.trans h.os
 tape:=k.tape.trans h.tape
 output:=k.output.trans h.output
def SY (σ:Sg)(s:St):Prop:=∀i,s.next<=i->σ i=none
def Sg.add (σ:Sg)(i:Nat)(p:Pl):Sg:={ σ with m:=λj=>if j=i then some p else σ j }
def Sg.LI {σ:Sg}{p:Pl}(h:σ i=none):Sg.le σ (σ.add i p):=by
 refine⟨?_,λ_ _ h=>h⟩;intro j q hq;unfold Sg.add;by_cases e:j=i
 ·subst e;rw[h] at hq;cases hq
 ·simp[e,hq]
def Sg.Yc (σ:Sg)(i:Nat)(p:Pl):(σ.add i p) i=some p:=by simp[Sg.add]
def Sg.Wo (σ:Sg){i j:Nat}(p:Pl)(h:j≠i):(σ.add i p) j=σ j:=by simp[Sg.add,h]
def HR.new {σ:Sg}(h:HR σ s w)(hf:σ s.next=none)(b:Uf)(hb:b≠.gone)(o:Obj)(n:Nat)
  (hr:BR (σ.add s.next ⟨w.heap.size,0,n⟩) ⟨w.heap.size,0,n⟩ b o) :
  HR (σ.add s.next ⟨w.heap.size,0,n⟩) (s.new b) (w.alloc o):=by
 have hle:Sg.le σ (σ.add s.next ⟨w.heap.size,0,n⟩):=Sg.LI hf;refine⟨?_,?_,?_,?_⟩
 ·intro i p hp;by_cases e:i=s.next
  ·subst e;rw[Sg.Yc] at hp;cases hp;simp
  ·rw[Sg.Wo _ _ e] at hp;have:=h.lt i p hp;simp;omega
 ·intro i p c hp hc;rw[St.Uq _ _ _ hb] at hc;by_cases e:i=s.next
  ·subst e;rw[Sg.Yc] at hp;cases hp;simp at hc;subst hc;exact⟨o,by show (w.heap.push o)[w.heap.size]? = some o;simp,hr⟩
  ·rw[Sg.Wo _ _ e] at hp;rw[O3 (λh=>e h.symm)] at hc;obtain⟨o',ho,uC⟩:=h.DS i p c hp hc;have:=h.lt i p hp;refine⟨o',?_,uC.mono hle⟩;simp only[World.alloc];rw[aqL,O3 J];exact ho
 ·intro i j p q c d hp hq hc hd ja;rw[St.Uq _ _ _ hb] at hc hd;by_cases e:i=s.next <;> by_cases e':j=s.next
  ·rw[e,e']
  ·subst e;rw[Sg.Yc] at hp;cases hp;rw[Sg.Wo _ _ e'] at hq;have:=h.lt j q hq;simp at ja;omega
  ·subst e';rw[Sg.Yc] at hq;cases hq;rw[Sg.Wo _ _ e] at hp;have:=h.lt i p hp;simp at ja;omega
  ·rw[Sg.Wo _ _ e] at hp;rw[Sg.Wo _ _ e'] at hq;rw[O3 (λh=>e h.symm)] at hc;rw[O3 (λh=>e' h.symm)] at hd;exact h.inj i j p q c d hp hq hc hd ja
 ·intro c o' hc;obtain⟨h1,h2⟩:=h.fz c o' hc;have YA:c<w.heap.size:=(apV.1 h1).1;refine⟨by simp only[World.alloc];rw[aqL,O3 J];exact h1,?_⟩;rintro⟨i,p,d,hp,hd,SA,rfl⟩;rw[St.Uq _ _ _ hb] at hd;by_cases e:i=s.next
  ·subst e;rw[Sg.Yc] at hp;cases hp;simp at YA
  ·rw[Sg.Wo _ _ e] at hp;rw[O3 (λh=>e h.symm)] at hd;exact h2 ⟨i,p,d,hp,hd,SA,rfl⟩
def Ext.new {σ:Sg}(hf:σ s.next=none)(b:Uf)(hb:b≠.gone)(o:Obj)(n:Nat) :
  Ext σ s w (σ.add s.next ⟨w.heap.size,0,n⟩) (s.new b) (w.alloc o):=by
 refine⟨Sg.LI hf,λ_ _ h=>.inl h,by simp,?_,?_,rfl,rfl,rfl⟩
 ·intro c hc _;simp only[World.alloc];rw[aqL,O3 J]
 ·rintro c hc ⟨i,p,d,hp,hd,SA,rfl⟩;rw[St.Uq _ _ _ hb] at hd;by_cases e:i=s.next
  ·subst e;rw[Sg.Yc] at hp;cases hp;simp at hc
  ·rw[Sg.Wo _ _ e] at hp;rw[O3 (λh=>e h.symm)] at hd;exact⟨i,p,d,hp,hd,SA,rfl⟩
def SY.new {σ:Sg}(h:SY σ s)(b:Uf)(p:Pl):SY (σ.add s.next p) (s.new b):=by
 intro i hi;rw[St.Z'] at hi;rw[Sg.Wo _ _ J];exact h i J
def HR.put {σ:Sg}(h:HR σ s w){p:Pl}{b0 b:Uf}(hp:σ i=some p)(hl:s.look i=some b0)(SA:b0.own=true)(hb:b≠.gone){w':World}(Vt:w'.heap.size=w.heap.size)
  (SX:∀c,c≠p.b->w'.heap[c]? = w.heap[c]?){o:Obj}(ho:w'.heap[p.b]? = some o)(hr:BR σ p b o):HR σ (s.put i b) w':=by
 refine⟨λj q hq=>by rw[Vt];exact h.lt j q hq,?_,?_,?_⟩
 ·intro j q c hq hc;rw[St.WS] at hc;by_cases e:i=j
  ·subst e;rw[hp] at hq;cases hq;rw[Of rfl] at hc;have:c=b:=by cases b <;> simp at hb hc ⊢ <;> exact hc.symm
   subst this;exact⟨o,ho,hr⟩
  ·rw[O3 e] at hc;obtain⟨o',U_,T8⟩:=h.DS j q c hq hc;have ZB:q.b≠p.b:=λhe=>e (h.inj j i q p c b0 hq hp hc hl he).symm
   exact⟨o',by rw[SX _ ZB];exact U_,T8⟩
 ·intro j k q r c d hq T8 hc hd he;have look:∀j c,(s.put i b).look j=some c->∃c',s.look j=some c':=by
   intro j c hc;rw[St.WS] at hc;by_cases e:i=j
   ·subst e;exact⟨b0,hl⟩
   ·rw[O3 e] at hc;exact⟨c,hc⟩
  obtain⟨c',Hl⟩:=look j c hc;obtain⟨d',Qr⟩:=look k d hd;exact h.inj j k q r c' d' hq T8 Hl Qr he
 ·intro c o' hc;obtain⟨h1,h2⟩:=h.fz c o' hc;refine⟨by rw[SX c (λe=>h2 ⟨i,p,b0,hp,hl,SA,e.symm⟩)];exact h1,?_⟩;rintro⟨j,q,d,hq,hd,U_,rfl⟩;rw[St.WS] at hd;by_cases e:i=j
  ·subst e;rw[hp] at hq;cases hq;exact h2 ⟨i,p,b0,hp,hl,SA,rfl⟩
  ·rw[O3 e] at hd;exact h2 ⟨j,q,d,hq,hd,U_,rfl⟩
def Ext.put {σ:Sg}{p:Pl}{b0 b:Uf}(hp:σ i=some p)(hl:s.look i=some b0)(SA:b0.own=true){w':World}(Vt:w'.heap.size=w.heap.size)
  (SX:∀c,c≠p.b->w'.heap[c]? = w.heap[c]?)(hos:w'.os=w.os)(ht:w'.tape=w.tape)(LH:w'.output=w.output):Ext σ s w σ (s.put i b) w':=by
 refine⟨Sg.le_refl _,λ_ _ h=>.inl h,J,?_,?_,hos,ht,LH⟩
 ·intro c _ hn;exact SX c (λe=>hn ⟨i,p,b0,hp,hl,SA,e.symm⟩)
 ·rintro c _ ⟨j,q,d,hq,hd,ho,rfl⟩;rw[St.WS] at hd;by_cases e:i=j
  ·subst e;rw[hp] at hq;cases hq;exact⟨i,p,b0,hp,hl,SA,rfl⟩
  ·rw[O3 e] at hd;exact⟨j,q,d,hq,hd,ho,rfl⟩
structure Good (σ:Sg)(s:St)(w:World)(Yj:Sg)(s':St)(w':World):Prop where
 hr:HR Yj s' w'
 ext:Ext σ s w Yj s' w'
 QO:∀i,i<s.next\/s'.next<=i->Yj i=σ i
 next:s.next<=s'.next
 dead:∀i,i<s.next->s.look i=none->s'.look i=none
 news:∀i p,Yj i=some p->σ i=none->w.heap.size<=p.b\/P0 σ s p.b
 glob:s'.base=s.base
def Good.refl {σ:Sg}(h:HR σ s w):Good σ s w σ s w :=
 ⟨h,Ext.refl _ _ _,λ_ _=>rfl,api _,λ_ _ h=>h,λi p h k=>(by rw[k] at h;cases h),rfl⟩
def Good.trans {G3 zq σ3:Sg}{s1 s2 s3:St}{w1 w2 w3:World}(h:Good G3 s1 w1 zq s2 w2)(k:Good zq s2 w2 σ3 s3 w3):Good G3 s1 w1 σ3 s3 w3 where
 hr:=k.hr
 ext:=h.ext.trans k.ext
 QO:=λi hi=>by
  have h1:=h.next;have h2:=k.next;rw[k.QO i J,h.QO i J]
 next:=aqM h.next k.next
 dead:=λi hi hl=>k.dead i (Nat.lt_of_lt_of_le hi h.next) (h.dead i hi hl)
 news:=λi p hp hn=>by
  by_cases e:zq i=none
  ·rcases k.news i p hp e with hk|hk
   ·exact .inl (aqM h.ext.size hk)
   ·by_cases hb:p.b<w1.heap.size
    ·exact .inr (h.ext.owns _ hb hk)
    ·exact .inl J
  ·cases hq:zq i with
   |none=>exact absurd hq e
   |some q =>
    have:=k.ext.le.p i q hq;rw[hp] at this;cases this;exact h.news i p hq hn
 glob:=k.glob.trans h.glob
def Good.fresh {σ Yj:Sg}{s s':St}{w w':World}(h:Good σ s w Yj s' w')(hf:SY σ s):SY Yj s':=λi hi=>by
 rw[h.QO i (.inr hi)];exact hf i (aqM h.next hi)
def HR.of_heap {σ:Sg}{w w':World}(h:HR σ s w)(e:w'.heap=w.heap):HR σ s w' :=
 ⟨λi p hp=>by rw[e];exact h.lt i p hp,λi p b hp hb=>by rw[e];exact h.DS i p b hp hb,h.inj,λc o hc=>by rw[e];exact h.fz c o hc⟩
def Good.drew {σ Yj:Sg}{s s':St}{w w':World}(h:Good σ s w Yj s' w'):Good σ s w Yj s' w'.drew :=
 ⟨h.hr.of_heap rfl,⟨h.ext.le,h.ext.pR,h.ext.size,h.ext.keep,h.ext.owns,h.ext.os,h.ext.tape,h.ext.output⟩,h.QO,h.next,h.dead,h.news,h.glob⟩
def Good.gn {σ Yj:Sg}{s s':St}{w w':World}(h:Good σ s w.drew Yj s' w'):Good σ s w Yj s' w' :=
 ⟨h.hr,⟨h.ext.le,h.ext.pR,h.ext.size,h.ext.keep,h.ext.owns,h.ext.os,h.ext.tape,h.ext.output⟩,h.QO,h.next,h.dead,h.news,h.glob⟩
def Good.new {σ:Sg}(h:HR σ s w)(hf:σ s.next=none)(b:Uf)(hb:b≠.gone)(o:Obj)(n:Nat)
  (hr:BR (σ.add s.next ⟨w.heap.size,0,n⟩) ⟨w.heap.size,0,n⟩ b o) :
  Good σ s w (σ.add s.next ⟨w.heap.size,0,n⟩) (s.new b) (w.alloc o) where
 hr:=h.new hf b hb o n hr
 ext:=Ext.new hf b hb o n
 QO:=λi hi=>by
  rw[St.Z'] at hi;exact Sg.Wo _ _ J
 next:=by rw[St.Z'];omega
 dead:=λi hi hl=>by
  rw[St.Uq _ _ _ hb,O3 J];exact hl
 news:=λi p hp hn=>by
  by_cases e:i=s.next
  ·subst e;rw[Sg.Yc] at hp;cases hp;exact .inl (api _)
  ·rw[Sg.Wo _ _ e,hn] at hp;cases hp
 glob:=rfl
def Good.put {σ:Sg}(h:HR σ s w){p:Pl}{b0 b:Uf}(hp:σ i=some p)(hl:s.look i=some b0)(SA:b0.own=true)(hb:b≠.gone){w':World}(Vt:w'.heap.size=w.heap.size)
  (SX:∀c,c≠p.b->w'.heap[c]? = w.heap[c]?){o:Obj}(ho:w'.heap[p.b]? = some o)(hr:BR σ p b o)(hos:w'.os=w.os)(ht:w'.tape=w.tape)(LH:w'.output=w.output):Good σ s w σ (s.put i b) w' where
 hr:=h.put hp hl SA hb Vt SX ho hr
 ext:=Ext.put hp hl SA Vt SX hos ht LH
 QO:=λ_ _=>rfl
 next:=api _
 dead:=λj _ hj=>by
  rw[St.WS];by_cases e:i=j
  ·subst e;rw[hl] at hj;cases hj
  ·rw[O3 e];exact hj
 news:=λj q h1 h2=>by rw[h2] at h1;cases h1
 glob:=rfl
end Go.Am
namespace Go.Am
open Go
variable {t:TypeId}
structure Vm [Stat] (X:Cx)(P:Program):Prop where
 Zd:∀t d,X.Zd t=some d->P.underlying t=some d
 inf:∀t i,X.inf t=some i->P.info? t=some i
 fn:∀f fn,X.fn f=some fn->P.funcs[f]? = some fn
 AN:∀t,X.AN t=true->P.eqGuardType P.depth t=false/\P.stoodInHeld t=false
 spec:∀t,Stat.spec t=true->X.spec t=true
 ag1:∀t,Stat.spec t=true->X.Zd t≠some (.int .u8)
def Wp [Stat] (X:Cx)(σ:Sg):Prop:=∀g,g<X.glob->∃n,σ g=some ⟨g,0,n⟩/\∀b,X.K0 g=some b->b.own=false/\∃o,σ.fz g=some o/\BR σ.bare ⟨g,0,n⟩ b o
section
variable {P:Program}{w:World}
def ZG {d:TypeDesc}(h:P.underlying t=some d):(underlying t).run P w=.ok d w:=by
 simp[underlying,h]
def G2 {i:TypeInfo}(h:P.info? t=some i):(typeInfo t).run P w=.ok i w:=by
 simp[typeInfo,h]
def gI {i:TypeInfo}(h:P.info? t=some i):(sizeOf t).run P w=.ok i.size w:=by
 simp[sizeOf,G2 h]
def yD {i:TypeInfo}{z:Value}(h:P.info? t=some i)(hz:i.zero=some z):(zeroValue t).run P w=.ok z w:=by
 simp[zeroValue,G2 h,hz]
end
section
variable [Stat] {X:Cx}{P:Program}(hX:Vm X P){w:World}
include hX
def YG {n:Nat}(h:size X t=some n):(sizeOf t).run P w=.ok n w:=by
 unfold size at h
 split at h
 ·rename_i i hi;cases h;exact gI (hX.inf _ _ hi)
 ·cases h
def To {b:Bool}(h:Ys X t=some b):(isAgg t).run P w=.ok b w:=by
 unfold Ys at h
 split at h <;> cases h <;> rename_i hd
 ·simp[isAgg,ZG (hX.Zd _ _ hd)]
 ·simp[isAgg,ZG (hX.Zd _ _ hd)]
 ·simp only[isAgg,amz,ZG (hX.Zd _ _ hd),abc];rfl
end
def pX (σ:Sg):∀(n:Nat) (v:Value) (a:AV),ofV n v=some a->ZY σ a v:=by
 intro n
 induction n with
 |zero=>intro v a h;simp[ofV] at h
 |succ n ih =>
  have hl:∀(l:List Value) (as:List AV),l.mapM (ofV n)=some as->ZZ σ as l:=by
   intro l
   induction l with
   |nil=>intro as h;simp at h;subst h;simp[ZZ]
   |cons v l DB =>
    intro as h;simp only[List.mapM_cons,Option.bind_eq_bind,Option.bind_eq_some_iff,Option.pure_def,Option.some.injEq] at h;obtain⟨a,ha,as',has,rfl⟩:=h;simp only[ZZ];exact⟨v,l,rfl,ih v a ha,DB as' has⟩
  intro v a h;unfold ofV at h
  split at h <;> first|(cases h;simp[ZY];done)|(cases h;done)|skip
  ·simp only[aqU] at h;obtain⟨as,has,rfl⟩:=h;simp only[ZY];exact⟨_,rfl,hl _ _ has⟩
  ·simp only[aqU] at h;obtain⟨as,has,rfl⟩:=h;simp only[ZY];exact⟨_,rfl,hl _ _ has⟩
def G1 (tmps:Array Value):Operand->Value
 |.tmp t=>tmps.getD t Go.undef
 |.const v=>v
 |.global g=>.pointer (some ⟨g,0,none⟩)
 |.func f=>.func (.func f) #[] #[]
def TP [Stat] {X:Cx}{σ:Sg}(hg:Wp X σ){e:Env}{tmps:Array Value}(he:SB σ e tmps){x:Operand}{a:AV}(h:eval X e x=some a):ZY σ a (G1 tmps x):=by
 cases x <;> simp only[eval] at h
 ·cases h;exact he _
 ·exact pX σ _ _ _ h
 ·rename_i g
  split at h
  ·rename_i YA
   cases h
   obtain⟨n,hn,_⟩:=hg g YA;simp only[ZY,G1];exact⟨_,hn,rfl⟩
  ·cases h
 ·cases h
  simp only[ZY,G1];exact⟨_,_,_,rfl,rfl,by simp[ZZ],by simp[ZZ]⟩
def Qc [Stat] {X:Cx}{σ:Sg}(hg:Wp X σ){e:Env}{tmps:Array Value}(he:SB σ e tmps):∀{l:List Operand} {as:List AV},Vx X e l=some as->ZZ σ as (l.map (G1 tmps))
 |[],as,h=>by simp[Vx] at h;subst h;simp[ZZ]
 |x::l,as,h=>by
  simp only[Vx] at h
  split at h
  ·rename_i v r h1 h2
   cases h
   simp only[aqe,ZZ];exact⟨_,_,rfl,TP hg he h1,Qc hg he h2⟩
  ·cases h
def TO (σ:Sg):List (Nat×AV)->List (Nat×Value)->Prop
 |[],l=>l=[]
 |(i,a)::x,l=>∃v y,l=(i,v)::y/\ZY σ a v/\TO σ x y
def QC [Stat] {X:Cx}{σ:Sg}(hg:Wp X σ){e:Env}{tmps:Array Value}(he:SB σ e tmps):∀{l:List (Nat×Operand)} {as:List (Nat×AV)},Vw X e l=some as->TO σ as (l.map λ(i,x)=>(i,G1 tmps x))
 |[],as,h=>by simp[Vw] at h;subst h;simp[TO]
 |(i,x)::l,as,h=>by
  simp only[Vw] at h
  split at h
  ·rename_i v r h1 h2
   cases h
   simp only[aqe,TO];exact⟨_,_,rfl,TP hg he h1,QC hg he h2⟩
  ·cases h
def WD:∀{n o:Nat} {l r:List AV},Xi n o l=some r->r.length=n/\∀i,i<n->r[i]? = l[o+i]?/\o+i<l.length
 |0,_,_,r,h=>by simp[Xi] at h;subst h;exact⟨rfl,λi hi=>J⟩
 |n+1,_,[],r,h=>by simp[Xi] at h
 |n+1,0,x::l,r,h=>by
  simp only[Xi] at h
  split at h
  ·rename_i r' h'
   cases h
   obtain⟨h1,h2⟩:=WD h';refine⟨by simp[h1],λi hi=>?_⟩
   cases i with
   |zero=>simp
   |succ i =>
    have:=h2 i J;simp only[ap4] at this;simp only[ap4,aqv,ap1];exact⟨this.1,J⟩
  ·cases h
 |n+1,o+1,x::l,r,h=>by
  simp only[Xi] at h;obtain⟨h1,h2⟩:=WD h;refine⟨h1,λi hi=>?_⟩;have:=h2 i hi;rw[show o+1+i=(o+i)+1 from by omega];simp only[aqv,ap1];exact⟨this.1,J⟩
def Qb {n o:Nat}{l r:List AV}(h:Xi n o l=some r){i:Nat}{a:AV}(ha:r[i]? = some a):l[o+i]? = some a:=by
 obtain⟨h1,h2⟩:=WD h;have:i<n:=by
  have:=(apX.1 ha).1;omega
 rw[<-(h2 i this).1];exact ha
def KD:∀{o:Nat} {vs l r:List AV},lay o vs l=some r->r.length=l.length/\(vs≠[]->o+vs.length<=l.length)/\∀i,r[i]? = if o<=i/\i<o+vs.length then vs[i-o]? else l[i]?
 |o,[],l,r,h=>by
  simp[lay] at h;subst h;refine⟨rfl,λh=>absurd rfl h,λi=>?_⟩;rw[O3 No]
 |o,v::vs,[],r,h=>by cases o <;> simp[lay] at h
 |0,v::vs,x::l,r,h=>by
  simp only[lay] at h
  split at h
  ·rename_i r' h'
   cases h
   obtain⟨h1,h2,h3⟩:=KD h';refine⟨by simp[h1],λ_=>?_,λi=>?_⟩
   ·by_cases hv:vs=[]
    ·subst hv;simp
    ·have:=h2 hv;simp;omega
   ·cases i with
    |zero=>simp
    |succ i =>
     have:=h3 i;simp only[ap4,apW,true_and,Nat.sub_zero] at this;simp only[ap4,apW,true_and,Nat.sub_zero,ap1,aqv,this];by_cases hc:i<vs.length
     ·rw[Of hc,Of J]
     ·rw[O3 hc,O3 J]
  ·cases h
 |o+1,v::vs,x::l,r,h=>by
  simp only[lay] at h
  split at h
  ·rename_i r' h'
   cases h
   obtain⟨h1,h2,h3⟩:=KD h';refine⟨by simp[h1],λ_=>?_,λi=>?_⟩
   ·have:=h2 No;simp at this ⊢;omega
   ·cases i with
    |zero=>rw[O3 J];simp
    |succ i =>
     have:=h3 i;simp only[aqv,this];by_cases hc:o<=i/\i<o+(v::vs).length
     ·rw[Of hc,Of J]
      congr 1
      omega
     ·rw[O3 hc,O3 J]
  ·cases h
end Go.Am
namespace Go.Am
open Go
variable {t:TypeId}{cs:List AV}
def Ut (P:Program)(w:World)(σ:Sg)(m:Sem Value)(a:AV):Prop:=∃v,m.run P w=.ok v w/\ZY σ a v
section
variable [Stat] {X:Cx}{P:Program}(hX:Vm X P){w:World}{σ:Sg}
def YX {k:IntKind}{n:Int}{v:Value}(h:ZY σ (.int k n) v):v=.int k n:=by simpa only[ZY] using h
def WC {b:Bool}{v:Value}(h:ZY σ (.bool b) v):v=.bool b:=by simpa only[ZY] using h
def Xt {s:List UInt8}{v:Value}(h:ZY σ (.str s) v):∃bs:ByteArray,v=.string bs/\bs.data.toList=s:=by simpa only[ZY] using h
def WT {b o:Nat}{v:Value}(h:ZY σ (.ptr b o) v):∃p,σ b=some p/\v=.pointer (some ⟨p.b,p.sh+o,none⟩):=by simpa only[ZY] using h
def Td {b o n:Nat}{c:Option Nat}{z:Nat}{v:Value}(h:ZY σ (.sl b o n c z) v):∃a k,v=.slice (some a) n k/\Cw σ b o n c z a k:=by simpa only[ZY] using h
def Wc {v:Value}(h:ZY σ (.agg cs) v):∃vs,v=.agg vs/\ZZ σ cs vs.toList:=by simpa only[ZY] using h
def cD {v:Value}(h:ZY σ (.XQ cs) v):∃vs,v=.tuple vs/\ZZ σ cs vs.toList:=by simpa only[ZY] using h
def N0 {r:Nat}{v:Value}(h:ZY σ (.map r) v):∃p,σ r=some p/\v=.map (some p.b):=by simpa only[ZY] using h
def MQ {es:List AV}{v:Value}(h:ZY σ (.fz es) v):∃a c us,v=.slice (some a) es.length c/\es.length<=c/\ZZ σ.bare es us/\(us=[]\/Jb σ a us):=by simpa only[ZY] using h
def JO {o:Nat}{v:Value}(h:ZY σ (.fp cs o) v):∃b base us cc e fz,v=.pointer (some ⟨b,base+o,none⟩)/\σ.fz b=some (.cells cc e fz)/\ZZ σ.bare cs us/\∀i u,us[i]? = some u->cc[base+i]? = some u:=by simpa only[ZY] using h
def vW {α β:Type}(f:α->List β)(n:Nat):∀(l:List α),(∀u∈l,(f u).length=n)->∀(i j:Nat) (u:α),l[i]? = some u->j<n->(l.flatMap f)[i*n+j]? = (f u)[j]?
 |[],_,i,j,u,h,_=>by simp at h
 |x::l,hl,0,j,u,h,hj=>by
  simp at h;subst h;have:=hl x (aba ..);rw[aqp,Nat.zero_mul,ap4,aql J]
 |x::l,hl,i+1,j,u,h,hj=>by
  simp at h;have hx:=hl x (aba ..);rw[aqp,aqZ (by rw[hx,aq3];omega),hx,aq3,aqP,show i*n+n+j-n=i*n+j by omega];exact vW f n l (λu hu=>hl u (aab _ hu)) i j u h hj
def Xs (b o n:Nat):(⟨b,o,none⟩:Addr).add n=⟨b,o+n,none⟩:=by
 unfold Addr.add;split
 ·subst_vars;rfl
 ·rfl
include hX
def Dg {x:AV}{v:Value}{f:Nat}{a:AV}(hx:ZY σ x v)(h:Rm X t x f=some a):Ut P w σ (Instr.fieldAt t v f) a:=by
 unfold Rm at h
 split at h
 ·rename_i fs b o hu
  split at h
  ·rename_i fd hf
   split at h
   ·rename_i n hs
    cases h
    obtain⟨p,hp,rfl⟩:=WT hx;refine⟨.pointer (some ⟨p.b,p.sh+(o+fd.offset),none⟩),?_,?_⟩
    ·simp only[Instr.fieldAt,amz,ZG (hX.Zd _ _ hu),abc,hf,Instr.sureAddr,apZ,fieldPlace,YG hX hs];simp[Xs,ap2]
    ·simp only[ZY];exact⟨p,hp,rfl⟩
   ·cases h
  ·cases h
 ·rename_i fs c o hu
  split at h
  ·rename_i fd hf
   split at h
   ·rename_i n hs
    cases h
    obtain⟨b,base,us,cc,e,fz,rfl,h1,h2,h3⟩:=JO hx;refine⟨.pointer (some ⟨b,base+(o+fd.offset),none⟩),?_,?_⟩
    ·simp only[Instr.fieldAt,amz,ZG (hX.Zd _ _ hu),abc,hf,Instr.sureAddr,apZ,fieldPlace,YG hX hs];simp[Xs,ap2]
    ·simp only[ZY];exact⟨b,base,us,cc,e,fz,rfl,h1,h2,h3⟩
   ·cases h
  ·cases h
 ·cases h
def Df {x i:AV}{v u:Value}{a:AV}(hx:ZY σ x v)(hi:ZY σ i u)(h:Vj X t x i=some a):Ut P w σ (Instr.indexAt t v u) a:=by
 unfold Vj at h
 split at h
 ·rename_i k i;have:=YX hi;subst this
  split at h
  ·rename_i e b o len cap Vl hu
   split at h
   ·rename_i YA
    split at h
    ·rename_i n hs
     cases h
     obtain⟨ad,c,rfl,HY⟩:=Td hx;obtain⟨p,hp,CH,_⟩:=HY.at_;have hlen:=HY.len;have hc:c≠0:=J;have:=CH hc;subst this;refine⟨.pointer (some ⟨p.b,p.sh+(o+i.toNat*n),none⟩),?_,?_⟩
     ·simp only[Instr.indexAt,asIntOf,amz,apZ,abc,ZG (hX.Zd _ _ hu),YA,and_self,if_true,YG hX hs];simp[Xs,ap2]
     ·simp only[ZY];exact⟨p,hp,rfl⟩
    ·cases h
   ·cases h
  ·rename_i len e b o hu
   split at h
   ·rename_i YA
    split at h
    ·rename_i n hs
     cases h
     obtain⟨p,hp,rfl⟩:=WT hx;refine⟨.pointer (some ⟨p.b,p.sh+(o+i.toNat*n),none⟩),?_,?_⟩
     ·simp only[Instr.indexAt,asIntOf,amz,apZ,abc,ZG (hX.Zd _ _ hu),Instr.sureAddr,YA,and_self,if_true,YG hX hs];simp[Xs,ap2]
     ·simp only[ZY];exact⟨p,hp,rfl⟩
    ·cases h
   ·cases h
  ·rename_i e es hu
   split at h
   ·rename_i h0
    split at h
    ·rename_i x n RJ hs
     split at h
     ·rename_i hxn
      cases h
      obtain⟨a,c,us,rfl,hlc,Sw,TK⟩:=MQ hx;obtain⟨u,Dw,LB⟩:=Sw.get _ _ RJ;have YA:i.toNat<es.length:=(apX.1 RJ).1;have Rv:=VT LB;have hun:u.cells.size=n:=by have:=Rv.length;simpa[hxn.1] using this.symm
      rcases TK with rfl|⟨Jk,cc,ee,fz,m,g1,g2,g3,g4⟩
      ·simp at Dw
      ·have hm:u.cells.size=m:=g3 u (aqn Dw);have yY:m=n:=J;subst yY;have ZB:¬(m=0):=g2;obtain⟨ab,ao,asp⟩:=a;simp only at Jk g1 g4;subst Jk;refine⟨.pointer (some ⟨ab,ao+i.toNat*m+0,none⟩),?_,?_⟩
       ·have anz:0<=i/\i<(es.length:Int):=⟨h0,J⟩;simp only[Instr.indexAt,asIntOf,amz,apZ,abc,ZG (hX.Zd _ _ hu),anz,and_self,if_true,YG hX hs];simp[Xs]
       ·simp only[ZY];refine⟨ab,ao+i.toNat*m,u.cells.toList,cc,ee,fz,rfl,g1,Rv,λj y hj=>?_⟩;have hjm:j<m:=by rw[<-hm];exact (apX.1 hj).1
        have:=vW (λu:Value=>u.cells.toList) m us (λu hu=>by simpa using g3 u hu) i.toNat j u Dw hjm;rw[hj] at this;rw[ap2];exact g4 _ _ this
     ·cases h
    ·cases h
   ·cases h
  ·rename_i len e c o hu
   split at h
   ·rename_i YA
    split at h
    ·rename_i n hs
     cases h
     obtain⟨b,base,us,cc,ee,fz,rfl,h1,h2,h3⟩:=JO hx;refine⟨.pointer (some ⟨b,base+(o+i.toNat*n),none⟩),?_,?_⟩
     ·simp only[Instr.indexAt,asIntOf,amz,apZ,abc,ZG (hX.Zd _ _ hu),Instr.sureAddr,YA,and_self,if_true,YG hX hs];simp[Xs,ap2]
     ·simp only[ZY];exact⟨b,base,us,cc,ee,fz,rfl,h1,h2,h3⟩
    ·cases h
   ·cases h
  ·cases h
 ·cases h
def P8 {vs:Array Value}{off:Nat}{a:AV}(hv:ZZ σ cs vs.toList)(h:Rz X t cs off=some a):Ut P w σ (part t vs off) a:=by
 unfold Rz at h
 split at h
 ·rename_i Ku
  split at h
  ·rename_i n hs
   split at h
   ·rename_i r hr
    cases h
    refine⟨.agg (vs.extract off (off+n)),?_,?_⟩
    ·simp only[part,amz,To hX Ku,abc,if_true,YG hX hs,apZ]
    ·simp only[ZY];refine⟨_,rfl,?_⟩;obtain⟨h1,h2⟩:=WD hr;have hlen:=hv.length;have Vt:off+n<=vs.size\/n=0:=by
      by_cases hn:n=0
      ·exact .inr hn
      ·have:=(h2 (n-1) J).2;simp at hlen;left;omega
     apply ZZ.AB
     ·simp[h1];omega
     ·intro i hi QD;have TD:i<n:=J;obtain⟨h3,h4⟩:=h2 i TD;obtain⟨u,Dw,LB⟩:=ZZ.get hv (off+i) cs[off+i] (aaa h4);have e1:r[i]=cs[off+i]:=by
       rw[aaa hi,aaa h4] at h3;exact aqb h3
      rw[e1];have e2:(vs.extract off (off+n)).toList[i]=u:=by
       have:off+i<vs.size:=by simp at hlen;omega
       simp only[Array.getElem_toList,Array.getElem_extract];rw[aqq,aqz this] at Dw;exact aqb Dw
      rw[e2];exact LB
   ·cases h
  ·cases h
 ·rename_i Ku;obtain⟨u,Dw,LB⟩:=ZZ.get hv _ _ h;refine⟨u,?_,LB⟩;rw[aqq] at Dw;simp only[part,amz,To hX Ku,abc,aqa,if_false,Dw,apZ]
 ·cases h
def jS {x i:AV}{v u:Value}{a:AV}(hx:ZY σ x v)(hi:ZY σ i u)(h:Fp X t x i=some a):Ut P w σ (Instr.index t v u) a:=by
 unfold Fp at h
 split at h
 ·rename_i k i;have:=YX hi;subst this
  split at h
  ·rename_i len e cs hu
   split at h
   ·rename_i YA
    split at h
    ·rename_i n hs;obtain⟨vs,rfl,SH⟩:=Wc hx;obtain⟨r,yL,hr2⟩:=P8 hX (w:=w) SH h;refine⟨r,?_,hr2⟩;simp only[Instr.index,asIntOf,amz,apZ,abc,ZG (hX.Zd _ _ hu),YA,and_self,if_true,YG hX hs,yL]
    ·cases h
   ·cases h
  ·rename_i b hu
   split at h
   ·rename_i h0
    split at h
    ·rename_i c hc
     cases h
     obtain⟨bs,rfl,rfl⟩:=Xt hx;refine⟨.int .u8 c.toNat,?_,by simp[ZY]⟩;have YA:i.toNat<bs.size:=by
      have:=(apX.1 hc).1;rw[aqj] at this;exact this
     have hb:bs[i.toNat]? = some c:=by
      rw[ByteArray.getElem?_lt' _ _ YA];obtain⟨h1,h2⟩:=apX.1 hc
      simpa[ByteArray.getElem_eq_getElem_data] using h2
     simp only[Instr.index,asIntOf,amz,apZ,abc,ZG (hX.Zd _ _ hu),h0,if_true,hb]
    ·cases h
   ·cases h
  ·cases h
 ·cases h
def jR {fs:Array Field}{v:Value}{f:Nat}{fd:Field}{a:AV}(hu:X.Zd t=some (.struct fs))(hx:ZY σ (.agg cs) v)(hf:fs[f]? = some fd)(h:Rz X fd.type cs fd.offset=some a) :
  Ut P w σ (Instr.field t v f) a:=by
 obtain⟨vs,rfl,SH⟩:=Wc hx;obtain⟨r,yL,hr2⟩:=P8 hX (w:=w) SH h;refine⟨r,?_,hr2⟩;simp only[Instr.field,amz,ZG (hX.Zd _ _ hu),abc,hf,asAgg,apZ,yL]
omit hX in
def vV {vs:List AV}{v:Value}{i:Nat}{a:AV}(hx:ZY σ (.XQ vs) v)(h:vs[i]? = some a):Ut P w σ (Instr.extract v i) a:=by
 obtain⟨us,rfl,LU⟩:=cD hx;obtain⟨u,Dw,LB⟩:=ZZ.get LU _ _ h;rw[aqq] at Dw;exact⟨u,by simp[Instr.extract,Dw],LB⟩
end
end Go.Am
namespace Go.Am
open Go
section
variable [Stat] {X:Cx}{P:Program}(hX:Vm X P){w:World}{σ:Sg}
def bytes_beq (a b:ByteArray):(a==b)=(a.data.toList==b.data.toList):=by
 rw[beq_toListBytes,ByteArray.toList_eq,ByteArray.toList_eq]
def P9 (d:Nat)(elem:TypeId)(n:Nat)(xs ys:Array Value):List Nat->Sem Bool
 |[]=>pure true
 |i::l=>do
  let a <-part elem xs (i*n)
  let b <-part elem ys (i*n)
  let r <-Op.equalIn d elem a b
  if (!r)=true then pure false else P9 d elem n xs ys l
def run_equalIn_array {d:Nat}{t:TypeId}{len:Nat}{elem:TypeId}{n:Nat}{xs ys:Array Value}(ht:P.underlying t=some (.array len elem))
  (hs:∀w,(sizeOf elem).run P w=.ok n w):(Op.equalIn (d+1) t (.agg xs) (.agg ys)).run P w=(P9 d elem n xs ys (List.range' 0 len)).run P w:=by
 simp only[Op.equalIn,amz,ZG ht,abc,hs];rw[Std.Legacy.Range.forIn_eq_forIn_range'];simp only[Std.Legacy.Range.size,Nat.sub_zero,Nat.add_sub_cancel,Nat.div_one];generalize List.range' 0 len=l
 induction l generalizing w with
 |nil=>simp[P9]
 |cons i l ih =>
  simp only[List.forIn_cons,P9,amz,Sem.run_ite];generalize (part elem xs (i*n)).run P w=r1
  cases r1 with
  |halt x w1=>simp[Result.andThen]
  |ok a w1 =>
   simp only[abc];generalize (part elem ys (i*n)).run P w1=r2
   cases r2 with
   |halt x w1=>simp[Result.andThen]
   |ok b w2 =>
    simp only[abc];generalize (Op.equalIn d elem a b).run P w2=r3
    cases r3 with
    |halt x w1=>simp[Result.andThen]
    |ok r w3 =>
     cases r
     ·simp only[abc,aqF,if_true,apZ]
     ·simp only[abc,aqB,aqa,if_false,apZ];exact ih
include hX
def GZ:∀(d:Nat) (t:TypeId) (x y:AV) (b:Bool),yB X d t x y=some b->∀(u v:Value),ZY σ x u->ZY σ y v->∀D,d<=D->∀w,(Op.equalIn D t u v).run P w=.ok b w:=by
 intro d
 induction d with
 |zero=>intro t x y b h;simp[yB] at h
 |succ d ih =>
  intro t x y b h u v hu hv D hD w;obtain⟨D,rfl⟩:∃D',D=D'+1:=⟨D-1,J⟩;have hD':d<=D:=J;unfold yB at h
  split at h <;> try (cases h;done)
  ·rename_i ht
   cases h;rw[WC hu,WC hv]
   exact run_equalIn_bool w D t _ _ (hX.Zd _ _ ht)
  ·rename_i k1 k a k' b' ht
   split at h
   ·rename_i hk;cases h;rw[YX hu,YX hv];subst hk;exact run_equalIn_int w D t _ _ _ _ (hX.Zd _ _ ht)
   ·cases h
  ·rename_i a b' ht
   cases h
   obtain⟨p,rfl,rfl⟩:=Xt hu;obtain⟨q,rfl,rfl⟩:=Xt hv;rw[run_equalIn_string w D t _ _ (hX.Zd _ _ ht),ByteArray.toList_eq,ByteArray.toList_eq]
  ·rename_i e ht
   cases h;simp only[ZY] at hu hv;subst hu;subst hv
   simp[Op.equalIn,ZG (hX.Zd _ _ ht)]
  ·rename_i e b o ht
   cases h;obtain⟨p,_,rfl⟩:=WT hv;simp only[ZY] at hu;subst hu
   simp[Op.equalIn,ZG (hX.Zd _ _ ht)]
  ·rename_i e b o ht
   cases h;obtain⟨p,_,rfl⟩:=WT hu;simp only[ZY] at hv;subst hv
   simp[Op.equalIn,ZG (hX.Zd _ _ ht)]
  ·rename_i e b1 o1 b2 o2 ht
   split at h
   ·rename_i n hs
    split at h
    ·rename_i hb;subst hb;cases h;obtain⟨p,hp,rfl⟩:=WT hu;obtain⟨q,hq,rfl⟩:=WT hv;rw[hp] at hq;cases hq;simp only[Op.equalIn,amz,ZG (hX.Zd _ _ ht),abc,YG hX hs];have hn:n.succ≠0:=Nat.succ_ne_zero n;rw[Of hn];simp only[sameAddr,beq_self_eq_true,if_true];show Result.ok (({ block:=p.b,off:=p.sh+o1 }:Addr)=={ block:=p.b,off:=p.sh+o2 }) w=Result.ok (o1==o2) w
     congr 1
     rw[aqI];simp
    ·cases h
   ·cases h
  all_goals first
   |(rename_i ht;cases h;simp only[ZY] at hu hv;subst hu;subst hv;simp[Op.equalIn,ZG (hX.Zd _ _ ht)];done)
   |(rename_i ht;cases h;simp only[ZY] at hu hv;obtain⟨_,_,rfl,_⟩:=hu;subst hv;simp[Op.equalIn,ZG (hX.Zd _ _ ht)];done)
   |(rename_i ht;cases h;simp only[ZY] at hu hv;obtain⟨_,_,rfl,_⟩:=hv;subst hu;simp[Op.equalIn,ZG (hX.Zd _ _ ht)];done)
   |(rename_i ht;cases h;simp only[ZY] at hu hv;obtain⟨_,_,rfl⟩:=hu;subst hv;simp[Op.equalIn,ZG (hX.Zd _ _ ht)];done)
   |(rename_i ht;cases h;simp only[ZY] at hu hv;obtain⟨_,_,rfl⟩:=hv;subst hu;simp[Op.equalIn,ZG (hX.Zd _ _ ht)];done)
   |(rename_i ht;cases h;simp only[ZY] at hu hv;obtain⟨_,_,_,rfl,_⟩:=hu;subst hv;simp[Op.equalIn,ZG (hX.Zd _ _ ht)];done)
   |(rename_i ht;cases h;simp only[ZY] at hu hv;obtain⟨_,_,_,rfl,_⟩:=hv;subst hu;simp[Op.equalIn,ZG (hX.Zd _ _ ht)];done)
   |(rename_i ht;cases h;simp only[ZY] at hu hv;obtain⟨_,rfl,_⟩:=hu;subst hv;simp[Op.equalIn,ZG (hX.Zd _ _ ht)];done)
   |(rename_i ht;cases h;simp only[ZY] at hu hv;obtain⟨_,rfl,_⟩:=hv;subst hu;simp[Op.equalIn,ZG (hX.Zd _ _ ht)];done)
   |skip
  ·
   rename_i fs a b' ht
   split at h
   ·rename_i XP;obtain⟨us,rfl,LU⟩:=Wc hu;obtain⟨vs,rfl,SH⟩:=Wc hv;have hfo:P.fieldsOf t=fs:=by unfold Program.fieldsOf;rw[hX.Zd _ _ ht]
    rw[run_equalIn_struct w D t us vs (by rw[hfo];exact hX.Zd _ _ ht) (hX.AN _ XP).2,hfo];generalize fs.toList=l at h;clear hfo ht
    induction l generalizing w with
    |nil=>simp only[MZ] at h;cases h;simp[Op.eqFields]
    |cons f l DB =>
     simp only[MZ] at h
     split at h
     ·cases h
     ·rename_i hn
      split at h
      ·rename_i x1 y1 h1 h2;obtain⟨x2,hx1,zt⟩:=P8 hX (w:=w) LU h1;obtain⟨y2,hy1,hy2⟩:=P8 hX (w:=w) SH h2;simp only[Op.eqFields,ne_eq,hn,not_false_eq_true,if_true,amz,hx1,abc,hy1]
       split at h
       ·rename_i he;rw[ih _ _ _ _ he _ _ zt hy2 D hD' w];simp only[abc,aqB,aqa,if_false];exact DB w h
       ·rename_i he
        cases h
        rw[ih _ _ _ _ he _ _ zt hy2 D hD' w];simp
       ·cases h
      ·cases h
   ·cases h
  ·
   rename_i len e a b' ht
   split at h
   ·rename_i n hs;obtain⟨us,rfl,LU⟩:=Wc hu;obtain⟨vs,rfl,SH⟩:=Wc hv;rw[run_equalIn_array (hX.Zd _ _ ht) (λw=>YG hX hs)];clear ht;generalize 0=i at h
    induction len generalizing w i with
    |zero=>simp only[QQ] at h;cases h;simp[P9]
    |succ len DB =>
     simp only[QQ] at h
     split at h
     ·rename_i x1 y1 h1 h2;obtain⟨x2,hx1,zt⟩:=P8 hX (w:=w) LU h1;obtain⟨y2,hy1,hy2⟩:=P8 hX (w:=w) SH h2;rw[List.range'_succ];simp only[P9,amz,hx1,abc,hy1]
      split at h
      ·rename_i he;rw[ih _ _ _ _ he _ _ zt hy2 D hD' w];simp only[abc,aqB,aqa,if_false];exact DB w _ h
      ·rename_i he
       cases h
       rw[ih _ _ _ _ he _ _ zt hy2 D hD' w];simp
      ·cases h
     ·cases h
   ·cases h
end
end Go.Am
namespace Go.Am
open Go
variable {t:TypeId}{n:Nat}
section
variable [Stat] {X:Cx}{P:Program}(hX:Vm X P){w:World}{σ:Sg}
def qY (a b:List UInt8):Sd a b=Op.bytesLess a b:=by
 induction a generalizing b with
 |nil=>cases b <;> simp[Sd,Op.bytesLess]
 |cons x a ih=>cases b with
  |nil=>simp[Sd,Op.bytesLess]
  |cons y b=>simp[Sd,Op.bytesLess,ih]
def bC {op:BinOp}{k:IntKind}{a b:Int}{r:AV}(h:Oj op k a b=some r):Ut P w σ (binOp op t (.int k a) (.int k b)) r:=by
 cases op <;> simp only[Oj] at h <;> try (cases h;done)
 all_goals first
  |(cases h;exact⟨_,by simp[binOp,Op.intArith,Op.intCmp,Op.intBits];rfl,by simp[ZY]⟩)
  |(split at h
    ·cases h
    ·rename_i hb;cases h;exact⟨_,by simp[binOp,Op.intDiv,hb];rfl,by simp[ZY]⟩)
def Em {op:BinOp}{k yk:IntKind}{a b:Int}{r:AV}(ho:op=.shl\/op=.shr)(h:IN op k a b=some r):Ut P w σ (binOp op t (.int k a) (.int yk b)) r:=by
 unfold IN at h
 split at h
 ·cases h
 ·rename_i hb;rcases ho with rfl|rfl
  ·cases h;exact⟨_,by simp[binOp,Op.shift,hb];rfl,by simp[ZY]⟩
  ·cases h;exact⟨_,by simp[binOp,Op.shift,hb];rfl,by simp[ZY]⟩
def bB {op:BinOp}{a b:ByteArray}{r:AV}(h:fc op a.data.toList b.data.toList=some r):Ut P w σ (binOp op t (.string a) (.string b)) r:=by
 cases op <;> simp only[fc] at h <;> try (cases h;done)
 case add =>
  split at h
  ·rename_i YA
   cases h
   refine⟨.string (a++b),?_,?_⟩
   ·have h1:a.size=a.data.toList.length:=by rw[aqj];rfl
    have h2:b.size=b.data.toList.length:=by rw[aqj];rfl
    have:¬((a.size+b.size:Nat):Int)>IntKind.i64.max:=by rw[h1,h2,IntKind.max_i64];omega
    simp only[binOp,Op.stringOp,this,if_false,apZ]
   ·simp only[ZY];exact⟨_,rfl,by simp[ByteArray.data_append]⟩
  ·cases h
 all_goals
  cases h
  exact⟨_,by simp only[binOp,Op.stringOp,apZ];rfl,by simp[ZY,qY,ByteArray.toList_eq]⟩
def vE {k:FloatKind}{v:Value}(h:ZY σ (.zr k n) v):v=.float k n:=by simpa only[ZY] using h
def bA {op:BinOp}{k:FloatKind}{a b:Nat}{r:AV}(h:aew op k a b=some r):Ut P w σ (binOp op t (.float k a) (.float k b)) r:=by
 cases op <;> simp only[aew] at h <;> try (cases h;done)
 all_goals first
  |(cases h;exact⟨_,by simp[binOp,Op.floatCmp];rfl,by simp[ZY]⟩)
  |(obtain⟨q,hq,rfl⟩:=aqU.1 h
    exact⟨.float k q,by simp[binOp,Op.floatArith,hq],by simp[ZY]⟩)
def QG {op:BinOp}{xo yo:Operand}{u v:Value}(h1:¬(u=.nilIface/\v=.nilIface))(h2:∀a b,¬(u=.agg a/\v=.agg b)):(eqGuard op t xo yo u v).run P w=.ok () w:=by
 have:eqGuard op t xo yo u v=pure ():=by
  cases u
  case nilIface=>cases v <;> first|(exact absurd ⟨rfl,rfl⟩ h1)|(cases op <;> rfl)
  case agg a=>cases v <;> first|(exact absurd ⟨rfl,rfl⟩ (h2 _ _))|(cases op <;> rfl)
  all_goals (cases op <;> rfl)
 rw[this];rfl
def Gv {x:AV}{k:IntKind}{n:Int}(h:ZY σ x (.int k n)):x=.int k n:=by
 cases x <;> simp only[ZY] at h <;> first|(cases h;rfl)|(cases h;done)|(obtain⟨_,h,_⟩:=h;cases h;done)|(obtain⟨_,_,h⟩:=h;cases h;done)|(obtain⟨_,_,h,_⟩:=h;cases h;done)|(obtain⟨_,_,_,h,_⟩:=h;cases h;done)|(obtain⟨_,_,_,_,_,_,h,_⟩:=h;cases h;done)
def Gu {x:AV}{k:FloatKind}(h:ZY σ x (.float k n)):x=.zr k n:=by
 cases x <;> simp only[ZY] at h <;> first|(cases h;rfl)|(cases h;done)|(obtain⟨_,h,_⟩:=h;cases h;done)|(obtain⟨_,_,h⟩:=h;cases h;done)|(obtain⟨_,_,h,_⟩:=h;cases h;done)|(obtain⟨_,_,_,h,_⟩:=h;cases h;done)|(obtain⟨_,_,_,_,_,_,h,_⟩:=h;cases h;done)
def HA {x:AV}{k:FloatKind}{n m:Nat}(h:ZY σ x (.complex k n m)):False:=by
 cases x <;> simp only[ZY] at h <;> first|(cases h;done)|(obtain⟨_,h,_⟩:=h;cases h;done)|(obtain⟨_,_,h⟩:=h;cases h;done)|(obtain⟨_,_,h,_⟩:=h;cases h;done)|(obtain⟨_,_,_,h,_⟩:=h;cases h;done)|(obtain⟨_,_,_,_,_,_,h,_⟩:=h;cases h;done)
def Gt {x:AV}{s:ByteArray}(h:ZY σ x (.string s)):x=.str s.data.toList:=by
 cases x <;> simp only[ZY] at h <;> first|(cases h;done)|(obtain⟨_,h,e⟩:=h;cases h;rw[<-e];done)|(obtain⟨_,h,_⟩:=h;cases h;done)|(obtain⟨_,_,h⟩:=h;cases h;done)|(obtain⟨_,_,h,_⟩:=h;cases h;done)|(obtain⟨_,_,_,h,_⟩:=h;cases h;done)|(obtain⟨_,_,_,_,_,_,h,_⟩:=h;cases h;done)
def vD {x:AV}(h:ZY σ x .nilIface):x=.Tz:=by
 cases x <;> simp only[ZY] at h <;> first|rfl|(cases h;done)|(obtain⟨_,h,_⟩:=h;cases h;done)|(obtain⟨_,_,h⟩:=h;cases h;done)|(obtain⟨_,_,h,_⟩:=h;cases h;done)|(obtain⟨_,_,_,h,_⟩:=h;cases h;done)|(obtain⟨_,_,_,_,_,_,h,_⟩:=h;cases h;done)
def nX {x:AV}{a:Array Value}(h:ZY σ x (.agg a)):∃c,x=.agg c:=by
 cases x <;> simp only[ZY] at h <;> first|exact⟨_,rfl⟩|(cases h;done)|(obtain⟨_,h,_⟩:=h;cases h;done)|(obtain⟨_,_,h⟩:=h;cases h;done)|(obtain⟨_,_,h,_⟩:=h;cases h;done)|(obtain⟨_,_,_,h,_⟩:=h;cases h;done)|(obtain⟨_,_,_,_,_,_,h,_⟩:=h;cases h;done)
def OF {u v:Value}(h1:∀k a j b,¬(u=.int k a/\v=.int j b))(h2:∀a b,¬(u=.string a/\v=.string b))(h3:∀k a j b,¬(u=.float k a/\v=.float j b))(h4:∀k a c,u≠.complex k a c) :
  binOp .eql t u v=(do pure (.bool (<-Op.equal t u v)))/\binOp .neq t u v=(do pure (.bool (!(<-Op.equal t u v)))):=by
 cases u <;> cases v <;> first
  |(exact⟨rfl,rfl⟩)
  |(exact absurd ⟨rfl,rfl⟩ (h1 _ _ _ _))
  |(exact absurd ⟨rfl,rfl⟩ (h2 _ _))
  |(exact absurd ⟨rfl,rfl⟩ (h3 _ _ _ _))
  |(exact absurd rfl (h4 _ _ _))
include hX
def Bx {cst:Bool}{x y:AV}{b:Bool}{u v:Value}{xo yo:Operand}(hc:cst=(TI xo||TI yo))(hu:ZY σ x u)(hv:ZY σ y v)(h:HS X cst t x y=some b)(op:BinOp) :
  (eqGuard op t xo yo u v).run P w=.ok () w/\(Op.equal t u v).run P w=.ok b w:=by
 unfold HS at h
 split at h
 ·split at h
  ·rename_i ajZ;have ui:=hu;have hv':=hv;simp only[ZY] at ui hv';subst ui;subst hv';refine⟨?_,GZ hX _ _ _ _ _ h _ _ hu hv 10000 J w⟩;rw[hc] at ajZ
   cases xo <;> cases yo <;> simp[TI] at ajZ <;> first
    |(rw[eqGuard_nil_constL];rfl)
    |(rw[eqGuard_nil_constR];rfl)
  ·cases h
 ·split at h
  ·rename_i XP;obtain⟨us,Dw,_⟩:=Wc hu;obtain⟨vs,NO,_⟩:=Wc hv;subst Dw;subst NO;exact⟨run_eqGuard_agg w op t xo yo us vs (hX.AN _ XP).1,GZ hX _ _ _ _ _ h _ _ hu hv 10000 J w⟩
  ·cases h
 ·rename_i h1 h2;refine⟨QG ?_ ?_,GZ hX _ _ _ _ _ h _ _ hu hv 10000 J w⟩
  ·rintro⟨rfl,rfl⟩;exact h1 (vD hu) (vD hv)
  ·rintro a b' ⟨rfl,rfl⟩;obtain⟨c,rfl⟩:=nX hu;obtain⟨d,rfl⟩:=nX hv;exact h2 c d rfl rfl
def bu {op:BinOp}{cst:Bool}{x y r:AV}{u v:Value}{xo yo:Operand}(hc:cst=(TI xo||TI yo))(hu:ZY σ x u)(hv:ZY σ y v)(h:Xj X op t cst x y=some r) :
  Ut P w σ (do eqGuard op t xo yo u v;binOp op t u v) r:=by
 unfold Xj at h
 split at h
 ·rw[YX hu,YX hv];obtain⟨q,hq,hr⟩:=Em (P:=P) (w:=w) (σ:=σ) (t:=t) (.inl rfl) h;exact⟨q,by simpa[eqGuard_shl] using hq,hr⟩
 ·rw[YX hu,YX hv];obtain⟨q,hq,hr⟩:=Em (P:=P) (w:=w) (σ:=σ) (t:=t) (.inr rfl) h;exact⟨q,by simpa[eqGuard_shr] using hq,hr⟩
 ·rename_i op k a k' b h1 h2
  split at h
  ·rename_i hk;subst hk;rw[YX hu,YX hv];obtain⟨q,hq,hr⟩:=bC (P:=P) (w:=w) (σ:=σ) (t:=t) h;exact⟨q,by simpa[eqGuard_at_int] using hq,hr⟩
  ·cases h
 ·obtain⟨p,rfl,rfl⟩:=Xt hu;obtain⟨q,rfl,rfl⟩:=Xt hv;obtain⟨q,hq,hr⟩:=bB (P:=P) (w:=w) (σ:=σ) (t:=t) h;exact⟨q,by simpa[eqGuard_at_string] using hq,hr⟩
 ·rename_i op k a k' b h1 h2
  split at h
  ·rename_i hk;subst hk;rw[vE hu,vE hv];obtain⟨q,hq,hr⟩:=bA (P:=P) (w:=w) (σ:=σ) (t:=t) h;refine⟨q,?_,hr⟩;rw[amz,QG (λh=>by cases h.1) (λa b h=>by cases h.1)]
   simpa using hq
  ·cases h
 ·rename_i hni hns hnf
  split at h
  ·rename_i b hb
   cases h
   obtain⟨g1,g2⟩:=Bx hX (w:=w) (xo:=xo) (yo:=yo) hc hu hv hb .eql;obtain⟨e1,e2⟩:=OF (t:=t) (u:=u) (v:=v)
    (by rintro k a j b' ⟨rfl,rfl⟩;exact hni _ _ _ _ (Gv hu) (Gv hv))
    (by rintro a b' ⟨rfl,rfl⟩;exact hns _ _ (Gt hu) (Gt hv))
    (by rintro k a j b' ⟨rfl,rfl⟩;exact hnf _ _ _ _ (Gu hu) (Gu hv))
    (by rintro k a c rfl;exact HA hu)
   refine⟨.bool b,?_,by simp[ZY]⟩;simp only[amz,g1,abc,e1,g2,apZ]
  ·cases h
 ·rename_i hni hns hnf
  split at h
  ·rename_i b hb
   cases h
   obtain⟨g1,g2⟩:=Bx hX (w:=w) (xo:=xo) (yo:=yo) hc hu hv hb .neq;obtain⟨e1,e2⟩:=OF (t:=t) (u:=u) (v:=v)
    (by rintro k a j b' ⟨rfl,rfl⟩;exact hni _ _ _ _ (Gv hu) (Gv hv))
    (by rintro a b' ⟨rfl,rfl⟩;exact hns _ _ (Gt hu) (Gt hv))
    (by rintro k a j b' ⟨rfl,rfl⟩;exact hnf _ _ _ _ (Gu hu) (Gu hv))
    (by rintro k a c rfl;exact HA hu)
   refine⟨.bool !b,?_,by simp[ZY]⟩;simp only[amz,g1,abc,e2,g2,apZ]
  ·cases h
 ·cases h
omit hX in
def acs {op:UnOp}{x r:AV}{u:Value}(hu:ZY σ x u)(h:unA op x=some r):Ut P w σ (Op.unary op u) r:=by
 unfold unA at h
 split at h
 ·rw[YX hu];cases h;exact⟨_,by simp[Op.unary,Op.intArith];rfl,by simp[ZY]⟩
 ·rw[YX hu];simp only[Oj] at h;cases h;exact⟨_,by simp[Op.unary,Op.intBits];rfl,by simp[ZY]⟩
 ·rw[WC hu];cases h;exact⟨_,by simp[Op.unary];rfl,by simp[ZY]⟩
 ·cases h
end
end Go.Am
namespace Go.Am
open Go
section
variable [Stat] {X:Cx}{P:Program}(hX:Vm X P){w:World}{σ:Sg}
def ta {x:Option AV}{xv:Option Value}{s_ y r:Nat}(hx:match x,xv with|none,none=>True|some a,some v=>ZY σ a v|_,_=>False)(h:Yv x s_ y=some r) :
  (x=none/\xv=none/\r=s_)\/∃k i,xv=some (.int k i)/\0<=i/\i<=(y:Int)/\r=i.toNat/\r<=y/\∃k',x=some (.int k' i):=by
 unfold Yv at h
 split at h
 ·cases xv with
  |none=>cases h;exact .inl ⟨rfl,rfl,rfl⟩
  |some v=>exact hx.elim
 ·rename_i k i
  split at h
  ·rename_i hi
   cases xv with
   |none=>exact hx.elim
   |some v =>
    have:=YX (σ:=σ) hx;subst this
    cases h
    exact .inr ⟨k,i,rfl,hi.1,hi.2,rfl,J,_,rfl⟩
  ·cases h
 ·cases h
def s9 (σ:Sg):Option AV->Option Value->Prop
 |none,none=>True
 |some a,some v=>ZY σ a v
 |_,_=>False
def T4 {x:Option AV}{xv:Option Value}{s_ y r:Nat}(hx:s9 σ x xv)(h:Yv x s_ y=some r) :
  (x=none/\xv=none/\r=s_)\/∃k i,xv=some (.int k i)/\0<=i/\i<=(y:Int)/\r=i.toNat/\r<=y/\∃k',x=some (.int k' i):=by
 refine ta (σ:=σ) ?_ h
 cases x <;> cases xv <;> exact hx
def Rq {P:Program}{w:World}{isSlice:Bool}{len cap:Nat}{lo hi:Option AV}{lv hv:Option Value}{h l top:Nat}(pY:s9 σ lo lv)(hhi:s9 σ hi hv)(hb:Yv hi len top=some h)(lb:Yv lo 0 h=some l)
  (ahC:top<=cap)(hl:len<=cap):(Instr.sliceBounds isSlice len cap lv hv none).run P w=.ok (l,h,cap) w/\l<=h/\h<=cap:=by
 rcases T4 hhi hb with⟨rfl,rfl,rfl⟩|⟨k,i,rfl,h0,h1,rfl,h2,k',rfl⟩
 ·rcases T4 pY lb with⟨rfl,rfl,rfl⟩|⟨kl,j,rfl,g0,g1,rfl,g2,kl',rfl⟩
  ·simp[Instr.sliceBounds,hl]
  ·simp[Instr.sliceBounds,Instr.sliceBound,asIntOf,g0,g1,hl,g2]
 ·have h3:i<=(cap:Int):=J;have h4:i.toNat<=cap:=J;have h5:(i.toNat:Int)=i:=Int.toNat_of_nonneg h0;rcases T4 pY lb with⟨rfl,rfl,rfl⟩|⟨kl,j,rfl,g0,g1,rfl,g2,kl',rfl⟩
  ·simp[Instr.sliceBounds,Instr.sliceBound,asIntOf,h0,h3]
  ·rw[h5] at g1;have g3:j.toNat<=i.toNat:=J;simp only[Instr.sliceBounds,Instr.sliceBound,asIntOf,amz,apZ,abc,h0,h3,g0,g1,h5,and_self,if_true];exact⟨trivial,g3,h4⟩
def extract_toList (bs:ByteArray)(l h:Nat):(bs.extract l h).data.toList=(bs.data.toList.take h).drop l:=by
 rw[ByteArray.data_extract,Array.toList_extract,List.extract_eq_take_drop,List.take_drop];by_cases hlh:l<=h
 ·rw[show l+(h-l)=h from by omega]
 ·rw[show h-l=0 from by omega];simp only[Nat.add_zero];rw[aqV,aqV]
  ·rw[aqO];omega
  ·rw[aqO];omega
def Ci {α β:Type}(f:α->List β)(n:Nat):∀(l:List α),(∀u∈l,(f u).length=n)->∀k,(l.take k).flatMap f=(l.flatMap f).take (k*n)
 |[],_,k=>by simp
 |x::l,hl,0=>by simp
 |x::l,hl,k+1=>by
  have hx:=hl x (aba ..);rw[List.take_succ_cons,aqp,aqp,Ci f n l (λu hu=>hl u (aab _ hu)) k,List.take_append,hx,
   show (k+1)*n-n=k*n by rw[aq3];omega,List.take_of_length_le (l:=f x) (by rw[hx,aq3];omega)]
def Ch {α β:Type}(f:α->List β)(n:Nat):∀(l:List α),(∀u∈l,(f u).length=n)->∀k,(l.drop k).flatMap f=(l.flatMap f).drop (k*n)
 |[],_,k=>by simp
 |x::l,hl,0=>by simp
 |x::l,hl,k+1=>by
  have hx:=hl x (aba ..);rw[aq5,aqp,Ch f n l (λu hu=>hl u (aab _ hu)) k,List.drop_append,hx,
   show (k+1)*n-n=k*n by rw[aq3];omega,aqV (as:=f x) (by rw[hx,aq3];omega),aqQ]
def ZZ.take {σ:Sg}:∀{x:List AV} {l:List Value},ZZ σ x l->∀k,ZZ σ (x.take k) (l.take k)
 |[],l,h,k=>by simp only[ZZ] at h;simp[h,ZZ]
 |a::x,l,h,0=>by simp[ZZ]
 |a::x,l,h,k+1=>by
  simp only[ZZ] at h;obtain⟨v,y,rfl,h1,h2⟩:=h;simp only[List.take_succ_cons,ZZ];exact⟨v,y.take k,rfl,h1,h2.take k⟩
def ZZ.drop {σ:Sg}:∀{x:List AV} {l:List Value},ZZ σ x l->∀k,ZZ σ (x.drop k) (l.drop k)
 |[],l,h,k=>by simp only[ZZ] at h;simp[h,ZZ]
 |a::x,l,h,0=>by simpa using h
 |a::x,l,h,k+1=>by
  simp only[ZZ] at h;obtain⟨v,y,rfl,h1,h2⟩:=h
  simpa using h2.drop k
def ml {x:Option AV}{d y r:Nat}(h:Yv x d y=some r)(hd:d<=y:=by exact api _):r<=y:=by
 unfold Yv at h
 split at h
 ·cases h;exact hd
 ·split at h
  ·cases h;omega
  ·cases h
 ·cases h
include hX
def s8 {t:TypeId}{x r:AV}{v:Value}{lo hi mx:Option AV}{lv hv mv:Option Value}(hx:ZY σ x v)(pY:s9 σ lo lv)(hhi:s9 σ hi hv)(qF:s9 σ mx mv)(h:O1 X t x lo hi mx=some r) :
  Ut P w σ (Instr.sliceAt t v lv hv mv) r:=by
 unfold O1 at h
 split at h
 ·
  rename_i b hu;obtain⟨bs,rfl,rfl⟩:=Xt hx
  split at h
  ·rename_i h' hb
   split at h
   ·rename_i l hl
    cases h
    cases mv with
    |some _=>exact qF.elim
    |none =>
     have Vt:bs.data.toList.length=bs.size:=by rw[aqj];rfl
     rw[Vt] at hb;obtain⟨e,e1,e2⟩:=Rq (P:=P) (w:=w) (isSlice:=false) pY hhi hb hl (api _) (api _);refine⟨.string (bs.extract l h'),?_,?_⟩
     ·simp[Instr.sliceAt,Instr.slice,ZG (hX.Zd _ _ hu),e]
     ·simp only[ZY];exact⟨_,rfl,extract_toList _ _ _⟩
   ·cases h
  ·cases h
 ·
  rename_i el b o len cap Vl hu;obtain⟨a,c,rfl,hlen,⟨p,hp,ha,hbd⟩,Hd⟩:=Td hx;have ahC:cap.getD len<=c:=by
   cases cap with
   |none=>exact hlen
   |some k=>exact Nat.le_of_eq (Hd k rfl).symm
  have bd:∀(n l m:Nat),l<=m->m<=c->(if Vl=n then n else 0)≠0->p.sh+(o+l*n)+(m-l)*(if Vl=n then n else 0)<=p.n:=by
   intro n l m hlm hmc hz
   split at hz
   ·rename_i hez;subst hez;have h1:=hbd hz;rw[Of rfl];have h2:l*Vl+(m-l)*Vl=m*Vl:=by rw[<-aq3];congr 1;omega
    have h3:m*Vl<=c*Vl:=aqC _ hmc;omega
   ·exact absurd rfl hz
  split at h
  ·
   rename_i n hs
   cases mv with
   |some _=>exact qF.elim
   |none =>
    split at h
    ·rename_i h' hb
     split at h
     ·rename_i l hl
      cases h
      obtain⟨e,e1,e2⟩:=Rq (P:=P) (w:=w) (isSlice:=true) pY hhi hb hl ahC hlen;refine⟨.slice (if c=l then some a else some (a.add (l*n))) (h'-l) (c-l),?_,?_⟩
      ·simp[Instr.sliceAt,Instr.slice,ZG (hX.Zd _ _ hu),e,YG hX hs]
      ·simp only[ZY];refine⟨if c=l then a else a.add (l*n),c-l,?_,J,⟨p,hp,?_,?_⟩,?_⟩
       ·split <;> rfl
       ·intro ZB;rw[O3 J,ha J,Xs,ap2]
       ·exact bd n l c J (api _)
       ·intro k hk
        cases cap with
        |none=>cases hk
        |some q=>have:=Hd q rfl;simp at hk;omega
     ·cases h
    ·cases h
  ·
   rename_i n m hs
   cases mv with
   |none=>exact qF.elim
   |some mv =>
    split at h
    ·rename_i m' QD hm
     split at h
     ·rename_i h' hb
      split at h
      ·rename_i l hl
       cases h
       rcases T4 (x:=some m) (xv:=some mv) qF hm with⟨e,_,_⟩|⟨km,im,e1,m0,m1,rfl,m2,_,_⟩
       ·cases e
       cases e1
       rcases T4 hhi hb with⟨e,_,_⟩|⟨kh,ih,rfl,h0,h1,rfl,h2,_,_⟩
       ·cases e
       have em:(im.toNat:Int)=im:=Int.toNat_of_nonneg m0;have eh:(ih.toNat:Int)=ih:=Int.toNat_of_nonneg h0;have ux:im<=(c:Int):=J;have hr:∃l',(Instr.sliceBounds true len c lv (some (.int kh ih)) (some (.int km im))).run P w=.ok (l',ih.toNat,im.toNat) w/\l'=l/\l<=ih.toNat:=by
        rcases T4 pY hl with⟨rfl,rfl,rfl⟩|⟨kl,j,rfl,g0,g1,rfl,g2,kl',rfl⟩
        ·exact⟨0,by simp only[Instr.sliceBounds,Instr.sliceBound,asIntOf,amz,apZ,abc,m0,ux,h0,h1,and_self,if_true],rfl,apW _⟩
        ·exact⟨j.toNat,by simp only[Instr.sliceBounds,Instr.sliceBound,asIntOf,amz,apZ,abc,m0,ux,h0,h1,g0,g1,and_self,if_true],rfl,g2⟩
       obtain⟨l',e,rfl,hle⟩:=hr;refine⟨.slice (if im.toNat=l' then some a else some (a.add (l'*n))) (ih.toNat-l') (im.toNat-l'),?_,?_⟩
       ·simp[Instr.sliceAt,Instr.slice,ZG (hX.Zd _ _ hu),e,YG hX hs]
       ·simp only[ZY];refine⟨if im.toNat=l' then a else a.add (l'*n),im.toNat-l',?_,J,⟨p,hp,?_,?_⟩,?_⟩
        ·split <;> rfl
        ·intro ZB;rw[O3 J,ha J,Xs,ap2]
        ·exact bd n l' im.toNat J J
        ·intro k hk
         cases hk;rfl
      ·cases h
     ·cases h
    ·cases h
  ·cases h
 ·
  rename_i el hu;have L7:=hx;simp only[ZY] at L7;subst L7
  split at h
  ·rename_i n h' hs hb
   split at h
   ·rename_i l hl
    cases h
    cases mv with
    |some _=>exact qF.elim
    |none =>
     obtain⟨e,e1,e2⟩:=Rq (P:=P) (w:=w) (isSlice:=true) (len:=0) (cap:=0) pY hhi hb hl (api _) (api _);refine⟨.slice none 0 0,?_,by simp[ZY]⟩;have e3:h'=0:=J;subst e3;simp[Instr.sliceAt,Instr.slice,ZG (hX.Zd _ _ hu),e,YG hX hs]
   ·cases h
  ·cases h
 ·
  rename_i el es hu;obtain⟨a,c,us,rfl,hlc,Sw,TK⟩:=MQ hx
  split at h
  ·rename_i n h' hs hb
   split at h
   ·rename_i l hl
    split at h
    ·rename_i Xx
     cases h
     cases mv with
     |some _=>exact qF.elim
     |none =>
      obtain⟨e,e1,e2⟩:=Rq (P:=P) (w:=w) (isSlice:=true) pY hhi hb hl hlc hlc;have hle:h'<=es.length:=ml hb;have Hm:=Sw.length;have Vt:∀u∈us,u.cells.size=n:=by
       intro u ui;obtain⟨i,hi⟩:=List.getElem?_of_mem ui;have YA:i<es.length:=by rw[Hm];exact (apX.1 hi).1
       obtain⟨u',h1,h2⟩:=Sw.get i _ (aaa YA);rw[hi] at h1;cases h1;have:=(VT h2).length;have h3:=ap8.1 Xx _ (adm YA);simp at h3 this;omega
      refine⟨.slice (if c=l then some a else some (a.add (l*n))) (h'-l) (c-l),?_,?_⟩
      ·simp[Instr.sliceAt,Instr.slice,ZG (hX.Zd _ _ hu),e,YG hX hs]
      ·simp only[ZY];refine⟨if c=l then a else a.add (l*n),c-l,(us.take h').drop l,?_,?_,?_,?_⟩
       ·have:((es.take h').drop l).length=h'-l:=by rw[List.length_drop,aqO];omega
        rw[this]
        split <;> rfl
       ·rw[List.length_drop,aqO];omega
       ·exact (Sw.take h').drop l
       ·rcases TK with rfl|⟨Jk,cc,ee,fz,m,g1,g2,g3,g4⟩
        ·exact .inl No
        ·by_cases qu:c=l
         ·left
          rw[aqV];rw[aqO];omega
         ·right
          rw[O3 qu];by_cases hem:us=[]
          ·subst hem;obtain⟨ab,ao,asp⟩:=a;simp only at Jk g1;subst Jk;rw[Xs];exact⟨rfl,cc,ee,fz,m,g1,g2,by simp,by simp⟩
          ·obtain⟨u,ui⟩:=List.exists_mem_of_ne_nil us hem;have yY:m=n:=by rw[<-g3 u ui,Vt u ui]
           subst yY;obtain⟨ab,ao,asp⟩:=a;simp only at Jk g1 g4;subst Jk;rw[Xs];refine⟨rfl,cc,ee,fz,m,g1,g2,λu hu=>g3 u (List.mem_of_mem_take (List.mem_of_mem_drop hu)),λi v hv=>?_⟩;show cc[ao+l*m+i]? = some v;rw[ap2];refine g4 _ _ ?_;have h1:=Ci (λu:Value=>u.cells.toList) m us (λu hu=>by simpa using g3 u hu) h';have h2:=Ch (λu:Value=>u.cells.toList) m (us.take h') (λu hu=>by simpa using g3 u (List.mem_of_mem_take hu)) l;rw[h2,h1,List.getElem?_drop,List.getElem?_take] at hv
           split at hv
           ·exact hv
           ·cases hv
    ·cases h
   ·cases h
  ·cases h
 ·
  rename_i n el b o hu;obtain⟨p,hp,rfl⟩:=WT hx
  split at h
  ·rename_i z h' hs hb
   split at h
   ·rename_i l hl
    cases h
    cases mv with
    |some _=>exact qF.elim
    |none =>
     obtain⟨e,e1,e2⟩:=Rq (P:=P) (w:=w) (isSlice:=false) (len:=n) (cap:=n) pY hhi hb hl (api _) (api _);refine⟨.slice (some (if n=l then ⟨p.b,p.sh+o,none⟩ else (⟨p.b,p.sh+o,none⟩:Addr).add (l*z))) (h'-l) (n-l),?_,?_⟩
     ·simp[Instr.sliceAt,Instr.sureAddr,ZG (hX.Zd _ _ hu),e,YG hX hs]
     ·simp only[ZY];refine⟨_,n-l,rfl,J,⟨p,hp,?_,?_⟩,?_⟩
      ·intro ZB;rw[O3 J,Xs,ap2]
      ·intro hz;exact absurd rfl hz
      ·intro k hk;cases hk;rfl
   ·cases h
  ·cases h
 ·cases h
end
end Go.Am
namespace Go.Am
open Go
variable {t:TypeId}
section
variable [Stat] {X:Cx}{P:Program}(hX:Vm X P){w:World}{σ:Sg}
def pI (off:Nat):∀(l:List Value) (k:Nat) (cells:Array Value),
  ((l.zipIdx k).foldl (λcs (p:Value×Nat)=>cs.setIfInBounds (off+p.2) p.1) cells).size=cells.size /\
  (off+k+l.length<=cells.size->∀i,((l.zipIdx k).foldl (λcs (p:Value×Nat)=>cs.setIfInBounds (off+p.2) p.1) cells)[i]? = if off+k<=i/\i<off+k+l.length then l[i-(off+k)]? else cells[i]?)
 |[],k,cells=>⟨rfl,λ_ i=>by rw[O3 No];rfl⟩
 |v::l,k,cells=>by
  obtain⟨h1,h2⟩:=pI off l (k+1) (cells.setIfInBounds (off+k) v);rw[List.zipIdx_cons,List.foldl_cons];refine⟨by rw[h1];simp,λVt i=>?_⟩;have YA:off+k<cells.size:=by simp at Vt;omega
  rw[h2 (by simp at Vt ⊢;omega) i];by_cases hi:off+(k+1)<=i/\i<off+(k+1)+l.length
  ·rw[Of hi,Of F_];rw[show i-(off+k)=(i-(off+(k+1)))+1 from by omega];simp
  ·rw[O3 hi];by_cases he:i=off+k
   ·subst he;rw[Of No,Nat.sub_self];simp[YA]
   ·rw[O3 F_];rw[Array.getElem?_setIfInBounds_ne J]
def Dx (off:Nat)(vs cells:Array Value):vs.zipIdx.foldl (λcs (p:Value×Nat)=>cs.setIfInBounds (off+p.2) p.1) cells=(vs.toList.zipIdx 0).foldl (λcs (p:Value×Nat)=>cs.setIfInBounds (off+p.2) p.1) cells:=by
 rw[<-Array.foldl_toList,Array.toList_zipIdx]
def mA {off:Nat}{xs cells c:List AV}{vs cs:Array Value}(h:lay off xs cells=some c)(hx:ZZ σ xs vs.toList)(hc:ZZ σ cells cs.toList)(hle:off+xs.length<=cells.length) :
  ZZ σ c (vs.zipIdx.foldl (λcs (p:Value×Nat)=>cs.setIfInBounds (off+p.2) p.1) cs).toList/\(vs.zipIdx.foldl (λcs (p:Value×Nat)=>cs.setIfInBounds (off+p.2) p.1) cs).size=cs.size:=by
 obtain⟨h1,_,h3⟩:=KD h;obtain⟨o1,o2⟩:=pI off vs.toList 0 cs;have hxl:=hx.length;have qu:=hc.length;rw[Dx];have hlen:c.length=cs.size:=by rw[h1,qu];simp
 have hvl:vs.toList.length=vs.size:=aqj;have apB:cs.toList.length=cs.size:=aqj;have o2:=o2 J;generalize (vs.toList.zipIdx 0).foldl (λcs (p:Value×Nat)=>cs.setIfInBounds (off+p.2) p.1) cs=R at o1 o2 ⊢;refine⟨?_,o1⟩;apply ZZ.AB
 ·have:R.toList.length=R.size:=aqj;omega
 ·intro i hi QD;have e1:=h3 i;have e2:=o2 i;rw[aaa hi] at e1;have alz:i<R.size:=by rw[<-aqj];exact QD
  rw[aqz alz] at e2;simp only[Nat.add_zero] at e2;have e3:R.toList[i]=R[i]:=by simp
  rw[e3];by_cases hr:off<=i/\i<off+xs.length
  ·rw[Of hr] at e1;rw[Of J] at e2;obtain⟨u,Dw,LB⟩:=ZZ.get hx _ _ e1.symm;rw[Dw] at e2;rw[aqb e2];exact LB
  ·rw[O3 hr] at e1;rw[O3 J] at e2;obtain⟨u,Dw,LB⟩:=ZZ.get hc _ _ e1.symm;rw[aqq] at Dw;rw[Dw] at e2;rw[aqb e2];exact LB
def Kp {place pl:Nat->Option (Nat×Nat)}(hp:∀i x,pl i=some x->place i=some x):∀{parts:List (Nat×AV)} {ps:List (Nat×Value)} {cells c:List AV} {cs:Array Value},
  Ko pl cells parts=some c->TO σ parts ps->ZZ σ cells cs.toList->∃c',Instr.fill place cs ps=some c'/\ZZ σ c c'.toList/\c'.size=cs.size
 |[],ps,cells,c,cs,h,hq,hc=>by
  simp only[TO] at hq;subst hq;simp only[Ko] at h;cases h;exact⟨cs,rfl,hc,rfl⟩
 |(i,a)::parts,ps,cells,c,cs,h,hq,hc=>by
  simp only[TO] at hq;obtain⟨v,y,rfl,hv,hy⟩:=hq;simp only[Ko] at h
  split at h
  ·cases h
  ·rename_i off n Tp
   split at h
   ·rename_i hn
    split at h
    ·rename_i c1 Hi;have hvc:=VT hv;have Da:=hvc.length;have IY:=hc.length;obtain⟨g1,g2⟩:=mA Hi hvc hc J;obtain⟨c',e1,e2,e3⟩:=Kp hp h hy g1;refine⟨c',?_,e2,by rw[e3,g2]⟩;simp only[Instr.fill,hp _ _ Tp];rw[O3]
     ·exact e1
     ·simp only[aqj] at Da IY;simp only[ne_eq,aq0,not_or,decide_eq_true_eq,Decidable.not_not,Nat.not_lt];omega
    ·cases h
   ·cases h
def FG (hX:Vm X P):∀{fs:List Field} {pl:List (Nat×Nat)},MW X fs=some pl->(fs.mapM λf=>do pure (f.offset,<-sizeOf f.type):Sem (List (Nat×Nat))).run P w=.ok pl w
 |[],pl,h=>by simp only[MW] at h;cases h;rfl
 |f::fs,pl,h=>by
  simp only[MW] at h
  split at h
  ·rename_i n r hs hr
   cases h
   simp only[List.mapM_cons,amz,YG hX hs,abc,apZ,FG hX hr]
  ·cases h
def NS {α β:Type}(f:α->Sem β)(l:Array α)(r:List β)(h:(l.toList.mapM f).run P w=.ok r w):(l.mapM f).run P w=.ok r.toArray w:=by
 rw[Array.mapM_eq_mapM_toList];simp only[Sem.run_map,h,abc]
def N1 (hX:Vm X P){z:AV}(h:zero X t=some z):∃zv,(zeroValue t).run P w=.ok zv w/\ZY σ z zv:=by
 unfold zero at h
 split at h
 ·rename_i i hi
  split at h
  ·rename_i zv hz;exact⟨zv,yD (hX.inf _ _ hi) hz,pX σ _ _ _ h⟩
  ·cases h
 ·cases h
include hX
def tq {parts:List (Nat×AV)}{ps:Array (Nat×Value)}{r:AV}(hq:TO σ parts ps.toList)(h:FF X t parts=some r):Ut P w σ (Instr.build t ps) r:=by
 unfold FF at h
 split at h
 ·rename_i z hz;obtain⟨zv,ug,iZ⟩:=N1 (w:=w) (σ:=σ) hX hz;obtain⟨zc,rfl,hzc⟩:=Wc iZ
  split at h
  ·rename_i fs hu
   split at h
   ·rename_i pl Tp
    split at h
    ·rename_i c hc
     cases h
     obtain⟨c',e1,e2,_⟩:=Kp (place:=λi=>pl.toArray[i]?) (λi x hx=>by simpa using hx) hc hq hzc;refine⟨.agg c',?_,by simp only[ZY];exact⟨_,rfl,e2⟩⟩;have hm:=NS (P:=P) (w:=w) (λf:Field=>do pure (f.offset,<-sizeOf f.type)) fs pl (FG hX Tp);simp only[Instr.build,amz,ug,abc,ZG (hX.Zd _ _ hu),hm,Value.cells,e1,apZ]
    ·cases h
   ·cases h
  ·rename_i n e hu
   split at h
   ·rename_i n hs
    split at h
    ·rename_i c hc
     cases h
     obtain⟨c',e1,e2,_⟩:=Kp (place:=λi=>some (i*n,n)) (λi x hx=>hx) hc hq hzc;refine⟨.agg c',?_,by simp only[ZY];exact⟨_,rfl,e2⟩⟩;simp only[Instr.build,amz,ug,abc,ZG (hX.Zd _ _ hu),YG hX hs,Value.cells,e1,apZ]
    ·cases h
   ·cases h
  ·cases h
 ·cases h
def Kn {x:AV}{v:Value}{d:TypeDesc}(hx:ZY σ x v)(hu:X.Zd t=some d)(hd:∀ms,d≠.interface ms):Ut P w σ (Instr.makeInterface t v) (.iface t x):=by
 refine⟨.iface t v,?_,by simp only[ZY];exact⟨_,rfl,hx⟩⟩;simp only[Instr.makeInterface,amz,ZG (hX.Zd _ _ hu),abc]
 cases d <;> first|rfl|exact absurd rfl (hd _)
def mz {src dst:TypeId}{x r:AV}{v:Value}{s s':St}(hx:ZY σ x v)(h:Rw X src dst x s=some (r,s'))
  (iV:¬∃e,X.Zd src=some (.slice e)/\X.Zd dst=some .string)(Jg:¬∃e l,X.Zd dst=some (.slice e)/\x=.str l):s'=s/\Ut P w σ (convert src dst v) r:=by
 unfold Rw at h
 split at h
 ·rename_i d1 k k' n h1 h2
  cases h
  refine⟨rfl,.int k (k.wrap n),?_,by simp[ZY]⟩;rw[YX hx];simp[convert,ZG (hX.Zd _ _ h1),ZG (hX.Zd _ _ h2),Conv.intToInt]
 ·rename_i d1 k' n h1 h2
  cases h
  refine⟨rfl,.string (Utf8.encode n),?_,by simp only[ZY];exact⟨_,rfl,rfl⟩⟩;rw[YX hx];simp[convert,ZG (hX.Zd _ _ h1),ZG (hX.Zd _ _ h2),Conv.intToString]
 ·rename_i d1 b h1 h2
  cases h
  obtain⟨bs,rfl,rfl⟩:=Xt hx;refine⟨rfl,.string bs,?_,by simp only[ZY];exact⟨_,rfl,rfl⟩⟩;simp[convert,ZG (hX.Zd _ _ h1),ZG (hX.Zd _ _ h2)]
 ·rename_i d1 e b _ h1 h2;exact absurd ⟨_,_,h2,rfl⟩ Jg
 ·rename_i e h1 h2 _ _;exact absurd ⟨_,h1,h2⟩ iV
 ·cases h
end
end Go.Am
namespace Go.Am
open Go
section
variable [Stat]
variable {X:Cx}{P:Program}{w:World}{σ:Sg}{s:St}
def Ew {b:Nat}{c:List AV}(h:s.cells b=some c):∃e ro lo hi,s.look b=some (.cells c e ro lo hi)/\s.get b=some (.cells c e ro lo hi):=by
 unfold St.cells at h
 split at h
 ·rename_i c' e ro lo hi hg
  cases h
  exact⟨e,ro,lo,hi,by rw[St.XO hg No],hg⟩
 ·cases h
def HR.cells (H:HR σ s w){b:Nat}{p:Pl}{c:List AV}{e:TypeId}{ro:Bool}{lo hi:Nat}(hp:σ b=some p)(hc:s.look b=some (.cells c e ro lo hi)) :
  ∃cc fz,w.heap[p.b]? = some (.cells cc e fz)/\cc.size=p.n/\p.sh+c.length<=p.n/\(∀j a,c[j]? = some a->∃v,cc[p.sh+j]? = some v/\ZY σ a v) /\
   (ro=false->∀j,fz.1<=p.sh+j->p.sh+j<fz.2->p.sh+j<p.n->lo<=j/\j<hi):=by
 obtain⟨o,ho,hb⟩:=H.DS b p _ hp hc
 cases o <;> simp only[BR] at hb
 obtain⟨h1,h2,h3,h4,h5,_⟩:=hb;subst h3;exact⟨_,_,ho,h1,h2,h4,h5⟩
def HR.spec (H:HR σ s w){b:Nat}{p:Pl}{c:List AV}{e:TypeId}{ro:Bool}{lo hi:Nat}(hp:σ b=some p)(hc:s.look b=some (.cells c e ro lo hi))(he:Stat.spec e=true):p.sh=0/\p.n=c.length:=by
 obtain⟨o,ho,hb⟩:=H.DS b p _ hp hc
 cases o <;> simp only[BR] at hb
 obtain⟨_,_,_,_,_,h6⟩:=hb;exact h6 he
def XH {b o:Nat}{cc:Array Value}{e:TypeId}{fz:Nat×Nat}(h:w.heap[b]? = some (.cells cc e fz)):w.cell? ⟨b,o,none⟩=cc[o]? := by
 simp[World.cell?,h]
def HR.cell (H:HR σ s w){b:Nat}{p:Pl}{c:List AV}(hp:σ b=some p)(hc:s.cells b=some c){o:Nat}{a:AV}(ha:c[o]? = some a) :
  ∃v,w.cell? ⟨p.b,p.sh+o,none⟩=some v/\ZY σ a v:=by
 obtain⟨e,ro,lo,hi,hl,_⟩:=Ew hc;obtain⟨cc,fz,h1,_,_,h4,_⟩:=H.cells hp hl;obtain⟨v,hv,hr⟩:=h4 o a ha;exact⟨v,by rw[XH h1];exact hv,hr⟩
def HR.row (H:HR σ s w){b:Nat}{p:Pl}{c:List AV}(hp:σ b=some p)(hc:s.cells b=some c):∀(r:List AV) (o:Nat),(∀i a,r[i]? = some a->c[o+i]? = some a) ->
  ∃vs:List Value,ZZ σ r vs/\∀i v,vs[i]? = some v->w.cell? ⟨p.b,p.sh+o+i,none⟩=some v
 |[],o,_=>⟨[],by simp[ZZ],by simp⟩
 |a::r,o,h=>by
  obtain⟨v,hv,hr⟩:=H.cell hp hc (h 0 a No);obtain⟨vs,h1,h2⟩:=HR.row H hp hc r (o+1) (λi x hx=>by rw[show o+1+i=o+(i+1) from by omega];exact h (i+1) x (by simpa using hx));refine⟨v::vs,by simp only[ZZ];exact⟨v,vs,rfl,hr,h1⟩,λi u hu=>?_⟩
  cases i with
  |zero=>simp at hu;subst hu;simpa using hv
  |succ i =>
   have:=h2 i u (by simpa using hu);rw[show p.sh+o+(i+1)=p.sh+(o+1)+i from by omega];exact this
def cell_of_heap {w w':World}(h:w'.heap=w.heap)(a:Addr):w'.cell? a=w.cell? a:=by
 simp only[World.cell?,h]
def Qv (H:HR σ s w){b:Nat}{p:Pl}{c r:List AV}{n o:Nat}(hp:σ b=some p)(hc:s.cells b=some c)(hg:Xi n o c=some r) :
  ∃vs:List Value,(∀w',w'.heap=w.heap->(loadCells ⟨p.b,p.sh+o,none⟩ n).run P w'=.ok vs.toArray w')/\ZZ σ r vs:=by
 obtain⟨vs,h1,h2⟩:=H.row hp hc r o (λi a ha=>Qb hg ha);refine⟨vs,λw' hw=>?_,h1⟩;have:=run_loadCells_list (P:=P) w' ⟨p.b,p.sh+o,none⟩ vs (λj v hv=>by rw[Xs,cell_of_heap hw];exact h2 j v hv)
 rwa [<-h1.length,(WD hg).1] at this
def ZZ.sub {σ:Sg}:∀{r c:List AV} {us:List Value} {o:Nat},ZZ σ c us->(∀i a,r[i]? = some a->c[o+i]? = some a)->∃vs,ZZ σ r vs/\∀i v,vs[i]? = some v->us[o+i]? = some v
 |[],_,us,o,_,_=>⟨[],by simp[ZZ],by simp⟩
 |a::r,c,us,o,h,k=>by
  obtain⟨v,hv,hr⟩:=h.get (o+0) a (k 0 a No);obtain⟨vs,h1,h2⟩:=ZZ.sub (r:=r) (o:=o+1) h (λi x hx=>by rw[show o+1+i=o+(i+1) from by omega];exact k (i+1) x (by simpa using hx));refine⟨v::vs,by simp only[ZZ];exact⟨v,vs,rfl,hr,h1⟩,λi u hu=>?_⟩
  cases i with
  |zero=>simp at hu;subst hu;exact hv
  |succ i=>rw[show o+(i+1)=o+1+i from by omega];exact h2 i u (by simpa using hu)
def rz (H:HR σ s w){b base o n:Nat}{us:List Value}{cs r:List AV}{cc:Array Value}{e:TypeId}{fz:Nat×Nat}(hz:σ.fz b=some (.cells cc e fz))(hr:ZZ σ.bare cs us)(hc:∀i u,us[i]? = some u->cc[base+i]? = some u)
  (hg:Xi n o cs=some r):∃vs:List Value,(∀w',w'.heap=w.heap->(loadCells ⟨b,base+o,none⟩ n).run P w'=.ok vs.toArray w')/\ZZ σ r vs:=by
 obtain⟨vs,h1,h2⟩:=hr.sub (λi a ha=>Qb hg ha);refine⟨vs,λw' hw=>?_,ZZ.mono (Sg.TM σ) _ _ h1⟩;have:=run_loadCells_list (P:=P) w' ⟨b,base+o,none⟩ vs (λj v hv=>by
  rw[Xs,cell_of_heap hw,XH (H.fz _ _ hz).1,ap2];exact hc _ _ (h2 j v hv))
 rwa [<-h1.length,(WD hg).1] at this
def Bz (hX:Vm X P)(H:HR σ s w){t:TypeId}{x r:AV}{u:Value}(hx:ZY σ x u)(h:UA X t x s=some r):Ut P w σ (Instr.loadAt t u) r:=by
 unfold UA at h
 split at h
 ·rename_i b o;obtain⟨p,hp,rfl⟩:=WT hx
  split at h
  ·rename_i Ku
   split at h
   ·rename_i n c hs hc
    split at h
    ·rename_i r' hg
     cases h
     obtain⟨vs,h1,h2⟩:=Qv (P:=P) H hp hc hg;refine⟨.agg vs.toArray,?_,by simp only[ZY];exact⟨_,rfl,h2⟩⟩;simp only[Instr.loadAt,Instr.sureAddr,loadVar,amz,apZ,abc,To hX Ku,if_true,YG hX hs,h1 w rfl]
    ·cases h
   ·cases h
  ·rename_i Ku;unfold cell at h
   split at h
   ·rename_i c hc;obtain⟨v,hv,hr⟩:=H.cell hp hc h;refine⟨v,?_,hr⟩;simp only[Instr.loadAt,Instr.sureAddr,loadVar,amz,apZ,abc,To hX Ku,aqa,if_false,run_load,hv]
   ·cases h
  ·cases h
 ·rename_i c o;obtain⟨b,base,us,cc,e,fz,rfl,hz,hr,hcc⟩:=JO hx
  split at h
  ·rename_i Ku
   split at h
   ·rename_i n hs
    split at h
    ·rename_i r' hg
     cases h
     obtain⟨vs,h1,h2⟩:=rz (P:=P) H hz hr hcc hg;refine⟨.agg vs.toArray,?_,by simp only[ZY];exact⟨_,rfl,h2⟩⟩;simp only[Instr.loadAt,Instr.sureAddr,loadVar,amz,apZ,abc,To hX Ku,if_true,YG hX hs,h1 w rfl]
    ·cases h
   ·cases h
  ·rename_i Ku;obtain⟨v,hv,Sw⟩:=hr.get _ _ h;refine⟨v,?_,ZY.mono (Sg.TM σ) _ _ Sw⟩;have Rv:w.cell? ⟨b,base+o,none⟩=some v:=by rw[XH (H.fz _ _ hz).1];exact hcc _ _ hv
   simp only[Instr.loadAt,Instr.sureAddr,loadVar,amz,apZ,abc,To hX Ku,aqa,if_false,run_load,Rv]
  ·cases h
 ·cases h
def Py {a:AV}{v:Value}(h:ZY σ a v)(hn:Zu a=true):v.oneCell'=true:=by
 obtain⟨_,h1,h2⟩:=RE h hn
 cases v <;> first|rfl|exact absurd rfl (h1 _)|exact absurd rfl (h2 _)
def Rb {b:Nat}{e:TypeId}{fz:Nat×Nat}:∀(us:List Value) (off i:Nat) (w:World) (cc:Array Value),w.heap[b]? = some (.cells cc e fz)->(∀v∈us,v.oneCell'=true)->off+i+us.length<=cc.size ->
  (∀j,off+i<=j->j<off+i+us.length->¬(fz.1<=j/\j<fz.2)) ->
  ∃w' cc',(storeCells ⟨b,off,none⟩ us i).run P w=.ok () w'/\w'.heap.size=w.heap.size/\(∀c,c≠b->w'.heap[c]? = w.heap[c]?)/\w'.heap[b]? = some (.cells cc' e fz)/\cc'.size=cc.size /\
   (∀j,cc'[j]? = if off+i<=j/\j<off+i+us.length then us[j-(off+i)]? else cc[j]?)/\w'.os=w.os/\w'.tape=w.tape/\w'.output=w.output
 |[],off,i,w,cc,hb,_,_,_=>⟨w,cc,rfl,rfl,λ_ _=>rfl,hb,rfl,λj=>by rw[O3 No],rfl,rfl,rfl⟩
 |u::us,off,i,w,cc,hb,hv,Vt,L9=>by
  have YA:off+i<cc.size:=by simp at Vt;omega
  have Rv:w.cell? ⟨b,off+i,none⟩=some cc[off+i]:=by rw[XH hb];simp[YA]
  have Qs:w.frozen? ⟨b,off+i,none⟩=false:=by
   have:=L9 (off+i) (api _) No;obtain⟨N3,O_⟩:=fz;simp only[World.frozen?,hb];simp only at this;rw[Bool.eq_false_iff];intro hh;simp only[ahe,decide_eq_true_eq] at hh;exact this hh
  have ahh:b<w.heap.size:=(apV.1 hb).1;have Mg:(w.setCell ⟨b,off+i,none⟩ u).heap[b]? = some (.cells (cc.setIfInBounds (off+i) u) e fz):=by
   simp[World.setCell,Array.getElem?_modify,hb]
  obtain⟨w',cc',h1,h2,h3,h4,h5,h6,h7,h8,h9⟩:=Rb us off (i+1) (w.setCell ⟨b,off+i,none⟩ u) (cc.setIfInBounds (off+i) u) Mg (λv hm=>hv v (aab _ hm)) (by simp at Vt ⊢;omega)
   (λj hj Dq=>L9 j J F_)
  refine⟨w',cc',?_,by rw[h2];simp,?_,h4,by rw[h5];simp,?_,h7,h8,h9⟩
  ·simp only[storeCells,amz,Xs];rw[run_store P w _ u .plain (hv u (aba ..))];simp only[Rv,Qs,aqa,if_false,abc];exact h1
  ·intro c hc;rw[h3 c hc];simp only[World.setCell,Array.getElem?_modify];rw[O3 (λh=>hc h.symm)]
  ·intro j;rw[h6 j];by_cases hj:off+(i+1)<=j/\j<off+(i+1)+us.length
   ·rw[Of hj,Of F_];rw[show j-(off+i)=(j-(off+(i+1)))+1 from by omega];simp
   ·rw[O3 hj];by_cases he:j=off+i
    ·subst he;rw[Of No,Nat.sub_self];simp[YA]
    ·rw[O3 F_];rw[Array.getElem?_setIfInBounds_ne J]
def Rf (H:HR σ s w){b o:Nat}{p:Pl}{xs:List AV}{us:List Value}{s':St}(hp:σ b=some p)(hx:ZZ σ xs us)(h:WX s b o xs=some s') :
  ∃w',(storeCells ⟨p.b,p.sh+o,none⟩ us).run P w=.ok () w'/\Good σ s w σ s' w':=by
 unfold WX at h
 split at h
 ·rename_i c e N3 O_ hg
  split at h
  ·rename_i QJ;simp only[ahe,aq0,decide_eq_true_eq,ap8] at QJ;obtain⟨cy,Fx⟩:=QJ
   split at h
   ·rename_i c' Hi
    cases h
    have hl:s.look b=some (.cells c e false N3 O_):=St.XO hg No;obtain⟨cc,fz,h1,h2,h3,h4,h5⟩:=H.cells hp hl;obtain⟨g1,g2,g3⟩:=KD Hi;have hlen:=hx.length;have hb:o+xs.length<=c.length\/us=[]:=by
     by_cases hn:xs=[]
     ·subst hn;simp only[ZZ] at hx;exact .inr hx
     ·exact .inl (g2 hn)
    rcases hb with hb|rfl
    case inr =>
     have:xs=[]:=by cases xs with|nil=>rfl|cons a l=>simp at hlen
     subst this;have e1:c=c':=by cases o <;> simp[lay] at Hi <;> exact Hi
     subst e1;refine⟨w,rfl,?_⟩;exact Good.put H hp hl rfl No rfl (λ_ _=>rfl) h1 ⟨h2,h3,rfl,h4,h5,H.spec hp hl⟩ rfl rfl rfl
    case inl =>
    have cx:∀v∈us,v.oneCell'=true:=by
     intro v hv;obtain⟨i,hi,rfl⟩:=aqd.1 hv;have hix:i<xs.length:=J;obtain⟨v',NO,F7⟩:=ZZ.get hx i xs[i] (aaa hix);rw[aaa hi] at NO;cases NO;exact Py F7 (Fx _ (adm hix))
    obtain⟨w',cc',k1,k2,k3,k4,k5,k6,k7,k8,k9⟩:=Rb (P:=P) (b:=p.b) (e:=e) (fz:=fz) us (p.sh+o) 0 w cc h1 cx (by rw[h2];omega)
     (λj hj Dq hf=>by
      obtain⟨q1,q2⟩:=h5 rfl (j-p.sh) (by rw[show p.sh+(j-p.sh)=j from by omega];exact hf.1) (by rw[show p.sh+(j-p.sh)=j from by omega];exact hf.2) J;rcases cy with cy|cy <;> omega)
    refine⟨w',k1,?_⟩;refine Good.put H hp hl rfl No k2 k3 k4 ⟨by rw[k5,h2],by rw[g1];exact h3,rfl,?_,?_,by rw[g1];exact H.spec hp hl⟩ k7 k8 k9
    ·intro j a ha;rw[g3 j] at ha;rw[k6];simp only[Nat.add_zero];by_cases hj:o<=j/\j<o+xs.length
     ·rw[Of hj] at ha;rw[Of J];obtain⟨v,NO,F7⟩:=ZZ.get hx _ _ ha;refine⟨v,?_,F7⟩;rw[show p.sh+j-(p.sh+o)=j-o from by omega];exact NO
     ·rw[O3 hj] at ha;rw[O3 J];exact h4 j a ha
    ·exact h5
   ·cases h
  ·cases h
 ·cases h
def ry (hX:Vm X P)(H:HR σ s w){t:TypeId}{x y:AV}{u v:Value}{s':St}(hx:ZY σ x u)(hy:ZY σ y v)(h:Lw X t x y s=some s') :
  ∃w',(Instr.storeAt t u v).run P w=.ok () w'/\Good σ s w σ s' w':=by
 unfold Lw at h
 split at h
 ·rename_i b o;obtain⟨p,hp,rfl⟩:=WT hx
  split at h
  ·rename_i n hs
   split at h
   ·rename_i hn;have hc:=VT hy;obtain⟨w',h1,h2⟩:=Rf (P:=P) H hp hc h;refine⟨w',?_,h2⟩;have hl:=hc.length;have Vt:v.cells.size=n:=by rw[<-aqj];omega
    simp only[Instr.storeAt,Instr.sureAddr,storeVar,amz,apZ,abc,YG hX hs,Vt,ne_eq,not_true_eq_false,if_false];exact h1
   ·cases h
  ·cases h
 ·cases h
end
end Go.Am
namespace Go.Am
open Go
variable [Stat]
variable {t:TypeId}
def Mn (P:Program)(σ:Sg)(s:St)(w:World)(m:Sem Value)(a:AV)(s':St):Prop:=∃Yj v w',m.run P w=.ok v w'/\ZY Yj a v/\Good σ s w Yj s' w'
def Ut.o {P:Program}{σ:Sg}{s:St}{w:World}{m:Sem Value}{a:AV}(h:Ut P w σ m a)(H:HR σ s w):Mn P σ s w m a s:=by
 obtain⟨v,h1,h2⟩:=h;exact⟨σ,v,w,h1,h2,Good.refl H⟩
section
variable {X:Cx}{P:Program}{w:World}{σ:Sg}{s:St}
def ZZ.size {x:List AV}{a:Array Value}(h:ZZ σ x a.toList):x.length=a.size:=by
 have h1:=h.length;have h2:a.toList.length=a.size:=aqj;omega
def L6 (H:HR σ s w)(hf:σ s.next=none){c:List AV}{vs:Array Value}(e:TypeId)(fz:Nat×Nat)(L9:fz=(0,0)\/vs.size<=fz.1)(hle:c.length<=vs.size)(hc:∀(j:Nat) (a:AV),c[j]? = some a->∃v,vs[j]? = some v/\ZY σ a v)(Jk:Stat.spec e=true->vs.size=c.length) :
  Good σ s w (σ.add s.next ⟨w.heap.size,0,vs.size⟩) (s.new (.cells c e false 0 0)) (w.alloc (.cells vs e fz)):=by
 refine Good.new H hf _ No _ _ ⟨rfl,by simpa using hle,rfl,?_,?_,λh=>⟨rfl,Jk h⟩⟩
 ·intro j a ha;obtain⟨v,hv,hr⟩:=hc j a ha;exact⟨v,by simpa using hv,ZY.mono (Sg.LI hf) _ _ hr⟩
 ·intro _ j h1 h2 h3;rcases L9 with rfl|L9
  ·simp at h2
  ·dsimp only at h1 h2 h3;omega
def Rl (H:HR σ s w)(hf:σ s.next=none){c:List AV}{vs:Array Value}(e:TypeId)(hc:ZZ σ c vs.toList) :
  Good σ s w (σ.add s.next ⟨w.heap.size,0,vs.size⟩) (s.new (.cells c e false 0 0)) (w.alloc (.cells vs e)):=by
 have hl:=hc.size;refine L6 H hf e (0,0) (.inl rfl) J (λj a ha=>?_) (λ_=>J);obtain⟨v,hv,hr⟩:=hc.get j a ha;exact⟨v,by rw[aqq] at hv;exact hv,hr⟩
def Fi (H:HR σ s w)(hf:σ s.next=none){c:List AV}{vs:Array Value}(e:TypeId)(hc:ZZ σ c vs.toList) :
  Mn P σ s w (do pure (.pointer (some (<-newRow e vs)))) (.ptr s.next 0) (s.new (.cells c e false 0 0)):=by
 refine⟨_,.pointer (some ⟨w.heap.size,0,none⟩),w.alloc (.cells vs e),?_,?_,Rl H hf e hc⟩
 ·simp only[newRow,amz,run_newObj,abc,apZ,World.alloc_eq]
 ·simp only[ZY];exact⟨_,Sg.Yc _ _ _,by simp⟩
def Rk:∀(k:Nat) (l:List AV),(UC k l).length=k*l.length
 |0,l=>by simp[UC]
 |k+1,l=>by simp[UC,Rk k l,aq3];omega
def HP:∀(k:Nat) (l:List AV) (i:Nat),i<k*l.length->(UC k l)[i]? = l[i%l.length]?
 |0,l,i,h=>by simp at h
 |k+1,l,i,h=>by
  simp only[UC];by_cases hi:i<l.length
  ·rw[aql hi,Nat.mod_eq_of_lt hi]
  ·rw[aqZ J,HP k l (i-l.length) (by rw[aq3] at h;omega)]
   congr 1
   rw[<-Nat.mod_eq_sub_mod J]
def HO {zc:List AV}{zs:Array Value}(h:ZZ σ zc zs.toList)(hz:zs.size≠0)(k:Nat):ZZ σ (UC k zc) ((Array.range (k*zs.size)).map (λi=>zs[i%zs.size]!)).toList:=by
 have hl:=h.size;apply ZZ.AB
 ·rw[Rk,hl];simp
 ·intro i hi QD;have hk:i<k*zc.length:=by rw[Rk] at hi;exact hi
  have e:=HP k zc i hk;rw[aaa hi] at e;obtain⟨v,hv,hr⟩:=h.get _ _ e.symm;have e2:((Array.range (k*zs.size)).map (λi=>zs[i%zs.size]!)).toList[i]=v:=by
   rw[aqq] at hv;rw[hl] at hv;simp[getElem!_def,hv]
  rw[e2];exact hr
def lL (hX:Vm X P)(H:HR σ s w)(hf:σ s.next=none){z:AV}(h:zero X t=some z):Mn P σ s w (Instr.alloc t true (.tuple #[])) (Vc s z.cells t).1 (Vc s z.cells t).2:=by
 obtain⟨zv,h1,h2⟩:=N1 (w:=w) (σ:=σ) hX h;obtain⟨Yj,v,w',g1,g2,g3⟩:=Fi (P:=P) H hf t (VT h2);exact⟨Yj,v,w',by simp only[Instr.alloc,amz,h1,abc,newVar];simpa using g1,g2,g3⟩
def aa' (H:HR σ s w)(hf:σ s.next=none){x:AV}{u:Value}(hx:ZY σ x u):Mn P σ s w (Instr.box t u) (Vc s x.cells t).1 (Vc s x.cells t).2:=by
 obtain⟨Yj,v,w',g1,g2,g3⟩:=Fi (P:=P) H hf t (VT hx);exact⟨Yj,v,w',by simp only[Instr.box,newVar];exact g1,g2,g3⟩
def J8 {b n len cap Vl:Nat}{sz:Nat}(hn:len<=cap)(hz:cap*Vl<=sz):ZY (σ.add b ⟨n,0,sz⟩) (.sl b 0 len (some cap) Vl) (.slice (some ⟨n,0,none⟩) len cap):=by
 simp only[ZY];exact⟨_,_,rfl,hn,⟨_,Sg.Yc _ _ _,λ_=>by simp,λ_=>by simpa using hz⟩,λk hk=>by cases hk;rfl⟩
def Hc (hX:Vm X P)(H:HR σ s w)(hf:σ s.next=none){len:Nat}{parts:List (Nat×AV)}{ps:Array (Nat×Value)}{r:AV}{s':St}(hq:TO σ parts ps.toList)(h:T0 X t len parts s=some (r,s')) :
  Mn P σ s w (Instr.buildSlice t len ps) r s':=by
 unfold T0 at h
 split at h
 ·rename_i elem hu
  split at h
  ·rename_i n z hs hz
   split at h
   ·rename_i QJ;obtain⟨hzl,DV,ahZ⟩:=QJ
    split at h
    ·rename_i c hc
     cases h
     obtain⟨zv,h1,h2⟩:=N1 (w:=w) (σ:=σ) hX hz;have hzc:=VT h2;have hzs:zv.cells.size=n:=by have:=hzc.size;omega
     have aeC:=HO hzc J len;obtain⟨c',e1,e2,e3⟩:=Kp (place:=λi=>some (i*n,n)) (λi x hx=>hx) hc hq aeC;have Vt:c'.size=len*n:=by rw[e3,hzs];simp
     refine⟨_,.slice (some ⟨w.heap.size,0,none⟩) len len,w.alloc (.cells c' elem),?_,J8 (api _) J,Rl H hf elem e2⟩;have hnb:¬(len*n>2^24):=J;simp only[Instr.buildSlice,amz,ZG (hX.Zd _ _ hu),abc,YG hX hs,hnb,if_false];by_cases h0:len*n=0
     ·rw[hzs,h0] at e1;simp only[h0,if_true,amz,apZ,abc];have:(Array.range 0).map (λi=>(#[]:Array Value)[i%(#[]:Array Value).size]!)=(Array.range 0).map (λi=>zv.cells[i%n]!):=by simp
      rw[this,e1];simp only[newRow,amz,run_newObj,abc,apZ,World.alloc_eq]
     ·rw[hzs] at e1;simp only[h0,if_false,amz,apZ,abc,h1,hzs,e1,newRow,run_newObj,World.alloc_eq]
    ·cases h
   ·cases h
  ·cases h
 ·cases h
def NB (f:Nat->Value):(Array.range 0).map f=#[]:=by
 have:Array.range 0=#[]:=by rw[Array.range_zero']
 rw[this];simp
def Dm (hX:Vm X P)(H:HR σ s w)(hf:σ s.next=none){t elem:TypeId}{l c:Int}{kl kc:IntKind}{i:TypeInfo}{z:AV}(hu:X.Zd t=some (.slice elem))(hi:X.inf elem=some i)(hz:zero X elem=some z)
  (hc:0<=l/\l<=c/\c*i.bytes<=2^47/\c<2^47/\z.cells.length=i.size/\i.size≠0) :
  Mn P σ s w (Instr.makeSlice t (.int kl l) (.int kc c)) (.sl s.next 0 l.toNat (some c.toNat) i.size) (s.new (.cells (UC c.toNat z.cells) elem false 0 0)):=by
 obtain⟨h0,h1,h2,h3,h4,h5⟩:=hc;obtain⟨zv,g1,g2⟩:=N1 (w:=w) (σ:=σ) hX hz;have hzc:=VT g2;have hzs:zv.cells.size=i.size:=by have:=hzc.size;omega
 have aeC:=HO hzc J c.toNat;have oY:X.inf elem=some i->size X elem=some i.size:=λh=>by simp[size,h]
 have wl:IntKind.i64.wrap l=l:=by rw[IntKind.wrap_i64];omega
 have wc:IntKind.i64.wrap c=c:=by rw[IntKind.wrap_i64];omega
 refine⟨_,.slice (some ⟨w.heap.size,0,none⟩) l.toNat c.toNat,w.alloc (.cells ((Array.range (c.toNat*zv.cells.size)).map (λi=>zv.cells[i%zv.cells.size]!)) elem),?_,J8 J (by simp[hzs]),Rl H hf elem aeC⟩;have big:((i.bytes:Int)*c>2^48)=False:=by
  rw[eq_iff_iff,iff_false];rw[Int.mul_comm];omega
 simp only[Instr.makeSlice,amz,ZG (hX.Zd _ _ hu),abc,asInt,asIntOf,apZ,G2 (hX.inf _ _ hi),wl,wc,big,run_askRoom,YG hX (oY hi)];have n1:¬(c<0):=J;have n2:¬(l<0):=J;have n3:¬(l>c):=J;simp only[n1,n2,n3,decide_false,Bool.or_false,aqa,if_false,apZ,abc,run_askRoom,newRow,amz,run_newObj,World.alloc_eq,YG hX (oY hi)];by_cases h0:c.toNat*i.size=0
 ·simp only[h0,if_true,amz,apZ,abc,run_newObj,World.alloc_eq,hzs];rw[NB,NB]
 ·simp only[h0,if_false,amz,apZ,abc,g1,run_newObj,World.alloc_eq,hzs]
def HM (H:HR σ s w)(hf:σ s.next=none):Mn P σ s w (Instr.makeMap t none) (.map s.next) (s.new (.map [] false)):=by
 refine⟨_,.map (some w.heap.size),w.alloc (.map #[] 0),rfl,?_,Good.new H hf (.map [] false) No _ 0 (by simp[BR,ZJ])⟩;simp only[ZY];exact⟨_,Sg.Yc _ _ _,rfl⟩
def Ac (hX:Vm X P)(H:HR σ s w)(hf:σ s.next=none){t k e:TypeId}{kn:IntKind}{n:Int}(hu:X.Zd t=some (.map k e)):Mn P σ s w (Instr.makeMap t (some (.int kn n))) (.map s.next) (s.new (.map [] false)):=by
 obtain⟨Yj,v,w',g1,g2,g3⟩:=HM (P:=P) H hf (t:=t);refine⟨Yj,v,w',?_,g2,g3⟩;rw[<-g1];simp[Instr.makeMap,ZG (hX.Zd _ _ hu),asInt,asIntOf]
end
end Go.Am
namespace Go.Am
open Go
variable {t:TypeId}
section
variable [Stat]
variable {X:Cx}{P:Program}{w:World}{σ:Sg}{s:St}
def T_ {r:Nat}{o:Obj}(h:w.heap[r]? = some o)(hc:∀c e f,o≠.cells c e f):(getObj r).run P w=.ok o w:=by
 cases o <;> first|(exact absurd rfl (hc _ _ _))|simp[getObj,Sem.run,h]
def LD {r:Nat}{o o':Obj}(h:w.heap[r]? = some o)(hc:∀c e f,o≠.cells c e f):(setObj r o').run P w=.ok () { w with heap:=w.heap.setIfInBounds r o' }:=by
 cases o <;> first|(exact absurd rfl (hc _ _ _))|simp[setObj,Sem.run,h]
def TL {a:AV}{l:List AV}(h:Vk (a::l)=true):(∃n,a=.int .i64 n)/\Vk l=true:=by
 cases a <;> try (simp only[Vk] at h;cases h;done)
 rename_i k n
 cases k <;> simp only[Vk] at h <;> first|exact⟨⟨n,rfl⟩,h⟩|(cases h;done)
def QN:∀{l:List AV},Vk l=true->∀(i:Nat) (a:AV),l[i]? = some a->∃n,a=AV.int .i64 n
 |[],_,i,a,h=>by simp at h
 |x::l,h,i,a,e=>by
  obtain⟨h1,h2⟩:=TL h
  cases i with
  |zero=>simp at e;rw[<-e];exact h1
  |succ i=>exact QN h2 i a (by simpa using e)
def tB {cs:Array Value}{off:Nat}{v:Value}(hu:P.underlying t=some (.int .i64))(hv:cs[off]? = some v):(part t cs off).run P w=.ok v w:=by
 simp[part,isAgg,ZG hu,hv]
def Te {b:Bool}{d:Nat}{v:Value}{td:TypeDesc}(hu:P.underlying t=some td)(h1:∀m,td≠.interface m)(h2:∀n e,td≠.array n e)(h3:∀f,td≠.struct f):(Instr.checkKey b (d+1) t v).run P w=.ok () w:=by
 rw[Instr.checkKey];simp only[amz,ZG hu,abc]
 cases td <;> first|rfl|(exact absurd rfl (h1 _))|(exact absurd rfl (h2 _ _))|(exact absurd rfl (h3 _))
def O7 (hX:Vm X P){b:Bool}{k:AV}{kv:Value}(hk:ZY σ k kv)(h:Vr X t k=true):(Instr.checkKey b 10000 t kv).run P w=.ok () w:=by
 show (Instr.checkKey b (9999+1) t kv).run P w=.ok () w;unfold Vr at h
 split at h
 ·rename_i hu;exact Te (hX.Zd _ _ hu) No No No
 ·rename_i hu;exact Te (hX.Zd _ _ hu) No No No
 ·rename_i hu;exact Te (hX.Zd _ _ hu) No No No
 ·rename_i len e cs hu;simp only[ahe,beq_iff_eq] at h;obtain⟨⟨h1,h2⟩,h3⟩:=h
  split at h3
  ·rename_i he hs;obtain⟨vs,rfl,SH⟩:=Wc hk;have Vt:=SH.size;rw[Instr.checkKey];simp only[amz,ZG (hX.Zd _ _ hu),abc];rw[Std.Legacy.Range.forIn_eq_forIn_range'];simp only[Std.Legacy.Range.size,Nat.sub_zero,Nat.add_sub_cancel,Nat.div_one];have key:∀(l:List Nat),(∀i∈l,i<len)->∀f:Nat->PUnit->Sem (ForInStep PUnit),(∀i,i<len->(f i PUnit.unit).run P w=.ok (ForInStep.yield PUnit.unit) w)->(forIn l PUnit.unit f).run P w=.ok PUnit.unit w:=by
    intro l hl f hf
    induction l with
    |nil=>rfl
    |cons i l ih =>
     simp only[List.forIn_cons,amz,hf i (hl i No),abc];exact ih (λj hj=>hl j (by simp[hj]))
   rw[key (List.range' 0 len) (by intro i hi;simp at hi;omega) _ (by
    intro i hi;have hic:i<cs.length:=J;obtain⟨v,hv,hr⟩:=SH.get i cs[i] (aaa hic);rw[aqq] at hv;obtain⟨n,hn⟩:=QN h1 i cs[i] (aaa hic);rw[hn] at hr;have:=YX hr;subst this;simp only[amz,YG hX hs,abc,ap3,tB (hX.Zd _ _ he) hv];rw[Te (d:=9998) (hX.Zd _ _ he) No No No];rfl)]
   rfl
  ·cases h3
 ·cases h
def yv:∀{a b:List AV},V_ a b=true->Vk a=true->Vk b=true->a=b
 |[],[],_,_,_=>rfl
 |[],_::_,h,_,_=>by simp[V_] at h
 |_::_,[],h,_,_=>by simp[V_] at h
 |x::a,y::b,h,h1,h2=>by
  obtain⟨⟨n,rfl⟩,h1⟩:=TL h1;obtain⟨⟨m,rfl⟩,h2⟩:=TL h2;simp only[V_,same,decide_true,aqr,ahe,beq_iff_eq] at h;rw[h.1,yv h.2 h1 h2]
def Kv {d:Nat}{e:TypeId}(hu:X.Zd e=some (.int .i64)):∀(k i:Nat) (a b:List AV),Vk a=true->Vk b=true->a.length=i+k->b.length=i+k ->
  QQ (yB X (d+1) e) (λo l=>Rz X e l o) 1 k i a b=some (V_ (a.drop i) (b.drop i))
 |0,i,a,b,_,_,h1,h2=>by
  simp only[QQ];rw[aqV J,aqV J];simp[V_]
 |k+1,i,a,b,ha,hb,h1,h2=>by
  have hi:i<a.length:=J;have hj:i<b.length:=J;obtain⟨n,hn⟩:=QN ha i a[i] (aaa hi);obtain⟨m,hm⟩:=QN hb i b[i] (aaa hj);have Ku:Ys X e=some false:=by simp[Ys,hu]
  have e1:Rz X e a (i*1)=some (.int .i64 n):=by
   simp only[Rz,Ku,ap3];rw[aaa hi,hn]
  have e2:Rz X e b (i*1)=some (.int .i64 m):=by
   simp only[Rz,Ku,ap3];rw[aaa hj,hm]
  have e3:yB X (d+1) e (.int .i64 n) (.int .i64 m)=some (n==m):=by simp[yB,hu]
  simp only[QQ,e1,e2,e3];rw[aea hi,aea hj,hn,hm];have ih:=Kv hu (d:=d) k (i+1) a b ha hb J J
  cases uf:(n==m)
  ·simp[V_,same,uf]
  ·simp only[ih,V_,same,uf,decide_true,aqr]
def Ct (hX:Vm X P){len:Nat}{e:TypeId}{a b:List AV}{u v:Value}{r:Bool}(hu:X.Zd t=some (.array len e))(ha:ZY σ (.agg a) u)(hb:ZY σ (.agg b) v)(hk:Vr X t (.agg a)=true)(h:VP (.agg a) (.agg b)=some r) :
  (Op.equal t u v).run P w=.ok r w:=by
 simp only[Vr,hu,ahe,beq_iff_eq] at hk;obtain⟨⟨h1,h2⟩,h3⟩:=hk
 split at h3
 ·rename_i he hs;simp only[VP,ahe,beq_iff_eq] at h
  split at h
  ·rename_i hc
   cases h
   have:yB X 3 t (.agg a) (.agg b)=some (V_ a b):=by
    have:=Kv (X:=X) (d:=1) he len 0 a b h1 hc.1.2 J J;simp only[aqy] at this;unfold yB;rw[hu];simp only[hs];exact this
   exact GZ hX 3 t _ _ _ this u v ha hb 10000 J w
  ·cases h
 ·cases h3
def FN (σ:Sg):Option AV->Option (Nat×Value)->Prop
 |none,none=>True
 |some a,some (_,v)=>ZY σ a v
 |_,_=>False
def QM {k:AV}{kv:Value}{d:TypeDesc}(hk:ZY σ k kv)(hd:match d,k with|.int _,.int _ _=>True|.string,.str _=>True|.bool,.bool _=>True|_,_=>False) :
  ∀{es:List (AV×AV)} {Vo:List MapEntry} {r:Option AV} (n:Nat),ZJ σ es Vo->UY k es=some r->∃q,Instr.findNow d kv Vo n=some q/\FN σ r q
 |[],Vo,r,n,he,h=>by
  simp only[ZJ] at he;subst he;simp only[UY] at h;cases h;exact⟨none,rfl,trivial⟩
 |(k',v)::es,Vo,r,n,he,h=>by
  simp only[ZJ] at he;obtain⟨m,y,rfl,h1,h2,h3⟩:=he;simp only[UY] at h;have key:∀b,VP k k'=some b->Instr.sameNow d kv m.key=some b:=by
   intro b hb
   cases k <;> try (simp only[VP] at hb;cases hb;done)
   all_goals (cases d <;> try (exact hd.elim))
   all_goals (cases k' <;> simp only[VP] at hb <;> try (cases hb;done))
   ·cases hb
    rw[WC hk,WC h1];rfl
   ·rename_i k1 n1 _ k2 n2
    split at hb
    ·rename_i gg;subst gg
     cases hb
     rw[YX hk,YX h1];simp[Instr.sameNow]
    ·cases hb
   ·cases hb
    obtain⟨p,e1,e2⟩:=Xt hk;obtain⟨q,e3,e4⟩:=Xt h1;rw[e1,e3,<-e2,<-e4];simp only[Instr.sameNow,bytes_beq]
  split at h
  ·rename_i hb
   cases h
   exact⟨some (n,m.val),by simp[Instr.findNow,key _ hb],h2⟩
  ·rename_i hb;obtain⟨q,h4,h5⟩:=QM hk hd (n+1) h3 h;exact⟨q,by simp only[Instr.findNow,key _ hb];exact h4,h5⟩
  ·cases h
def N2 (hX:Vm X P){t:TypeId}{len:Nat}{e:TypeId}{a:List AV}{kv:Value}(hu:X.Zd t=some (.array len e))(hk:ZY σ (.agg a) kv)(XP:Vr X t (.agg a)=true) :
  ∀{es:List (AV×AV)} {Vo:List MapEntry} {r:Option AV} (n:Nat),ZJ σ es Vo->UY (.agg a) es=some r->∃q,(Instr.findAsking t kv Vo n).run P w=.ok q w/\FN σ r q
 |[],Vo,r,n,he,h=>by
  simp only[ZJ] at he;subst he;simp only[UY] at h;cases h;exact⟨none,rfl,trivial⟩
 |(k',v)::es,Vo,r,n,he,h=>by
  simp only[ZJ] at he;obtain⟨m,y,rfl,h1,h2,h3⟩:=he;simp only[UY] at h;have key:∀b,VP (.agg a) k'=some b->(Op.equal t kv m.key).run P w=.ok b w:=by
   intro b hb
   cases k' <;> try (simp only[VP] at hb;cases hb;done)
   exact Ct hX hu hk h1 XP hb
  split at h
  ·rename_i hb
   cases h
   exact⟨some (n,m.val),by simp[Instr.findAsking,key _ hb],h2⟩
  ·rename_i hb;obtain⟨q,h4,h5⟩:=N2 hX hu hk XP (n+1) h3 h;exact⟨q,by simp only[Instr.findAsking,amz,key _ hb,abc,aqa,if_false];exact h4,h5⟩
  ·cases h
def yr (hX:Vm X P){k:AV}{kv:Value}(hk:ZY σ k kv)(XP:Vr X t k=true){es:List (AV×AV)}{Vo:List MapEntry}{r:Option AV}(he:ZJ σ es Vo)(h:UY k es=some r) :
  ∃q,(Instr.findKey t kv Vo).run P w=.ok q w/\FN σ r q:=by
 have ad4:=XP;unfold Vr at XP
 split at XP
 ·rename_i kk k' n hu;obtain⟨q,h1,h2⟩:=QM (d:=.int kk) hk trivial 0 he h;exact⟨q,by simp only[Instr.findKey,amz,ZG (hX.Zd _ _ hu),abc,h1,apZ],h2⟩
 ·rename_i b hu;obtain⟨q,h1,h2⟩:=QM (d:=.string) hk trivial 0 he h;exact⟨q,by simp only[Instr.findKey,amz,ZG (hX.Zd _ _ hu),abc,h1,apZ],h2⟩
 ·rename_i b hu;obtain⟨q,h1,h2⟩:=QM (d:=.bool) hk trivial 0 he h;exact⟨q,by simp only[Instr.findKey,amz,ZG (hX.Zd _ _ hu),abc,h1,apZ],h2⟩
 ·rename_i len e cs hu;obtain⟨q,h1,h2⟩:=N2 (P:=P) (w:=w) hX hu hk ad4 0 he h;refine⟨q,?_,h2⟩;simp only[Instr.findKey,amz,ZG (hX.Zd _ _ hu),abc];obtain⟨vs,rfl,_⟩:=Wc hk
  cases Vo with
  |nil=>simp only[Instr.findNow,apZ];simpa[Instr.findAsking] using h1
  |cons m y=>simp only[Instr.findNow,Instr.sameNow];exact h1
 ·cases XP
def HR.map (H:HR σ s w){r:Nat}{p:Pl}{es:List (AV×AV)}{ro:Bool}(hp:σ r=some p)(hg:s.get r=some (.map es ro)):∃Vo clock,w.heap[p.b]? = some (.map Vo clock)/\ZJ σ es Vo.toList:=by
 obtain⟨o,ho,hb⟩:=H.DS r p _ hp (St.XO hg No)
 cases o <;> simp only[BR] at hb
 exact⟨_,_,ho,hb⟩
def mO {t key elem:TypeId}{kv:Value}{ok:Bool}{q:Option (Nat×Value)}{mv:Value}{Vo:Array MapEntry}(hu:P.underlying t=some (.map key elem))
  (hm:(mv=.map none/\Vo=#[])\/∃r clock,mv=.map (some r)/\w.heap[r]? = some (.map Vo clock))
  (hck:∀b,(Instr.checkKey b 10000 key kv).run P w=.ok () w)(hf:(Instr.findKey key kv Vo.toList).run P w=.ok q w) :
  (Instr.lookup t mv kv ok).run P w=match q with
   |some (_,v)=>.ok (if ok then .tuple #[v,.bool true] else v) w
   |none=>((zeroValue elem).run P w).andThen λz w=>.ok (if ok then .tuple #[z,.bool false] else z) w:=by
 rcases hm with⟨rfl,rfl⟩|⟨r,clock,rfl,hr⟩
 ·simp only[Instr.lookup,amz,ZG hu,abc,apZ,hck,hf]
  cases q with
  |none=>simp only[amz,apZ,abc]
  |some q=>obtain⟨i,v⟩:=q;simp only[amz,apZ,abc]
 ·simp only[Instr.lookup,amz,ZG hu,abc,apZ,T_ hr No,hck,hf]
  cases q with
  |none=>simp only[amz,apZ,abc]
  |some q=>obtain⟨i,v⟩:=q;simp only[amz,apZ,abc]
def LC (hX:Vm X P){t key elem:TypeId}{k:AV}{kv:Value}{ok:Bool}{mv:Value}{Vo:Array MapEntry}{es:List (AV×AV)}{q0:Option AV}{r:AV}(hu:X.Zd t=some (.map key elem))(hk:ZY σ k kv)(XP:Vr X key k=true)
  (hm:(mv=.map none/\Vo=#[])\/∃r clock,mv=.map (some r)/\w.heap[r]? = some (.map Vo clock))
  (he:ZJ σ es Vo.toList)(hf:UY k es=some q0)
  (hr:(match q0 with
   |some v=>some (if ok=true then AV.XQ [v,.bool true] else v)
   |none=>match zero X elem with
    |some z=>some (if ok=true then AV.XQ [z,.bool false] else z)
    |none=>none)=some r):Ut P w σ (Instr.lookup t mv kv ok) r:=by
 obtain⟨q,h1,h2⟩:=yr (P:=P) (w:=w) hX hk XP he hf;unfold Ut;rw[mO (hX.Zd _ _ hu) hm (λb=>O7 hX hk XP) h1]
 cases q0 with
 |some a =>
  cases q with
  |none=>exact h2.elim
  |some q =>
   obtain⟨i,v⟩:=q
   cases hr
   refine⟨if ok then .tuple #[v,.bool true] else v,rfl,?_⟩
   cases ok
   ·exact h2
   ·simp only[if_true,ZY];exact⟨_,rfl,by simp only[ZZ];exact⟨_,_,rfl,h2,_,_,rfl,by simp[ZY],rfl⟩⟩
 |none =>
  cases q with
  |some q=>exact h2.elim
  |none =>
   simp only at hr
   split at hr
   ·rename_i z hz
    cases hr
    obtain⟨zv,ug,iZ⟩:=N1 (w:=w) (σ:=σ) hX hz;refine⟨if ok then .tuple #[zv,.bool false] else zv,by simp only[ug,abc],?_⟩
    cases ok
    ·exact iZ
    ·simp only[if_true,ZY];exact⟨_,rfl,by simp only[ZZ];exact⟨_,_,rfl,iZ,_,_,rfl,by simp[ZY],rfl⟩⟩
   ·cases hr
def pO {ks vs:List AV}{v:Value}(h:ZY σ (.fm ks vs) v):∃r Vo clock,v=.map (some r)/\σ.fz r=some (.map Vo clock)/\ZZ σ.bare ks (Vo.toList.map MapEntry.key)/\ZZ σ.bare vs (Vo.toList.map MapEntry.val):=by simpa only[ZY] using h
def H_ {σ:Sg}:∀{ks vs:List AV} {l:List MapEntry},ZZ σ ks (l.map MapEntry.key)->ZZ σ vs (l.map MapEntry.val)->ZJ σ (ks.zip vs) l
 |[],vs,l,h,k=>by
  simp only[ZZ,List.map_eq_nil_iff] at h;subst h;simp[ZJ]
 |a::ks,[],l,h,k=>by
  simp only[ZZ,List.map_eq_nil_iff] at k;subst k;simp[ZZ] at h
 |a::ks,b::vs,l,h,k=>by
  cases l with
  |nil=>simp[ZZ] at h
  |cons m l =>
   simp only[aqe,ZZ] at h k;obtain⟨v,y,e,h1,h2⟩:=h;obtain⟨v',y',e',k1,k2⟩:=k
   cases e;cases e'
   simp only[List.zip_cons_cons,ZJ];exact⟨m,l,rfl,h1,k1,H_ h2 k2⟩
def yq (hX:Vm X P)(H:HR σ s w){m k r:AV}{mv kv:Value}{ok:Bool}(hm:ZY σ m mv)(hk:ZY σ k kv)(h:WM X t m k ok s=some r):Ut P w σ (Instr.lookup t mv kv ok) r:=by
 unfold WM at h
 split at h
 ·rename_i key elem hu
  split at h
  ·rename_i XP
   cases m <;> simp only at h <;> try (cases h;done)
   ·
    simp only[ZY] at hm;subst hm;exact LC hX hu hk XP (.inl ⟨rfl,rfl⟩) (es:=[]) (q0:=none) (by simp[ZJ]) rfl h
   ·rename_i b;obtain⟨p,hp,rfl⟩:=N0 hm
    cases hg:s.get b with
    |none=>rw[hg] at h;cases h
    |some DS =>
     rw[hg] at h
     cases DS <;> simp only at h <;> try (cases h;done)
     rename_i es ro
     cases hf:UY k es with
     |none=>rw[hf] at h;cases h
     |some q0 =>
      rw[hf] at h;obtain⟨Vo,clock,g1,g2⟩:=H.map hp hg;refine LC hX hu hk XP (.inr ⟨p.b,clock,rfl,g1⟩) g2 hf ?_
      cases q0 <;> exact h
   ·rename_i ks vs;obtain⟨b,Vo,clock,rfl,g1,g2,g3⟩:=pO hm
    cases hf:UY k (ks.zip vs) with
    |none=>rw[hf] at h;cases h
    |some q0 =>
     rw[hf] at h;refine LC hX hu hk XP (.inr ⟨b,clock,rfl,(H.fz _ _ g1).1⟩) ((H_ g2 g3).mono (Sg.TM σ)) hf ?_
     cases q0 <;> exact h
  ·cases h
 ·cases h
end
end Go.Am
namespace Go.Am
open Go
section
variable [Stat]
variable {X:Cx}{P:Program}{w:World}{σ:Sg}{s:St}
def Lx (k:AV):List (AV×AV)->Option (Option Nat)
 |[]=>some none
 |(k',_)::es=>match VP k k' with
  |some true=>some (some 0)
  |some false=>match Lx k es with
   |some (some i)=>some (some (i+1))
   |some none=>some none
   |none=>none
  |none=>none
def po {k v:AV}:∀{es es':List (AV×AV)},Km k v es=some es'->∃o,Lx k es=some o/\es'=(match o with|none=>es++[(k,v)]|some i=>es.set i (k,v))/\(∀i,o=some i->i<es.length)
 |[],es',h=>by
  simp only[Km] at h;cases h;exact⟨none,rfl,rfl,by simp⟩
 |(k',v')::es,es',h=>by
  simp only[Km] at h
  split at h
  ·rename_i hb
   cases h
   exact⟨some 0,by simp only[Lx,hb],rfl,by simp⟩
  ·rename_i hb
   split at h
   ·rename_i r hr
    cases h
    obtain⟨o,h1,h2,h3⟩:=po hr
    cases o with
    |none=>exact⟨none,by simp only[Lx,hb,h1],by simp[h2],by simp⟩
    |some i=>exact⟨some (i+1),by simp only[Lx,hb,h1],by simp[h2],λj hj=>by cases hj;have:=h3 i rfl;simp;omega⟩
   ·cases h
  ·cases h
def Ro {k:AV}{kv:Value}{d:TypeDesc}(hk:ZY σ k kv)(hd:match d,k with|.int _,.int _ _=>True|.string,.str _=>True|.bool,.bool _=>True|_,_=>False) :
  ∀{es:List (AV×AV)} {Vo:List MapEntry} {o:Option Nat} (n:Nat),ZJ σ es Vo->Lx k es=some o->∃q,Instr.findNow d kv Vo n=some q/\(o=none->q=none)/\(∀i,o=some i->∃v,q=some (n+i,v))
 |[],Vo,o,n,he,h=>by
  simp only[ZJ] at he;subst he;simp only[Lx] at h;cases h;exact⟨none,rfl,λ_=>rfl,by simp⟩
 |(k',v)::es,Vo,o,n,he,h=>by
  simp only[ZJ] at he;obtain⟨m,y,rfl,h1,h2,h3⟩:=he;simp only[Lx] at h;have key:∀b,VP k k'=some b->Instr.sameNow d kv m.key=some b:=by
   intro b hb
   cases k <;> try (simp only[VP] at hb;cases hb;done)
   all_goals (cases d <;> try (exact hd.elim))
   all_goals (cases k' <;> simp only[VP] at hb <;> try (cases hb;done))
   ·cases hb
    rw[WC hk,WC h1];rfl
   ·rename_i k1 n1 _ k2 n2
    split at hb
    ·rename_i gg;subst gg
     cases hb
     rw[YX hk,YX h1];simp[Instr.sameNow]
    ·cases hb
   ·cases hb
    obtain⟨p,e1,e2⟩:=Xt hk;obtain⟨q,e3,e4⟩:=Xt h1;rw[e1,e3,<-e2,<-e4];simp only[Instr.sameNow,bytes_beq]
  split at h
  ·rename_i hb
   cases h
   exact⟨some (n,m.val),by simp[Instr.findNow,key _ hb],by simp,λi hi=>by cases hi;exact⟨_,rfl⟩⟩
  ·rename_i hb
   split at h
   ·rename_i i hi
    cases h
    obtain⟨q,h4,h5,h6⟩:=Ro hk hd (n+1) h3 hi;refine⟨q,by simp only[Instr.findNow,key _ hb];exact h4,by simp,λj hj=>?_⟩
    cases hj
    obtain⟨v,hv⟩:=h6 i rfl;exact⟨v,by rw[hv];congr 2;omega⟩
   ·rename_i hi
    cases h
    obtain⟨q,h4,h5,h6⟩:=Ro hk hd (n+1) h3 hi;exact⟨q,by simp only[Instr.findNow,key _ hb];exact h4,λ_=>h5 rfl,by simp⟩
   ·cases h
  ·cases h
def Qz (hX:Vm X P){t:TypeId}{len:Nat}{e:TypeId}{a:List AV}{kv:Value}(hu:X.Zd t=some (.array len e))(hk:ZY σ (.agg a) kv)(XP:Vr X t (.agg a)=true) :
  ∀{es:List (AV×AV)} {Vo:List MapEntry} {o:Option Nat} (n:Nat),ZJ σ es Vo->Lx (.agg a) es=some o->∃q,(Instr.findAsking t kv Vo n).run P w=.ok q w/\(o=none->q=none)/\(∀i,o=some i->∃v,q=some (n+i,v))
 |[],Vo,o,n,he,h=>by
  simp only[ZJ] at he;subst he;simp only[Lx] at h;cases h;exact⟨none,rfl,λ_=>rfl,by simp⟩
 |(k',v)::es,Vo,o,n,he,h=>by
  simp only[ZJ] at he;obtain⟨m,y,rfl,h1,h2,h3⟩:=he;simp only[Lx] at h;have key:∀b,VP (.agg a) k'=some b->(Op.equal t kv m.key).run P w=.ok b w:=by
   intro b hb
   cases k' <;> try (simp only[VP] at hb;cases hb;done)
   exact Ct hX hu hk h1 XP hb
  split at h
  ·rename_i hb
   cases h
   exact⟨some (n,m.val),by simp[Instr.findAsking,key _ hb],by simp,λi hi=>by cases hi;exact⟨_,rfl⟩⟩
  ·rename_i hb
   split at h
   ·rename_i i hi
    cases h
    obtain⟨q,h4,h5,h6⟩:=Qz hX hu hk XP (n+1) h3 hi;refine⟨q,by simp only[Instr.findAsking,amz,key _ hb,abc,aqa,if_false];exact h4,by simp,λj hj=>?_⟩
    cases hj
    obtain⟨v,hv⟩:=h6 i rfl;exact⟨v,by rw[hv];congr 2;omega⟩
   ·rename_i hi
    cases h
    obtain⟨q,h4,h5,h6⟩:=Qz hX hu hk XP (n+1) h3 hi;exact⟨q,by simp only[Instr.findAsking,amz,key _ hb,abc,aqa,if_false];exact h4,λ_=>h5 rfl,by simp⟩
   ·cases h
  ·cases h
def s7 (hX:Vm X P){t:TypeId}{k:AV}{kv:Value}(hk:ZY σ k kv)(XP:Vr X t k=true){es:List (AV×AV)}{Vo:List MapEntry}{o:Option Nat}(he:ZJ σ es Vo)(h:Lx k es=some o) :
  ∃q,(Instr.findKey t kv Vo).run P w=.ok q w/\(o=none->q=none)/\(∀i,o=some i->∃v,q=some (i,v)):=by
 have ad4:=XP;unfold Vr at XP
 split at XP
 ·rename_i kk k' n hu;obtain⟨q,h1,h2,h3⟩:=Ro (d:=.int kk) hk trivial 0 he h;exact⟨q,by simp only[Instr.findKey,amz,ZG (hX.Zd _ _ hu),abc,h1,apZ],h2,by simpa using h3⟩
 ·rename_i b hu;obtain⟨q,h1,h2,h3⟩:=Ro (d:=.string) hk trivial 0 he h;exact⟨q,by simp only[Instr.findKey,amz,ZG (hX.Zd _ _ hu),abc,h1,apZ],h2,by simpa using h3⟩
 ·rename_i b hu;obtain⟨q,h1,h2,h3⟩:=Ro (d:=.bool) hk trivial 0 he h;exact⟨q,by simp only[Instr.findKey,amz,ZG (hX.Zd _ _ hu),abc,h1,apZ],h2,by simpa using h3⟩
 ·rename_i len e cs hu;obtain⟨q,h1,h2,h3⟩:=Qz (P:=P) (w:=w) hX hu hk ad4 0 he h;refine⟨q,?_,h2,by simpa using h3⟩;simp only[Instr.findKey,amz,ZG (hX.Zd _ _ hu),abc];obtain⟨vs,rfl,_⟩:=Wc hk
  cases Vo with
  |nil=>simp only[Instr.findNow,apZ];simpa[Instr.findAsking] using h1
  |cons m y=>simp only[Instr.findNow,Instr.sameNow];exact h1
 ·cases XP
def Ce:∀{a:List AV} {u v:List Value},Vk a=true->ZZ σ a u->ZZ σ a v->u=v
 |[],u,v,_,h1,h2=>by simp only[ZZ] at h1 h2;rw[h1,h2]
 |x::a,u,v,h,h1,h2=>by
  obtain⟨⟨n,rfl⟩,h'⟩:=TL h;simp only[ZZ] at h1 h2;obtain⟨p,y,rfl,e1,e2⟩:=h1;obtain⟨q,z,rfl,e3,e4⟩:=h2;rw[YX e1,YX e3,Ce h' e2 e4]
def Rn:∀{a:List AV} {u:List Value},Vk a=true->ZZ σ a u->(u.zip u).all (λ(x,y)=>Instr.sameBits 9999 x y)=true
 |[],u,_,h1=>by simp only[ZZ] at h1;subst h1;rfl
 |x::a,u,h,h1=>by
  obtain⟨⟨n,rfl⟩,h'⟩:=TL h;simp only[ZZ] at h1;obtain⟨p,y,rfl,e1,e2⟩:=h1;rw[YX e1];simp only[List.zip_cons_cons,List.all_cons,ahe];refine⟨?_,Rn h' e2⟩;show Instr.sameBits (9998+1) _ _=true;rw[Instr.sameBits];simp
def Kg {k k':AV}{kv mk:Value}(hk:ZY σ k kv)(hm:ZY σ k' mk)(h:VP k k'=some true):Instr.sameBits 10000 mk kv=true:=by
 show Instr.sameBits (9999+1) mk kv=true
 cases k <;> try (simp only[VP] at h;cases h;done)
 all_goals (cases k' <;> simp only[VP] at h <;> try (cases h;done))
 ·rw[WC hk,WC hm,Instr.sameBits];simp at h;simp[h]
 ·split at h
  ·rename_i gg;subst gg;rw[YX hk,YX hm,Instr.sameBits];simp at h;simp[h]
  ·cases h
 ·obtain⟨p,e1,e2⟩:=Xt hk;obtain⟨q,e3,e4⟩:=Xt hm;rw[e1,e3,Instr.sameBits,bytes_beq];simp at h;simp[e2,e4,h]
 ·split at h
  ·rename_i hc;simp only[ahe,beq_iff_eq] at hc;have e:=yv (aqb h) hc.1.1 hc.1.2;subst e;obtain⟨us,rfl,LU⟩:=Wc hk;obtain⟨vs,rfl,SH⟩:=Wc hm;have e:=Ce hc.1.1 LU SH;have e':us=vs:=by cases us;cases vs;simpa using e
   subst e';rw[Instr.sameBits];simp only[beq_self_eq_true,aqr];exact Rn hc.1.1 LU
  ·cases h
def xL {k:AV}:∀{es:List (AV×AV)} {i:Nat},Lx k es=some (some i)->∃k' v',es[i]? = some (k',v')/\VP k k'=some true
 |[],i,h=>by simp only[Lx] at h;cases h
 |(k',v')::es,i,h=>by
  simp only[Lx] at h
  split at h
  ·rename_i hb;cases h;exact⟨k',v',rfl,hb⟩
  ·split at h
   ·rename_i j hj;cases h;obtain⟨a,b,h1,h2⟩:=xL hj;exact⟨a,b,by simpa using h1,h2⟩
   ·cases h
   ·cases h
  ·cases h
def NI:∀{es:List (AV×AV)} {Vo:List MapEntry},ZJ σ es Vo->∀(i:Nat) (k v:AV),es[i]? = some (k,v)->∃m,Vo[i]? = some m/\ZY σ k m.key/\ZY σ v m.val
 |[],Vo,_,i,k,v,h=>by simp at h
 |(k',v')::es,Vo,he,i,k,v,h=>by
  simp only[ZJ] at he;obtain⟨m,y,rfl,h1,h2,h3⟩:=he
  cases i with
  |zero=>simp at h;exact⟨m,rfl,h.1 ▸ h1,h.2 ▸ h2⟩
  |succ i=>simpa using NI h3 i k v (by simpa using h)
def NH {k v:AV}{kv vv:Value}(hk:ZY σ k kv)(hv:ZY σ v vv):∀{es:List (AV×AV)} {Vo:List MapEntry} (i:Nat),ZJ σ es Vo->ZJ σ (es.set i (k,v)) (Vo.modify i λe=>{ e with key:=kv,val:=vv })
 |[],Vo,i,h=>by simp only[ZJ] at h;subst h;simp[ZJ]
 |(k',v')::es,Vo,i,h=>by
  simp only[ZJ] at h;obtain⟨m,y,rfl,h1,h2,h3⟩:=h
  cases i with
  |zero=>simp only[List.set_cons_zero,List.modify_zero_cons,ZJ];exact⟨_,_,rfl,hk,hv,h3⟩
  |succ i=>simp only[List.set_cons_succ,List.modify_succ_cons,ZJ];exact⟨_,_,rfl,h1,h2,NH hk hv i h3⟩
def OI {k v:AV}{m:MapEntry}(hk:ZY σ k m.key)(hv:ZY σ v m.val):∀{es:List (AV×AV)} {Vo:List MapEntry},ZJ σ es Vo->ZJ σ (es++[(k,v)]) (Vo++[m])
 |[],Vo,h=>by simp only[ZJ] at h;subst h;simp only[aqQ,ZJ];exact⟨_,_,rfl,hk,hv,rfl⟩
 |(k',v')::es,Vo,h=>by
  simp only[ZJ] at h;obtain⟨m',y,rfl,h1,h2,h3⟩:=h;simp only[aqk,ZJ];exact⟨_,_,rfl,h1,h2,OI hk hv h3⟩
def HW (hX:Vm X P)(H:HR σ s w){t:TypeId}{m k v:AV}{mv kv vv:Value}{s':St}(hm:ZY σ m mv)(hk:ZY σ k kv)(hv:ZY σ v vv)(h:VZ X t m k v s=some s') :
  ∃w',(Instr.mapUpdate t mv kv vv).run P w=.ok () w'/\Good σ s w σ s' w':=by
 unfold VZ at h
 split at h
 ·rename_i key elem b hu
  split at h
  ·rename_i XP
   split at h
   ·rename_i es hg
    split at h
    ·rename_i es' xK
     cases h
     obtain⟨p,hp,rfl⟩:=N0 hm;obtain⟨Vo,clock,g1,g2⟩:=H.map hp hg;obtain⟨o,h1,h2,h3⟩:=po xK;obtain⟨q,f1,f2,f3⟩:=s7 (P:=P) (w:=w) hX hk XP g2 h1;have YA:p.b<w.heap.size:=H.lt _ _ hp;have hl:s.look b=some (.map es false):=St.XO hg No;have fin:∀(aa0:Array MapEntry) (sZ:Nat),ZJ σ es' aa0.toList->Good σ s w σ (s.put b (.map es' false)) { w with heap:=w.heap.setIfInBounds p.b (.map aa0 sZ) }:=by
      intro aa0 sZ hr;refine Good.put H hp hl rfl No No ?_ (o:=.map aa0 sZ) ?_ hr rfl rfl rfl
      ·intro c hc;simp only;rw[Array.getElem?_setIfInBounds_ne (λe=>hc e.symm)]
      ·simp[YA]
     cases o with
     |none =>
      rw[f2 rfl] at f1;refine⟨_,?_,fin (Vo.push { key:=kv,val:=vv,born:=clock }) (clock+1) (by rw[h2,Array.toList_push];exact OI hk hv g2)⟩;simp only[Instr.mapUpdate,amz,ZG (hX.Zd _ _ hu),abc,T_ g1 No,O7 hX hk XP,f1,LD g1 No]
     |some i =>
      obtain⟨ov,hq⟩:=f3 i rfl;rw[hq] at f1;obtain⟨k',v',e1,e2⟩:=xL h1;obtain⟨m,e3,e4,e5⟩:=NI g2 i k' v' e1;rw[aqq] at e3;refine⟨_,?_,fin (Vo.modify i λe=>{ e with key:=kv,val:=vv }) clock (by rw[h2,Array.toList_modify];exact NH hk hv i g2)⟩;simp only[Instr.mapUpdate,amz,ZG (hX.Zd _ _ hu),abc,T_ g1 No,O7 hX hk XP,f1,e3,aqG,aq6];simp only[Instr.keyThatStays,Kg hk e4 e2,if_true,apZ,abc,LD g1 No]
    ·cases h
   ·cases h
  ·cases h
 ·cases h
end
end Go.Am
namespace Go.Am
open Go
section
variable [Stat]
variable {X:Cx}{P:Program}{w:World}{σ:Sg}{s:St}
def Bm (need M:Nat)(hM:need+(need+768) / 4<=M):∀(r c:Nat),c<=M->Builtin.growBy need r c<=M
 |0,c,h=>h
 |r+1,c,h=>by
  simp only[Builtin.growBy]
  split
  ·exact h
  ·exact Bm need M hM r _ J
def qK {need cap:Nat}(h:cap<need):Builtin.nextslicecap need cap<=2*need+200:=by
 unfold Builtin.nextslicecap
 split
 ·omega
 ·split
  ·omega
  ·exact Bm need _ J 4 cap J
def uY {α β:Type}(f:α->List β)(n:Nat):∀(l:List α),(∀u∈l,(f u).length=n)->(l.flatMap f).length=l.length*n
 |[],_=>by simp
 |x::l,hl=>by
  rw[aqp,ann,hl x (aba ..),uY f n l λu hu=>hl u (aab _ hu),ap1,aq3];omega
def HF (H:HR σ s w){n m:Nat}{x:AV}{xv:Value}{new:List AV}(hx:ZY σ x xv)(h:VH n x s=some (m,new)) :
  (∀w,(Builtin.lenOf xv).run P w=.ok m w)/\∃vs:Array Value,(∀w',w'.heap=w.heap->(Builtin.firstCells n m xv).run P w'=.ok vs w')/\ZZ σ new vs.toList:=by
 unfold VH at h
 split at h
 ·cases h
  simp only[ZY] at hx;subst hx;exact⟨λ_=>rfl,#[],λ_ _=>rfl,by simp[ZZ]⟩
 ·rename_i b o len cap Vl;obtain⟨a,c,rfl,hlen,⟨p,hp,ha,_⟩,_⟩:=Td hx
  split at h
  ·rename_i cs hc
   split at h
   ·rename_i r hg
    cases h
    refine⟨λ_=>rfl,?_⟩;by_cases hm:m=0
    ·subst hm;have:new=[]:=by have:=(WD hg).1;simpa using this
     subst this;exact⟨#[],λ_ _=>by simp[Builtin.firstCells,loadCells,loadCellsFrom],by simp[ZZ]⟩
    ·obtain⟨vs,h1,h2⟩:=Qv (P:=P) H hp hc hg;exact⟨vs.toArray,λw' hw=>by simp only[Builtin.firstCells];rw[ha J];exact h1 w' hw,h2⟩
   ·cases h
  ·cases h
 ·rename_i bs
  cases h
  obtain⟨b,rfl,rfl⟩:=Xt hx;have Vt:b.data.toList.length=b.size:=by rw[aqj];rfl
  refine⟨λ_=>by rw[Vt];rfl,(b.extract 0 b.data.toList.length).data.map λb=>.int .u8 b.toNat,λ_ _=>rfl,?_⟩;have e:(b.extract 0 b.data.toList.length).data.toList=b.data.toList:=by
   rw[extract_toList,aqy,List.take_of_length_le (api _)]
  have:((b.extract 0 b.data.toList.length).data.map λb=>Value.int .u8 b.toNat).toList=b.data.toList.map λb=>Value.int .u8 b.toNat:=by
   rw[Array.toList_map,e]
  rw[this];generalize b.data.toList=l
  induction l with
  |nil=>simp[ZZ]
  |cons c l ih=>simp only[aqe,ZZ];exact⟨_,_,rfl,by simp[ZY],ih⟩
 ·rename_i es
  split at h
  ·rename_i Xx
   cases h
   simp only[ahe,ap8,beq_iff_eq,bne_iff_ne] at Xx;obtain⟨a,c,us,rfl,hlc,Sw,TK⟩:=MQ hx;refine⟨λ_=>rfl,(us.flatMap λu=>u.cells.toList).toArray,λw' hw=>?_,?_⟩
   ·have Hm:=Sw.length;rcases TK with rfl|⟨Jk,cc,ee,fz,m,g1,g2,g3,g4⟩
    ·have:es.length=0:=Hm;rw[this];simp[Builtin.firstCells,loadCells,loadCellsFrom]
    ·by_cases hem:us=[]
     ·subst hem;have:es.length=0:=Hm;rw[this];simp[Builtin.firstCells,loadCells,loadCellsFrom]
     ·have yY:m=n:=by
       obtain⟨u,hu⟩:=List.exists_mem_of_ne_nil us hem;obtain⟨i,hi⟩:=List.getElem?_of_mem hu;have YA:i<es.length:=by rw[Hm];exact (apX.1 hi).1
       obtain⟨u',h1,h2⟩:=Sw.get i _ (aaa YA);rw[hi] at h1;cases h1;have h3:=(VT h2).length;have h4:=Xx.1 _ (adm YA);have h5:=g3 u hu;have h6:u.cells.toList.length=u.cells.size:=rfl;omega
      subst yY;obtain⟨ab,ao,asp⟩:=a;simp only at Jk g1 g4;subst Jk;have:=run_loadCells_list (P:=P) w' ⟨ab,ao,none⟩ (us.flatMap λu=>u.cells.toList) (λj v hv=>by
       rw[Xs,cell_of_heap hw,XH (H.fz _ _ g1).1];exact g4 _ _ hv)
      simp only[Builtin.firstCells];have hlen:(us.flatMap λu=>u.cells.toList).length=es.length*m:=by
       rw[Hm];exact uY _ m us λu hu=>by simpa using g3 u hu
      rw[hlen] at this;exact this
   ·have:ZZ σ.bare (es.flatMap AV.cells) (us.flatMap λu=>u.cells.toList):=by
     clear TK hx hlc Xx
     induction es generalizing us with
     |nil=>simp only[ZZ] at Sw;subst Sw;simp[ZZ]
     |cons x es ih =>
      simp only[ZZ] at Sw;obtain⟨v,y,rfl,h1,h2⟩:=Sw;rw[aqp,aqp];exact (VT h1).append (ih y h2)
    simpa using ZZ.mono (Sg.TM σ) _ _ this
  ·cases h
 ·cases h
def oG (H:HR σ s w){b o len n:Nat}{cap:Option Nat}{Vl:Nat}{a:Addr}{c:Nat}{cs old:List AV}(HY:Cw σ b o len cap Vl a c)(hc:s.cells b=some cs)(hg:Xi (len*n) o cs=some old) :
  ∃vs:Array Value,(∀w',w'.heap=w.heap->(Builtin.firstCells n len (.slice (some a) len c)).run P w'=.ok vs w')/\ZZ σ old vs.toList:=by
 obtain⟨hlen,⟨p,hp,ha,_⟩,_⟩:=HY;by_cases hm:len=0
 ·subst hm;have:old=[]:=by have:=(WD hg).1;simpa using this
  subst this;exact⟨#[],λ_ _=>by simp[Builtin.firstCells,loadCells,loadCellsFrom],by simp[ZZ]⟩
 ·obtain⟨vs,h1,h2⟩:=Qv (P:=P) H hp hc hg;exact⟨vs.toArray,λw' hw=>by simp only[Builtin.firstCells];rw[ha J];exact h1 w' hw,h2⟩
def Good.inPlace (H:HR σ s w)(hf:σ s.next=none){b:Nat}{p q:Pl}{b0 b1:Uf}(hp:σ b=some p)(hl:s.look b=some b0)(SA:b0.own=true)(TV:b1≠.gone)(hq:q.b=p.b){w':World}(Vt:w'.heap.size=w.heap.size)
  (SX:∀c,c≠p.b->w'.heap[c]? = w.heap[c]?){o:Obj}(ho:w'.heap[p.b]? = some o)(hr:BR (σ.add s.next q) q b1 o)(hos:w'.os=w.os)(ht:w'.tape=w.tape)(LH:w'.output=w.output) :
  Good σ s w (σ.add s.next q) ((s.put b .gone).new b1) w':=by
 have hle:Sg.le σ (σ.add s.next q):=Sg.LI hf;have look:∀j c,((s.put b .gone).new b1).look j=some c->(j=s.next/\c=b1)\/(j≠s.next/\j≠b/\s.look j=some c):=by
  intro j c hj;rw[St.Uq _ _ _ TV,St.Z_] at hj;by_cases e:s.next=j
  ·rw[Of e] at hj;cases hj;exact .inl ⟨e.symm,rfl⟩
  ·rw[O3 e,St.WS] at hj;by_cases e':b=j
   ·rw[Of e'] at hj;cases hj
   ·rw[O3 e'] at hj;exact .inr ⟨λh=>e h.symm,λh=>e' h.symm,hj⟩
 have YA:p.b<w.heap.size:=H.lt _ _ hp;refine⟨⟨?_,?_,?_,?_⟩,⟨hle,λ_ _ h=>.inl h,J,?_,?_,hos,ht,LH⟩,?_,by rw[St.Z',St.Z_];omega,?_,?_,rfl⟩
 ·intro i r hi;by_cases e:i=s.next
  ·subst e;rw[Sg.Yc] at hi;cases hi;omega
  ·rw[Sg.Wo _ _ e] at hi;rw[Vt];exact H.lt i r hi
 ·intro i r c hi hc;rcases look i c hc with⟨rfl,rfl⟩|⟨e,e',Hl⟩
  ·rw[Sg.Yc] at hi;cases hi;exact⟨o,by rw[hq];exact ho,hr⟩
  ·rw[Sg.Wo _ _ e] at hi;obtain⟨o',h1,h2⟩:=H.DS i r c hi Hl;have ZB:r.b≠p.b:=λhe=>e' (H.inj i b r p c b0 hi hp Hl hl he)
   exact⟨o',by rw[SX _ ZB];exact h1,h2.mono hle⟩
 ·intro i j r t c d hi hj hc hd he;rcases look i c hc with⟨rfl,rfl⟩|⟨e1,e2,Hl⟩ <;> rcases look j d hd with⟨e3,rfl⟩|⟨e3,e4,Qr⟩
  ·exact e3.symm
  ·rw[Sg.Yc] at hi;cases hi;rw[Sg.Wo _ _ e3] at hj;exact absurd (H.inj j b t p d b0 hj hp Qr hl J) e4
  ·subst e3;rw[Sg.Yc] at hj;cases hj;rw[Sg.Wo _ _ e1] at hi;exact absurd (H.inj i b r p c b0 hi hp Hl hl J) e2
  ·rw[Sg.Wo _ _ e1] at hi;rw[Sg.Wo _ _ e3] at hj;exact H.inj i j r t c d hi hj Hl Qr he
 ·intro c o' hc;obtain⟨h1,h2⟩:=H.fz c o' hc;have hcp:c≠p.b:=λe=>h2 ⟨b,p,b0,hp,hl,SA,e.symm⟩
  refine⟨by rw[SX c hcp];exact h1,?_⟩;rintro⟨j,r,d,hj,hd,hdo,rfl⟩;rcases look j d hd with⟨rfl,rfl⟩|⟨e,e',Qr⟩
  ·rw[Sg.Yc] at hj;cases hj;exact hcp hq
  ·rw[Sg.Wo _ _ e] at hj;exact h2 ⟨j,r,d,hj,Qr,hdo,rfl⟩
 ·intro c _ hn;exact SX c (λe=>hn ⟨b,p,b0,hp,hl,SA,e.symm⟩)
 ·rintro c hc ⟨j,r,d,hj,hd,hdo,rfl⟩;rcases look j d hd with⟨rfl,rfl⟩|⟨e,e',Qr⟩
  ·rw[Sg.Yc] at hj;cases hj;exact⟨b,p,b0,hp,hl,SA,hq.symm⟩
  ·rw[Sg.Wo _ _ e] at hj;exact⟨j,r,d,hj,Qr,hdo,rfl⟩
 ·intro i hi;rw[St.Z',St.Z_] at hi;exact Sg.Wo _ _ J
 ·intro i hi DR
  cases hc:((s.put b .gone).new b1).look i with
  |none=>rfl
  |some c =>
   rcases look i c hc with⟨rfl,_⟩|⟨_,_,Hl⟩
   ·omega
   ·rw[DR] at Hl;cases Hl
 ·intro i r hi hn;by_cases e:i=s.next
  ·subst e;rw[Sg.Yc] at hi;cases hi;exact .inr ⟨b,p,b0,hp,hl,SA,hq.symm⟩
  ·rw[Sg.Wo _ _ e,hn] at hi;cases hi
def Good.drop (H:HR σ s w){b:Nat}{b0:Uf}(hl:s.look b=some b0):Good σ s w σ (s.put b .gone) w:=by
 have look:∀j c,(s.put b .gone).look j=some c->s.look j=some c:=by
  intro j c hj;rw[St.WS] at hj;by_cases e:b=j
  ·rw[Of e] at hj;cases hj
  ·rw[O3 e] at hj;exact hj
 refine⟨⟨H.lt,λi p c hi hc=>H.DS i p c hi (look i c hc),λi j p q c d hi hj hc hd he=>H.inj i j p q c d hi hj (look i c hc) (look j d hd) he,λc o hc=>⟨(H.fz c o hc).1,λ⟨i,p,d,hi,hd,ho,he⟩=>(H.fz c o hc).2 ⟨i,p,d,hi,look i d hd,ho,he⟩⟩⟩,
  ⟨Sg.le_refl _,λ_ _ h=>.inl h,api _,λ_ _ _=>rfl,?_,rfl,rfl,rfl⟩,λ_ _=>rfl,api _,?_,λi p h k=>(by rw[k] at h;cases h),rfl⟩
 ·rintro c _ ⟨i,p,d,hi,hd,ho,rfl⟩;exact⟨i,p,d,hi,look i d hd,ho,rfl⟩
 ·intro i _ hi
  cases hc:(s.put b .gone).look i with
  |none=>rfl
  |some c=>rw[look i c hc] at hi;cases hi
def D5 (z:Array Value)(n:Nat):(Builtin.zeroCells z n).size=n*z.size:=by simp[Builtin.zeroCells]
def qJ (hX:Vm X P){t u elem:TypeId}{ts:Array TypeId}{ty:TypeId}{ei:TypeInfo}{z:Value}{n m len c:Nat}{base:Option Addr}{xv:Value}{old new:Array Value}(ht:ts[0]? = some t)(LB:ts[1]? = some u)
  (iN:∃d,X.Zd u=some d/\∀k,d≠.int k)(hu:X.Zd t=some (.slice elem))(hi:X.inf elem=some ei)(Vt:ei.size=n)(hz:ei.zero=some z)
  (hl:(Builtin.lenOf xv).run P w=.ok m w)(hx:∀w',w'.heap=w.heap->(Builtin.firstCells n m xv).run P w'=.ok new w')(ho:∀w',w'.heap=w.heap->(Builtin.firstCells n len (.slice base len c)).run P w'=.ok old w')
  (uX:c<len+m)(hb:(len+m)*ei.bytes<=2^40)(U5:ei.bytes<=2^20)(zo:len+m<=2^40)(BW:ei.bytes≠0) :
  ∃cap,len+m<=cap/\(Builtin.append_ ts ty #[.slice base len c,xv]).run P w=.ok (.slice (some ⟨w.heap.size,0,none⟩) (len+m) cap) (w.drew.alloc (.cells (old++new++Builtin.zeroCells z.cells (cap-(len+m))) elem)):=by
 obtain⟨d,hd,hdi⟩:=iN;refine⟨(len+m)+(w.tape w.drawn (.appendCap (len+m) c elem))%(2^63-(len+m)),J,?_⟩;have hs:size X elem=some n:=by simp[size,hi,Vt]
 have aq:¬(Builtin.nextslicecap (len+m) c*ei.bytes>2^48):=by
  have h1:=qK uX;have h2:Builtin.nextslicecap (len+m) c*ei.bytes<=(2*(len+m)+200)*ei.bytes:=aqC _ h1;have h3:(2*(len+m)+200)*ei.bytes=2*((len+m)*ei.bytes)+200*ei.bytes:=by rw[aq3,Nat.mul_assoc]
  omega
 have ahZ:¬(((len+m:Nat):Int)>IntKind.i64.max/\ei.bytes=0):=λh=>BW h.2
 have hle:¬(len+m<=c):=J;have e0:(#[Value.slice base len c,xv]:Array Value)[0]? = some (.slice base len c):=rfl;have e1:(#[Value.slice base len c,xv]:Array Value)[1]? = some xv:=rfl;unfold Builtin.append_;simp only[ht,e0,e1,amz,ZG (hX.Zd _ _ hu),abc,YG hX hs,LB,ZG (hX.Zd _ _ hd),apZ];simp only[aqa,if_false,amz,hl,abc,hle,aqF,if_true,G2 (hX.inf _ _ hi),false_or,ahZ,aq,run_choose,Question.forced,Question.cut,run_askRoom,World.drew_eq,
  ho w.drew rfl,hx w.drew rfl,yD (hX.inf _ _ hi) hz,newRow,run_newObj,World.alloc_eq,apZ]
 rfl
def SL (hX:Vm X P){t u elem:TypeId}{ts:Array TypeId}{ty:TypeId}{n m len c:Nat}{base:Option Addr}{xv:Value}{new:Array Value}{w':World}(ht:ts[0]? = some t)(LB:ts[1]? = some u)
  (iN:∃d,X.Zd u=some d/\∀k,d≠.int k)(hu:X.Zd t=some (.slice elem))(hs:size X elem=some n)
  (hl:(Builtin.lenOf xv).run P w=.ok m w)(hx:(Builtin.firstCells n m xv).run P w=.ok new w)(uX:len+m<=c)
  (W_:match base with|some a=>(storeCells (a.add (len*n)) new.toList).run P w=.ok () w'|none=>w'=w) :
  (Builtin.append_ ts ty #[.slice base len c,xv]).run P w=.ok (.slice base (len+m) c) w':=by
 obtain⟨d,hd,hdi⟩:=iN;have e0:(#[Value.slice base len c,xv]:Array Value)[0]? = some (.slice base len c):=rfl;have e1:(#[Value.slice base len c,xv]:Array Value)[1]? = some xv:=rfl;unfold Builtin.append_;simp only[ht,e0,e1,amz,ZG (hX.Zd _ _ hu),abc,YG hX hs,LB,ZG (hX.Zd _ _ hd),apZ];simp only[aqa,if_false,amz,hl,abc,uX,aqF,if_true,hx]
 cases base with
 |none=>simp only at W_;subst W_;rfl
 |some a=>simp only at W_ ⊢;simp only[amz,W_,abc,apZ]
def uW {old new:List AV}{ov nv:Array Value}(ho:ZZ σ old ov.toList)(hn:ZZ σ new nv.toList)(z:Array Value):∀(j:Nat) (a:AV),(old++new)[j]? = some a->∃v,(ov++nv++z)[j]? = some v/\ZY σ a v:=by
 intro j a ha;obtain⟨v,hv,hr⟩:=(ho.append hn).get j a ha;refine⟨v,?_,hr⟩;have hj:j<(ov++nv).size:=by
  have:=(apX.1 hv).1;simp at this ⊢;omega
 rw[<-Array.toList_append,aqq] at hv;rw[Array.getElem?_append_left hj];exact hv
def Hw (hX:Vm X P)(H:HR σ s w)(hf:σ s.next=none){t u:TypeId}{ts:Array TypeId}{ty:TypeId}{d x r:AV}{dv xv:Value}{s':St}(ht:ts[0]? = some t)(LB:ts[1]? = some u)
  (iN:∃d,X.Zd u=some d/\∀k,d≠.int k)(hd:ZY σ d dv)(hx:ZY σ x xv)(h:MN X t d x s=some (r,s')):Mn P σ s w (Builtin.append_ ts ty #[dv,xv]) r s':=by
 unfold MN at h
 split at h
 ·rename_i elem hu
  split at h
  ·rename_i ei n hi hs
   split at h
   ·rename_i m new xP
    split at h
    ·cases h
    ·rename_i akJ;simp only[not_or,Decidable.not_not,Nat.not_lt,ne_eq] at akJ;obtain⟨F6,hb,U5,zo,DV,BW,hz,adF⟩:=akJ;obtain⟨z,hz,hzs⟩:∃z,ei.zero=some z/\z.cells.size=n:=by
      cases hzz:ei.zero with
      |none=>rw[hzz] at hz;exact absurd rfl hz
      |some z=>rw[hzz] at hz;exact⟨z,rfl,by simpa[GR] using hz⟩
     obtain⟨hl,nv,hnv,hnr⟩:=HF (P:=P) H hx xP;have Vt:ei.size=n:=by simp only[size,hi] at hs;exact aqb hs
     split at h
     ·
      rename_i hm0;subst hm0;have akK:nv.toList=[]:=by
       have:=hnr.length;rw[F6,Nat.zero_mul] at this;exact aqo.1 this.symm
      split at h
      ·cases h
       simp only[ZY] at hd;subst hd;exact⟨σ,_,w,SL hX ht LB iN hu hs (hl w) (hnv w rfl) J rfl,by simp[ZY],Good.refl H⟩
      ·cases h
       have Qr:=hd;obtain⟨a,c,rfl,HY⟩:=Td hd;refine⟨σ,_,w,SL hX ht LB iN hu hs (hl w) (hnv w rfl) HY.len ?_,Qr,Good.refl H⟩;rw[akK];rfl
      ·cases h
       have Qr:=hd;obtain⟨a,c,us,rfl,hlc,_⟩:=MQ hd;refine⟨σ,_,w,SL hX ht LB iN hu hs (hl w) (hnv w rfl) hlc ?_,Qr,Good.refl H⟩;rw[akK];rfl
      ·cases h
     ·rename_i hm0;have fresh:∀(Ub:Sg) (s0:St) (base:Option Addr) (len c:Nat) (old:List AV) (ov:Array Value),HR Ub s0 w->Ub s0.next=none->ZZ Ub old ov.toList->ZZ Ub new nv.toList->(∀w',w'.heap=w.heap->(Builtin.firstCells n len (.slice base len c)).run P w'=.ok ov w')->old.length=len*n ->
        c<len+m->(len+m)*ei.bytes<=2^40->len+m<=2^40->∀(N3 O_:Nat),Mn P Ub s0 w (Builtin.append_ ts ty #[.slice base len c,xv]) (.sl s0.next 0 (len+m) none n) (s0.new (.cells (old++new) elem false N3 O_)):=by
       intro Ub s0 base len c old ov H0 hf0 hor akL hov zw uX tV Ik N3 O_;obtain⟨cap,Hd,Yf⟩:=qJ (w:=w) hX (ty:=ty) ht LB iN hu hi Vt hz (hl w) hnv hov uX tV U5 Ik BW;have hos:=hor.size;have hns:=akL.size;have oY:(ov++nv++Builtin.zeroCells z.cells (cap-(len+m))).size=cap*n:=by
        simp only[Array.size_append,D5,hzs,<-hos,<-hns,zw,F6,<-aq3]
        congr 1;omega
       refine⟨Ub.add s0.next ⟨w.heap.size,0,cap*n⟩,_,_,Yf,?_,?_⟩
       ·simp only[ZY];exact⟨_,_,rfl,J,⟨_,Sg.Yc _ _ _,λ_=>by simp,λ_=>by simp⟩,by simp⟩
       ·have hle:Sg.le Ub (Ub.add s0.next ⟨w.heap.size,0,cap*n⟩):=Sg.LI hf0;refine Good.gn (Good.new (w:=w.drew) (H0.of_heap rfl) hf0 _ No _ _ ⟨oY,?_,rfl,?_,?_,λh=>absurd (hX.spec _ h) (by simpa using adF)⟩)
        ·simp only[ann,zw,F6,<-aq3,ap4];exact aqC _ Hd
        ·intro j a ha;obtain⟨v,hv,hr⟩:=uW hor akL (Builtin.zeroCells z.cells (cap-(len+m))) j a ha;exact⟨v,by simpa using hv,ZY.mono hle _ _ hr⟩
        ·intro _ j h1 h2 _;simp at h2
      split at h
      ·
       cases h
       simp only[ZY] at hd;subst hd;have hlz:WV AV.ZQ=0:=rfl;rw[hlz] at hb zo;have:=fresh σ s none 0 0 [] #[] H hf (by simp[ZZ]) hnr (λw' _=>rfl) No J hb zo 0 0
       simpa using this
      ·rename_i b o len cap Vl;obtain⟨a,c,rfl,HY⟩:=Td hd
       split at h
       ·rename_i cs hc
        split at h
        ·rename_i old hg;obtain⟨ov,hov,hor⟩:=oG (P:=P) H HY hc hg;have zw:=(WD hg).1;simp only[WV] at hb zo
         split at h
         ·rename_i k;have hck:=HY.cap k rfl;subst hck
          split at h
          ·rename_i JI
           split at h
           ·rename_i ags;subst ags
            split at h
            ·rename_i s1 Ql
             cases h
             obtain⟨hlen,⟨p,hp,ha,hbd⟩,_⟩:=HY;have ha':=ha J;subst ha';obtain⟨w',g1,g2⟩:=Rf (P:=P) H hp hnr Ql;refine⟨σ,_,w',SL hX ht LB iN hu hs (hl w) (hnv w rfl) JI (by simp only[Xs,ap2] at g1 ⊢;exact g1),?_,g2⟩;simp only[ZY];exact⟨_,_,rfl,JI,⟨p,hp,λ_=>rfl,hbd⟩,λq hq=>by cases hq;rfl⟩
            ·cases h
           ·cases h
          ·rename_i JI
           cases h
           exact fresh σ s (some a) len c old ov H hf hor hnr hov zw J hb zo 0 0
         ·split at h
          ·rename_i i_ e0 N3 O_ hgb
           split at h
           ·rename_i QJ;obtain⟨ags,apQ,he0,Xx⟩:=QJ;subst ags;subst he0
            cases h
            have VK:s.look b=some (.cells i_ e0 false N3 O_):=St.XO hgb No;have FO:i_=cs:=by
             obtain⟨_,_,_,_,IY,_⟩:=Ew hc;rw[VK] at IY;cases IY;rfl
            subst FO;by_cases JI:len+m<=c
            ·
             obtain⟨hlen,⟨p,hp,ha,hbd⟩,_⟩:=HY;have ha':=ha J;subst ha';obtain⟨cc,fz,k1,k2,k3,k4,k5⟩:=H.cells hp VK;have apR:nv.toList.length=m*Vl:=by rw[<-F6];exact hnr.length.symm
             have hcb:p.sh+o+c*Vl<=p.n:=hbd DV;have hmul:(len+m)*Vl<=c*Vl:=aqC _ JI;have apt:(len+m)*Vl=len*Vl+m*Vl:=aq3 _ _ _;have cx:∀v∈nv.toList,v.oneCell'=true:=by
              intro v hv;obtain⟨i,hi,rfl⟩:=aqd.1 hv;have hix:i<new.length:=by have:=hnr.length;omega
              obtain⟨v',NO,F7⟩:=ZZ.get hnr i new[i] (aaa hix);rw[aaa hi] at NO;cases NO;exact Py F7 (ap8.1 Xx _ (adm hix))
             obtain⟨w',cc',q1,q2,q3,q4,q5,q6,q7,q8,q9⟩:=Rb (P:=P) (b:=p.b) (e:=e0) (fz:=fz) nv.toList (p.sh+o+len*Vl) 0 w cc k1 cx (by rw[k2];omega)
              (λj hj Dq hfj=>by
               obtain⟨r1,r2⟩:=k5 rfl (j-p.sh) (by rw[show p.sh+(j-p.sh)=j from by omega];exact hfj.1) (by rw[show p.sh+(j-p.sh)=j from by omega];exact hfj.2) J;omega)
             refine⟨σ.add s.next ⟨p.b,p.sh+o,p.n⟩,_,w',SL hX ht LB iN hu hs (hl w) (hnv w rfl) JI (by simp only[Xs];exact q1),?_,?_⟩
             ·simp only[ZY];exact⟨_,_,rfl,JI,⟨_,Sg.Yc _ _ _,λ_=>by simp,λ_=>by simpa using hcb⟩,by simp⟩
             ·have hle:Sg.le σ (σ.add s.next ⟨p.b,p.sh+o,p.n⟩):=Sg.LI hf;have hold:=hor.length;refine Good.inPlace (q:=⟨p.b,p.sh+o,p.n⟩) (b1:=.cells (old++new) e0 false (N3-o) (O_-o)) H hf hp VK rfl No rfl q2 q3 q4 ⟨by rw[q5,k2],?_,rfl,?_,?_,λh=>absurd (hX.spec _ h) (by simpa using adF)⟩ q7 q8 q9
              ·simp only[ann,zw,F6];omega
              ·intro j a ha;simp only;rw[q6];by_cases hj:j<old.length
               ·rw[aql hj] at ha;rw[O3 J];have:=k4 (o+j) a (Qb hg ha);obtain⟨v,hv,hr⟩:=this;exact⟨v,by rw[ap2];exact hv,ZY.mono hle _ _ hr⟩
               ·rw[aqZ J] at ha;obtain⟨v,hv,hr⟩:=hnr.get _ _ ha;have hjm:j-old.length<new.length:=(apX.1 ha).1;rw[Of J];refine⟨v,?_,ZY.mono hle _ _ hr⟩;rw[show p.sh+o+j-(p.sh+o+len*Vl+0)=j-old.length from by omega];exact hv
              ·intro _ j h1 h2 h3;simp only at h1 h2 h3;obtain⟨r1,r2⟩:=k5 rfl (o+j) J J J;omega
            ·
             have nr:=Good.drop H VK;have:=fresh σ (s.put b .gone) (some a) len c old ov nr.hr hf hor hnr hov zw J hb zo (N3-o) (O_-o);obtain⟨Yj,v,w',g1,g2,g3⟩:=this;exact⟨Yj,v,w',g1,g2,nr.trans g3⟩
           ·cases h
          ·cases h
        ·cases h
       ·cases h
      ·cases h
   ·cases h
  ·cases h
 ·cases h
end
end Go.Am
namespace Go.Am
open Go
section
variable [Stat]
variable {X:Cx}{P:Program}{w:World}{σ:Sg}{s:St}
def get!_eq (bs:ByteArray)(n:Nat):bs.get! n=(bs.data.toList[n]?).getD 0:=by
 cases bs with
 |mk a =>
  simp only[ByteArray.get!,getElem!_def,aqq]
  cases a[n]? <;> rfl
def sr (bs:ByteArray)(i:Nat):TH (bs.data.toList.drop i)=Utf8.decode bs i:=by
 have hg:∀k,(((bs.data.toList.drop i)[k]?).getD 0).toNat=(bs.get! (i+k)).toNat:=by
  intro k;rw[get!_eq,List.getElem?_drop]
 have hc:∀k,decide (k<(bs.data.toList.drop i).length)=decide (i+k<bs.size):=by
  intro k;have:bs.data.toList.length=bs.size:=by rw[aqj];rfl
  rw[List.length_drop,this]
  congr 1
  rw[eq_iff_iff];omega
 unfold TH Utf8.decode;simp only[hg,hc]
def lD (hX:Vm X P)(H:HR σ s w)(hf:σ s.next=none){t:TypeId}{b:List UInt8}{v:Value}(hu:X.Zd t=some .string)(hv:ZY σ (.str b) v) :
  Mn P σ s w (Instr.range t v) (.ptr s.next 0) (s.new (.iter b 0)):=by
 obtain⟨bs,rfl,rfl⟩:=Xt hv;refine⟨_,.pointer (some ⟨w.heap.size,0,none⟩),w.alloc (.stringIter bs 0),?_,?_,Good.new H hf (.iter _ 0) No _ 0 ⟨rfl,rfl,by simp⟩⟩
 ·simp only[Instr.range,amz,ZG (hX.Zd _ _ hu),abc,apZ,run_newObj,World.alloc_eq]
 ·simp only[ZY];exact⟨_,Sg.Yc _ _ _,by simp⟩
def eu (H:HR σ s w){r pos:Nat}{b:List UInt8}{v:Value}{ty:TypeId}(hv:ZY σ (.ptr r 0) v)(hg:s.get r=some (.iter b pos)) :
  Mn P σ s w (Instr.next v true ty) (match b with|[]=>.XQ [.bool false]|_::_=>.XQ [.bool true,.int .i64 pos,.int .i32 (TH b).1])
   (match b with|[]=>s|_::_=>s.put r (.iter (b.drop (TH b).2) (pos+(TH b).2))):=by
 obtain⟨p,hp,rfl⟩:=WT hv;have hl:s.look r=some (.iter b pos):=St.XO hg No;obtain⟨o,ho,hb⟩:=H.DS r p _ hp hl
 cases o <;> simp only[BR] at hb
 rename_i bs pos';obtain⟨h0,rfl,h2⟩:=hb;have Vt:bs.data.toList.length=bs.size:=by rw[aqj];rfl
 cases b with
 |nil =>
  have Dz:¬(pos<bs.size):=by
   have:=List.drop_eq_nil_iff.1 h2;omega
  refine⟨σ,.tuple #[.bool false],w,?_,?_,Good.refl H⟩
  ·simp only[Instr.next,h0,Nat.add_zero,amz,T_ ho No,abc,Dz,if_false,apZ]
  ·simp only[ZY];exact⟨_,rfl,by simp only[ZZ];exact⟨_,_,rfl,by simp[ZY],rfl⟩⟩
 |cons c b =>
  have YA:pos<bs.size:=by
   rcases Nat.lt_or_ge pos bs.size with h|h
   ·exact h
   ·rw[aqV J] at h2;cases h2
  have hd:=sr bs pos;rw[h2] at hd;have amN:p.b<w.heap.size:=H.lt _ _ hp;refine⟨σ,.tuple #[.bool true,goInt pos,.int .i32 (TH (c::b)).1],{ w with heap:=w.heap.setIfInBounds p.b (.stringIter bs (pos+(TH (c::b)).2)) },?_,?_,?_⟩
  ·simp only[Instr.next,h0,Nat.add_zero,amz,T_ ho No,abc,YA,if_true,hd,LD ho No,apZ]
  ·simp only[ZY];exact⟨_,rfl,by simp only[ZZ];exact⟨_,_,rfl,by simp[ZY],_,_,rfl,by simp[ZY,goInt],_,_,rfl,by simp[ZY],rfl⟩⟩
  ·refine Good.put H hp hl rfl No No ?_ (o:=.stringIter bs (pos+(TH (c::b)).2)) ?_ ⟨h0,rfl,?_⟩ rfl rfl rfl
   ·intro d hd;simp only;rw[Array.getElem?_setIfInBounds_ne (λe=>hd e.symm)]
   ·simp[amN]
   ·rw[<-h2,List.drop_drop]
def Ud:∀{r:List AV} {bs:List UInt8} {vs:List Value},WW r=some bs->ZZ σ r vs->∃ns:List Int,vs=ns.map (Value.int .u8)/\bs=ns.map λn=>UInt8.ofNat n.toNat
 |[],bs,vs,h,hv=>by simp only[WW] at h;cases h;simp only[ZZ] at hv;exact⟨[],hv,rfl⟩
 |a::r,bs,vs,h,hv=>by
  simp only[ZZ] at hv;obtain⟨v,y,rfl,h1,h2⟩:=hv;unfold WW at h
  split at h
  ·rename_i h';cases h'
  ·rename_i n l heq
   cases heq
   split at h
   ·rename_i q hq
    cases h
    obtain⟨ns,rfl,rfl⟩:=Ud hq h2;rw[YX h1];exact⟨n::ns,rfl,rfl⟩
   ·cases h
  ·cases h
def fold_push (ns:List Int)(b:ByteArray):(ns.foldl (λr n=>r.push (UInt8.ofNat n.toNat)) b).data.toList=b.data.toList++ns.map λn=>UInt8.ofNat n.toNat:=by
 induction ns generalizing b with
 |nil=>simp
 |cons n ns ih=>rw[List.foldl_cons,ih];simp[ByteArray.push]
def OG:∀{es:List AV} {bs:List UInt8},WW es=some bs->(∀x∈es,x.cells.length=1)/\es.flatMap AV.cells=es
 |[],bs,_=>⟨by simp,rfl⟩
 |x::es,bs,h=>by
  unfold WW at h
  split at h
  ·rename_i e;cases e
  ·rename_i n l e
   cases e
   split at h
   ·rename_i r hr;obtain⟨h1,h2⟩:=OG hr;refine⟨?_,by rw[aqp,h2];rfl⟩;intro y hy;rcases ap9.1 hy with rfl|hy
    ·rfl
    ·exact h1 y hy
   ·cases h
  ·cases h
def JZ (hX:Vm X P)(H:HR σ s w){src dst e:TypeId}{x r:AV}{v:Value}{s':St}(hs:X.Zd src=some (.slice e))(hd:X.Zd dst=some .string)(hx:ZY σ x v)(h:Rw X src dst x s=some (r,s')):s'=s/\Ut P w σ (convert src dst v) r:=by
 unfold Rw at h;rw[hs,hd] at h
 cases x
 case int k n =>
  cases h
  have:=YX hx;subst this;refine⟨rfl,.string (Utf8.encode n),?_,by simp only[ZY];exact⟨_,rfl,rfl⟩⟩;simp[convert,ZG (hX.Zd _ _ hs),ZG (hX.Zd _ _ hd),Conv.intToString]
 case str l =>
  cases h
  obtain⟨bs,rfl,rfl⟩:=Xt hx;refine⟨rfl,.string bs,?_,by simp only[ZY];exact⟨_,rfl,rfl⟩⟩;simp[convert,ZG (hX.Zd _ _ hs),ZG (hX.Zd _ _ hd)]
 case ZQ =>
  simp only at h
  split at h
  ·rename_i he
   cases h
   simp only[ZY] at hx;subst hx;refine⟨rfl,.string .empty,?_,by simp only[ZY];exact⟨_,rfl,rfl⟩⟩;simp[convert,ZG (hX.Zd _ _ hs),ZG (hX.Zd _ _ hd),ZG (hX.Zd _ _ he),Conv.bytesToString]
  ·cases h
 case sl b o len cap Vl =>
  simp only at h
  split at h
  ·rename_i he
   split at h
   ·rename_i c hc
    split at h
    ·rename_i q hq
     split at h
     ·rename_i bs pM
      cases h
      obtain⟨a,k,rfl,HY⟩:=Td hx;have hq':Xi (len*1) o c=some q:=by rw[ap3];exact hq
      obtain⟨vs,h1,h2⟩:=oG (P:=P) H HY hc hq';have h1:=h1 w rfl;simp only[Builtin.firstCells,ap3] at h1;obtain⟨ns,e1,e2⟩:=Ud pM h2;have e3:vs=(ns.map (Value.int .u8)).toArray:=by rw[<-e1]
      rw[e3] at h1;refine⟨rfl,.string (ns.foldl (λr n=>r.push (UInt8.ofNat n.toNat)) ByteArray.empty),?_,?_⟩
      ·rw[run_convert_bytes_string w src dst e (some a) len k (hX.Zd _ _ hs) (hX.Zd _ _ he) (hX.Zd _ _ hd)];exact run_bytesToString w a len k ns h1
      ·simp only[ZY];exact⟨_,rfl,by rw[fold_push,e2];simp⟩
     ·cases h
    ·cases h
   ·cases h
  ·cases h
 case fz es =>
  simp only at h
  split at h
  ·rename_i he
   split at h
   ·rename_i bs pM
    cases h
    obtain⟨k1,k2⟩:=OG pM;obtain⟨_,vs,h1,h2⟩:=HF (P:=P) (n:=1) (m:=es.length) (new:=es.flatMap AV.cells) H hx (by
     simp only[VH];rw[Of];simpa using k1)
    rw[k2] at h2;obtain⟨a,k,us,rfl,hlc,_⟩:=MQ hx;have h1:=h1 w rfl;simp only[Builtin.firstCells,ap3] at h1;obtain⟨ns,e1,e2⟩:=Ud pM h2;have e3:vs=(ns.map (Value.int .u8)).toArray:=by rw[<-e1]
    rw[e3] at h1;refine⟨rfl,.string (ns.foldl (λr n=>r.push (UInt8.ofNat n.toNat)) ByteArray.empty),?_,?_⟩
    ·rw[run_convert_bytes_string w src dst _ (some a) es.length k (hX.Zd _ _ hs) (hX.Zd _ _ he) (hX.Zd _ _ hd)];exact run_bytesToString w a es.length k ns h1
    ·simp only[ZY];exact⟨_,rfl,by rw[fold_push,e2];simp⟩
   ·cases h
  ·cases h
 all_goals
  exfalso;simp only at h
  split at h <;> cases h
def JY (hX:Vm X P)(H:HR σ s w)(hf:σ s.next=none){src dst e:TypeId}{d:TypeDesc}{l:List UInt8}{v r:AV}{u:Value}{s':St}(hs:X.Zd src=some d)(hd:X.Zd dst=some (.slice e))(hx:ZY σ (.str l) u)(h:Rw X src dst (.str l) s=some (r,s')) :
  Mn P σ s w (convert src dst u) r s':=by
 obtain⟨bs,rfl,rfl⟩:=Xt hx;unfold Rw at h;rw[hs,hd] at h;simp only at h
 split at h
 ·rename_i he
  cases h
  have Vt:bs.data.toList.length=bs.size:=by rw[aqj];rfl
  generalize Hd:bs.size+(w.tape w.drawn (.appendCap bs.size 0 e))%(2^63-bs.size)=cap;have hle:bs.size<=cap:=J;have SH:((bs.data.map λb=>Value.int .u8 b.toNat)++Array.replicate (cap-bs.size) (Value.int .u8 0)).size=cap:=by
   simp only[Array.size_append,Array.size_map,Array.size_replicate];have:bs.data.size=bs.size:=rfl;omega
  have g:=L6 (w:=w.drew) (H.of_heap rfl) hf (c:=bs.data.toList.map λc=>AV.int .u8 c.toNat) (vs:=(bs.data.map λb=>Value.int .u8 b.toNat)++Array.replicate (cap-bs.size) (Value.int .u8 0)) e (cap,cap+1) (.inr (by rw[SH];exact api _)) (by rw[SH];simp only[ala,Vt];exact hle)
   (by
    intro j a ha;rw[aqc] at ha
    cases hj:bs.data.toList[j]? with
    |none=>rw[hj] at ha;cases ha
    |some c =>
     rw[hj] at ha;simp at ha;subst ha;have YA:j<bs.data.toList.length:=(apX.1 hj).1;rw[aqj] at YA;refine⟨.int .u8 c.toNat,?_,by simp[ZY]⟩;rw[Array.getElem?_append_left (by simpa using YA),Array.getElem?_map];rw[aqq] at hj;rw[hj];rfl) (λh=>absurd he (hX.ag1 _ h))
  rw[SH] at g;refine⟨_,.slice (some ⟨w.heap.size,0,none⟩) bs.size cap,_,?_,?_,g.gn⟩
  ·have xP:∀k,d≠.int k->True:=λ_ _=>trivial
   have aiD:(convert src dst (.string bs)).run P w=(Conv.stringToBytes e bs).run P w:=by
    simp only[convert,amz,ZG (hX.Zd _ _ hs),ZG (hX.Zd _ _ hd),abc]
    cases d <;> simp[ZG (hX.Zd _ _ he)]
   rw[aiD];simp only[Conv.stringToBytes,amz,run_choose,Question.forced,Question.cut,aqa,if_false,abc,Hd,newRow,run_newObj,apZ,markStringish,run_shape,World.drew_eq,World.alloc_eq];have SI:(w.drew.alloc (.cells ((bs.data.map λb=>Value.int .u8 b.toNat)++Array.replicate (cap-bs.size) (Value.int .u8 0)) e)).shape? w.drew.heap.size=some (e,cap):=by
    simp only[World.shape?,World.alloc];rw[aqL,Of rfl];simp only[SH]
   rw[SI];simp only[run_freeze,abc]
   congr 1
   simp only[World.freeze,Nat.one_ne_zero,if_false,World.alloc]
   congr 1
   apply Array.ext_getElem?;intro i;rw[Array.getElem?_modify];by_cases hi:w.drew.heap.size=i
   ·subst hi;rw[Of rfl,aqL,Of rfl,aqL,Of rfl];simp
   ·rw[O3 hi,aqL,aqL,O3 (λe=>hi e.symm),O3 (λe=>hi e.symm)]
  ·rw[Vt];simp only[ZY];exact⟨_,_,rfl,hle,⟨_,Sg.Yc _ _ _,λ_=>by simp,λ_=>by simp⟩,by simp⟩
 ·cases h
def er (hX:Vm X P)(H:HR σ s w){ts:Array TypeId}{ty:TypeId}{x r:AV}{v:Value}{s':St}(hx:ZY σ x v)(h:XX X .len ts [x] s=some (r,s')):s'=s/\Ut P w σ (Builtin.len_ ts ty #[v]) r:=by
 have e0:(#[v]:Array Value)[0]? = some v:=rfl;simp only[XX] at h
 split at h
 ·rename_i t ht
  split at h
  ·rename_i l hu
   cases h
   obtain⟨bs,rfl,rfl⟩:=Xt hx;have Vt:bs.data.toList.length=bs.size:=by rw[aqj];rfl
   exact⟨rfl,⟨goInt bs.size,by simp only[Builtin.len_,ht,e0,amz,ZG (hX.Zd _ _ hu),abc,apZ],by rw[Vt];simp[ZY,goInt]⟩⟩
  ·rename_i e hu
   cases h
   simp only[ZY] at hx;subst hx;exact⟨rfl,⟨goInt (0:Nat),by simp only[Builtin.len_,ht,e0,amz,ZG (hX.Zd _ _ hu),abc,apZ],by simp[ZY,goInt]⟩⟩
  ·rename_i e b o n c z hu
   cases h
   obtain⟨a,k,rfl,_⟩:=Td hx;exact⟨rfl,⟨goInt n,by simp only[Builtin.len_,ht,e0,amz,ZG (hX.Zd _ _ hu),abc,apZ],by simp[ZY,goInt]⟩⟩
  ·rename_i k es hu
   cases h
   obtain⟨a,c,us,rfl,_⟩:=MQ hx;exact⟨rfl,⟨goInt es.length,by simp only[Builtin.len_,ht,e0,amz,ZG (hX.Zd _ _ hu),abc,apZ],by simp[ZY,goInt]⟩⟩
  ·rename_i k e ks vs hu
   cases h
   obtain⟨r,Vo,clock,rfl,g1,g2,_⟩:=pO hx;have hl:ks.length=Vo.size:=by have:=g2.length;simpa using this
   exact⟨rfl,⟨goInt Vo.size,by simp only[Builtin.len_,ht,e0,amz,ZG (hX.Zd _ _ hu),abc,T_ (H.fz _ _ g1).1 No,apZ],by rw[hl];simp[ZY,goInt]⟩⟩
  ·rename_i k e hu
   cases h
   simp only[ZY] at hx;subst hx;exact⟨rfl,⟨goInt 0,by simp only[Builtin.len_,ht,e0,amz,ZG (hX.Zd _ _ hu),abc,apZ],by simp[ZY,goInt]⟩⟩
  ·rename_i k e m hu
   split at h
   ·rename_i es ro hg
    cases h
    obtain⟨p,hp,rfl⟩:=N0 hx;obtain⟨Vo,clock,g1,g2⟩:=H.map hp hg;have hl:es.length=Vo.size:=by
     have:∀{es:List (AV×AV)} {l:List MapEntry},ZJ σ es l->es.length=l.length:=by
      intro es
      induction es with
      |nil=>intro l hl;simp only[ZJ] at hl;subst hl;rfl
      |cons a es ih =>
       intro l hl;obtain⟨k,v⟩:=a;simp only[ZJ] at hl;obtain⟨m,r,rfl,_,_,h3⟩:=hl;simp[ih h3]
     have:=this g2
     simpa using this
    exact⟨rfl,⟨goInt Vo.size,by simp only[Builtin.len_,ht,e0,amz,ZG (hX.Zd _ _ hu),abc,T_ g1 No,apZ],by rw[hl];simp[ZY,goInt]⟩⟩
   ·cases h
  ·rename_i _ n e hu
   cases h
   exact⟨rfl,⟨goInt n,by simp only[Builtin.len_,ht,e0,amz,ZG (hX.Zd _ _ hu),abc,apZ],by simp[ZY,goInt]⟩⟩
  ·rename_i p _ hu
   split at h
   ·rename_i n e hp
    cases h
    exact⟨rfl,⟨goInt n,by simp only[Builtin.len_,ht,e0,amz,ZG (hX.Zd _ _ hu),ZG (hX.Zd _ _ hp),abc,apZ],by simp[ZY,goInt]⟩⟩
   ·cases h
  ·cases h
 ·cases h
def wQ {k:IntKind}:∀{l:List AV} {x:Int} {vs:List Value} {r:AV},lX k x l=some r->ZZ σ l vs->∃v,(vs.foldlM Builtin.min2 (.int k x):Sem Value).run P w=.ok v w/\ZY σ r v
 |[],x,vs,r,h,hv=>by
  simp only[lX] at h;cases h;simp only[ZZ] at hv;subst hv;exact⟨_,rfl,by simp[ZY]⟩
 |a::l,x,vs,r,h,hv=>by
  cases a <;> simp only[lX] at h <;> try (cases h;done)
  simp only[ZZ] at hv;obtain⟨v,y,rfl,h1,h2⟩:=hv;rw[YX h1];obtain⟨u,g1,g2⟩:=wQ h h2;exact⟨u,by simp only[List.foldlM_cons,amz,Builtin.min2,apZ,abc];exact g1,g2⟩
def wP {k:IntKind}:∀{l:List AV} {x:Int} {vs:List Value} {r:AV},lW k x l=some r->ZZ σ l vs->∃v,(vs.foldlM Builtin.max2 (.int k x):Sem Value).run P w=.ok v w/\ZY σ r v
 |[],x,vs,r,h,hv=>by
  simp only[lW] at h;cases h;simp only[ZZ] at hv;subst hv;exact⟨_,rfl,by simp[ZY]⟩
 |a::l,x,vs,r,h,hv=>by
  cases a <;> simp only[lW] at h <;> try (cases h;done)
  simp only[ZZ] at hv;obtain⟨v,y,rfl,h1,h2⟩:=hv;rw[YX h1];obtain⟨u,g1,g2⟩:=wP h h2;exact⟨u,by simp only[List.foldlM_cons,amz,Builtin.max2,apZ,abc];exact g1,g2⟩
def L3 {b:Nat}:∀(ns:List Int) (off:Nat) (acc:ByteArray),(∀i v,(ns.map (Value.int .u8))[i]? = some v->w.cell? ⟨b,off+i,none⟩=some v) ->
  ∃bs,(loadBytes ⟨b,off,none⟩ acc ns.length).run P w=.ok bs w/\bs.data.toList=acc.data.toList++ns.map λn=>UInt8.ofNat n.toNat
 |[],off,acc,_=>⟨acc,rfl,by simp⟩
 |n::ns,off,acc,h=>by
  have h0:=h 0 (.int .u8 n) rfl;simp only[Nat.add_zero] at h0;obtain⟨bs,h1,h2⟩:=L3 ns (off+1) (acc.push n.toNat.toUInt8) (λi v hv=>by rw[show off+1+i=off+(i+1) from by omega];exact h (i+1) v (by simpa using hv));refine⟨bs,?_,?_⟩
  ·simp only[ap1,loadBytes,amz,run_load,h0,abc,Xs];exact h1
  ·rw[h2];simp[ByteArray.push]
def sn {p:Program}{e:TypeId}{count off n:Nat}(hs:p.cellsOf e=1)(hn:off+n<=count)(hd:∃d,p.depth=d+1):liesAt p p.depth e count off e n=true:=by
 obtain⟨d,hd⟩:=hd;rw[hd,liesAt,hd];have:rowAt p (λx=>sameLayout p (d+1) x e) (d+1) e count off n=true:=by
  rw[rowAt];simp only[hs,Nat.one_ne_zero,if_false,Nat.mod_one,Nat.div_one];have:sameLayout p (d+1) e e=true:=by rw[sameLayout];simp
  simp[this,hn]
 simp[this]
def Tj (ts:Array TypeId)(ty:TypeId)(p:Option Addr)(l:Value):∃(w1:String) (e1 e2:RuntimeError) (u1 u2:Unsupported),Builtin.unsafeString_ ts ty #[.pointer p,l]=(do
  let n <-asInt l
  let some pt:=ts[0]?|stuck w1
  if n<0 then runtimePanic e1
  if n>IntKind.i64.max then unsupported u1
  match p with
  |none =>
   if n=0 then pure (.string .empty)
   else runtimePanic e2
  |some a =>
   if n=0 then pure (.string .empty)
   else if <-variablesAt a (<-elemOf pt) n.toNat then do
    let s <-loadBytes a .empty n.toNat
    freeze a n.toNat
    pure (.string s)
   else unsupported u2):=⟨_,_,_,_,_,rfl⟩
def IF (hX:Vm X P)(H:HR σ s w){ts:Array TypeId}{ty:TypeId}{x r:AV}{k:IntKind}{n:Int}{v:Value}{s':St}(hx:ZY σ x v)(h:XX X .unsafeString ts [x,.int k n] s=some (r,s'))(ht0:∃t,ts[0]? = some t) :
  Mn P σ s w (Builtin.unsafeString_ ts ty #[v,.int k n]) r s':=by
 obtain⟨t,ht⟩:=ht0;have hts:¬ts.size=0:=λe=>by rw[Array.getElem?_eq_none J] at ht;cases ht
 simp only[XX,O3 hts] at h
 split at h
 ·split at h
  ·rename_i hn
   cases h;subst hn
   simp only[ZY] at hx;subst hx;refine Ut.o ⟨.string .empty,?_,by simp only[ZY];exact⟨_,rfl,rfl⟩⟩ H;obtain⟨w1,e1,e2,u1,u2,ep⟩:=Tj ts ty _ (.int k 0);rw[ep];simp[asInt,asIntOf,ht]
  ·cases h
 ·rename_i b o;obtain⟨p,hp,rfl⟩:=WT hx
  split at h
  ·rename_i hn
   cases h;subst hn
   refine Ut.o ⟨.string .empty,?_,by simp only[ZY];exact⟨_,rfl,rfl⟩⟩ H;obtain⟨w1,e1,e2,u1,u2,ep⟩:=Tj ts ty _ (.int k 0);rw[ep];simp[asInt,asIntOf,ht]
  ·rename_i DV
   split at h
   ·cases h
   ·rename_i hnb
    split at h
    ·rename_i c e N3 O_ t' hg qn;rw[ht] at qn;cases qn
     split at h
     ·rename_i u hu
      split at h
      ·rename_i hue;obtain⟨rfl,Vt⟩:=hue
       split at h
       ·rename_i q hq
        split at h
        ·rename_i bs pM
         cases h
         have hl:s.look b=some (.cells c u false N3 O_):=St.XO hg No;have hc:s.cells b=some c:=by simp[St.cells,hg]
         obtain⟨cc,fz,k1,k2,k3,k4,k5⟩:=H.cells hp hl;obtain⟨vs,NO,F7⟩:=H.row hp hc q o (λi a ha=>Qb hq ha);obtain⟨ns,rfl,rfl⟩:=Ud pM NO;have hlen:ns.length=n.toNat:=by
          have h1:=(WD hq).1;have h2:=NO.length;simp at h2;omega
         obtain⟨b',g1,g2⟩:=L3 (P:=P) (w:=w) (b:=p.b) ns (p.sh+o) .empty F7;rw[hlen] at g1;have eo:P.cellsOf u=1:=by
          unfold size at Vt
          split at Vt
          ·rename_i i hi;simp only[Program.cellsOf,hX.inf _ _ hi,aqG,aq6];exact aqb Vt
          ·cases Vt
         have apo:0<n.toNat:=J;have hoc:o+n.toNat<=c.length:=by
          have:=(WD hq).2 (n.toNat-1) J;omega
         have hva:(variablesAt ⟨p.b,p.sh+o,none⟩ u n.toNat).run P w=.ok true w:=by
          simp only[variablesAt,amz,run_program,abc,run_shape,World.shape?,k1,apZ];rw[eo,Nat.div_one,sn eo (by rw[k2];omega) ⟨2*(P.types.size+Made.depth)+1,rfl⟩]
         refine⟨σ,.string b',w.freeze ⟨p.b,p.sh+o,none⟩ n.toNat,?_,?_,?_⟩
         ·have n1:¬(n<0):=J;have n2:¬(n>IntKind.i64.max):=by rw[IntKind.max_i64];omega
          obtain⟨w1,e1,e2,u1,u2,ep⟩:=Tj ts ty (some ⟨p.b,p.sh+o,none⟩) (.int k n);rw[ep];simp only[asInt,asIntOf,amz,apZ,abc,ht,n1,n2,DV,if_false,elemOf,ZG (hX.Zd _ _ hu),hva,if_true,g1,run_freeze]
         ·simp only[ZY];exact⟨_,rfl,by rw[g2];simp⟩
         ·have Qs:(w.freeze ⟨p.b,p.sh+o,none⟩ n.toNat).heap=w.heap.modify p.b fun
            |.cells c elem (lo,hi)=>.cells c elem (if lo==hi then (p.sh+o,p.sh+o+n.toNat) else (min lo (p.sh+o),max hi (p.sh+o+n.toNat)))
            |o=>o:=by
           unfold World.freeze;rw[O3 J];rfl
          obtain⟨lo,hi⟩:=fz;refine Good.put H hp hl rfl No (by rw[Qs];simp) ?_ (o:=.cells cc u (if lo==hi then (p.sh+o,p.sh+o+n.toNat) else (min lo (p.sh+o),max hi (p.sh+o+n.toNat)))) ?_ ⟨k2,k3,rfl,k4,(λh=>by cases h),H.spec hp hl⟩ ?_ ?_ ?_
          ·intro d hd;rw[Qs,Array.getElem?_modify,O3 (λe=>hd e.symm)]
          ·rw[Qs,Array.getElem?_modify,Of rfl,k1];rfl
          ·simp only[World.freeze];split <;> rfl
          ·simp only[World.freeze];split <;> rfl
          ·simp only[World.freeze];split <;> rfl
        ·cases h
       ·cases h
      ·cases h
     ·cases h
    ·cases h
 ·cases h
end
end Go.Am
namespace Go.Am
open Go
section
variable [Stat]
variable {X:Cx}{P:Program}{w:World}{σ:Sg}{s:St}
def agq (nx:Next)(v:Value):Prop:=nx=.value v\/(nx=.skip/\v=Go.undef)
def uZ (P:Program)(σ:Sg)(s:St)(w:World)(m:Sem Next)(a:AV)(s':St):Prop :=
 ∃Yj nx v w',m.run P w=.ok nx w'/\agq nx v/\ZY Yj a v/\Good σ s w Yj s' w'
def Mn.op {m:Sem Value}{a:AV}{s':St}(h:Mn P σ s w m a s'):uZ P σ s w (do pure (.value (<-m))) a s':=by
 obtain⟨Yj,v,w',h1,h2,h3⟩:=h;exact⟨Yj,.value v,v,w',by simp only[amz,h1,abc,apZ],.inl rfl,h2,h3⟩
def Ut.op {m:Sem Value}{a:AV}(h:Ut P w σ m a)(H:HR σ s w):uZ P σ s w (do pure (.value (<-m))) a s:=(h.o H).op
def Qg:ZY σ Am.undef Go.undef:=by
 simp only[Am.undef,ZY];exact⟨#[],rfl,by simp[ZZ]⟩
def zA {m:Sem Unit}{s':St}(h:∃w',m.run P w=.ok () w'/\Good σ s w σ s' w'):uZ P σ s w (do m;pure .skip) Am.undef s':=by
 obtain⟨w',h1,h2⟩:=h;exact⟨σ,.skip,Go.undef,w',by simp only[amz,h1,abc,apZ],.inr ⟨rfl,rfl⟩,Qg,h2⟩
def Ir (hg:Wp X σ){e:Env}{tmps:Array Value}(he:SB σ e tmps){x:Option Operand}{a:Option AV}(h:NJ X e x=some a):s9 σ a (x.map (G1 tmps)):=by
 unfold NJ at h
 split at h
 ·cases h;exact trivial
 ·rename_i x
  split at h
  ·rename_i v hv;cases h;exact TP hg he hv
  ·cases h
def M4:Op->Bool
 |.call { callee:=.value _,.. }=>true
 |_=>false
def Zj {v:Option AV}{r:AV}{s s':St}(h:Zh v s=some (r,s')):v=some r/\s'=s:=by
 unfold Zh at h
 split at h
 ·cases h;exact⟨rfl,rfl⟩
 ·cases h
def OU {t:Option St}{r:AV}{s':St}(h:NP t=some (r,s')):t=some s'/\r=Am.undef:=by
 unfold NP at h
 split at h
 ·cases h;exact⟨rfl,rfl⟩
 ·cases h
def D8 (hX:Vm X P)(H:HR σ s w)(hf:σ s.next=none){b:Builtin}{ts:Array TypeId}{ty:TypeId}{cs:Array Bool}{vs:List AV}{us:List Value}{r:AV}{s':St}(hv:ZZ σ vs us)
  (h:XX X b ts vs s=some (r,s')):uZ P σ s w (builtin b ts ty cs us.toArray) r s':=by
 have h0:=h;unfold XX at h
 split at h
 ·
  simp only[ZZ] at hv;obtain⟨v,y,rfl,h1,rfl⟩:=hv;obtain⟨rfl,h2⟩:=er (P:=P) (ty:=ty) hX H h1 h0;exact h2.op H
 ·
  simp only[ZZ] at hv;obtain⟨v,y,rfl,h1,u,z,rfl,h2,rfl⟩:=hv
  split at h
  ·rename_i t u' ht hu
   split at h
   ·rename_i e hd;exact (Hw (P:=P) hX H hf ht hu ⟨_,hd,by simp⟩ h1 h2 h).op
   ·rename_i hd;exact (Hw (P:=P) hX H hf ht hu ⟨_,hd,by simp⟩ h1 h2 h).op
   ·cases h
  ·cases h
 ·
  rename_i k x l
  split at h
  ·rename_i q hq
   cases h
   simp only[ZZ] at hv;obtain⟨v,y,rfl,h1,h2⟩:=hv;rw[YX h1];obtain⟨u,g1,g2⟩:=wQ (P:=P) (w:=w) hq h2;exact Ut.op (m:=Builtin.min_ ts ty _) ⟨u,g1,g2⟩ H
  ·cases h
 ·
  rename_i k x l
  split at h
  ·rename_i q hq
   cases h
   simp only[ZZ] at hv;obtain⟨v,y,rfl,h1,h2⟩:=hv;rw[YX h1];obtain⟨u,g1,g2⟩:=wP (P:=P) (w:=w) hq h2;exact Ut.op (m:=Builtin.max_ ts ty _) ⟨u,g1,g2⟩ H
  ·cases h
 ·
  simp only[ZZ] at hv;obtain⟨v,y,rfl,h1,rfl⟩:=hv
  split at h
  ·cases h
   simp only[ZY] at h1;subst h1;exact Ut.op (m:=Builtin.unsafeSliceData_ ts ty _) ⟨.pointer none,rfl,by simp[ZY]⟩ H
  ·cases h
   obtain⟨a,c,rfl,hlen,⟨p,hp,ha,_⟩,_⟩:=Td h1;obtain⟨c',rfl⟩:∃c',c=c'+1:=⟨c-1,J⟩;have:=ha J;subst this;exact Ut.op (m:=Builtin.unsafeSliceData_ ts ty _) ⟨.pointer (some ⟨p.b,p.sh+_,none⟩),rfl,by simp only[ZY];exact⟨p,hp,rfl⟩⟩ H
  ·cases h
 ·
  rename_i p k n;simp only[ZZ] at hv;obtain⟨v,y,rfl,h1,u,z,rfl,h2,rfl⟩:=hv;rw[YX h2]
  cases ht:ts[0]? with
  |some t=>exact (IF (P:=P) (ty:=ty) hX H h1 h0 ⟨t,ht⟩).op
  |none =>
   have:ts.size=0:=by
    rcases Nat.eq_zero_or_pos ts.size with h|h
    ·exact h
    ·rw[aqz h] at ht;cases ht
   rw[Of this] at h;cases h
 ·cases h
def CS (hX:Vm X P)(hG:Wp X σ)(H:HR σ s w)(hf:σ s.next=none){ex:Ex}{e:Env}{tmps:Array Value}(E:SB σ e tmps){o:Oper}{v:AV}{s':St}(hn:M4 o.op=false)
  (h:Yn X ex e o.op s=some (v,s')):uZ P σ s w (execOp (G1 tmps) o) v s':=by
 obtain⟨dst,op,type,pos,after,guard⟩:=o;simp only at h hn;have ev:∀{x a},eval X e x=some a->ZY σ a (G1 tmps x):=λh=>TP hG E h
 cases op <;> simp only[Yn] at h <;> try (cases h;done)
 case move x =>
  obtain⟨h1,rfl⟩:=Zj h;exact⟨σ,_,_,w,rfl,.inl rfl,ev h1,Good.refl H⟩
 case assign x =>
  obtain⟨h1,rfl⟩:=Zj h;exact⟨σ,_,_,w,rfl,.inl rfl,ev h1,Good.refl H⟩
 case pick c a b =>
  split at h
  ·rename_i hc;obtain⟨h1,rfl⟩:=Zj h;exact⟨σ,_,_,w,by simp only[execOp,amz,WC (ev hc),asBool,apZ,abc,if_true],.inl rfl,ev h1,Good.refl H⟩
  ·rename_i hc;obtain⟨h1,rfl⟩:=Zj h;exact⟨σ,_,_,w,by simp only[execOp,amz,WC (ev hc),asBool,apZ,abc,aqa,if_false],.inl rfl,ev h1,Good.refl H⟩
  ·cases h
 case alloc t =>
  split at h
  ·rename_i z hz
   cases h
   exact (lL (P:=P) hX H hf hz).op
  ·cases h
 case box t x =>
  split at h
  ·rename_i a ha
   cases h
   exact (aa' (P:=P) H hf (ev ha)).op
  ·cases h
 case build t ps =>
  split at h
  ·rename_i l hl;obtain⟨h1,rfl⟩:=Zj h;exact (tq (w:=w) hX (by simpa using QC hG E hl) h1).op H
  ·cases h
 case buildSlice t n ps =>
  split at h
  ·rename_i l hl;exact (Hc (P:=P) hX H hf (by simpa using QC hG E hl) h).op
  ·cases h
 case load t a =>
  split at h
  ·rename_i x hx;obtain⟨h1,rfl⟩:=Zj h;exact (Bz (P:=P) hX H (ev hx) h1).op H
  ·cases h
 case store t a x =>
  split at h
  ·rename_i y z hy hz;obtain⟨h1,rfl⟩:=OU h;exact zA (ry (P:=P) hX H (ev hy) (ev hz) h1)
  ·cases h
 case nilCheck x =>
  split at h
  ·rename_i b o hx
   cases h
   have hr:=ev hx;obtain⟨p,hp,hv⟩:=WT hr;exact⟨σ,.value (G1 tmps x),_,w,by simp only[execOp,hv];rfl,.inl rfl,hr,Good.refl H⟩
  ·rename_i c o hx
   cases h
   have hr:=ev hx;obtain⟨b,base,us,cc,e,fz,hv,_⟩:=JO hr;exact⟨σ,.value (G1 tmps x),_,w,by simp only[execOp,hv];rfl,.inl rfl,hr,Good.refl H⟩
  ·rename_i f a b hx
   cases h
   have hr:=ev hx;have T8:=hr;simp only[ZY] at T8;obtain⟨f',x',y',hv,EL,_,_⟩:=T8;simp only[Sm] at EL;subst EL;exact⟨σ,.value (G1 tmps x),_,w,by simp only[execOp,hv];rfl,.inl rfl,hr,Good.refl H⟩
  ·rename_i f a b hx
   cases h
   have hr:=ev hx;have T8:=hr;simp only[ZY] at T8;obtain⟨f',x',y',hv,EL,_,_⟩:=T8;simp only[Sm] at EL;obtain⟨p,_,rfl⟩:=EL;exact⟨σ,.value (G1 tmps x),_,w,by simp only[execOp,hv];rfl,.inl rfl,hr,Good.refl H⟩
  ·cases h
 case binOp op t x y yt =>
  split at h
  ·rename_i a b ha hb;obtain⟨h1,rfl⟩:=Zj h;exact (bu (w:=w) hX rfl (ev ha) (ev hb) h1).op H
  ·cases h
 case unOp op t x =>
  split at h
  ·rename_i a ha;obtain⟨h1,rfl⟩:=Zj h;exact (acs (P:=P) (w:=w) (ev ha) h1).op H
  ·cases h
 case convert src dst x =>
  split at h
  ·rename_i a ha;have hr:=ev ha
   cases hs:X.Zd src with
   |none=>unfold Rw at h;rw[hs] at h;simp at h
   |some sd =>
    cases hd:X.Zd dst with
    |none=>unfold Rw at h;rw[hs,hd] at h;cases a <;> simp at h
    |some dd =>
     by_cases h1:∃e,sd=.slice e/\dd=.string
     ·obtain⟨e,rfl,rfl⟩:=h1;obtain⟨rfl,h2⟩:=JZ (P:=P) hX H hs hd hr h;exact h2.op H
     ·by_cases h2:∃e l,dd=.slice e/\a=.str l
      ·obtain⟨e,l,rfl,rfl⟩:=h2;exact (JY (P:=P) (v:=.U4) hX H hf hs hd hr h).op
      ·obtain⟨rfl,h3⟩:=mz (P:=P) (w:=w) hX hr h (λ⟨e,g1,g2⟩=>h1 ⟨e,by rw[hs] at g1;exact aqb g1,by rw[hd] at g2;exact aqb g2⟩) (λ⟨e,l,g1,g2⟩=>h2 ⟨e,l,by rw[hd] at g1;exact aqb g1,g2⟩);exact h3.op H
  ·cases h
 case makeInterface t x =>
  split at h
  ·rename_i a ha
   split at h
   ·cases h
   ·rename_i d hd hni
    cases h
    exact (Kn (P:=P) (w:=w) hX (ev ha) hni (λms hm=>by subst hm;exact hd ms rfl)).op H
   ·cases h
  ·cases h
 case makeFunc f a b =>
  split at h
  ·rename_i g
   split at h
   ·rename_i x y hx hy
    cases h
    have L7:=Qc hG E hx;have hy':=Qc hG E hy;refine Ut.op (m:=Instr.makeFunc (.func g) (a.map (G1 tmps)) (b.map (G1 tmps))) ⟨.func (.func g) (a.map (G1 tmps)) (b.map (G1 tmps)),by simp[Instr.makeFunc],?_⟩ H;simp only[ZY];exact⟨_,_,_,rfl,by simp[Sm],by simpa using L7,by simpa using hy'⟩
   ·cases h
  ·cases h
 case makeMap t r =>
  split at h
  ·cases h
   exact (HM (P:=P) H hf).op
  ·rename_i x
   split at h
   ·rename_i k n kt et hx hu
    cases h
    have:=(Ac (P:=P) hX H hf (kn:=k) (n:=n) hu).op;simp only[execOp,aqG,YX (ev hx)];exact this
   ·cases h
 case makeSlice t l c =>
  split at h
  ·rename_i kl l kc c elem hl hc hu
   split at h
   ·rename_i i z hi hz
    split at h
    ·rename_i QJ
     cases h
     have:=(Dm (P:=P) hX H hf (kl:=kl) (kc:=kc) hu hi hz QJ).op;simp only[execOp,YX (ev hl),YX (ev hc)];exact this
    ·cases h
   ·cases h
  ·cases h
 case slice t x lo hi mx =>
  split at h
  ·rename_i v lo' QD mx' hv hl hh hm;obtain⟨h1,rfl⟩:=Zj h;exact (s8 (w:=w) hX (ev hv) (Ir hG E hl) (Ir hG E hh) (Ir hG E hm) h1).op H
  ·cases h
 case fieldAddr t x f =>
  split at h
  ·rename_i a ha;obtain⟨h1,rfl⟩:=Zj h;exact (Dg (w:=w) hX (ev ha) h1).op H
  ·cases h
 case field t x f =>
  split at h
  ·rename_i cs fs hc hu
   split at h
   ·rename_i fd hfd;obtain⟨h1,rfl⟩:=Zj h;exact (jR (w:=w) hX hu (ev hc) hfd h1).op H
   ·cases h
  ·cases h
 case indexAddr t x i =>
  split at h
  ·rename_i a b ha hb;obtain⟨h1,rfl⟩:=Zj h;exact (Df (w:=w) hX (ev ha) (ev hb) h1).op H
  ·cases h
 case index t x i =>
  split at h
  ·rename_i a b ha hb;obtain⟨h1,rfl⟩:=Zj h;exact (jS (w:=w) hX (ev ha) (ev hb) h1).op H
  ·cases h
 case lookup t m k ok =>
  split at h
  ·rename_i a b ha hb;obtain⟨h1,rfl⟩:=Zj h;exact (yq (P:=P) hX H (ev ha) (ev hb) h1).op H
  ·cases h
 case mapUpdate t m k x =>
  split at h
  ·rename_i a b c ha hb hc;obtain⟨h1,rfl⟩:=OU h;exact zA (HW (P:=P) hX H (ev ha) (ev hb) (ev hc) h1)
  ·cases h
 case insert t m k x =>
  split at h
  ·rename_i a b c ha hb hc;obtain⟨h1,rfl⟩:=OU h;exact zA (HW (P:=P) hX H (ev ha) (ev hb) (ev hc) h1)
  ·cases h
 case range t x =>
  split at h
  ·rename_i b hb hu
   cases h
   exact (lD (P:=P) hX H hf hu (ev hb)).op
  ·cases h
 case next it str =>
  cases str with
  |false=>simp only[Yn] at h;cases h
  |true =>
   simp only[Yn] at h
   split at h
   ·rename_i r hr
    split at h
    ·rename_i b pos hg;have:=eu (P:=P) (ty:=type) H (ev hr) hg
     cases b with
     |nil=>cases h;exact this.op
     |cons c b=>cases h;exact this.op
    ·cases h
   ·cases h
 case extract t i =>
  split at h
  ·rename_i vs SH;obtain⟨h1,rfl⟩:=Zj h;exact (vV (P:=P) (w:=w) (ev SH) h1).op H
  ·cases h
 case call c =>
  obtain⟨callee,args,argTypes⟩:=c
  cases callee with
  |value f=>simp[M4] at hn
  |invoke r m=>simp only at h;cases h
  |builtin b =>
   simp only at h
   split at h
   ·rename_i vs SH;have hv:=Qc hG E SH;have:=D8 (P:=P) (ty:=type) (cs:=args.map λ|.const _=>true|_=>false) hX H hf hv h;have he:(args.toList.map (G1 tmps)).toArray=args.map (G1 tmps):=by
     apply Array.ext';simp
    rw[he] at this;exact this
   ·cases h
end
end Go.Am
namespace Go.Am
open Go
variable {e:Env}{v:AV}{w:World}{n:Nat}{f:FuncId}{P:Program}{s s':St}
abbrev FW (r:Option Nat):Fence:={ Fence.wide with round:=r }
section
variable [Stat]
def DF (n0:Nat)(σ:Sg)(w:World)(ds:List Deferred):Prop :=
 ∃rs:List Nat,ds=rs.map (λr=>({ target:=.collected r,args:=#[] }:Deferred))/\rs.Nodup/\∀r∈rs,n0<=r/\w.heap[r]? = some (.deferred (some []))/\(∀i p,σ i=some p->p.b≠r)/\σ.fz r=none
def DF.nil (n0:Nat)(σ:Sg)(w:World):DF n0 σ w []:=⟨[],rfl,List.nodup_nil,λ_ h=>by cases h⟩
def DF.good {n0:Nat}{σ Yj:Sg}{w w':World}{ds:List Deferred}(h:DF n0 σ w ds)(g:Good σ s w Yj s' w'):DF n0 Yj w' ds:=by
 obtain⟨rs,e,hn,hr⟩:=h;refine⟨rs,e,hn,λr hm=>?_⟩;obtain⟨h1,h2,h3,h4⟩:=hr r hm;have YA:r<w.heap.size:=(apV.1 h2).1;have RW:¬P0 σ s r:=λ⟨i,p,b,hp,_,_,hb⟩=>h3 i p hp hb
 refine⟨h1,by rw[g.ext.keep r YA RW];exact h2,λi p hp hb=>?_,?_⟩
 rotate_left
 ·cases hz:Yj.fz r with
  |none=>rfl
  |some o =>
   rcases g.ext.pR r o hz with h5|h5
   ·rw[h4] at h5;cases h5
   ·omega
 by_cases e:σ i=none
 ·rcases g.news i p hp e with hk|hk
  ·omega
  ·exact RW (hb ▸ hk)
 ·cases hq:σ i with
  |none=>exact e hq
  |some q =>
   have:=g.ext.le.p i q hq;rw[hp] at this;cases this;exact h3 i p hq hb
structure Inv (X:Cx)(σ:Sg)(s:St)(w:World)(n0:Nat)(e:Env)(a:Act):Prop where
 hr:HR σ s w
 fresh:SY σ s
 glob:Wp X σ
 env:SB σ e a.tmps
 df:DF n0 σ w a.defers
 n0:n0<=w.heap.size
def QH:Out->Exit->Prop
 |.norm,.normal=>True
 |.exit i,.exit j=>i=j
 |.ret,.ret=>True
 |_,_=>False
def Q_ (X:Cx)(σ:Sg)(s:St)(w:World)(n0:Nat)(a:Act)(e':Env)(s':St)(a':Act)(w':World):Prop :=
 ∃Yj,Good σ s w Yj s' w'/\Inv X Yj s' w' n0 e' a'/\a'.tmps.size=a.tmps.size
def ZC (X:Cx)(σ:Sg)(s:St)(w:World)(n0:Nat)(a:Act)(out:Out)(e':Env)(s':St):Exit->Act->World->Prop :=
 λex a' w'=>QH out ex/\Q_ X σ s w n0 a e' s' a' w'
def Wp.mono {X:Cx}{σ τ:Sg}(h:Sg.le σ τ)(k:Wp X σ):Wp X τ:=λg hg=>by
 obtain⟨n,hn,hb⟩:=k g hg;refine⟨n,h.p _ _ hn,λb e=>?_⟩;obtain⟨h1,o,h2,h3⟩:=hb b e;exact⟨h1,o,h.z _ _ h2,h3.mono h.bare⟩
def Q_.refl {X:Cx}{σ:Sg}{s:St}{n0:Nat}{a:Act}(I:Inv X σ s w n0 e a):Q_ X σ s w n0 a e s a w:=⟨σ,Good.refl I.hr,I,rfl⟩
def Q_.trans {X:Cx}{σ G3:Sg}{s s1 s2:St}{w w1 w2:World}{n0:Nat}{e2:Env}{a a1 a2:Act}(g:Good σ s w G3 s1 w1)(hs:a1.tmps.size=a.tmps.size)(k:Q_ X G3 s1 w1 n0 a1 e2 s2 a2 w2) :
  Q_ X σ s w n0 a e2 s2 a2 w2:=by
 obtain⟨zq,g2,i2,h2⟩:=k;exact⟨zq,g.trans g2,i2,h2.trans hs⟩
def SB.put {σ:Sg}{tmps:Array Value}(h:SB σ e tmps){d:Nat}(hd:d<tmps.size){u:Value}(hv:ZY σ v u):SB σ (Tr.set e d v) (tmps.setIfInBounds d u):=by
 intro t;rw[Env.Sh];by_cases ht:d=t
 ·subst ht;rw[Of rfl];simp only[aqu,aq4,hd,if_true,Of,aq6];exact hv
 ·rw[O3 ht];have:=h t;simp only[aqu,aq4] at this ⊢;rw[O3 ht];exact this
def Ig (m:Nat)(d:Option Tmp):Prop:=∀t,d=some t->t<m
def yG (a:Act)(d:Option Tmp)(u:Value):(a.put d u).tmps.size=a.tmps.size:=by
 cases d <;> simp[Act.put]
def put_defers (a:Act)(d:Option Tmp)(u:Value):(a.put d u).defers=a.defers:=by
 cases d <;> simp[Act.put]
def Ie {σ:Sg}{a:Act}(h:SB σ e a.tmps){d:Option Tmp}(hd:Ig a.tmps.size d){u:Value}(hv:ZY σ v u):SB σ (Ye e d v) (a.put d u).tmps:=by
 cases d with
 |none=>exact h
 |some d=>exact h.put (hd d rfl) hv
def Inv.put {X:Cx}{σ Yj:Sg}{w w':World}{n0:Nat}{a:Act}(I:Inv X σ s w n0 e a)(g:Good σ s w Yj s' w'){d:Option Tmp}(hd:Ig a.tmps.size d){u:Value}(hv:ZY Yj v u) :
  Q_ X σ s w n0 a (Ye e d v) s' (a.put d u) w' :=
 ⟨Yj,g,⟨g.hr,g.fresh I.fresh,I.glob.mono g.ext.le,Ie (I.env.mono g.ext.le) hd hv,by rw[put_defers];exact I.df.good g,aqM I.n0 g.ext.size⟩,yG _ _ _⟩
def S3 (a:Act):a.eval=G1 a.tmps:=by
 funext x;cases x <;> rfl
def Dd {σ:Sg}{a:AV}{b:Bool}(h:ZY σ a (.bool b)):a=.bool b:=by
 cases a <;> simp only[ZY] at h <;> first
  |(injection h with h;subst h;rfl)
  |(cases h;done)
  |(obtain⟨_,h,_⟩:=h;cases h;done)
  |(obtain⟨_,_,h⟩:=h;cases h;done)
  |(obtain⟨_,_,h,_⟩:=h;cases h;done)
  |(obtain⟨_,_,_,h,_⟩:=h;cases h;done)
  |(obtain⟨_,_,_,_,_,_,h,_⟩:=h;cases h;done)
def CM {σ:Sg}{tmps:Array Value}(h:SB σ e tmps)(ops:Array Oper)(o:Oper):Region.wanted o (yielded ops tmps)=XE ops e o:=by
 unfold Region.wanted XE
 cases hg:o.guard with
 |none=>rfl
 |some g =>
  obtain⟨j,want⟩:=g;simp only[yielded]
  cases ho:ops[j]? with
  |none=>simp
  |some oj =>
   cases hd:oj.dst with
   |none=>simp[hd]
   |some d =>
    simp only[Option.bind_some,hd];have ht:=h d;rw[aqu] at ht
    cases hv:tmps[d]? with
    |none =>
     rw[hv] at ht;simp only[Option.getD_none] at ht
     cases ha:e.get d <;> rw[ha] at ht <;> simp only[ZY] at ht <;> first|rfl|(cases ht;done)
    |some v =>
     rw[hv] at ht;simp only[aq6] at ht
     cases v with
     |bool b =>
      rw[Dd ht];show (some b==some want)=(b==want)
      cases b <;> cases want <;> rfl
     |_ =>
      cases ha:e.get d <;> rw[ha] at ht <;> simp only[ZY] at ht <;> first|rfl|(cases ht;done)
def qW (P:Program)(R:Value->World->Prop):Result Next->Prop
 |.ok (.value v) w'=>R v w'
 |.ok (.enter f args) w'=>Calls P f args w' λe w''=>∃v,e=.returned v/\R v w''
 |_=>False
def ej (X:Cx)(P:Program)(f:FuncId)(g:List AV->St->Option (AV×St)):Prop :=
 ∀args s v s' σ w (us:Array Value),g args s=some (v,s')->HR σ s w->SY σ s->Wp X σ->ZZ σ args us.toList ->
  qW P (λu w'=>∃Yj,ZY Yj v u/\Good σ s w Yj s' w') ((callFunc f us).run P w)
structure Full (X:Cx)(P:Program):Prop extends Vm X P where
 stat:∀m c,Stat.ok m c<->∃n,n<=m/\GQ X n c=true/\PJ c=true
 fok:∀f fn c,X.fn f=some fn->fn.body=some c->GQ X fn.ntmps c=true
 nm:∀f fn,X.fn f=some fn->(fn.name == "runtime.NumGoroutine")=false
 ext:∀f g,X.ext f=some g->ej X P f g
 mixed:P.follows .mixedOrders=true
 gb:∀i b,X.K0 i=some b->b≠.gone
def iP (X:Cx)(r:Option Nat)(m:Nat)(c:Code):Prop:=∃n,n<=m/\GQ X n c=true/\(r.isSome=true->PJ c=true)
def El {r:Option Nat}{args:Array Value}{R:Ending->World->Prop}(h:Calls P f args w R):CallsIn (FW r) n P f args w R:=by
 cases r with
 |none=>exact callsIn_wide.2 h
 |some l=>exact CallsIn.inRound l (callsIn_wide.2 h)
def JJ {F:Fence}{args:Array Value}{R R':Ending->World->Prop}(h:CallsIn F n P f args w R)(hr:∀e w',R e w'->R' e w'):CallsIn F n P f args w R' :=
 ⟨h.1,λcs JI=>let ⟨e,w',fr,r,s⟩:=h.2 cs JI;⟨e,w',fr,hr _ _ r,s⟩⟩
def acu {X:Cx}{r:Option Nat}{o:Oper}{a:Act}{QU:Act->World->Prop}{Q:Exit->Act->World->Prop}{m:Result Next}{R:Value->World->Prop}(h:qW P R m)(hn:∀v w',R v w'->QU (a.put o.dst v) w') :
  o.uponIn (FW r) 0 P a QU Q m:=by
 unfold qW at h
 split at h
 ·rw[Oper.uponIn_value];exact hn _ _ h
 ·rw[Oper.uponIn_enter];refine⟨λhd=>(by cases hd),JJ (El h) ?_⟩;rintro e w' ⟨v,rfl,hv⟩;exact hn _ _ hv
 ·exact h.elim
def Pd {r:Option Nat}{o:Oper}{ρ:Operand->Value}:∀f,o.about P w ρ=some f->(FW r).fn f:=λ_ _=>trivial
def qV {F:Fence}{Q:Exit->Act->World->Prop}{a:Act}{c:Code}(h:c.wpIn F n P (Exit.noGoto Q) a w):(Code.scope c).wpIn F n P Q a w:=by
 intro b k cs hro hb hr;have h0:(lone (b.atR a (.code (.scope c)::k)) cs w).fenced P F:=fenced_calm hb hr rfl;have W_:step P (lone (b.atR a (.code (.scope c)::k)) cs w)=.next (lone (b.atR a (.code c::.inScope c::k)) cs w):=step_lone_go (by simp[stepG,stepG.exec,Frame.atR]);have Dr:∀a w,step P (lone (b.atR a (.inScope c::k)) cs w)=.next (lone (b.atR a k) cs w):=λa w=>step_lone_go (by simp[stepG,stepG.exec,Frame.atR])
 obtain⟨e,a₁,w₁,hq,Ng⟩:=h b (.inScope c::k) cs hro hb hr
 cases e with
 |normal=>exact⟨.normal,a₁,w₁,hq,.head h0 W_ (StepsIn.trans Ng (.one (fenced_calm hb hr rfl) (Dr _ _)))⟩
 |exit id =>
  have hx:exitTo id (.inScope c::k)=exitTo id k:=by simp[exitTo]
  exact⟨.exit id,a₁,w₁,hq,λk' hk=>.head h0 W_ (Ng.1 k' (by rw[hx];exact hk)),λT8 hk=>let ⟨k₁,h1,h2⟩:=Ng.2 T8 (by rw[hx];exact hk);⟨k₁,h1,.head h0 W_ h2⟩⟩
 |goto l=>exact hq.elim
 |ret=>exact⟨.ret,a₁,w₁,hq,.of_steps (b:=b) (k:=k) (cs:=cs) (e:=.ret) (.one h0 W_) Ng⟩
 |panic ch=>exact⟨.panic ch,a₁,w₁,hq,.of_steps (b:=b) (k:=k) (cs:=cs) (e:=.panic ch) (.one h0 W_) Ng⟩
 |outgrown=>exact⟨.outgrown,a₁,w₁,hq,.of_steps (b:=b) (k:=k) (cs:=cs) (e:=.outgrown) (.one h0 W_) Ng⟩
def Px (F:Fence)(n:Nat)(P:Program)(c:Code)(Q:Exit->Act->World->Prop)(a:Act)(w:World):Prop :=
 ∀(b:Frame) (k:List Item) (cs:List Frame),b.roundOf=F.round->F.fn b.fn->F.room (cs.length+1+n) ->
  ∃e a' w',Q e a' w'/\ArrivesIn (Machine.fenced P F) P (lone (b.atR a (.code c::.inLoop c::k)) cs w) b k cs e a' w'
def acv (F:Fence)(n:Nat)(P:Program)(c:Code)(Q:Exit->Act->World->Prop)(a:Act)(w:World):Prop :=
 match c with
 |.loop b=>Px F n P b Q a w
 |c=>c.wpIn F n P Q a w
def acv.wpIn {F:Fence}{c:Code}{Q:Exit->Act->World->Prop}{a:Act}(h:acv F n P c Q a w):c.wpIn F n P Q a w:=by
 unfold acv at h
 split at h
 ·intro b k cs hro hb hr;obtain⟨e,a',w',hq,Ng⟩:=h b k cs hro hb hr;exact⟨e,a',w',hq,.of_steps (.one (fenced_calm hb hr rfl) stepR_loop) Ng⟩
 ·exact h
def vC {F:Fence}{Q:Exit->Act->World->Prop}{a:Act}{c:Code}(h:c.wpIn F n P (Exit.then (Px F n P c Q) Q) a w):Px F n P c Q a w:=by
 intro b k cs hro hb hr;obtain⟨e,a₁,w₁,hq,Ng⟩:=h b (.inLoop c::k) cs hro hb hr
 cases e with
 |normal =>
  obtain⟨e2,a2,w2,hq2,aj0⟩:=hq b k cs hro hb hr;exact⟨e2,a2,w2,hq2,.of_steps (StepsIn.trans Ng (.one (fenced_calm hb hr rfl) stepR_inLoop)) aj0⟩
 |exit id=>exact⟨_,a₁,w₁,hq,.pass (x:=.inLoop c) rfl (λ_ _=>.inl No) Ng⟩
 |goto l=>exact⟨_,a₁,w₁,hq,.pass (x:=.inLoop c) rfl (λ_ _=>.inl No) Ng⟩
 |ret=>exact⟨_,a₁,w₁,hq,.pass (x:=.inLoop c) rfl (λ_ _=>.inl No) Ng⟩
 |panic ch=>exact⟨_,a₁,w₁,hq,.pass (x:=.inLoop c) rfl (λ_ _=>.inl No) Ng⟩
 |outgrown=>exact⟨_,a₁,w₁,hq,.pass (x:=.inLoop c) rfl (λ_ _=>.inl No) Ng⟩
def KK (X:Cx)(P:Program)(ex:Ex):Prop :=
 ∀c e s out e' s',ex c e s=some (out,e',s')->∀r n0 a w σ,iP X r a.tmps.size c->Inv X σ s w n0 e a->acv (FW r) 0 P c (ZC X σ s w n0 a out e' s') a w
end
end Go.Am
namespace Go.Am
open Go
variable {e:Env}{s:St}{v:AV}{w:World}
section
variable [Stat]
def HR.congr {σ:Sg}{s t:St}(H:HR σ s w)(h:∀i,s.look i=t.look i):HR σ t w :=
 ⟨H.lt,λi p b hp hb=>H.DS i p b hp (by rw[h];exact hb),λi j p q b c hp hq hb hc he=>H.inj i j p q b c hp hq (by rw[h];exact hb) (by rw[h];exact hc) he,λc o hc=>⟨(H.fz c o hc).1,λ⟨i,p,b,h1,h2,h3,h4⟩=>(H.fz c o hc).2 ⟨i,p,b,h1,by rw[h];exact h2,h3,h4⟩⟩⟩
def Good.congr {σ Yj:Sg}{s s' t:St}{w w':World}(g:Good σ s w Yj s' w')(h:∀i,s'.look i=t.look i)(hn:t.next=s'.next)(hb:t.base=s'.base):Good σ s w Yj t w' where
 hr:=g.hr.congr h
 ext:={ le:=g.ext.le,pR:=g.ext.pR,size:=g.ext.size,keep:=g.ext.keep,os:=g.ext.os,tape:=g.ext.tape,output:=g.ext.output,owns:=λc hc ⟨i,p,b,h1,h2,h3,h4⟩=>g.ext.owns c hc ⟨i,p,b,h1,by rw[h];exact h2,h3,h4⟩ }
 QO:=λi hi=>g.QO i (by rw[hn] at hi;exact hi)
 next:=by rw[hn];exact g.next
 dead:=λi hi hl=>by rw[<-h];exact g.dead i hi hl
 news:=g.news
 glob:=by rw[hb];exact g.glob
def vh (s:St)(l:Nat)(b:Uf)(i:Nat):((s.put l b).put l .gone).look i=(s.put l .gone).look i:=by
 rw[St.WS,St.WS,St.WS];by_cases h:l=i <;> simp[h]
def Good.af' {σ:Sg}(H:HR σ s w)(o:Obj):Good σ s w σ s (w.alloc o) where
 hr:=⟨λi p h=>by have:=H.lt i p h;simp;omega,λi p b hp hb=>by
   obtain⟨o',ho,hr⟩:=H.DS i p b hp hb;have:=H.lt i p hp;exact⟨o',by simp only[World.alloc];rw[aqL,O3 J];exact ho,hr⟩,H.inj,λc o' hc=>by
   obtain⟨h1,h2⟩:=H.fz c o' hc;have YA:c<w.heap.size:=(apV.1 h1).1;exact⟨by simp only[World.alloc];rw[aqL,O3 J];exact h1,h2⟩⟩
 ext:=⟨Sg.le_refl _,λ_ _ h=>.inl h,by simp,λc hc _=>by simp only[World.alloc];rw[aqL,O3 J],λ_ _ h=>h,rfl,rfl,rfl⟩
 QO:=λ_ _=>rfl
 next:=api _
 dead:=λ_ _ h=>h
 news:=λi p h k=>by rw[k] at h;cases h
 glob:=rfl
def Good.afY {σ Yj:Sg}{s s':St}{w w':World}(g:Good σ s w Yj s' w'){r:Nat}(hr:w.heap.size<=r)(RW:∀i p,Yj i=some p->p.b≠r)(hz:Yj.fz r=none)(o:Obj) :
  Good σ s w Yj s' { w' with heap:=w'.heap.setIfInBounds r o } where
 hr:=⟨λi p h=>by have:=g.hr.lt i p h;simpa using this,λi p b hp hb=>by
   obtain⟨o',ho,hr⟩:=g.hr.DS i p b hp hb;have:=RW i p hp;exact⟨o',by show (w'.heap.setIfInBounds r o)[p.b]? = some o';rw[aq4,O3 (λh=>this h.symm)];exact ho,hr⟩,g.hr.inj,λc o' hc=>by
   obtain⟨h1,h2⟩:=g.hr.fz c o' hc;have ZB:r≠c:=λe=>by subst e;rw[hz] at hc;cases hc
   exact⟨by show (w'.heap.setIfInBounds r o)[c]? = some o';rw[aq4,O3 ZB];exact h1,h2⟩⟩
 ext:=⟨g.ext.le,g.ext.pR,by simpa using g.ext.size,λc hc hn=>by
   show (w'.heap.setIfInBounds r o)[c]? = _;rw[aq4,O3 J];exact g.ext.keep c hc hn,g.ext.owns,g.ext.os,g.ext.tape,g.ext.output⟩
 QO:=g.QO
 next:=g.next
 dead:=g.dead
 news:=g.news
 glob:=g.glob
variable {X:Cx}{P:Program}
def results1 (hX:Vm X P){σ:Sg}(H:HR σ s w){tmps:Array Value}(E:SB σ e tmps){r:ResultVar}(h:ML X e s r=some v) :
  ∃u,(match r with|.tmp t=>pure (tmps.getD t Go.undef)|.cell a t=>do loadVar t (<-asAddr (tmps.getD a Go.undef)):Sem Value).run P w=.ok u w/\ZY σ v u:=by
 cases r with
 |tmp t=>simp only[ML] at h;cases h;exact⟨_,rfl,E t⟩
 |cell a t =>
  simp only[ML] at h;have Sw:=E a;obtain⟨u,h1,h2⟩:=Bz (P:=P) hX H Sw h
  cases ha:e.get a <;> rw[ha] at h <;> simp only[UA] at h <;> try (cases h;done)
  all_goals rw[ha] at Sw
  all_goals
   have hv:∃ad,tmps.getD a Go.undef=.pointer (some ad):=by
    first
     |(obtain⟨p,hp,hv⟩:=WT Sw;exact⟨_,hv⟩)
     |(obtain⟨_,_,_,_,_,_,hv,_⟩:=JO Sw;exact⟨_,hv⟩)
   obtain⟨ad,hv⟩:=hv;refine⟨u,?_,h2⟩;show Sem.run P (do loadVar t (<-asAddr (tmps.getD a Go.undef))) w=_;rw[hv] at h1 ⊢;simp only[Instr.loadAt,Instr.sureAddr,amz,apZ,abc] at h1;simp only[asAddr,amz,apZ,abc];exact h1
def JG (hX:Vm X P){σ:Sg}{s:St}{w:World}(H:HR σ s w){e:Env}{tmps:Array Value}(E:SB σ e tmps):∀{l:List ResultVar} {vs:List AV},Xr X e s l=some vs ->
  ∃us,(l.mapM λr=>(match r with|.tmp t=>pure (tmps.getD t Go.undef)|.cell a t=>do loadVar t (<-asAddr (tmps.getD a Go.undef)):Sem Value)).run P w=.ok us w/\ZZ σ vs us
 |[],vs,h=>by simp only[Xr] at h;cases h;exact⟨[],rfl,by simp[ZZ]⟩
 |r::l,vs,h=>by
  simp only[Xr] at h
  split at h
  ·rename_i v vs' h1 h2
   cases h
   obtain⟨u,g1,g2⟩:=results1 (P:=P) hX H E h1;obtain⟨us,g3,g4⟩:=JG hX H E h2;refine⟨u::us,?_,by simp only[ZZ];exact⟨_,_,rfl,g2,g4⟩⟩;rw[List.mapM_cons,amz,g1,abc,amz,g3,abc,apZ]
  ·cases h
def vK (hX:Vm X P){σ:Sg}(H:HR σ s w){tmps:Array Value}(E:SB σ e tmps){fn:Func}(h:Uh X fn e s=some v) :
  ∃u,(results fn tmps).run P w=.ok u w/\ZY σ v u:=by
 unfold Uh at h;have key:∀vs,Xr X e s fn.results.toList=some vs->∃us:Array Value,(fn.results.mapM λr=>(match r with|.tmp t=>pure (tmps.getD t Go.undef)|.cell a t=>do loadVar t (<-asAddr (tmps.getD a Go.undef)):Sem Value)).run P w=.ok us w/\ZZ σ vs us.toList:=by
  intro vs SH;obtain⟨us,h1,h2⟩:=JG (P:=P) hX H E SH;exact⟨us.toArray,NS _ _ _ h1,by simpa using h2⟩
 split at h
 ·rename_i v' hv
  cases h
  obtain⟨us,h1,h2⟩:=key _ hv;simp only[ZZ] at h2;obtain⟨u,y,hu,hr,rfl⟩:=h2;have:us=#[u]:=by apply Array.ext';rw[hu]
  subst this;refine⟨u,?_,hr⟩;unfold results;rw[amz];refine (congrArg (λm=>Result.andThen m _) h1).trans ?_;simp
 ·rename_i vs ZB hv
  cases h
  obtain⟨us,h1,h2⟩:=key _ hv;have hl:us.size≠1:=by
   intro hs;have:=h2.length;have h3:us.toList.length=us.size:=rfl;rw[h3,hs] at this
   match vs,this with
   |[x],_=>exact ZB x rfl
  refine⟨.tuple us,?_,by simp only[ZY];exact⟨_,rfl,h2⟩⟩;unfold results;rw[amz];refine (congrArg (λm=>Result.andThen m _) h1).trans ?_;simp[hl]
 ·cases h
def JF {σ:Sg}:∀(l:List AV) (us:List Value) (i:Nat) (e:Env) (f:Nat->Value),ZZ σ l us->(∀t:Nat,t<i\/i+l.length<=t->ZY σ (e.get t) (f t)) ->
  ∀t:Nat,ZY σ (Env.get (Zr i l e) t) (if i<=t/\t<i+l.length then (us[t-i]?).getD Go.undef else f t)
 |[],us,i,e,f,h,he,t=>by
  simp only[Zr,List.length_nil,Nat.add_zero];rw[O3 J];exact he t F_
 |v::l,us,i,e,f,h,he,t=>by
  simp only[ZZ] at h;obtain⟨u,us,rfl,h1,h2⟩:=h;simp only[Zr];have:=JF l us (i+1) (Tr.set e i v) (λt=>if t=i then u else f t) h2 (λ(t:Nat) ht=>by
   rw[Env.Sh];by_cases hti:i=t
   ·subst hti;simp only[Of];exact h1
   ·rw[O3 hti,O3 (λh=>hti h.symm)];exact he t (by simp only[ap1];omega)) t
  simp only[ap1];by_cases c:i+1<=t/\t<i+1+l.length
  ·rw[Of c] at this;rw[Of J];rw[show t-i=(t-(i+1))+1 from by omega,aqv];exact this
  ·rw[O3 c] at this;by_cases ht:t=i
   ·subst ht;rw[Of rfl] at this;rw[Of J]
    simpa using this
   ·rw[O3 ht] at this;rw[O3 J];exact this
def jI {σ:Sg}{l:List AV}{us:Array Value}(h:ZZ σ l us.toList)(k:Nat):SB σ (Zr 0 l .nil) (us++Array.replicate k Go.undef):=by
 intro (t:Nat);have:=JF l us.toList 0 .nil (λ_=>Go.undef) h (λt _=>by
  show ZY σ (Env.get (Tr.nil:Tr AV) t) Go.undef;simp only[Env.get,Tr.get_nil];exact Qg) t
 have hl:=h.length;have hl:l.length=us.size:=hl;simp only[apW,true_and,ap4,Nat.sub_zero] at this;rw[aqu,Array.getElem?_append];by_cases c:t<l.length
 ·rw[Of c] at this;rw[Of J]
  simpa using this
 ·rw[O3 c] at this;rw[O3 J];rw[Array.getElem?_replicate]
  split <;> simpa using this
end
end Go.Am
namespace Go.Am
open Go
section
variable [Stat]
variable {X:Cx}{P:Program}
mutual
def IJ {σ:Sg}:∀{v:AV} {u:Value},still v=true->ZY σ v u->ZY σ.bare v u
 |.bool _,_,_,k|.int _ _,_,_,k|.zr _ _,_,_,k|.str _,_,_,k|.U4,_,_,k|.ZQ,_,_,k|.O',_,_,k|.VC,_,_,k|.Tz,_,_,k=>by simpa only[ZY] using k
 |.ptr ..,_,h,_=>by simp[still] at h
 |.sl ..,_,h,_=>by simp[still] at h
 |.map _,_,h,_=>by simp[still] at h
 |.fn f x y,u,h,k=>by
  simp only[still,ahe] at h;simp only[ZY] at k ⊢;obtain⟨f',x',y',e,h1,h2,h3⟩:=k;refine⟨f',x',y',e,?_,Tl h.1.2 h2,Tl h.2 h3⟩
  cases f <;> simp only[aqa,false_and,and_false] at h
  simpa only[Sm] using h1
 |.iface t x,u,h,k=>by
  simp only[still] at h;simp only[ZY] at k ⊢;obtain⟨y,e,r⟩:=k;exact⟨y,e,IJ h r⟩
 |.agg cs,u,h,k=>by
  simp only[still] at h;simp only[ZY] at k ⊢;obtain⟨y,e,r⟩:=k;exact⟨y,e,Tl h r⟩
 |.XQ cs,u,h,k=>by
  simp only[still] at h;simp only[ZY] at k ⊢;obtain⟨y,e,r⟩:=k;exact⟨y,e,Tl h r⟩
 |.fz es,u,h,k=>by
  simp only[ZY] at k ⊢;exact k
 |.fp _ _,u,h,k=>by
  simp only[ZY] at k ⊢;exact k
 |.fm _ _,u,h,k=>by
  simp only[ZY] at k ⊢;exact k
def Tl {σ:Sg}:∀{v:List AV} {u:List Value},ZT v=true->ZZ σ v u->ZZ σ.bare v u
 |[],_,_,k=>by simpa only[ZZ] using k
 |a::x,u,h,k=>by
  simp only[ZT,ahe] at h;simp only[ZZ] at k ⊢;obtain⟨v,y,e,h1,h2⟩:=k;exact⟨v,y,e,IJ h.1 h1,Tl h.2 h2⟩
end
mutual
def J7 {σ τ:Sg}:∀{v:AV} {u:Value},flat v=true->ZY σ v u->ZY τ v u
 |.bool _,_,_,k|.int _ _,_,_,k|.zr _ _,_,_,k|.str _,_,_,k|.U4,_,_,k|.ZQ,_,_,k|.O',_,_,k|.VC,_,_,k|.Tz,_,_,k=>by simpa only[ZY] using k
 |.ptr ..,_,h,_=>by simp[flat] at h
 |.sl ..,_,h,_=>by simp[flat] at h
 |.map _,_,h,_=>by simp[flat] at h
 |.fn f x y,u,h,k=>by
  simp only[flat,ahe] at h;simp only[ZY] at k ⊢;obtain⟨f',x',y',e,h1,h2,h3⟩:=k;refine⟨f',x',y',e,?_,PH h.1.2 h2,PH h.2 h3⟩
  cases f <;> simp only[aqa,false_and,and_false] at h
  simpa only[Sm] using h1
 |.iface t x,u,h,k=>by
  simp only[flat] at h;simp only[ZY] at k ⊢;obtain⟨y,e,r⟩:=k;exact⟨y,e,J7 h r⟩
 |.agg cs,u,h,k=>by
  simp only[flat] at h;simp only[ZY] at k ⊢;obtain⟨y,e,r⟩:=k;exact⟨y,e,PH h r⟩
 |.XQ cs,u,h,k=>by
  simp only[flat] at h;simp only[ZY] at k ⊢;obtain⟨y,e,r⟩:=k;exact⟨y,e,PH h r⟩
 |.fz es,u,h,k=>by simp[flat] at h
 |.fp _ _,u,h,k=>by simp[flat] at h
 |.fm _ _,u,h,k=>by simp[flat] at h
def PH {σ τ:Sg}:∀{v:List AV} {u:List Value},Ka v=true->ZZ σ v u->ZZ τ v u
 |[],_,_,k=>by simpa only[ZZ] using k
 |a::x,u,h,k=>by
  simp only[Ka,ahe] at h;simp only[ZZ] at k ⊢;obtain⟨v,y,e,h1,h2⟩:=k;exact⟨v,y,e,J7 h.1 h1,PH h.2 h2⟩
end
def XA {σ τ:Sg}{f:AV->Option AV}(hf:∀a b u,f a=some b->ZY σ a u->ZY τ b u):∀{l r:List AV} {us:List Value},YS f l=some r->ZZ σ l us->ZZ τ r us
 |[],r,us,h,k=>by simp only[YS] at h;cases h;simpa only[ZZ] using k
 |x::l,r,us,h,k=>by
  simp only[YS] at h
  split at h
  ·rename_i y r' h1 h2
   cases h
   simp only[ZZ] at k ⊢;obtain⟨v,z,e,k1,k2⟩:=k;exact⟨v,z,e,hf _ _ _ h1 k1,XA hf h2 k2⟩
  ·cases h
def Tb (agg:Bool)(n:Nat):Nat->List Value->List Value
 |0,_=>[]
 |k+1,l=>(match agg,l with|false,x::_=>x|_,_=>.agg (l.take n).toArray)::Tb agg n k (l.drop n)
def Lt {σ:Sg}{ag:Bool}{n:Nat}(hn:n≠0)(ha:ag=false->n=1):∀(k:Nat) {r:List AV} {vs:List Value},ZZ σ r vs->r.length=k*n->(ag=false->r.all Zu=true) ->
  ZZ σ (Xk ag n k r) (Tb ag n k vs)/\(Tb ag n k vs).flatMap (λu=>u.cells.toList)=vs/\(∀u∈Tb ag n k vs,u.cells.size=n)/\(Tb ag n k vs).length=k
 |0,r,vs,h,hl,_=>by
  have:r=[]:=by apply aqo.1;simpa using hl
  subst this;simp only[ZZ] at h;subst h;simp[Xk,Tb,ZZ]
 |k+1,r,vs,h,hl,RW=>by
  have Hm:=h.length;have hdl:(r.drop n).length=k*n:=by rw[List.length_drop,hl,aq3];omega
  obtain⟨i1,i2,i3,i4⟩:=Lt hn ha k (h.drop n) hdl (λe=>by
   have:=RW e;rw[ap8] at this ⊢;exact λx hx=>this x (List.mem_of_mem_drop hx))
  have F6:n<=r.length:=by rw[hl,aq3];omega
  have ah0:=h.take n;have hlen:(vs.take n).length=n:=by rw[aqO];omega
  cases ag with
  |true =>
   simp only[Xk,Tb,ZZ,aqp,ap1];refine⟨⟨_,_,rfl,by simp only[ZY];exact⟨_,rfl,ah0⟩,i1⟩,?_,?_,by rw[i4]⟩
   ·rw[i2];simp[Value.cells]
   ·intro u hu;rcases ap9.1 hu with rfl|hu
    ·simp only[Value.cells];simpa using hlen
    ·exact i3 u hu
  |false =>
   have hn1:=ha rfl;subst hn1
   cases r with
   |nil=>simp at F6
   |cons x r =>
    simp only[ZZ] at h;obtain⟨v,y,rfl,h1,h2⟩:=h;have Pq:Zu x=true:=by have:=RW rfl;simp only[List.all_cons,ahe] at this;exact this.1
    have hc:=(RE h1 Pq).1;simp only[Xk,Tb,ZZ,aqp,ap1] at i1 i2 i3 ⊢;refine⟨⟨_,_,rfl,h1,i1⟩,?_,?_,by rw[i4]⟩
    ·rw[i2,hc];simp
    ·intro u hu;rcases ap9.1 hu with rfl|hu
     ·rw[hc];rfl
     ·exact i3 u hu
def GO {σ τ:Sg}{s:St}{w:World}(H:HR σ s w)(hz:∀b o,σ.fz b=some o->τ.fz b=some o)(ho:∀i p b o,σ i=some p->s.look i=some b->b.own=true->w.heap[p.b]? = some o->τ.fz p.b=some o) :
  ∀(d:Nat) (v v':AV) (u:Value),Ya X s d v=some v'->ZY σ v u->ZY τ.bare v' u
 |0,v,v',u,h,_=>by simp[Ya] at h
 |d+1,v,v',u,h,k=>by
  have ih:=GO H hz ho d;have hle:Sg.le σ.bare τ.bare:=⟨λ_ _ h=>by simp[Sg.bare] at h,hz⟩;have same:still v=true->ZY τ.bare v u:=λhs=>ZY.mono hle _ _ (IJ hs k)
  cases v with
  |ptr b o =>
   simp only[Ya] at h
   split at h
   ·rename_i c e lo hi hg
    split at h
    ·rename_i c' Hl
     cases h
     obtain⟨p,hp,rfl⟩:=WT k;have hl:=St.XO hg No;obtain⟨cc,fz,h1,h2,h3,h4,_⟩:=H.cells hp hl;have L9:=ho _ _ _ _ hp hl rfl h1;obtain⟨vs,r1,r2⟩:=H.row (s:=s) (c:=c) hp (by simp[St.cells,hg]) c 0 (λi a ha=>by simpa using ha);simp only[ZY];refine⟨p.b,p.sh,vs,cc,e,fz,rfl,L9,XA ih Hl r1,λi u hu=>?_⟩;have:=r2 i u hu;rw[XH h1] at this
     simpa using this
    ·cases h
   ·cases h
  |sl b o len cap Vl =>
   simp only[Ya] at h
   split at h
   ·rename_i c e lo hi hg
    split at h
    ·rename_i r ag n hr Dl hs
     split at h
     ·rename_i hc;obtain⟨rfl,hn,QJ⟩:=hc
      split at h
      ·rename_i es hes
       cases h
       obtain⟨a,k',rfl,hlen,⟨p,hp,CH,_⟩,_⟩:=Td k;have hl:=St.XO hg No;obtain⟨cc,fz,h1,h2,h3,h4,_⟩:=H.cells hp hl;have L9:=ho _ _ _ _ hp hl rfl h1;obtain⟨vs,r1,r2⟩:=H.row (s:=s) (c:=c) hp (by simp[St.cells,hg]) r o (λi a ha=>Qb hr ha);have qg:=(WD hr).1;obtain⟨q1,q2,q3,q4⟩:=Lt hn (λe=>(QJ e).1) len r1 qg (λe=>(QJ e).2);have q5:=XA ih hes q1;have aeD:es.length=len:=by rw[q5.length,q4]
       simp only[ZY];refine⟨a,k',Tb ag Vl len vs,by rw[aeD],J,q5,?_⟩;by_cases eR:len=0
       ·subst eR;exact .inl rfl
       ·right
        have:=CH J;subst this;refine⟨rfl,cc,e,fz,Vl,L9,hn,q3,λi v hv=>?_⟩;rw[q2] at hv;have:=r2 i v hv;rw[XH h1] at this;exact this
      ·cases h
     ·cases h
    ·cases h
   ·cases h
  |map r =>
   simp only[Ya] at h
   split at h
   ·rename_i es hg
    split at h
    ·rename_i ks vs hk hv
     cases h
     obtain⟨p,hp,rfl⟩:=N0 k;obtain⟨Vo,clock,g1,g2⟩:=H.map hp hg;have L9:=ho _ _ _ _ hp (St.XO hg No) rfl g1;have key:∀(es:List (AV×AV)) (l:List MapEntry),ZJ σ es l->ZZ σ (es.map (·.1)) (l.map MapEntry.key)/\ZZ σ (es.map (·.2)) (l.map MapEntry.val):=by
      intro es
      induction es with
      |nil=>intro l hl;simp only[ZJ] at hl;subst hl;simp[ZZ]
      |cons a es ihe =>
       intro l hl;obtain⟨x,y⟩:=a;simp only[ZJ] at hl;obtain⟨m,r,rfl,e1,e2,e3⟩:=hl;obtain⟨j1,j2⟩:=ihe r e3;simp only[aqe,ZZ];exact⟨⟨_,_,rfl,e1,j1⟩,⟨_,_,rfl,e2,j2⟩⟩
     obtain⟨j1,j2⟩:=key _ _ g2;simp only[ZY];exact⟨p.b,Vo,clock,rfl,L9,XA ih hk j1,XA ih hv j2⟩
    ·cases h
   ·cases h
  |fn f x y =>
   simp only[Ya] at h
   split at h
   ·rename_i g
    split at h
    ·rename_i x' y' hx hy
     cases h
     simp only[ZY] at k ⊢;obtain⟨f',x1,y1,e,h1,h2,h3⟩:=k;simp only[Sm] at h1 ⊢;exact⟨f',x1,y1,e,h1,XA ih hx h2,XA ih hy h3⟩
    ·cases h
   ·cases h
  |iface t x =>
   simp only[Ya] at h
   split at h
   ·rename_i x' hx
    cases h
    simp only[ZY] at k ⊢;obtain⟨y,e,r⟩:=k;exact⟨y,e,ih _ _ _ hx r⟩
   ·cases h
  |agg cs =>
   simp only[Ya] at h
   split at h
   ·rename_i x' hx
    cases h
    simp only[ZY] at k ⊢;obtain⟨y,e,r⟩:=k;exact⟨y,e,XA ih hx r⟩
   ·cases h
  |XQ cs =>
   simp only[Ya] at h
   split at h
   ·rename_i x' hx
    cases h
    simp only[ZY] at k ⊢;obtain⟨y,e,r⟩:=k;exact⟨y,e,XA ih hx r⟩
   ·cases h
  |_=>simp only[Ya] at h;cases h;exact same rfl
def xd {σ τ:Sg}{s:St}{w:World}(H:HR σ s w)(ho:∀i p b o,σ i=some p->s.look i=some b->b.own=true->w.heap[p.b]? = some o->τ.fz p.b=some o) :
  ∀(d:Nat) (v v':AV) (u:Value),Xe X s d v=some v'->ZY σ v u->ZY τ.bare v' u
 |0,v,v',u,h,_=>by simp[Xe] at h
 |d+1,v,v',u,h,k=>by
  have ih:=xd H ho d;have same:flat v=true->ZY τ.bare v u:=λhs=>J7 hs k
  cases v with
  |ptr b o =>
   simp only[Xe] at h
   split at h
   ·rename_i c e lo hi hg
    split at h
    ·rename_i c' Hl
     cases h
     obtain⟨p,hp,rfl⟩:=WT k;have hl:=St.XO hg No;obtain⟨cc,fz,h1,h2,h3,h4,_⟩:=H.cells hp hl;have L9:=ho _ _ _ _ hp hl rfl h1;obtain⟨vs,r1,r2⟩:=H.row (s:=s) (c:=c) hp (by simp[St.cells,hg]) c 0 (λi a ha=>by simpa using ha);simp only[ZY];refine⟨p.b,p.sh,vs,cc,e,fz,rfl,L9,XA ih Hl r1,λi u hu=>?_⟩;have:=r2 i u hu;rw[XH h1] at this
     simpa using this
    ·cases h
   ·cases h
  |sl b o len cap Vl =>
   simp only[Xe] at h
   split at h
   ·rename_i c e lo hi hg
    split at h
    ·rename_i r ag n hr Dl hs
     split at h
     ·rename_i hc;obtain⟨rfl,hn,QJ⟩:=hc
      split at h
      ·rename_i es hes
       cases h
       obtain⟨a,k',rfl,hlen,⟨p,hp,CH,_⟩,_⟩:=Td k;have hl:=St.XO hg No;obtain⟨cc,fz,h1,h2,h3,h4,_⟩:=H.cells hp hl;have L9:=ho _ _ _ _ hp hl rfl h1;obtain⟨vs,r1,r2⟩:=H.row (s:=s) (c:=c) hp (by simp[St.cells,hg]) r o (λi a ha=>Qb hr ha);have qg:=(WD hr).1;obtain⟨q1,q2,q3,q4⟩:=Lt hn (λe=>(QJ e).1) len r1 qg (λe=>(QJ e).2);have q5:=XA ih hes q1;have aeD:es.length=len:=by rw[q5.length,q4]
       simp only[ZY];refine⟨a,k',Tb ag Vl len vs,by rw[aeD],J,q5,?_⟩;by_cases eR:len=0
       ·subst eR;exact .inl rfl
       ·right
        have:=CH J;subst this;refine⟨rfl,cc,e,fz,Vl,L9,hn,q3,λi v hv=>?_⟩;rw[q2] at hv;have:=r2 i v hv;rw[XH h1] at this;exact this
      ·cases h
     ·cases h
    ·cases h
   ·cases h
  |map r =>
   simp only[Xe] at h
   split at h
   ·rename_i es hg
    split at h
    ·rename_i ks vs hk hv
     cases h
     obtain⟨p,hp,rfl⟩:=N0 k;obtain⟨Vo,clock,g1,g2⟩:=H.map hp hg;have L9:=ho _ _ _ _ hp (St.XO hg No) rfl g1;have key:∀(es:List (AV×AV)) (l:List MapEntry),ZJ σ es l->ZZ σ (es.map (·.1)) (l.map MapEntry.key)/\ZZ σ (es.map (·.2)) (l.map MapEntry.val):=by
      intro es
      induction es with
      |nil=>intro l hl;simp only[ZJ] at hl;subst hl;simp[ZZ]
      |cons a es ihe =>
       intro l hl;obtain⟨x,y⟩:=a;simp only[ZJ] at hl;obtain⟨m,r,rfl,e1,e2,e3⟩:=hl;obtain⟨j1,j2⟩:=ihe r e3;simp only[aqe,ZZ];exact⟨⟨_,_,rfl,e1,j1⟩,⟨_,_,rfl,e2,j2⟩⟩
     obtain⟨j1,j2⟩:=key _ _ g2;simp only[ZY];exact⟨p.b,Vo,clock,rfl,L9,XA ih hk j1,XA ih hv j2⟩
    ·cases h
   ·cases h
  |fn f x y =>
   simp only[Xe] at h
   split at h
   ·rename_i g
    split at h
    ·rename_i x' y' hx hy
     cases h
     simp only[ZY] at k ⊢;obtain⟨f',x1,y1,e,h1,h2,h3⟩:=k;simp only[Sm] at h1 ⊢;exact⟨f',x1,y1,e,h1,XA ih hx h2,XA ih hy h3⟩
    ·cases h
   ·cases h
  |iface t x =>
   simp only[Xe] at h
   split at h
   ·rename_i x' hx
    cases h
    simp only[ZY] at k ⊢;obtain⟨y,e,r⟩:=k;exact⟨y,e,ih _ _ _ hx r⟩
   ·cases h
  |agg cs =>
   simp only[Xe] at h
   split at h
   ·rename_i x' hx
    cases h
    simp only[ZY] at k ⊢;obtain⟨y,e,r⟩:=k;exact⟨y,e,XA ih hx r⟩
   ·cases h
  |XQ cs =>
   simp only[Xe] at h
   split at h
   ·rename_i x' hx
    cases h
    simp only[ZY] at k ⊢;obtain⟨y,e,r⟩:=k;exact⟨y,e,XA ih hx r⟩
   ·cases h
  |fz _=>simp[Xe] at h
  |fp _ _=>simp[Xe] at h
  |fm _ _=>simp[Xe] at h
  |_=>simp only[Xe] at h;cases h;exact same rfl
end
end Go.Am
namespace Go.Am
open Go
variable {e:Env}{s:St}{v:AV}{args:List AV}{w:World}{n:Nat}{f:FuncId}
section
variable [Stat]
variable {X:Cx}{P:Program}
def JM (hX:Vm X P){F:Fence}{Ub σ:Sg}{s0 s:St}{w0:World}{fn:Func}{tmps:Array Value}(E:SB σ e tmps)(ED:Uh X fn e s=some v) :
  ∀(rs:List Nat) (w:World),Good Ub s0 w0 σ s w->rs.Nodup->(∀r∈rs,w0.heap.size<=r/\w.heap[r]? = some (.deferred (some []))/\(∀i p,σ i=some p->p.b≠r)/\σ.fz r=none) ->
   LeavesInM F n P fn tmps (λen w'=>∃u Yj,en=.returned u/\ZY Yj v u/\Good Ub s0 w0 Yj s w') (rs.map λr=>({ target:=.collected r,args:=#[] }:Deferred)) .returning w
 |[],w,g,_,_=>by
  obtain⟨u,h1,h2⟩:=vK (P:=P) hX g.hr E ED;exact⟨u,h1,u,σ,rfl,h2,g⟩
 |r::rs,w,g,hn,hm=>by
  obtain⟨h1,h2,h3,h4⟩:=hm r (aba ..);refine⟨by simp,.inl ⟨r,w.putObj r (.deferred none),rfl,run_takeDeferred h2,?_⟩⟩;rw[aqW] at hn;refine JM hX E ED rs _ (g.afY h1 h3 h4 _) hn.2 λr' T8=>?_
  obtain⟨g1,g2,g3⟩:=hm r' (aab _ T8);refine⟨g1,?_,g3⟩;show (w.heap.setIfInBounds r _)[r']? = _;rw[aq4,O3 (λh:r=r'=>hn.1 (by rw[h];exact T8))];exact g2
def QI (hX:Full X P){ex:Ex}(hE:KK X P ex){s s':St}(h:ND X ex f args s=some (v,s')){σ:Sg}{us:Array Value}
  (H:HR σ s w)(F:SY σ s)(G:Wp X σ)(hv:ZZ σ args us.toList) :
  (callFunc f us).run P w=.ok (.enter f us) w/\Calls P f us w λen w'=>∃u Yj,en=.returned u/\ZY Yj v u/\Good σ s w Yj s' w':=by
 unfold ND at h
 split at h
 ·rename_i fn iW
  split at h
  ·rename_i c hb;have hf:=hX.fn f fn iW;refine⟨?_,?_⟩
   ·have uf:¬fn.name = "runtime.NumGoroutine":=by have:=hX.nm f fn iW;simpa using this
    simp[callFunc,amz,Result.andThen,hf,uf,hb]
   ·refine callsIn_wide.1 (callsIn_of_wp_marks (F:=FW none) (n:=0) hf hb trivial ?_);have I:Inv X σ s w w.heap.size (Zr 0 args .nil) { tmps:=us++Array.replicate (fn.ntmps-us.size) Go.undef,defers:=[] } :=
     ⟨H,F,G,jI hv _,DF.nil _ _ _,api _⟩
    have XP:iP X none (us++Array.replicate (fn.ntmps-us.size) Go.undef).size c:=⟨fn.ntmps,F_,hX.fok f fn c iW hb,by simp⟩;have key:∀out e s1,ex c (Zr 0 args .nil) s=some (out,e,s1)->out=.norm\/out=.ret->Uh X fn e s1=some v->s1=s' ->
      c.wpIn (FW none) 0 P (bodyPostM (FW none) 0 P fn λen w'=>∃u Yj,en=.returned u/\ZY Yj v u/\Good σ s w Yj s' w') { tmps:=us++Array.replicate (fn.ntmps-us.size) Go.undef,defers:=[] } w:=by
     intro out e s1 hex LH ED hs;subst hs;refine wpIn_mono (hE c _ _ _ _ _ hex none _ _ w σ XP I).wpIn ?_;rintro en a' w' ⟨hx,Yj,g,i',_⟩;have hl:LeavesInM (FW none) 0 P fn a'.tmps (λen w'=>∃u Yj,en=.returned u/\ZY Yj v u/\Good σ s w Yj s1 w') a'.defers .returning w':=by
      obtain⟨rs,CJ,hn,hm⟩:=i'.df;rw[CJ];exact JM hX.toVm i'.env ED rs w' g hn hm
     rcases LH with rfl|rfl <;> cases en <;> simp only[QH] at hx
     ·exact hl
     ·exact hl
    split at h
    ·rename_i e s1 hex
     split at h
     ·rename_i u ED;cases h;exact key _ _ _ hex (.inl rfl) ED rfl
     ·cases h
    ·rename_i e s1 hex
     split at h
     ·rename_i u ED;cases h;exact key _ _ _ hex (.inr rfl) ED rfl
     ·cases h
    ·cases h
  ·cases h
 ·cases h
def Sg.low (σ:Sg)(n:Nat)(z:Nat->Option Obj):Sg:={ m:=λi=>if i<n then σ i else none,fz:=z }
def Nk {σ:Sg}{z:Nat->Option Obj}{i:Nat}{p:Pl}(h:(σ.low n z) i=some p):i<n/\σ i=some p:=by
 unfold Sg.low at h;simp only at h
 split at h
 ·exact⟨‹_›,h⟩
 ·cases h
def rm {σ:Sg}(G:Wp X σ)(YA:∀i p,σ i=some p->p.b<w.heap.size)(hg:∀c o,σ.fz c=some o->w.heap[c]? = some o)(z:Nat->Option Obj)(hz:∀c o,σ.fz c=some o->z c=some o)(uJ:∀c o,z c=some o->w.heap[c]? = some o)
  (hb:∀i b,X.K0 i=some b->b≠.gone):HR (σ.low X.glob z) (Ym X) w/\SY (σ.low X.glob z) (Ym X)/\Wp X (σ.low X.glob z)/\∀c,¬P0 (σ.low X.glob z) (Ym X) c:=by
 have hle:Sg.le σ.bare (σ.low X.glob z).bare:=⟨λ_ _ h=>by simp[Sg.bare] at h,hz⟩;have look:∀i b,(Ym X).look i=some b->X.K0 i=some b:=by
  intro i b h;unfold St.look St.get Ym at h;simp only[Tr.get_nil] at h
  split at h
  ·cases h
  ·exact h
 have RW:∀c,¬P0 (σ.low X.glob z) (Ym X) c:=by
  rintro c ⟨i,p,b,hp,hl,ho,_⟩;obtain⟨hi,_⟩:=Nk hp;obtain⟨n,_,SG⟩:=G i hi;rw[(SG b (look i b hl)).1] at ho;cases ho
 refine⟨⟨λi p hp=>YA i p (Nk hp).2,λi p b hp hl=>?_,λi j p q b c hp hq hl DY he=>?_,λc o hc=>⟨uJ c o hc,RW c⟩⟩,λi hi=>?_,λg hgl=>?_,RW⟩
 ·obtain⟨hi,hs⟩:=Nk hp;obtain⟨n,hn,SG⟩:=G i hi;rw[hn] at hs;cases hs;obtain⟨_,o,ho,uC⟩:=SG b (look i b hl);exact⟨o,hg _ _ ho,(uC.mono hle).mono (Sg.TM _)⟩
 ·obtain⟨hi,hs⟩:=Nk hp;obtain⟨hj,ht⟩:=Nk hq;obtain⟨n,hn,_⟩:=G i hi;obtain⟨m,hm,_⟩:=G j hj;rw[hn] at hs;cases hs;rw[hm] at ht;cases ht;exact he
 ·show (if i<X.glob then σ i else none)=none;rw[O3];exact Nat.not_lt.2 hi
 ·obtain⟨n,hn,SG⟩:=G g hgl;refine⟨n,?_,λb TV=>?_⟩
  ·show (if g<X.glob then σ g else none)=_;rw[Of hgl];exact hn
  ·obtain⟨h1,o,h2,h3⟩:=SG b TV;exact⟨h1,o,hz _ _ h2,h3.mono hle⟩
def Et {σ Ub G3 zq:Sg}{s t t':St}{w w':World}(H:HR σ s w)(g:Good Ub t w G3 t' w')(RW:∀c,¬P0 Ub t c)(hm:zq.m=σ.m)(h1:∀c o,σ.fz c=some o->zq.fz c=some o)
  (h2:∀c o,zq.fz c=some o->σ.fz c=some o\/(w.heap.size<=c/\w'.heap[c]? = some o)):Good σ s w zq s w':=by
 have hle:Sg.le σ zq:=⟨λi p hp=>by rw[hm];exact hp,h1⟩;have keep:∀c,c<w.heap.size->w'.heap[c]? = w.heap[c]? := λc hc=>g.ext.keep c hc (RW c)
 have own:∀c,P0 zq s c->P0 σ s c:=λc ⟨i,p,b,hp,hl,ho,he⟩=>⟨i,p,b,by rw[hm] at hp;exact hp,hl,ho,he⟩
 refine⟨⟨λi p hp=>?_,λi p b hp hl=>?_,λi j p q b c hp hq=>?_,λc o hc=>?_⟩,⟨hle,λc o hc=>?_,g.ext.size,λc hc _=>keep c hc,λc _ ho=>own c ho,g.ext.os,g.ext.tape,g.ext.output⟩,λi _=>by rw[hm],api _,λ_ _ h=>h,λi p hp hn=>?_,rfl⟩
 ·rw[hm] at hp;exact Nat.lt_of_lt_of_le (H.lt i p hp) g.ext.size
 ·rw[hm] at hp;obtain⟨o,ho,uC⟩:=H.DS i p b hp hl;exact⟨o,by rw[keep _ (H.lt i p hp)];exact ho,uC.mono hle⟩
 ·rw[hm] at hp hq;exact H.inj i j p q b c hp hq
 ·rcases h2 c o hc with hs|⟨Dz,hs⟩
  ·obtain⟨k1,k2⟩:=H.fz c o hs;have YA:c<w.heap.size:=(apV.1 k1).1;exact⟨by rw[keep c YA];exact k1,λho=>k2 (own c ho)⟩
  ·refine⟨hs,λho=>?_⟩;obtain⟨i,p,b,hp,_,_,he⟩:=own c ho;have:=H.lt i p hp;omega
 ·rcases h2 c o hc with hs|⟨Dz,_⟩
  ·exact .inl hs
  ·exact .inr Dz
 ·rw[hm,hn] at hp;cases hp
def vJ (hX:Full X P){ex:Ex}(hE:KK X P ex){s s':St}(h:NL X ex f args s=some (v,s')){σ:Sg}{us:Array Value}
  (H:HR σ s w)(F:SY σ s)(G:Wp X σ)(hv:ZZ σ args us.toList) :
  (callFunc f us).run P w=.ok (.enter f us) w/\Calls P f us w λen w'=>∃u Yj,en=.returned u/\ZY Yj v u/\Good σ s w Yj s' w':=by
 have hg:∀c o,σ.fz c=some o->w.heap[c]? = some o:=λc o hc=>(H.fz c o hc).1
 unfold NL at h
 split at h
 ·rename_i o_ Es
  split at h
  ·rename_i v1 hq
   cases h
   unfold X7 at hq
   split at hq
   ·rename_i v2 s1 VY;unfold U2 at Es
    split at Es
    ·rename_i W_
     cases Es
     rw[W_] at hq;simp only[if_true] at hq;obtain⟨a1,a2,a3,a4⟩:=rm (X:=X) G H.lt hg σ.fz (λ_ _ h=>h) hg hX.gb;have Nr:ZZ (σ.low X.glob σ.fz) args us.toList:=ZZ.mono (show Sg.le σ.bare (σ.low X.glob σ.fz) from⟨λ_ _ h=>by simp[Sg.bare] at h,λ_ _ h=>h⟩) _ _ (Tl W_ hv);obtain⟨c1,c2⟩:=QI hX hE VY a1 a2 a3 Nr;refine⟨c1,Calls.mono c2 ?_⟩;rintro en w' ⟨u,G3,rfl,hu,g⟩;have bL:∀b o,σ.fz b=some o->b<w.heap.size:=λb o hb=>(apV.1 (hg b o hb)).1
     let z:Nat->Option Obj:=λb=>match σ.fz b with|some o=>some o|none=>if w.heap.size<=b then w'.heap[b]? else none
     have ug:∀b o,σ.fz b=some o->z b=some o:=λb o hb=>by simp only[z,hb]
     have iZ:∀b o,w.heap.size<=b->w'.heap[b]? = some o->z b=some o:=λb o hb ho=>by
      cases hs:σ.fz b with
      |some o'=>have:=bL b o' hs;omega
      |none=>simp only[z,hs];rw[Of hb];exact ho
     have hz3:∀b o,z b=some o->σ.fz b=some o\/(w.heap.size<=b/\w'.heap[b]? = some o):=λb o hb=>by
      simp only[z] at hb
      cases hs:σ.fz b with
      |some o'=>rw[hs] at hb;exact .inl hb
      |none =>
       rw[hs] at hb;simp only at hb
       split at hb
       ·exact .inr ⟨‹_›,hb⟩
       ·cases hb
     refine⟨u,{ m:=σ.m,fz:=z },rfl,?_,Et H g a4 rfl ug hz3⟩;have:=GO (X:=X) (τ:={ m:=σ.m,fz:=z }) g.hr (λb o hb=>?_) (λi p b o hp hl SA ho=>?_) _ _ _ _ hq hu
     ·exact ZY.mono (Sg.TM _) _ _ this
     ·rcases g.ext.pR b o hb with SG|SG
      ·exact ug b o SG
      ·exact iZ b o SG (g.hr.fz b o hb).1
     ·refine iZ _ _ (Nat.le_of_not_lt λYA=>?_) ho;exact a4 _ (g.ext.owns _ YA ⟨i,p,b,hp,hl,SA,rfl⟩)
    ·rename_i W_;rw[O3 W_] at hq
     split at hq
     ·rename_i Mw
      cases hq
      obtain⟨a1,a2,a3,a4⟩:=rm (X:=X) G H.lt hg (λc=>w.heap[c]?) hg (λ_ _ h=>h) hX.gb;have Nr:ZZ (σ.low X.glob λc=>w.heap[c]?) o_ us.toList:=by
       have:=XA (τ:=(σ.low X.glob λc=>w.heap[c]?).bare) (GO (X:=X) H hg (λi p b o _ _ _ ho=>ho) _) Es hv;exact ZZ.mono (Sg.TM _) _ _ this
      obtain⟨c1,c2⟩:=QI hX hE VY a1 a2 a3 Nr;refine⟨c1,Calls.mono c2 ?_⟩;rintro en w' ⟨u,G3,rfl,hu,g⟩;exact⟨u,σ,rfl,J7 Mw hu,Et H g a4 rfl (λ_ _ h=>h) (λ_ _ h=>.inl h)⟩
     ·obtain⟨a1,a2,a3,a4⟩:=rm (X:=X) G H.lt hg (λc=>w.heap[c]?) hg (λ_ _ h=>h) hX.gb;have Nr:ZZ (σ.low X.glob λc=>w.heap[c]?) o_ us.toList:=by
       have:=XA (τ:=(σ.low X.glob λc=>w.heap[c]?).bare) (GO (X:=X) H hg (λi p b o _ _ _ ho=>ho) _) Es hv;exact ZZ.mono (Sg.TM _) _ _ this
      obtain⟨c1,c2⟩:=QI hX hE VY a1 a2 a3 Nr;refine⟨c1,Calls.mono c2 ?_⟩;rintro en w' ⟨u,G3,rfl,hu,g⟩;have bL:∀b o,σ.fz b=some o->b<w.heap.size:=λb o hb=>(apV.1 (hg b o hb)).1
      let z:Nat->Option Obj:=λb=>match σ.fz b with|some o=>some o|none=>if w.heap.size<=b then w'.heap[b]? else none
      have ug:∀b o,σ.fz b=some o->z b=some o:=λb o hb=>by simp only[z,hb]
      have iZ:∀b o,w.heap.size<=b->w'.heap[b]? = some o->z b=some o:=λb o hb ho=>by
       cases hs:σ.fz b with
       |some o'=>have:=bL b o' hs;omega
       |none=>simp only[z,hs];rw[Of hb];exact ho
      have hz3:∀b o,z b=some o->σ.fz b=some o\/(w.heap.size<=b/\w'.heap[b]? = some o):=λb o hb=>by
       simp only[z] at hb
       cases hs:σ.fz b with
       |some o'=>rw[hs] at hb;exact .inl hb
       |none =>
        rw[hs] at hb;simp only at hb
        split at hb
        ·exact .inr ⟨‹_›,hb⟩
        ·cases hb
      refine⟨u,{ m:=σ.m,fz:=z },rfl,?_,Et H g a4 rfl ug hz3⟩;have:=xd (X:=X) (τ:={ m:=σ.m,fz:=z }) g.hr (λi p b o hp hl SA ho=>?_) _ _ _ _ hq hu
      ·exact ZY.mono (Sg.TM _) _ _ this
      ·refine iZ _ _ (Nat.le_of_not_lt λYA=>?_) ho;exact a4 _ (g.ext.owns _ YA ⟨i,p,b,hp,hl,SA,rfl⟩)
   ·cases hq
  ·cases h
 ·cases h
def Nj (hX:Full X P){ex:Ex}(hE:KK X P ex)(KF:X.ext f=none){s s':St}(h:TY X ex f args s=some (v,s')){σ:Sg}{us:Array Value}
  (H:HR σ s w)(F:SY σ s)(G:Wp X σ)(hv:ZZ σ args us.toList) :
  (callFunc f us).run P w=.ok (.enter f us) w/\Calls P f us w λen w'=>∃u Yj,en=.returned u/\ZY Yj v u/\Good σ s w Yj s' w':=by
 unfold TY at h;rw[KF] at h;simp only at h
 split at h
 ·exact vJ hX hE h H F G hv
 ·exact QI hX hE h H F G hv
def bK (hX:Full X P){ex:Ex}(hE:KK X P ex)(f:FuncId):ej X P f (TY X ex f):=by
 intro args s v s' σ w us h H F G hv
 cases KF:X.ext f with
 |none =>
  obtain⟨h1,h2⟩:=Nj hX hE KF h H F G hv;rw[h1];refine Calls.mono h2 ?_;rintro en w' ⟨u,Yj,rfl,h3,h4⟩;exact⟨u,rfl,Yj,h3,h4⟩
 |some g =>
  unfold TY at h;rw[KF] at h;exact hX.ext f g KF args s v s' σ w us h H F G hv
def Er {σ:Sg}:∀(ps:List Tmp) (as:List AV) (us:List Value) (e:Env) (tmps:Array Value),SB σ e tmps->ZZ σ as us->(∀t∈ps,t<tmps.size) ->
  SB σ ((ps.zip as).foldl (λe (t,a)=>Tr.set e t a) e) ((ps.zip us).foldl (λtmps (t,a)=>tmps.setIfInBounds t a) tmps)/\((ps.zip us).foldl (λtmps (t,a)=>tmps.setIfInBounds t a) tmps).size=tmps.size
 |[],as,us,e,tmps,h,_,_=>⟨h,rfl⟩
 |p::ps,[],us,e,tmps,h,hv,_=>by
  simp only[ZZ] at hv;subst hv;exact⟨h,rfl⟩
 |p::ps,a::as,us,e,tmps,h,hv,hp=>by
  simp only[ZZ] at hv;obtain⟨u,us,rfl,h1,h2⟩:=hv;simp only[List.zip_cons_cons,List.foldl_cons];have:=Er ps as us (Tr.set e p a) (tmps.setIfInBounds p u) (h.put (hp p (aba ..)) h1) h2 (λt ht=>by simpa using hp t (aab _ ht));exact⟨this.1,by simpa using this.2⟩
def bJ (ps:Array Tmp)(us tmps:Array Value):(ps.zip us).foldl (λtmps (t,a)=>tmps.setIfInBounds t a) tmps=(ps.toList.zip us.toList).foldl (λtmps (t,a)=>tmps.setIfInBounds t a) tmps:=by
 rw[<-Array.foldl_toList,Array.toList_zip]
def Ep {σ:Sg}(H:HR σ s w){l:Nat}{p:Pl}(hp:σ l=some p){st:Nat}{pe:Option Code}{env:Env}{ps:List Tmp}{as bo:Code}(hg:s.get l=some (.loop st pe env ps as bo))
  {r:Loop}(hr:w.heap[p.b]? = some (.loop r))(st':Nat)(pe':Option Code) :
  Good σ s w σ (s.put l (.loop st' pe' env ps as bo)) (w.putObj p.b (.loop { r with state:=RY st',pending:=pe' })):=by
 have hl:s.look l=some (.loop st pe env ps as bo):=St.XO hg No;obtain⟨o,ho,uC⟩:=H.DS l p _ hp hl;rw[hr] at ho;cases ho;have YA:=H.lt l p hp;simp only[BR] at uC;obtain⟨_,_,h3⟩:=uC;refine Good.put H hp hl rfl No (by simp[World.putObj]) (λc hc=>World.putObj_heap_other hc) (World.putObj_heap_same YA) ?_ rfl rfl rfl;show BR σ p (.loop st' pe' env ps as bo) _;unfold BR;exact⟨rfl,rfl,h3⟩
def JL {σ:Sg}(H:HR σ s w){l:Nat}{p:Pl}(hp:σ l=some p){st:Nat}{pe:Option Code}{env:Env}{ps:List Tmp}{as bo:Code}(hg:s.get l=some (.loop st pe env ps as bo)) :
  ∃r:Loop,w.heap[p.b]? = some (.loop r)/\BR σ p (.loop st pe env ps as bo) (.loop r):=by
 have hl:s.look l=some (.loop st pe env ps as bo):=St.XO hg No;obtain⟨o,ho,uC⟩:=H.DS l p _ hp hl
 cases o <;> simp only[BR] at uC
 exact⟨_,ho,uC⟩
def Eo {l:Nat}{o:Out}{q:List Tmp}{a b:Code}{s s':St}(h:MJ l o e q a b s=some (v,s')) :
  ∃j:Option Code,v=.bool j.isNone/\s'=s.put l (.loop (if j.isNone then 0 else 2) j e q a b)/\(match o with|.norm=>j=none|.exit i=>j=some (.exit i)|.ret=>j=some .ret):=by
 cases o <;> simp only[MJ] at h <;> cases h
 ·exact⟨none,rfl,rfl,rfl⟩
 ·exact⟨some (.exit _),rfl,rfl,rfl⟩
 ·exact⟨some .ret,rfl,rfl,rfl⟩
def bI (hX:Full X P){ex:Ex}(hE:KK X P ex){l:Nat}{s s':St}(h:Fo ex l args s=some (v,s')){σ:Sg}{us:Array Value}{p:Pl}(hp:σ l=some p)
  (H:HR σ s w)(F:SY σ s)(G:Wp X σ)(hv:ZZ σ args us.toList){ro:Option Nat} :
  ∃f tmps assign body,(Instr.yield p.b us).run P w=.ok (.round p.b f tmps assign body) w /\
   RoundIn (FW ro) 0 P p.b f tmps assign body w λen w'=>∃u Yj,en=.returned u/\ZY Yj v u/\Good σ s w Yj s' w':=by
 unfold Fo at h
 split at h
 ·rename_i pe env params assign body hg;obtain⟨r,hr,uC⟩:=JL H hp hg;simp only[BR] at uC;obtain⟨b1,b2,b3,b4,b5,b6,b7,b8,b9⟩:=uC
  split at h
  ·rename_i hlen;have Vt:us.size=r.params.size:=by
    have h1:=hv.length;have h2:us.toList.length=us.size:=rfl;have h3:r.params.toList.length=r.params.size:=rfl;rw[<-h2,<-h3,<-h1,hlen,b4]
   refine⟨_,_,_,_,run_yield hr Vt,?_⟩;rw[bJ,b4,b5,b6];obtain⟨e1,e2⟩:=Er params args us.toList env r.tmps b3 hv b9;refine roundIn_of_wpIn trivial ?_;have I:Inv X σ s w w.heap.size ((params.zip args).foldl (λe (t,a)=>Tr.set e t a) env) { tmps:=(params.zip us.toList).foldl (λtmps (t,a)=>tmps.setIfInBounds t a) r.tmps,defers:=[] } :=
    ⟨H,F,G,e1,DF.nil _ _ _,api _⟩
   have cok:∀c,Stat.ok r.tmps.size c->∀m,m=r.tmps.size->iP X (some p.b) m c:=by
    intro c hc m hm;subst hm;obtain⟨n,h1,h2,h3⟩:=(hX.stat _ _).1 hc;exact⟨n,h1,h2,λ_=>h3⟩
   simp only at h
   split at h
   ·rename_i eZ s1 an_
    split at h
    ·rename_i p1 DO q1 a1 c1 l9
     split at h
     ·rename_i o2 e2' s2 an'
      split at h
      ·rename_i st3 p3 en3 q3 a3 c3 hg2;have yL:=(hE _ _ _ _ _ _ an_ (some p.b) _ _ w σ (cok assign b7 _ e2) I).wpIn;refine wpIn_mono yL ?_;rintro en a1' w1 ⟨hx,G3,g1,i1,RX⟩
       cases en <;> simp only[QH] at hx
       have zl:=g1.ext.le.p _ _ hp;obtain⟨r1,ajI,jH⟩:=JL g1.hr zl l9;have W_:r1.state=.ready:=by simp only[BR] at jH;exact jH.1
       have gp:=Ep g1.hr zl l9 ajI 1 p1;have hw:({ r1 with state:=RY 1,pending:=p1 }:Loop)={ r1 with state:=.busy }:=by
        simp only[BR] at jH;rw[<-jH.2.1];rfl
       rw[hw] at gp;refine⟨_,run_beginRound ajI W_,?_⟩;have g2:=g1.trans gp;have I2:Inv X G3 (s1.put l (.loop 1 p1 DO q1 a1 c1)) (w1.putObj p.b (.loop { r1 with state:=.busy })) w.heap.size eZ a1' :=
        ⟨gp.hr,gp.fresh i1.fresh,i1.glob,i1.env,i1.df.good gp,by simpa[World.putObj] using i1.n0⟩
       have hr2:=(hE _ _ _ _ _ _ an' (some p.b) _ _ _ G3 (cok body b8 _ (RX.trans e2)) I2).wpIn;refine wpIn_mono hr2 ?_;rintro oB a2' w2 ⟨zt,zq,g3,i2,_⟩;obtain⟨j,rfl,rfl,hj⟩:=Eo h;have xR:=g3.ext.le.p _ _ zl;obtain⟨r2,ajJ,apM⟩:=JL g3.hr xR hg2;have fin:∀j',j=j'->∃v w',(Instr.endRound p.b j').run P w2=.ok v w'/\∃u Yj,(Ending.returned v)=.returned u/\ZY Yj (.bool j.isNone) u/\Good σ s w Yj (s2.put l (.loop (if j.isNone then 0 else 2) j en3 q3 a3 c3)) w':=by
        intro j' Dq;subst Dq;have gp2:=Ep g3.hr xR hg2 ajJ (if j.isNone then 0 else 2) j;refine⟨_,_,run_endRound j ajJ,_,zq,rfl,by simp only[ZY],?_⟩;have Dr:RY (if j.isNone then 0 else 2)=(if j.isNone then LoopState.ready else .done):=by cases j <;> rfl
        rw[Dr] at gp2;exact (g2.trans g3).trans gp2
       cases o2 <;> cases oB <;> simp only[QH] at zt
       ·exact fin none hj
       ·subst zt;exact fin _ hj
       ·exact fin _ hj
      ·cases h
     ·cases h
    ·cases h
   ·cases h
  ·cases h
 ·cases h
end
end Go.Am
namespace Go.Am
open Go
variable {e:Env}{w:World}{s s':St}
section
variable [Stat]
variable {X:Cx}{P:Program}
def Qt {ρ:Operand->Value}{f:Operand}{args:Array Operand}{CP:Array TypeId}{ty:TypeId}{fn:Fn}{x y:Array Value}(h:ρ f=.func fn x y) :
  (resolve ρ { callee:=.value f,args,argTypes:=CP } ty).run P w=.ok { target:=.fn fn y,args:=x++args.map ρ } w:=by
 simp[resolve,h,Deferred.ofValue]
def KJ (hX:Full X P){ex:Ex}(hE:KK X P ex){r:Option Nat}{o:Oper}{v:AV}{a:Act}{σ:Sg}{n0:Nat}(I:Inv X σ s w n0 e a)(h:Yn X ex e o.op s=some (v,s'))
  {QU:Act->World->Prop}{Q:Exit->Act->World->Prop}(hn:∀u w' Yj,ZY Yj v u->Good σ s w Yj s' w'->QU (a.put o.dst u) w'):o.wpIn (FW r) 0 P a w QU Q:=by
 refine⟨Pd,?_⟩;rw[Oper.semAt_eq _ _ _ (λc hc=>by rw[hc] at h;simp[Yn] at h),S3]
 cases hc:M4 o.op with
 |false =>
  obtain⟨Yj,nx,u,w',h1,h2,h3,h4⟩:=CS (P:=P) hX.toVm I.glob I.hr (I.fresh _ (api _)) I.env hc h;rw[h1];rcases h2 with rfl|⟨rfl,rfl⟩
  ·rw[Oper.uponIn_value];exact hn _ _ _ h3 h4
  ·rw[Oper.uponIn_skip];exact hn _ _ _ h3 h4
 |true =>
  obtain⟨dst,op,type,pos,after,guard⟩:=o;simp only at h hc hn ⊢
  cases op <;> simp only[M4] at hc <;> try (cases hc;done)
  rename_i c;obtain⟨callee,args,CP⟩:=c
  cases callee <;> simp only at hc <;> try (cases hc;done)
  rename_i f;simp only[Yn] at h
  split at h
  ·rename_i fv vs hf SH;have Qs:=TP I.glob I.env hf;have hvr:=Qc I.glob I.env SH;unfold Fy at h
   split at h
   ·rename_i g first cap
    simp only[ZY] at Qs;obtain⟨f',x',y',hfv,EL,hx,hy⟩:=Qs;simp only[Sm] at EL;subst EL;have Sw:ZZ σ (first++vs++cap) ((x'++args.map (G1 a.tmps))++y').toList:=by
     simp only[Array.toList_append];exact (hx.append (by simpa using hvr)).append hy
    have:=bK hX hE g _ _ _ _ _ w _ h I.hr I.fresh I.glob Sw;have Yf:(execOp (G1 a.tmps) { dst:=dst,op:=.call { callee:=.value f,args:=args,argTypes:=CP },type:=type,pos:=pos,after:=after,guard:=guard }).run P w=(callFunc g ((x'++args.map (G1 a.tmps))++y')).run P w:=by
     simp only[execOp,amz,Qt hfv,abc,invoke]
    rw[Yf];exact acu (X:=X) this λu w' ⟨Yj,h1,h2⟩=>hn u w' Yj h1 h2
   ·rename_i l first cap
    simp only[ZY] at Qs;obtain⟨f',x',y',hfv,EL,hx,hy⟩:=Qs;simp only[Sm] at EL;obtain⟨p,hp,rfl⟩:=EL;have Sw:ZZ σ (first++vs) (x'++args.map (G1 a.tmps)).toList:=by
     simp only[Array.toList_append];exact hx.append (by simpa using hvr)
    obtain⟨fn,tmps,assign,body,h1,h2⟩:=bI hX hE h hp I.hr I.fresh I.glob Sw (ro:=r);have Yf:(execOp (G1 a.tmps) { dst:=dst,op:=.call { callee:=.value f,args:=args,argTypes:=CP },type:=type,pos:=pos,after:=after,guard:=guard }).run P w=.ok (.round p.b fn tmps assign body) w:=by
     simp only[execOp,amz,Qt hfv,abc,invoke];exact h1
    rw[Yf,Oper.uponIn_round];refine⟨λhd=>(by cases hd),RoundIn.mono h2 ?_⟩;rintro en w' ⟨u,Yj,rfl,h3,h4⟩;exact hn u w' Yj h3 h4
   ·cases h
  ·cases h
def Lk (hX:Full X P){ex:Ex}(hE:KK X P ex){r:Option Nat}{ops:Array Oper}{Q:Exit->Act->World->Prop}{out:Env×St}{n0:Nat} :
  ∀(k i:Nat) (e:Env) (s:St) (a:Act) (w:World) (σ:Sg),i+k=ops.size->J' X ex ops (ops.toList.drop i) e s=some out->(∀o∈ops.toList,Ig a.tmps.size o.dst)->Inv X σ s w n0 e a ->
   (∀a' w',Q_ X σ s w n0 a out.1 out.2 a' w'->Q .normal a' w')->wpOpsIn (FW r) 0 P ops Q (List.range' i k) a w
 |0,i,e,s,a,w,σ,hk,h,hd,I,hq=>by
  rw[List.drop_of_length_le F_] at h;simp only[J'] at h
  cases h
  exact hq _ _ (Q_.refl I)
 |k+1,i,e,s,a,w,σ,hk,h,hd,I,hq=>by
  have hi:i<ops.size:=J;have hl:ops.toList.drop i=ops[i]::ops.toList.drop (i+1):=by
   rw[aea (by simpa using hi)];simp
  rw[hl] at h;rw[List.range'_succ];simp only[wpOpsIn,aqz hi];have hdi:=hd ops[i] No;simp only[J'] at h;rw[CM I.env]
  split at h
  ·rename_i hw;rw[Of hw]
   split at h
   ·rename_i v s1 uE;refine KJ hX hE I uE λu w' Yj hv g=>?_
    have hA:=I.put g hdi hv;obtain⟨τ,gτ,Iτ,Vt⟩:=hA;exact Lk hX hE k (i+1) _ _ _ _ τ J h (λo ho=>by rw[Vt];exact hd o ho) Iτ λa' w'' hA'=>hq _ _ (hA'.trans gτ Vt)
   ·cases h
  ·rename_i hw;rw[O3 hw];refine⟨Pd,?_⟩;obtain⟨τ,gτ,Iτ,Vt⟩:=I.put (Good.refl I.hr) hdi (Qg (σ:=σ));exact Lk hX hE k (i+1) _ _ _ _ τ J h (λo ho=>by rw[Vt];exact hd o ho) Iτ λa' w'' hA'=>hq _ _ (hA'.trans gτ Vt)
def AO (X:Cx)(P:Program):Prop :=
 ∀ex,KK X P ex->∀(r:Option Nat) (ops:Array Oper) (e e':Env) (s s':St) (a:Act) (w:World) (σ:Sg) (n0 t:Nat) (Q:Exit->Act->World->Prop),
  N' X ex ops e s=some (e',s')->okD X ops=true->(∀o∈ops.toList,Ig a.tmps.size o.dst)->Inv X σ s w n0 e a->(∀a' w',Q_ X σ s w n0 a e' s' a' w'->Q .normal a' w') ->
  wpOpsIn (FW r) 0 P ops Q (Region.linearise .any ops t) a w
def aad {X:Cx}{σ:Sg}{s:St}{a:Act}{n0:Nat}(I:Inv X σ s w n0 e a)(fn:FuncId)(ps:Array Tmp)(assign body:Code)(ha:Stat.ok a.tmps.size assign)(hb:Stat.ok a.tmps.size body)(hp:∀t∈ps.toList,t<a.tmps.size) :
  Good σ s w (σ.add s.next ⟨w.heap.size+1,0,0⟩) (s.new (.loop 0 none e ps.toList assign body)) ((w.alloc (.deferred (some []))).alloc (.loop { state:=.ready,pending:=none,fn,tmps:=a.tmps,params:=ps,assign,body,defers:=w.heap.size })):=by
 have g0:=Good.af' I.hr (.deferred (some []));have hf:=I.fresh s.next (api _);have g1:=Good.new g0.hr hf (.loop 0 none e ps.toList assign body) No (.loop { state:=.ready,pending:=none,fn,tmps:=a.tmps,params:=ps,assign,body,defers:=w.heap.size }) 0 (by
  unfold BR;exact⟨rfl,rfl,I.env.mono (Sg.LI hf),rfl,rfl,rfl,ha,hb,hp⟩)
 have:(w.alloc (.deferred (some []))).heap.size=w.heap.size+1:=by simp
 rw[this] at g1;exact g0.trans g1
def Db {p:Option Code}{e e':Env}{out:Out}(h:J_ p e s=some (out,e',s')):e'=e/\s'=s/\((p=none/\out=.norm)\/(∃i,p=some (.exit i)/\out=.exit i)\/(p=some .ret/\out=.ret)):=by
 unfold J_ at h
 split at h <;> cases h
 ·exact⟨rfl,rfl,.inl ⟨rfl,rfl⟩⟩
 ·exact⟨rfl,rfl,.inr (.inl ⟨_,rfl,rfl⟩)⟩
 ·exact⟨rfl,rfl,.inr (.inr ⟨rfl,rfl⟩)⟩
def G_ (hX:Full X P){ex:Ex}(hE:KK X P ex){gop:Operand}{ps:Array Tmp}{assign body:Code}{e e':Env}{out:Out}(h:WO X ex (.rangeFunc gop ps assign body) e s=some (out,e',s'))
  {a:Act}{σ:Sg}{n0:Nat}(I:Inv X σ s w n0 e a)(XP:iP X none a.tmps.size (.rangeFunc gop ps assign body)) :
  (Code.rangeFunc gop ps assign body).wpIn (FW none) 0 P (ZC X σ s w n0 a out e' s') a w:=by
 obtain⟨n,hn,XP,_⟩:=XP;simp only[GQ,ahe,ap8,decide_eq_true_eq] at XP;obtain⟨⟨⟨⟨k1,k2⟩,k3⟩,k4⟩,k5⟩:=XP;have ha:Stat.ok a.tmps.size assign:=(hX.stat _ _).2 ⟨n,hn,k2,k4⟩;have hb:Stat.ok a.tmps.size body:=(hX.stat _ _).2 ⟨n,hn,k3,k5⟩;simp only[WO] at h
 split at h
 ·rename_i g first cap hf
  split at h
  ·rename_i KF;rw[aq1] at KF
   split at h
   ·rename_i rv s1 VY
    split at h
    ·rename_i st p e1 q1 a1 b1 l9
     split at h
     ·cases h
     ·rename_i W_;obtain⟨rfl,rfl,LH⟩:=Db h;have Qs:=TP I.glob I.env hf;simp only[ZY] at Qs;obtain⟨f',x',y',hfv,EL,hx,hy⟩:=Qs;simp only[Sm] at EL;subst EL;refine wpIn_rangeFunc λfn _=>?_
      have gl:=aad I fn ps assign body ha hb (λt ht=>Nat.lt_of_lt_of_le (k1 t ht) hn);have ao3:a.eval gop=.func (.func g) x' y':=by rw[S3];exact hfv
      have hle:=gl.ext.le;have agu:ZY (σ.add s.next ⟨w.heap.size+1,0,0⟩) (.fn (.yield s.next) [] []) (.func (.yield (w.heap.size+1)) #[] #[]):=by
       simp only[ZY];exact⟨_,_,_,rfl,by simp only[Sm];exact⟨_,Sg.Yc _ _ _,rfl⟩,by simp[ZZ],by simp[ZZ]⟩
      have Sw:ZZ (σ.add s.next ⟨w.heap.size+1,0,0⟩) (first++[.fn (.yield s.next) [] []]++cap) ((x'++#[Value.func (.yield (w.heap.size+1)) #[] #[]])++y').toList:=by
       simp only[Array.toList_append];exact ((ZZ.mono hle _ _ hx).append (Ja agu)).append (ZZ.mono hle _ _ hy)
      obtain⟨c1,c2⟩:=Nj hX hE KF VY gl.hr (gl.fresh I.fresh) (I.glob.mono hle) Sw;refine⟨w.heap.size+1,[{ target:=.collected w.heap.size,args:=#[] }],_,_,_,g,(x'++#[Value.func (.yield (w.heap.size+1)) #[] #[]])++y',(w.alloc (.deferred (some []))).alloc (.loop { state:=.ready,pending:=none,fn,tmps:=a.tmps,params:=ps,assign,body,defers:=w.heap.size }),run_enterLoop_outer fn a.tmps ps assign body,Qt ao3,λ_ _=>trivial,?_,λhd=>(by cases hd),?_⟩
      ·have hm:Array.map a.eval #[Operand.const (Value.func (.yield (w.heap.size+1)) #[] #[])]=#[Value.func (.yield (w.heap.size+1)) #[] #[]]:=by simp[Act.eval]
       simp only[invoke];rw[hm];exact c1
      ·refine JJ (El c2) ?_;rintro en w' ⟨u,Yj,rfl,_,g2⟩;have zl:=g2.ext.le.p _ _ (Sg.Yc σ s.next ⟨w.heap.size+1,0,0⟩);obtain⟨r1,yL,jH⟩:=JL g2.hr zl l9;have adG:=jH;simp only[BR] at adG;obtain⟨RX,akM,_⟩:=adG;have hnb:r1.state≠.busy:=by
        rw[RX];unfold RY
        split <;> simp_all
       have gp:=Ep g2.hr zl l9 yL 3 p;have hw:({ r1 with state:=RY 3,pending:=p }:Loop)={ r1 with state:=.exhausted }:=by
        rw[<-akM];rfl
       rw[hw] at gp;have gd:=Good.drop gp.hr (b:=s.next) (b0:=.loop 3 p e1 q1 a1 b1) (by rw[St.WS,Of rfl]);have g3:=(gl.trans (g2.trans gp)).trans gd;have g4:Good σ s w Yj (s1.put s.next .gone) _:=g3.congr (vh _ _ _) rfl rfl;have hD0:DF n0 (σ.add s.next ⟨w.heap.size+1,0,0⟩) ((w.alloc (.deferred (some []))).alloc (.loop { state:=.ready,pending:=none,fn,tmps:=a.tmps,params:=ps,assign,body,defers:=w.heap.size })) ([{ target:=.collected w.heap.size,args:=#[] }]++a.defers):=by
        obtain⟨rs,CJ,Ax,hm⟩:=I.df.good gl;obtain⟨rs0,akN,ao4,hm0⟩:=I.df;refine⟨w.heap.size::rs0,by simp[akN],aqW.2 ⟨λTD=>?_,ao4⟩,λr' T8=>?_⟩
        ·have:=(apV.1 (hm0 _ TD).2.1).1;omega
        ·rcases ap9.1 T8 with rfl|T8
         ·refine⟨I.n0,?_,λi q hq=>?_,?_⟩
          ·simp only[World.alloc];rw[aqL,O3 No];simp
          ·by_cases hi:i=s.next
           ·subst hi;rw[Sg.Yc] at hq;cases hq;simp
           ·rw[Sg.Wo _ _ hi] at hq;have:=I.hr.lt i q hq;omega
          ·show σ.fz w.heap.size=none
           cases hz:σ.fz w.heap.size with
           |none=>rfl
           |some o =>
            have:=(apV.1 (I.hr.fz _ o hz).1).1;omega
         ·have heq:rs=rs0:=by
           have:=CJ.symm.trans akN;exact List.map_inj_right (by intro x y hxy;simpa using hxy) |>.1 this
          subst heq;exact hm r' T8
       have I':Inv X Yj (s1.put s.next .gone) (w'.putObj (w.heap.size+1) (.loop { r1 with state:=.exhausted })) n0 e' { a with defers:=[{ target:=.collected w.heap.size,args:=#[] }]++a.defers } :=
        ⟨g4.hr,g4.fresh I.fresh,I.glob.mono g4.ext.le,I.env.mono g4.ext.le,((hD0.good g2).good gp).good gd,aqM I.n0 g4.ext.size⟩
       have hA:Q_ X σ s w n0 a e' (s1.put s.next .gone) { a with defers:=[{ target:=.collected w.heap.size,args:=#[] }]++a.defers } (w'.putObj (w.heap.size+1) (.loop { r1 with state:=.exhausted })):=⟨Yj,g4,I',rfl⟩;refine⟨p,w'.putObj (w.heap.size+1) (.loop { r1 with state:=.exhausted }),(run_endLoop yL hnb).trans (congrArg (λx=>Result.ok x _) akM),?_⟩;rcases LH with⟨rfl,rfl⟩|⟨i,rfl,rfl⟩|⟨rfl,rfl⟩
       ·exact⟨trivial,hA⟩
       ·exact wpIn_exit ⟨rfl,hA⟩
       ·exact wpIn_ret ⟨trivial,hA⟩
    ·cases h
   ·cases h
  ·cases h
 ·cases h
end
end Go.Am
namespace Go.Am
open Go
section
variable [Stat]
variable {X:Cx}{P:Program}
def vt (hX:Full X P)(hD:AO X P){ex:Ex}(hE:KK X P ex):KK X P (WO X ex):=by
 intro c e s out e' s' h r n0 a w σ XP I
 cases c with
 |loop b =>
  simp only[WO] at h;have qU:∀a':Act,a'.tmps.size=a.tmps.size->iP X r a'.tmps.size b:=λa' ha'=>by
   obtain⟨n,h1,h2,h3⟩:=XP;exact⟨n,by rw[ha'];exact h1,by simpa[GQ] using h2,λh=>by simpa[PJ] using h3 h⟩
  have aou:∀a':Act,a'.tmps.size=a.tmps.size->iP X r a'.tmps.size (.loop b):=λa' ha'=>by rw[ha'];exact XP
  show Px (FW r) 0 P b _ a w;refine vC ?_
  split at h
  ·rename_i e1 s1 h1;refine wpIn_mono (hE _ _ _ _ _ _ h1 r n0 a w σ (qU a rfl) I).wpIn ?_;rintro en a1 w1 ⟨hx,G3,g1,i1,RX⟩
   cases en <;> simp only[QH] at hx
   have:=hE _ _ _ _ _ _ h r n0 a1 w1 G3 (aou a1 RX) i1;have h2:Px (FW r) 0 P b (ZC X G3 s1 w1 n0 a1 out e' s') a1 w1:=this;show Px (FW r) 0 P b _ a1 w1;intro b' k cs hro hb hr;obtain⟨e2,a2,w2,⟨hq1,hq2⟩,Ng⟩:=h2 b' k cs hro hb hr;exact⟨e2,a2,w2,⟨hq1,hq2.trans g1 RX⟩,Ng⟩
  ·rename_i ZB;refine wpIn_mono (hE _ _ _ _ _ _ h r n0 a w σ (qU a rfl) I).wpIn ?_;rintro en a1 w1 ⟨hx,hA⟩
   cases out with
   |norm=>exact absurd h (ZB _ _)
   |exit i=>cases en <;> simp only[QH] at hx;exact⟨hx,hA⟩
   |ret=>cases en <;> simp only[QH] at hx;exact⟨hx,hA⟩
 |skip =>
  simp only[WO] at h;cases h;exact wpIn_skip ⟨trivial,Q_.refl I⟩
 |label l =>
  simp only[WO] at h;cases h;exact wpIn_label ⟨trivial,Q_.refl I⟩
 |exit i =>
  simp only[WO] at h;cases h;exact wpIn_exit ⟨rfl,Q_.refl I⟩
 |ret =>
  simp only[WO] at h;cases h;exact wpIn_ret ⟨trivial,Q_.refl I⟩
 |region id ops d =>
  have yH:∀o∈ops.toList,Ig a.tmps.size o.dst:=by
   obtain⟨n,h1,h2,_⟩:=XP;simp only[GQ,ahe,ap8] at h2;intro o ho t ht;have:=h2.1 o ho;rw[ht] at this;simp only[decide_eq_true_eq] at this;exact Nat.lt_of_lt_of_le this h1
  simp only[WO] at h
  cases d with
  |false =>
   simp only[aqa,if_false] at h
   split at h
   ·rename_i e1 s1 h1
    cases h
    show Code.wpIn _ _ _ _ _ _ _;refine wpIn_region ?_;rw[List.range_eq_range'];exact Lk hX hE ops.size 0 e s a w σ J (by simpa using h1) yH I λa' w' hA=>⟨trivial,hA⟩
   ·cases h
  |true =>
   simp only[if_true] at h
   split at h
   ·rename_i e1 s1 h1
    cases h
    show Code.wpIn _ _ _ _ _ _ _;refine wpIn_region_draw λt=>?_
    obtain⟨n,_,h2,_⟩:=XP;simp only[GQ,ahe,aqB,aqE] at h2;have I':Inv X σ s { w with drawn:=w.drawn+1 } n0 e a:=⟨I.hr.of_heap rfl,I.fresh,I.glob,I.env,I.df,I.n0⟩;have aov:Region.schedule (P.follows .mixedOrders) ops t=Region.linearise .any ops t:=by
     unfold Region.schedule;rw[hX.mixed];simp
    rw[aov];refine hD ex hE r ops e _ s _ a _ σ n0 t _ h1 h2.2 yH I' ?_;rintro a' w' ⟨Yj,g,i',hs⟩;refine⟨trivial,Yj,?_,i',hs⟩;exact Good.gn (w:=w) g
   ·cases h
 |seq x y =>
  have akc:iP X r a.tmps.size x:=by
   obtain⟨n,h1,h2,h3⟩:=XP;simp only[GQ,ahe] at h2;exact⟨n,h1,h2.1,λh=>by have:=h3 h;simp only[PJ,ahe] at this;exact this.1⟩
  have aow:∀m,m=a.tmps.size->iP X r m y:=by
   rintro m rfl;obtain⟨n,h1,h2,h3⟩:=XP;simp only[GQ,ahe] at h2;exact⟨n,h1,h2.2,λh=>by have:=h3 h;simp only[PJ,ahe] at this;exact this.2⟩
  simp only[WO] at h;show Code.wpIn _ _ _ _ _ _ _;refine wpIn_seq ?_
  split at h
  ·rename_i e1 s1 h1;refine wpIn_mono (hE _ _ _ _ _ _ h1 r n0 a w σ akc I).wpIn ?_;rintro en a1 w1 ⟨hx,G3,g1,i1,RX⟩
   cases en <;> simp only[QH] at hx
   refine wpIn_mono (hE _ _ _ _ _ _ h r n0 a1 w1 G3 (aow _ RX) i1).wpIn ?_;rintro oB a2 w2 ⟨hq1,hq2⟩;exact⟨hq1,hq2.trans g1 RX⟩
  ·rename_i ZB;refine wpIn_mono (hE _ _ _ _ _ _ h r n0 a w σ akc I).wpIn ?_;rintro en a1 w1 ⟨hx,hA⟩
   cases out with
   |norm=>exact absurd h (ZB _ _)
   |exit i=>cases en <;> simp only[QH] at hx;exact⟨hx,hA⟩
   |ret=>cases en <;> simp only[QH] at hx;exact⟨hx,hA⟩
 |cond c x y =>
  have akd:iP X r a.tmps.size x/\iP X r a.tmps.size y:=by
   obtain⟨n,h1,h2,h3⟩:=XP;simp only[GQ,ahe] at h2;exact⟨⟨n,h1,h2.1,λh=>by have:=h3 h;simp only[PJ,ahe] at this;exact this.1⟩,
    ⟨n,h1,h2.2,λh=>by have:=h3 h;simp only[PJ,ahe] at this;exact this.2⟩⟩
  simp only[WO] at h;show Code.wpIn _ _ _ _ _ _ _
  split at h
  ·rename_i hc;have:=WC (TP I.glob I.env hc);exact wpIn_cond_true (by rw[S3];exact this) (hE _ _ _ _ _ _ h r n0 a w σ akd.1 I).wpIn
  ·rename_i hc;have:=WC (TP I.glob I.env hc);exact wpIn_cond_false (by rw[S3];exact this) (hE _ _ _ _ _ _ h r n0 a w σ akd.2 I).wpIn
  ·cases h
 |block id b =>
  have qU:iP X r a.tmps.size b:=by
   obtain⟨n,h1,h2,h3⟩:=XP;exact⟨n,h1,by simpa[GQ] using h2,λh=>by simpa[PJ] using h3 h⟩
  simp only[WO] at h;show Code.wpIn _ _ _ _ _ _ _;refine wpIn_block ?_
  split at h
  ·rename_i i e1 s1 h1;refine wpIn_mono (hE _ _ _ _ _ _ h1 r n0 a w σ qU I).wpIn ?_;rintro en a1 w1 ⟨hx,hA⟩
   cases en <;> simp only[QH] at hx
   subst hx
   split at h
   ·rename_i hid
    cases h
    simp only[Exit.inBlock,hid,if_true];exact⟨trivial,hA⟩
   ·rename_i hid
    cases h
    simp only[Exit.inBlock,hid,if_false];exact⟨rfl,hA⟩
  ·rename_i ZB;refine wpIn_mono (hE _ _ _ _ _ _ h r n0 a w σ qU I).wpIn ?_;rintro en a1 w1 ⟨hx,hA⟩
   cases out with
   |norm=>cases en <;> simp only[QH] at hx;exact⟨trivial,hA⟩
   |exit i=>exact absurd h (ZB _ _ _)
   |ret=>cases en <;> simp only[QH] at hx;exact⟨trivial,hA⟩
 |scope b =>
  have qU:iP X r a.tmps.size b:=by
   obtain⟨n,h1,h2,h3⟩:=XP;exact⟨n,h1,by simpa[GQ] using h2,λh=>by simpa[PJ] using h3 h⟩
  simp only[WO] at h;show Code.wpIn _ _ _ _ _ _ _;refine qV (wpIn_mono (hE _ _ _ _ _ _ h r n0 a w σ qU I).wpIn ?_);rintro en a1 w1 ⟨hx,hA⟩
  cases en with
  |goto l=>cases out <;> simp only[QH] at hx
  |_=>exact⟨hx,hA⟩
 |rangeFunc g ps assign body =>
  show Code.wpIn _ _ _ _ _ _ _
  cases r with
  |none=>exact G_ hX hE h I XP
  |some l =>
   obtain⟨n,_,_,h3⟩:=XP;have:=h3 rfl;simp[PJ] at this
 |_=>simp only[WO] at h;cases h
def Ed (hX:Full X P)(hD:AO X P):∀n,KK X P (exec X n)
 |0=>by intro c e s out e' s' h;simp[exec] at h
 |n+1=>vt hX hD (Ed hX hD n)
def mW (hX:Full X P)(hD:AO X P){n:Nat}{f:FuncId}(KF:X.ext f=none){args:List AV}{s s':St}{v:AV}(h:run X n f args s=some (v,s')){σ:Sg}{w:World}{us:Array Value}
  (H:HR σ s w)(F:SY σ s)(G:Wp X σ)(hv:ZZ σ args us.toList):Calls P f us w λen w'=>∃u Yj,en=.returned u/\ZY Yj v u/\Good σ s w Yj s' w' :=
 (Nj hX (Ed hX hD n) KF h H F G hv).2
end
end Go.Am
