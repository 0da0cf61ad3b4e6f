/- A part of the proof of a statement of this seat: the machine on which the program is read, and what it computes; for every input. -/
import GoSem.Dispatch
import Derived.RowKit3
import Derived.Laws.OwnMore
import Derived.Laws.Sem
import Derived.Laws.Strings
import Derived.Laws.StructEq
import Derived.Laws.Slices
import Derived.Laws.Cells
import Derived.Laws.BytesString
import Derived.Laws.Entries
import Derived.Laws.Bits
import Derived.RangeFuncLeaves
import Derived.Orders
import Derived.RangeFuncCalls
import Derived.Scope
import Derived.RangeFuncRecord
set_option linter.all false
namespace Go.Am
def aaa:=@List.getElem?_eq_getElem
def aab:=@List.mem_cons_of_mem
def aba:=@List.mem_cons_self
def abc:=@List.drop_eq_getElem_cons
def adm:=@Bool.and_eq_true
def ajc:=@List.getElem_mem
def ajd:=@Array.getElem?_eq_some_iff
def aje:=@List.length_map
def ajf:=@Nat.add_assoc
def ajg:=@Nat.le_refl
def ajh:=@List.length_append
def aji:=@Nat.zero_le
def ajj:=@Nat.mul_one
def ajk:=@List.length_cons
def ajl:=@List.getD_eq_getElem?_getD
def ajm:=@List.mem_singleton
def ajn:=@Bool.false_eq_true
def ajo:=@List.mem_cons
def ajp:=@Nat.lt_irrefl
def ajq:=@List.all_eq_true
def ajr:=@Nat.zero_add
def ajs:=@List.mem_map
def ajt:=@List.getElem?_eq_some_iff
def aju:=@List.map_cons
def ajv:=@List.getElem?_map
def ajw:=@List.mem_iff_getElem
def ajx:=@Array.length_toList
def ajy:=@List.drop_length
def ajz:=@List.cons_append
def ajA:=@List.map_append
def ajB:=@Nat.one_mul
def ajC:=@List.take_succ_eq_append_getElem
def ajD:=@Int.toNat_natCast
def ajE:=@List.mem_range
def ajF:=@Bool.true_and
def ajG:=@List.append_nil
def ajH:=@Array.getD_eq_getD_getElem?
def ajI:=@List.length_eq_zero_iff
def ajJ:=@Bool.or_eq_false_iff
def ajK:=@Array.getElem?_toList
def ajL:=@List.flatMap_cons
def ajM:=@List.getElem?_append_left
def ajN:=@Array.getElem?_eq_getElem
def ajO:=@List.getElem?_cons_succ
def ajP:=@List.nil_append
def ajQ:=@List.append_assoc
def ajR:=@List.length_singleton
def ajS:=@List.drop_zero
def ajT:=@Bool.not_true
def ajU:=@Bool.false_or
def ajV:=@List.map_congr_left
def ajW:=@Array.getElem?_push
def ajX:=@List.mem_append
def ajY:=@Bool.not_false
def ajZ:=@Bool.false_and
def aj0:=@List.length_set
def aj1:=@List.mem_of_getElem?
def aj2:=@List.length_take
def aj3:=@Bool.not_eq_true'
def aj4:=@Bool.eq_iff_iff
def aj5:=@List.drop_left
def aj6:=@Option.map_eq_some_iff
def aj7:=@Nat.mul_le_mul_right
def aj8:=@List.nodup_cons
def aj9:=@List.getElem_append_left
def aka:=@Nat.le_trans
def akb:=@List.getElem?_eq_none
def akc:=@List.getElem?_append_right
def akd:=@Option.isNone_iff_eq_none
def ake:=@List.getElem_append_right
def akf:=@Nat.add_mul
def akg:=@Nat.lt_of_le_of_lt
def akh:=@Array.getElem?_setIfInBounds
def aki:=@Option.map_some
def akj:=@Bool.or_eq_true
def akk:=@Option.getD_some
open Go
inductive AV where
 |bool (b:Bool)|int (k:IntKind) (n:Int)|Cr (k:FloatKind) (bits:Nat)|str (s:List UInt8)
 |VI|ptr (b o:Nat)
 |ZM|sl (b o len:Nat) (cap:Option Nat) (Wa:Nat)
 |QP|map (r:Nat)|Wt|fn (f:Fn) (first cap:List AV)
 |Ul|iface (t:TypeId) (v:AV)|agg (cs:List AV)|XF (vs:List AV)
 |fz (es:List AV)|fp (cs:List AV) (o:Nat)|fm (ks vs:List AV)
 deriving Inhabited
inductive Tr (α:Type) where
 |nil
 |n (v:Option α) (l r:Tr α)
def Tr.get {α:Type}:Tr α->Nat->Option α
 |.nil,_=>none
 |.n v l r,k=>match k with
  |0=>v
  |k'+1=>cond (Nat.beq (k'%2) 0) (l.get (k' / 2)) (r.get (k' / 2))
def Tr.Qc {α:Type}:Nat->Tr α->Nat->α->Tr α
 |0,t,_,_=>t
 |f+1,.nil,k,x=>match k with
  |0=>.n (some x) .nil .nil
  |k'+1=>cond (Nat.beq (k'%2) 0) (.n none (Tr.Qc f .nil (k' / 2) x) .nil) (.n none .nil (Tr.Qc f .nil (k' / 2) x))
 |f+1,.n v l r,k,x=>match k with
  |0=>.n (some x) l r
  |k'+1=>cond (Nat.beq (k'%2) 0) (.n v (Tr.Qc f l (k' / 2) x) r) (.n v l (Tr.Qc f r (k' / 2) x))
def Tr.set {α:Type}(t:Tr α)(k:Nat)(x:α):Tr α:=Tr.Qc (k+1) t k x
abbrev Env:=Tr AV
inductive Vr where
 |cells (c:List AV) (elem:TypeId) (ro:Bool) (PQ QO:Nat)
 |gone
 |map (es:List (AV×AV)) (ro:Bool)
 |iter (s:List UInt8) (pos:Nat)
 |loop (state:Nat) (pending:Option Code) (env:Env) (params:List Tmp) (assign body:Code)
structure St where
 t:Tr Vr
 base:Nat->Option Vr
 next:Nat
def St.get (s:St)(b:Nat):Option Vr:=match s.t.get b with
 |some x=>some x
 |none=>s.base b
def St.put (s:St)(b:Nat)(x:Vr):St:={ s with t:=s.t.set b x }
def St.new (s:St)(x:Vr):St:={ s with t:=s.t.set s.next x,next:=s.next+1 }
structure Cx where
 Zj:TypeId->Option TypeDesc
 inf:TypeId->Option TypeInfo
 fn:FuncId->Option Func
 glob:Nat
 BU:TypeId->Bool
 ext:FuncId->Option (List AV->St->Option (AV×St))
 Na:Nat->Option Vr
 pure:FuncId->Bool
 spec:TypeId->Bool
def undef:AV:=.XF []
def Env.get (e:Env)(t:Tmp):AV:=match Tr.get e t with
 |some v=>v
 |none=>undef
def o9:Nat->Value->Option AV
 |0,_=>none
 |n+1,v=>match v with
  |.bool b=>some (.bool b)
  |.int k i=>some (.int k i)
  |.float k b=>some (.Cr k b)
  |.string s=>some (.str s.data.toList)
  |.pointer none=>some .VI
  |.slice none 0 0=>some .ZM
  |.map none=>some .QP
  |.nilFunc=>some .Wt
  |.nilIface=>some .Ul
  |.agg cs=>(cs.toList.mapM (o9 n)).map .agg
  |.tuple cs=>(cs.toList.mapM (o9 n)).map .XF
  |_=>none
def AV.cells:AV->List AV
 |.agg cs=>cs
 |v=>[v]
mutual
def same:AV->AV->Bool
 |.bool a,.bool b=>a==b
 |.int k a,.int j b=>decide (k=j)&&a==b
 |.Cr k a,.Cr j b=>decide (k=j)&&a==b
 |.str a,.str b=>a==b
 |.VI,.VI=>true
 |.ptr a b,.ptr c d=>a==c&&b==d
 |.ZM,.ZM=>true
 |.sl a b c d e,.sl a' b' c' d' e'=>a==a'&&b==b'&&c==c'&&d==d'&&e==e'
 |.QP,.QP=>true
 |.map a,.map b=>a==b
 |.Wt,.Wt=>true
 |.fn f x y,.fn g x' y'=>decide (f=g)&&Ww x x'&&Ww y y'
 |.Ul,.Ul=>true
 |.iface t x,.iface u y=>t==u&&same x y
 |.agg a,.agg b=>Ww a b
 |.XF a,.XF b=>Ww a b
 |.fz a,.fz b=>Ww a b
 |.fp a o,.fp b o'=>o==o'&&Ww a b
 |.fm a b,.fm a' b'=>Ww a a'&&Ww b b'
 |_,_=>false
def Ww:List AV->List AV->Bool
 |[],[]=>true
 |a::x,b::y=>same a b&&Ww x y
 |_,_=>false
end
section
variable (X:Cx)
def eval (e:Env):Operand->Option AV
 |.tmp t=>some (Env.get e t)
 |.const v=>o9 3 v
 |.global g=>if g<X.glob then some (.ptr g 0) else none
 |.func f=>some (.fn (.func f) [] [])
def size (t:TypeId):Option Nat:=match X.inf t with
 |some i=>some i.size
 |none=>none
def YB (t:TypeId):Option Bool:=match X.Zj t with
 |some (.struct _)=>some true
 |some (.array _ _)=>some true
 |some _=>some false
 |none=>none
def zero (t:TypeId):Option AV:=match X.inf t with
 |some i=>match i.zero with
  |some z=>o9 3 z
  |none=>none
 |none=>none
def St.cells (s:St)(b:Nat):Option (List AV):=match s.get b with
 |some (.cells c _ _ _ _)=>some c
 |_=>none
def XE:Nat->Nat->List AV->Option (List AV)
 |0,_,_=>some []
 |_+1,_,[]=>none
 |n+1,0,x::l=>match XE n 0 l with
  |some r=>some (x::r)
  |none=>none
 |n+1,o+1,_::l=>XE (n+1) o l
def lay:Nat->List AV->List AV->Option (List AV)
 |_,[],l=>some l
 |_,_::_,[]=>none
 |0,v::vs,_::l=>match lay 0 vs l with
  |some r=>some (v::r)
  |none=>none
 |o+1,v::vs,x::l=>match lay o (v::vs) l with
  |some r=>some (x::r)
  |none=>none
def cell (s:St)(b o:Nat):Option AV:=match s.cells b with
 |some c=>c[o]?
 |none=>none
def Vb (t:TypeId)(a:AV)(s:St):Option AV:=match a with
 |.ptr b o=>match YB X t with
  |some true=>match size X t,s.cells b with
   |some n,some c=>match XE n o c with
    |some r=>some (.agg r)
    |none=>none
   |_,_=>none
  |some false=>cell s b o
  |none=>none
 |.fp c o=>match YB X t with
  |some true=>match size X t with
   |some n=>match XE n o c with
    |some r=>some (.agg r)
    |none=>none
   |none=>none
  |some false=>c[o]?
  |none=>none
 |_=>none
def Zx:AV->Bool
 |.agg _=>false
 |.XF _=>false
 |_=>true
def Xo (s:St)(b o:Nat)(vs:List AV):Option St:=match s.get b with
 |some (.cells c e false PQ QO) =>
  if (o+vs.length<=PQ||QO<=o)&&vs.all Zx then
   match lay o vs c with
   |some c'=>some (s.put b (.cells c' e false PQ QO))
   |none=>none
  else none
 |_=>none
def Nw (t:TypeId)(a v:AV)(s:St):Option St:=match a with
 |.ptr b o=>match size X t with
  |some n=>if v.cells.length=n then Xo s b o v.cells else none
  |none=>none
 |_=>none
def Ss (t:TypeId)(cs:List AV)(off:Nat):Option AV:=match YB X t with
 |some true=>match size X t with
  |some n=>match XE n off cs with
   |some r=>some (.agg r)
   |none=>none
  |none=>none
 |some false=>cs[off]?
 |none=>none
def My (place:Nat->Option (Nat×Nat))(cells:List AV):List (Nat×AV)->Option (List AV)
 |[]=>some cells
 |(i,v)::rest=>match place i with
  |none=>none
  |some (off,n)=>if v.cells.length=n/\off+n<=cells.length then
    match lay off v.cells cells with
    |some c=>My place c rest
    |none=>none
   else none
def Wk (e:Env):List (Nat×Operand)->Option (List (Nat×AV))
 |[]=>some []
 |(i,x)::l=>match eval X e x,Wk e l with
  |some v,some r=>some ((i,v)::r)
  |_,_=>none
def Wz (e:Env):List Operand->Option (List AV)
 |[]=>some []
 |x::l=>match eval X e x,Wz e l with
  |some v,some r=>some (v::r)
  |_,_=>none
def Vk:Nat->List AV->List AV
 |0,_=>[]
 |n+1,l=>l++Vk n l
def OG:List Field->Option (List (Nat×Nat))
 |[]=>some []
 |f::l=>match size X f.type,OG l with
  |some n,some r=>some ((f.offset,n)::r)
  |_,_=>none
def Ir (t:TypeId)(parts:List (Nat×AV)):Option AV:=match zero X t with
 |some (.agg z)=>match X.Zj t with
  |some (.struct fs)=>match OG X fs.toList with
   |some pl=>match My (fun i=>pl[i]?) z parts with
    |some c=>some (.agg c)
    |none=>none
   |none=>none
  |some (.array _ elem)=>match size X elem with
   |some n=>match My (fun i=>some (i*n,n)) z parts with
    |some c=>some (.agg c)
    |none=>none
   |none=>none
  |_=>none
 |_=>none
def VS (s:St)(c:List AV)(e:TypeId):AV×St:=(.ptr s.next 0,s.new (.cells c e false 0 0))
def UH (t:TypeId)(len:Nat)(parts:List (Nat×AV))(s:St):Option (AV×St):=match X.Zj t with
 |some (.slice elem)=>match size X elem,zero X elem with
  |some n,some z =>
   if z.cells.length=n/\n≠0/\len*n<=2^24 then match My (fun i=>some (i*n,n)) (Vk len z.cells) parts with
   |some c=>some (.sl s.next 0 len (some len) n,s.new (.cells c elem false 0 0))
   |none=>none
   else none
  |_,_=>none
 |_=>none
def Tk:List UInt8->List UInt8->Bool
 |_,[]=>false
 |[],_::_=>true
 |a::x,b::y=>a<b||(a==b&&Tk x y)
def QQ (f:AV->AV->Option Bool)(cut:Nat->List AV->Option AV)(n:Nat):Nat->Nat->List AV->List AV->Option Bool
 |0,_,_,_=>some true
 |k+1,i,a,b=>match cut (i*n) a,cut (i*n) b with
  |some x,some y=>match f x y with
   |some true=>QQ f cut n k (i+1) a b
   |some false=>some false
   |none=>none
  |_,_=>none
def OI (f:TypeId->AV->AV->Option Bool)(cut:TypeId->Nat->List AV->Option AV):List Field->List AV->List AV->Option Bool
 |[],_,_=>some true
 |fd::fs,a,b=>if fd.name = "_" then none else match cut fd.type fd.offset a,cut fd.type fd.offset b with
  |some x,some y=>match f fd.type x y with
   |some true=>OI f cut fs a b
   |some false=>some false
   |none=>none
  |_,_=>none
def yG:Nat->TypeId->AV->AV->Option Bool
 |0,_,_,_=>none
 |d+1,t,x,y=>match X.Zj t,x,y with
  |some .bool,.bool a,.bool b=>some (a==b)
  |some (.int _),.int k a,.int k' b=>if k=k' then some (a==b) else none
  |some .string,.str a,.str b=>some (a==b)
  |some (.pointer _),.VI,.VI=>some true
  |some (.pointer _),.VI,.ptr _ _=>some false
  |some (.pointer _),.ptr _ _,.VI=>some false
  |some (.pointer e),.ptr b o,.ptr b' o'=>match size X e with
   |some (_+1)=>if b=b' then some (o==o') else none
   |_=>none
  |some (.slice _),.ZM,.ZM=>some true
  |some (.slice _),.ZM,.sl ..=>some false
  |some (.slice _),.sl ..,.ZM=>some false
  |some (.slice _),.ZM,.fz _=>some false
  |some (.slice _),.fz _,.ZM=>some false
  |some (.map _ _),.QP,.QP=>some true
  |some (.map _ _),.QP,.map _=>some false
  |some (.map _ _),.map _,.QP=>some false
  |some (.func _ _ _),.Wt,.Wt=>some true
  |some (.func _ _ _),.Wt,.fn ..=>some false
  |some (.func _ _ _),.fn ..,.Wt=>some false
  |some (.interface _),.Ul,.Ul=>some true
  |some (.interface _),.Ul,.iface ..=>some false
  |some (.interface _),.iface ..,.Ul=>some false
  |some (.struct fs),.agg a,.agg b=>if X.BU t then OI (yG d) (fun t o l=>Ss X t l o) fs.toList a b else none
  |some (.array len e),.agg a,.agg b=>match size X e with
   |some n=>QQ (yG d e) (fun o l=>Ss X e l o) n len 0 a b
   |none=>none
  |_,_,_=>none
def ET (cst:Bool)(t:TypeId)(x y:AV):Option Bool:=match x,y with
 |.Ul,.Ul=>if cst then yG X 20 t .Ul .Ul else none
 |.agg a,.agg b=>if X.BU t then yG X 20 t (.agg a) (.agg b) else none
 |x,y=>yG X 20 t x y
def Ur:Operand->Bool
 |.const _=>true
 |_=>false
def K' (op:BinOp)(k:IntKind)(x y:Int):Option AV :=
 if y<0 then none else
 let n:=min y.toNat k.bits
 match op with
 |.shl=>some (.int k (k.wrap (x*2^n)))
 |.shr=>some (.int k (x.fdiv (2^n)))
 |_=>none
def Pp (op:BinOp)(k:IntKind)(x y:Int):Option AV:=match op with
 |.add=>some (.int k (k.wrap (x+y)))
 |.sub=>some (.int k (k.wrap (x-y)))
 |.mul=>some (.int k (k.wrap (x*y)))
 |.quo=>if y=0 then none else some (.int k (k.wrap (x.tdiv y)))
 |.rem=>if y=0 then none else some (.int k (x.tmod y))
 |.and=>some (.int k (k.wrap ((BitVec.ofInt k.bits x &&& BitVec.ofInt k.bits y).toNat)))
 |.or=>some (.int k (k.wrap ((BitVec.ofInt k.bits x ||| BitVec.ofInt k.bits y).toNat)))
 |.xor=>some (.int k (k.wrap ((BitVec.ofInt k.bits x ^^^ BitVec.ofInt k.bits y).toNat)))
 |.andNot=>some (.int k (k.wrap ((BitVec.ofInt k.bits x &&& ~~~ BitVec.ofInt k.bits y).toNat)))
 |.eql=>some (.bool (x==y))
 |.neq=>some (.bool (x != y))
 |.lss=>some (.bool (x<y))
 |.leq=>some (.bool (x<=y))
 |.gtr=>some (.bool (x>y))
 |.geq=>some (.bool (x>=y))
 |_=>none
def nV (op:BinOp)(x y:List UInt8):Option AV:=match op with
 |.add=>if x.length+y.length<2^62 then some (.str (x++y)) else none
 |.eql=>some (.bool (x==y))
 |.neq=>some (.bool !(x==y))
 |.lss=>some (.bool (Tk x y))
 |.leq=>some (.bool (Tk x y||x==y))
 |.gtr=>some (.bool !(Tk x y||x==y))
 |.geq=>some (.bool !(Tk x y))
 |_=>none
def aaj (op:BinOp)(k:FloatKind)(a b:Nat):Option AV:=match op with
 |.eql=>some (.bool (k.format.order a b==some .eq))
 |.neq=>some (.bool (k.format.order a b != some .eq))
 |.lss=>some (.bool (k.format.order a b==some .lt))
 |.leq=>some (.bool (k.format.order a b==some .lt||k.format.order a b==some .eq))
 |.gtr=>some (.bool (k.format.order a b==some .gt))
 |.geq=>some (.bool (k.format.order a b==some .gt||k.format.order a b==some .eq))
 |.add=>(k.format.add a b).map (.Cr k)
 |.sub=>(k.format.sub a b).map (.Cr k)
 |.mul=>(k.format.mul a b).map (.Cr k)
 |.quo=>(k.format.div a b).map (.Cr k)
 |_=>none
def WO (op:BinOp)(t:TypeId)(cst:Bool)(x y:AV):Option AV:=match op,x,y with
 |.shl,.int k a,.int _ b=>K' .shl k a b
 |.shr,.int k a,.int _ b=>K' .shr k a b
 |op,.int k a,.int k' b=>if k=k' then Pp op k a b else none
 |op,.str a,.str b=>nV op a b
 |op,.Cr k a,.Cr k' b=>if k=k' then aaj op k a b else none
 |.eql,x,y=>match ET X cst t x y with|some b=>some (.bool b)|none=>none
 |.neq,x,y=>match ET X cst t x y with|some b=>some (.bool !b)|none=>none
 |_,_,_=>none
def unA (op:UnOp)(x:AV):Option AV:=match op,x with
 |.neg,.int k n=>some (.int k (k.wrap (0-n)))
 |.xor,.int k n=>Pp .xor k (if k.signed then -1 else k.max) n
 |.not,.bool b=>some (.bool !b)
 |_,_=>none
def Xn:List AV->Option (List UInt8)
 |[]=>some []
 |.int .u8 n::l=>match Xn l with
  |some r=>some (UInt8.ofNat n.toNat::r)
  |none=>none
 |_=>none
def Tv (src dst:TypeId)(x:AV)(s:St):Option (AV×St):=match X.Zj src,X.Zj dst,x with
 |some _,some (.int k),.int _ n=>some (.int k (k.wrap n),s)
 |some _,some .string,.int _ n=>some (.str (Utf8.encode n).data.toList,s)
 |some _,some .string,.str b=>some (.str b,s)
 |some _,some (.slice e),.str b=>match X.Zj e with
  |some (.int .u8)=>some (.sl s.next 0 b.length none 1,s.new (.cells (b.map fun c=>.int .u8 c.toNat) e false 0 0))
  |_=>none
 |some (.slice e),some .string,x=>match X.Zj e with
  |some (.int .u8)=>match x with
   |.ZM=>some (.str [],s)
   |.sl b o len _ _=>match s.cells b with
    |some c=>match XE len o c with
     |some r=>match Xn r with
      |some bs=>some (.str bs,s)
      |none=>none
     |none=>none
    |none=>none
   |.fz es=>match Xn es with
    |some bs=>some (.str bs,s)
    |none=>none
   |_=>none
  |_=>none
 |_,_,_=>none
def YR (x:Option AV)(ye y:Nat):Option Nat:=match x with
 |none=>some ye
 |some (.int _ i)=>if 0<=i/\i<=y then some i.toNat else none
 |_=>none
def QH (t:TypeId)(x:AV)(lo hi mx:Option AV):Option AV:=match X.Zj t,x with
 |some .string,.str b=>match mx,YR hi b.length b.length with
  |none,some h=>match YR lo 0 h with
   |some l=>some (.str ((b.take h).drop l))
   |none=>none
  |_,_=>none
 |some (.slice e),.sl b o len cap Wa=>match size X e,mx with
  |some n,none=>match YR hi len (cap.getD len) with
   |some h=>match YR lo 0 h with
    |some l=>some (.sl b (o+l*n) (h-l) (cap.map (·-l)) (if Wa=n then n else 0))
    |none=>none
   |none=>none
  |some n,some m=>match YR (some m) 0 (cap.getD len),hi with
   |some m',some _=>match YR hi 0 m' with
    |some h=>match YR lo 0 h with
     |some l=>some (.sl b (o+l*n) (h-l) (some (m'-l)) (if Wa=n then n else 0))
     |none=>none
    |none=>none
   |_,_=>none
  |none,_=>none
 |some (.slice e),.ZM=>match size X e,mx,YR hi 0 0 with
  |some _,none,some h=>match YR lo 0 h with
   |some _=>some .ZM
   |none=>none
  |_,_,_=>none
 |some (.slice e),.fz es=>match size X e,mx,YR hi es.length es.length with
  |some n,none,some h=>match YR lo 0 h with
   |some l=>if es.all (fun x=>x.cells.length==n) then some (.fz ((es.take h).drop l)) else none
   |none=>none
  |_,_,_=>none
 |some (.array n e),.ptr b o=>match size X e,mx,YR hi n n with
  |some z,none,some h=>match YR lo 0 h with
   |some l=>some (.sl b (o+l*z) (h-l) (some (n-l)) 0)
   |none=>none
  |_,_,_=>none
 |_,_=>none
def SP (t:TypeId)(x:AV)(f:Nat):Option AV:=match X.Zj t,x with
 |some (.struct fs),.ptr b o=>match fs[f]? with
  |some fd=>match size X fd.type with
   |some (_+1)=>some (.ptr b (o+fd.offset))
   |_=>none
  |none=>none
 |some (.struct fs),.fp c o=>match fs[f]? with
  |some fd=>match size X fd.type with
   |some (_+1)=>some (.fp c (o+fd.offset))
   |_=>none
  |none=>none
 |_,_=>none
def VZ (t:TypeId)(x i:AV):Option AV:=match i with
 |.int _ i=>match X.Zj t,x with
  |some (.slice e),.sl b o len _ _=>if 0<=i/\i<len then
    match size X e with|some n=>some (.ptr b (o+i.toNat*n))|none=>none
   else none
  |some (.array len e),.ptr b o=>if 0<=i/\i<len then
    match size X e with|some n=>some (.ptr b (o+i.toNat*n))|none=>none
   else none
  |some (.slice e),.fz es=>if 0<=i then match es[i.toNat]?,size X e with
   |some x,some n=>if x.cells.length=n/\n≠0 then some (.fp x.cells 0) else none
   |_,_=>none
   else none
  |some (.array len e),.fp c o=>if 0<=i/\i<len then
    match size X e with|some n=>some (.fp c (o+i.toNat*n))|none=>none
   else none
  |_,_=>none
 |_=>none
def HX (t:TypeId)(x i:AV):Option AV:=match i with
 |.int _ i=>match X.Zj t,x with
  |some (.array len e),.agg cs=>if 0<=i/\i<len then
    match size X e with|some n=>Ss X e cs (i.toNat*n)|none=>none
   else none
  |some .string,.str b=>if 0<=i then
    match b[i.toNat]? with|some c=>some (.int .u8 c.toNat)|none=>none
   else none
  |_,_=>none
 |_=>none
def V':List AV->Bool
 |[]=>true
 |.int .i64 _::l=>V' l
 |_=>false
def Vi (t:TypeId)(k:AV):Bool:=match X.Zj t,k with
 |some (.int k),.int k' _=>decide (k=k')
 |some .string,.str _=>true
 |some .bool,.bool _=>true
 |some (.array len e),.agg cs=>V' cs&&cs.length==len&&(match X.Zj e,size X e with|some (.int .i64),some 1=>true|_,_=>false)
 |_,_=>false
def WB:AV->AV->Option Bool
 |.int k a,.int k' b=>if k=k' then some (a==b) else none
 |.str a,.str b=>some (a==b)
 |.bool a,.bool b=>some (a==b)
 |.agg a,.agg b=>if V' a&&V' b&&a.length==b.length then some (Ww a b) else none
 |_,_=>none
def VH (k:AV):List (AV×AV)->Option (Option AV)
 |[]=>some none
 |(k',v)::l=>match WB k k' with
  |some true=>some (some v)
  |some false=>VH k l
  |none=>none
def Mw (k v:AV):List (AV×AV)->Option (List (AV×AV))
 |[]=>some [(k,v)]
 |(k',v')::l=>match WB k k' with
  |some true=>some ((k,v)::l)
  |some false=>match Mw k v l with|some r=>some ((k',v')::r)|none=>none
  |none=>none
def Xh (t:TypeId)(m k:AV)(ok:Bool)(s:St):Option AV:=match X.Zj t with
 |some (.map key elem)=>if Vi X key k then
  let r:Option (Option AV):=match m with
   |.QP=>some none
   |.map b=>match s.get b with
    |some (.map es _)=>VH k es
    |_=>none
   |.fm ks vs=>VH k (ks.zip vs)
   |_=>none
  match r with
  |some (some v)=>some (if ok then .XF [v,.bool true] else v)
  |some none=>match zero X elem with
   |some z=>some (if ok then .XF [z,.bool false] else z)
   |none=>none
  |none=>none
  else none
 |_=>none
def V0 (t:TypeId)(m k v:AV)(s:St):Option St:=match X.Zj t,m with
 |some (.map key _),.map b=>if Vi X key k then match s.get b with
  |some (.map es false)=>match Mw k v es with
   |some gY=>some (s.put b (.map gY false))
   |none=>none
  |_=>none
  else none
 |_,_=>none
def WV (n:Nat)(x:AV)(s:St):Option (Nat×List AV):=match x with
 |.ZM=>some (0,[])
 |.sl b o len _ _=>match s.cells b with
  |some c=>match XE (len*n) o c with
   |some r=>some (len,r)
   |none=>none
  |none=>none
 |.str b=>some (b.length,b.map fun c=>.int .u8 c.toNat)
 |.fz es=>if es.all (fun x=>x.cells.length==n)&&n != 0 then some (es.length,es.flatMap AV.cells) else none
 |_=>none
def Xg:AV->Nat
 |.sl _ _ n _ _=>n
 |.fz es=>es.length
 |_=>0
def JD (z:Option Value)(n:Nat):Bool:=match z with
 |some z=>z.cells.size != n
 |none=>true
def OB (t:TypeId)(d x:AV)(s:St):Option (AV×St):=match X.Zj t with
 |some (.slice elem)=>match X.inf elem,size X elem with
  |some ei,some n=>match WV n x s with
   |some (m,new) =>
    if new.length≠m*n\/(Xg d+m)*ei.bytes>2^40\/ei.bytes>2^20\/Xg d+m>2^40\/n=0\/ei.bytes=0\/JD ei.zero n=true\/X.spec elem=true then none
    else if m=0 then match d with
     |.ZM=>some (d,s)
     |.sl ..=>some (d,s)
     |.fz _=>some (d,s)
     |_=>none
    else match d with
    |.ZM=>some (.sl s.next 0 m none n,s.new (.cells new elem false 0 0))
    |.sl b o len cap Wa=>match s.cells b with
     |some c=>match XE (len*n) o c with
      |some old =>
       match cap with
       |some k=>if len+m<=k then
         if Wa=n then match Xo s b (o+len*n) new with
          |some s'=>some (.sl b o (len+m) (some k) n,s')
          |none=>none
         else none
        else some (.sl s.next 0 (len+m) none n,s.new (.cells (old++new) elem false 0 0))
       |none=>match s.get b with
        |some (.cells _ e0 false PQ QO) =>
         if Wa=n/\QO<=o+len*n/\e0=elem/\new.all Zx=true then
          some (.sl s.next 0 (len+m) none n,(s.put b .gone).new (.cells (old++new) elem false (PQ-o) (QO-o)))
         else none
        |_=>none
      |none=>none
     |none=>none
    |_=>none
   |none=>none
  |_,_=>none
 |_=>none
def sn (k:IntKind):Int->List AV->Option AV
 |x,[]=>some (.int k x)
 |x,.int _ y::l=>sn k (if y<x then y else x) l
 |_,_=>none
def xO (k:IntKind):Int->List AV->Option AV
 |x,[]=>some (.int k x)
 |x,.int _ y::l=>xO k (if y>x then y else x) l
 |_,_=>none
def Yr (b:Builtin)(ts:Array TypeId)(args:List AV)(s:St):Option (AV×St):=match b,args with
 |.len,[x]=>match ts[0]? with
  |some t=>match X.Zj t,x with
   |some .string,.str l=>some (.int .i64 l.length,s)
   |some (.slice _),.ZM=>some (.int .i64 0,s)
   |some (.slice _),.sl _ _ n _ _=>some (.int .i64 n,s)
   |some (.slice _),.fz es=>some (.int .i64 es.length,s)
   |some (.map _ _),.fm ks _=>some (.int .i64 ks.length,s)
   |some (.map _ _),.QP=>some (.int .i64 0,s)
   |some (.map _ _),.map r=>match s.get r with
    |some (.map es _)=>some (.int .i64 es.length,s)
    |_=>none
   |some (.array n _),_=>some (.int .i64 n,s)
   |some (.pointer p),_=>match X.Zj p with
    |some (.array n _)=>some (.int .i64 n,s)
    |_=>none
   |_,_=>none
  |none=>none
 |.append,[d,x]=>match ts[0]?,ts[1]? with
  |some t,some u=>match X.Zj u with
   |some (.slice _)=>OB X t d x s
   |some .string=>OB X t d x s
   |_=>none
  |_,_=>none
 |.min,.int k x::l=>match sn k x l with
  |some v=>some (v,s)
  |none=>none
 |.max,.int k x::l=>match xO k x l with
  |some v=>some (v,s)
  |none=>none
 |.unsafeSliceData,[x]=>match x with
  |.ZM=>some (.VI,s)
  |.sl b o (_+1) _ _=>some (.ptr b o,s)
  |_=>none
 |.unsafeString,[p,.int _ n]=>if ts.size=0 then none else match p with
  |.VI=>if n=0 then some (.str [],s) else none
  |.ptr b o=>if n=0 then some (.str [],s) else if n<0\/n>2^40 then none else match s.get b,ts[0]? with
   |some (.cells c e false _ _),some t=>match X.Zj t with
    |some (.pointer u)=>if u=e/\size X e=some 1 then match XE n.toNat o c with
     |some r=>match Xn r with
      |some bs=>some (.str bs,s.put b (.cells c e true 0 0))
      |none=>none
     |none=>none
     else none
    |_=>none
   |_,_=>none
  |_=>none
 |_,_=>none
def Uq (s:List UInt8):Nat×Nat :=
 let g:=fun (k:Nat)=>((s[k]?).getD 0).toNat
 let cont:=fun (k:Nat)=>decide (k<s.length)&&g k / 64==2
 let b0:=g 0
 if b0<0x80 then (b0,1)
 else if b0 / 32==6&&cont 1 then
  let c:=(b0%32)*64+g 1%64
  if c>=0x80 then (c,2) else (Utf8.runeError,1)
 else if b0 / 16==14&&cont 1&&cont 2 then
  let c:=(b0%16)*4096+(g 1%64)*64+g 2%64
  if c>=0x800&&Utf8.valid c then (c,3) else (Utf8.runeError,1)
 else if b0 / 8==30&&cont 1&&cont 2&&cont 3 then
  let c:=(b0%8)*262144+(g 1%64)*4096+(g 2%64)*64+g 3%64
  if c>=0x10000&&Utf8.valid c then (c,4) else (Utf8.runeError,1)
 else (Utf8.runeError,1)
inductive Out where
 |norm
 |exit (id:Nat)
 |ret
 deriving DecidableEq,Inhabited
abbrev Ex:=Code->Env->St->Option (Out×Env×St)
def Zc:Nat->List AV->Env->Env
 |_,[],e=>e
 |i,v::l,e=>Zc (i+1) l (Tr.set e i v)
def OA (e:Env)(s:St):ResultVar->Option AV
 |.tmp t=>some (Env.get e t)
 |.cell a t=>Vb X t (Env.get e a) s
def Xz (e:Env)(s:St):List ResultVar->Option (List AV)
 |[]=>some []
 |r::l=>match OA X e s r,Xz e s l with
  |some v,some vs=>some (v::vs)
  |_,_=>none
def U1 (f:Func)(e:Env)(s:St):Option AV:=match Xz X e s f.results.toList with
 |some [v]=>some v
 |some vs=>some (.XF vs)
 |none=>none
def Po (ex:Ex)(f:FuncId)(args:List AV)(s:St):Option (AV×St):=match X.fn f with
  |some fn=>match fn.body with
   |some c=>match ex c (Zc 0 args .nil) s with
    |some (.norm,e,s')=>match U1 X fn e s' with|some v=>some (v,s')|none=>none
    |some (.ret,e,s')=>match U1 X fn e s' with|some v=>some (v,s')|none=>none
    |_=>none
   |none=>none
  |none=>none
mutual
def still:AV->Bool
 |.ptr ..=>false
 |.sl ..=>false
 |.map _=>false
 |.fn f x y=>(match f with|.func _=>true|_=>false)&&ZO x&&ZO y
 |.iface _ v=>still v
 |.agg cs=>ZO cs
 |.XF cs=>ZO cs
 |.fz es=>true
 |.fp _ _=>true
 |.fm _ _=>true
 |.bool _=>true
 |.int _ _=>true
 |.Cr _ _=>true
 |.str _=>true
 |.VI=>true
 |.ZM=>true
 |.QP=>true
 |.Wt=>true
 |.Ul=>true
def ZO:List AV->Bool
 |[]=>true
 |x::l=>still x&&ZO l
end
mutual
def flat:AV->Bool
 |.ptr ..=>false
 |.sl ..=>false
 |.map _=>false
 |.fn f x y=>(match f with|.func _=>true|_=>false)&&Mf x&&Mf y
 |.iface _ v=>flat v
 |.agg cs=>Mf cs
 |.XF cs=>Mf cs
 |.fz es=>false
 |.fp _ _=>false
 |.fm _ _=>false
 |.bool _=>true
 |.int _ _=>true
 |.Cr _ _=>true
 |.str _=>true
 |.VI=>true
 |.ZM=>true
 |.QP=>true
 |.Wt=>true
 |.Ul=>true
def Mf:List AV->Bool
 |[]=>true
 |x::l=>flat x&&Mf l
end
def Xs (agg:Bool)(n:Nat):Nat->List AV->List AV
 |0,_=>[]
 |k+1,l=>(match agg,l with|false,x::_=>x|_,_=>.agg (l.take n))::Xs agg n k (l.drop n)
def YT (f:AV->Option AV):List AV->Option (List AV)
 |[]=>some []
 |x::l=>match f x,YT f l with
  |some y,some r=>some (y::r)
  |_,_=>none
def Yc (s:St):Nat->AV->Option AV
 |0,_=>none
 |d+1,v=>match v with
  |.ptr b o=>match s.get b with
   |some (.cells c _ false _ _)=>match YT (Yc s d) c with
    |some c'=>some (.fp c' o)
    |none=>none
   |_=>none
  |.sl b o len _ Wa=>match s.get b with
   |some (.cells c e false _ _)=>match XE (len*Wa) o c,YB X e,size X e with
    |some r,some ag,some n=>if Wa=n/\n≠0/\(ag=false->n=1/\r.all Zx=true) then match YT (Yc s d) (Xs ag n len r) with
     |some es=>some (.fz es)
     |none=>none
     else none
    |_,_,_=>none
   |_=>none
  |.map r=>match s.get r with
   |some (.map es false)=>match YT (Yc s d) (es.map (·.1)),YT (Yc s d) (es.map (·.2)) with
    |some ks,some vs=>some (.fm ks vs)
    |_,_=>none
   |_=>none
  |.fn f x y=>match f with
   |.func g=>match YT (Yc s d) x,YT (Yc s d) y with
    |some x',some y'=>some (.fn (.func g) x' y')
    |_,_=>none
   |_=>none
  |.iface t x=>match Yc s d x with
   |some x'=>some (.iface t x')
   |none=>none
  |.agg cs=>match YT (Yc s d) cs with
   |some pZ=>some (.agg pZ)
   |none=>none
  |.XF cs=>match YT (Yc s d) cs with
   |some pZ=>some (.XF pZ)
   |none=>none
  |v=>some v
def Xy (s:St):Nat->AV->Option AV
 |0,_=>none
 |d+1,v=>match v with
  |.ptr b o=>match s.get b with
   |some (.cells c _ false _ _)=>match YT (Xy s d) c with
    |some c'=>some (.fp c' o)
    |none=>none
   |_=>none
  |.sl b o len _ Wa=>match s.get b with
   |some (.cells c e false _ _)=>match XE (len*Wa) o c,YB X e,size X e with
    |some r,some ag,some n=>if Wa=n/\n≠0/\(ag=false->n=1/\r.all Zx=true) then match YT (Xy s d) (Xs ag n len r) with
     |some es=>some (.fz es)
     |none=>none
     else none
    |_,_,_=>none
   |_=>none
  |.map r=>match s.get r with
   |some (.map es false)=>match YT (Xy s d) (es.map (·.1)),YT (Xy s d) (es.map (·.2)) with
    |some ks,some vs=>some (.fm ks vs)
    |_,_=>none
   |_=>none
  |.fn f x y=>match f with
   |.func g=>match YT (Xy s d) x,YT (Xy s d) y with
    |some x',some y'=>some (.fn (.func g) x' y')
    |_,_=>none
   |_=>none
  |.iface t x=>match Xy s d x with
   |some x'=>some (.iface t x')
   |none=>none
  |.agg cs=>match YT (Xy s d) cs with
   |some pZ=>some (.agg pZ)
   |none=>none
  |.XF cs=>match YT (Xy s d) cs with
   |some pZ=>some (.XF pZ)
   |none=>none
  |.fz _=>none
  |.fp _ _=>none
  |.fm _ _=>none
  |v=>some v
def Yl:St:={ t:=.nil,base:=X.Na,next:=X.glob }
def U2:Nat:=40
def VF (s:St)(args:List AV):Option (List AV):=if ZO args then some args else YT (Yc X s U2) args
def UN (ex:Ex)(f:FuncId)(args:List AV)(st:Bool):Option AV:=match Po X ex f args (Yl X) with
 |some (v,s')=>if st then Yc X s' U2 v else if flat v then some v else Xy X s' U2 v
 |none=>none
def PA (ex:Ex)(f:FuncId)(args:List AV)(s:St):Option (AV×St):=match VF X s args with
 |some uR=>match UN X ex f uR (ZO args) with
  |some v=>some (v,s)
  |none=>none
 |none=>none
def UG (ex:Ex)(f:FuncId)(args:List AV)(s:St):Option (AV×St):=match X.ext f with
 |some g=>g args s
 |none=>if X.pure f then PA X ex f args s else Po X ex f args s
def Oz (l:Nat)(o:Out)(e:Env)(q:List Tmp)(a b:Code)(s:St):Option (AV×St):=match o with
 |.norm=>some (.bool true,s.put l (.loop 0 none e q a b))
 |.exit i=>some (.bool false,s.put l (.loop 2 (some (.exit i)) e q a b))
 |.ret=>some (.bool false,s.put l (.loop 2 (some .ret) e q a b))
def HW (ex:Ex)(l:Nat)(args:List AV)(s:St):Option (AV×St):=match s.get l with
 |some (.loop 0 p env params assign body) =>
  if args.length=params.length then
   let agy:=(params.zip args).foldl (fun e (t,a)=>Tr.set e t a) env
   match ex assign agy s with
   |some (.norm,nU,s1)=>match s1.get l with
    |some (.loop 0 p1 e1 q1 a1 b1)=>match ex body nU (s1.put l (.loop 1 p1 e1 q1 a1 b1)) with
     |some (o,_,s2)=>match s2.get l with
      |some (.loop _ _ e2 q2 a2 b2)=>Oz l o e2 q2 a2 b2 s2
      |_=>none
     |none=>none
    |_=>none
   |_=>none
  else none
 |_=>none
def Ij (ex:Ex)(f:AV)(args:List AV)(s:St):Option (AV×St):=match f with
 |.fn (.func g) first cap=>UG X ex g (first++args++cap) s
 |.fn (.yield l) first cap=>HW ex l (first++args) s
 |_=>none
def Zm (v:Option AV)(s:St):Option (AV×St):=match v with
 |some v=>some (v,s)
 |none=>none
def PE (s:Option St):Option (AV×St):=match s with
 |some s=>some (undef,s)
 |none=>none
def Py (e:Env)(x:Option Operand):Option (Option AV):=match x with
 |none=>some none
 |some x=>match eval X e x with
  |some v=>some (some v)
  |none=>none
def YK (ex:Ex)(e:Env)(o:Op)(s:St):Option (AV×St):=match o with
 |.move x=>Zm (eval X e x) s
 |.assign x=>Zm (eval X e x) s
 |.pick c a b=>match eval X e c with
  |some (.bool true)=>Zm (eval X e a) s
  |some (.bool false)=>Zm (eval X e b) s
  |_=>none
 |.alloc t=>match zero X t with
  |some z=>some (VS s z.cells t)
  |none=>none
 |.box t x=>match eval X e x with
  |some v=>some (VS s v.cells t)
  |none=>none
 |.build t ps=>match Wk X e ps.toList with
  |some l=>Zm (Ir X t l) s
  |none=>none
 |.buildSlice t n ps=>match Wk X e ps.toList with
  |some l=>UH X t n l s
  |none=>none
 |.load t a=>match eval X e a with
  |some a=>Zm (Vb X t a s) s
  |none=>none
 |.store t a x=>match eval X e a,eval X e x with
  |some a,some v=>PE (Nw X t a v s)
  |_,_=>none
 |.nilCheck x=>match eval X e x with
  |some (.ptr b o)=>some (.ptr b o,s)
  |some (.fp c o)=>some (.fp c o,s)
  |some (.fn (.func f) x y)=>some (.fn (.func f) x y,s)
  |some (.fn (.yield f) x y)=>some (.fn (.yield f) x y,s)
  |_=>none
 |.binOp op t x y _=>match eval X e x,eval X e y with
  |some a,some b=>Zm (WO X op t (Ur x||Ur y) a b) s
  |_,_=>none
 |.unOp op _ x=>match eval X e x with
  |some a=>Zm (unA op a) s
  |none=>none
 |.convert a b x=>match eval X e x with
  |some v=>Tv X a b v s
  |none=>none
 |.makeInterface t x=>match eval X e x with
  |some v=>match X.Zj t with
   |some (.interface _)=>none
   |some _=>some (.iface t v,s)
   |none=>none
  |none=>none
 |.makeFunc f a b=>match f with
  |.func g=>match Wz X e a.toList,Wz X e b.toList with
   |some x,some y=>some (.fn (.func g) x y,s)
   |_,_=>none
  |_=>none
 |.makeMap t r=>match r with
  |none=>some (.map s.next,s.new (.map [] false))
  |some x=>match eval X e x,X.Zj t with
   |some (.int _ _),some (.map _ _)=>some (.map s.next,s.new (.map [] false))
   |_,_=>none
 |.makeSlice t l c=>match eval X e l,eval X e c,X.Zj t with
  |some (.int _ l),some (.int _ c),some (.slice elem)=>match X.inf elem,zero X elem with
   |some i,some z=>if 0<=l/\l<=c/\c*i.bytes<=2^47/\c<2^47/\z.cells.length=i.size/\i.size≠0 then
     some (.sl s.next 0 l.toNat (some c.toNat) i.size,s.new (.cells (Vk c.toNat z.cells) elem false 0 0))
    else none
   |_,_=>none
  |_,_,_=>none
 |.slice t x lo hi mx=>match eval X e x,Py X e lo,Py X e hi,Py X e mx with
  |some v,some lo,some hi,some mx=>Zm (QH X t v lo hi mx) s
  |_,_,_,_=>none
 |.fieldAddr t x f=>match eval X e x with
  |some v=>Zm (SP X t v f) s
  |none=>none
 |.field t x f=>match eval X e x,X.Zj t with
  |some (.agg cs),some (.struct fs)=>match fs[f]? with
   |some fd=>Zm (Ss X fd.type cs fd.offset) s
   |none=>none
  |_,_=>none
 |.indexAddr t x i=>match eval X e x,eval X e i with
  |some v,some i=>Zm (VZ X t v i) s
  |_,_=>none
 |.index t x i=>match eval X e x,eval X e i with
  |some v,some i=>Zm (HX X t v i) s
  |_,_=>none
 |.lookup t m k ok=>match eval X e m,eval X e k with
  |some m,some k=>Zm (Xh X t m k ok s) s
  |_,_=>none
 |.mapUpdate t m k v=>match eval X e m,eval X e k,eval X e v with
  |some m,some k,some v=>PE (V0 X t m k v s)
  |_,_,_=>none
 |.insert t m k v=>match eval X e m,eval X e k,eval X e v with
  |some m,some k,some v=>PE (V0 X t m k v s)
  |_,_,_=>none
 |.range t x=>match eval X e x,X.Zj t with
  |some (.str b),some .string=>some (.ptr s.next 0,s.new (.iter b 0))
  |_,_=>none
 |.next it true=>match eval X e it with
  |some (.ptr r 0)=>match s.get r with
   |some (.iter b pos)=>match b with
    |[]=>some (.XF [.bool false],s)
    |_::_ =>
     let (c,w):=Uq b
     some (.XF [.bool true,.int .i64 pos,.int .i32 c],s.put r (.iter (b.drop w) (pos+w)))
   |_=>none
  |_=>none
 |.extract t i=>match eval X e t with
  |some (.XF vs)=>Zm vs[i]? s
  |_=>none
 |.call c=>match c.callee with
  |.builtin b=>match Wz X e c.args.toList with
   |some vs=>Yr X b c.argTypes vs s
   |none=>none
  |.value f=>match eval X e f,Wz X e c.args.toList with
   |some f,some vs=>Ij X ex f vs s
   |_,_=>none
  |.invoke _ _=>none
 |_=>none
def YA (e:Env)(d:Option Tmp)(v:AV):Env:=match d with
 |some d=>Tr.set e d v
 |none=>e
def XY (ops:Array Oper)(e:Env)(o:Oper):Bool:=match o.guard with
 |none=>true
 |some (j,want)=>match ops[j]? with
  |some oj=>match oj.dst with
   |some d=>match Env.get e d with
    |.bool b=>b==want
    |_=>false
   |none=>false
  |none=>false
def Me (ex:Ex)(ops:Array Oper):List Oper->Env->St->Option (Env×St)
 |[],e,s=>some (e,s)
 |o::l,e,s =>
  if XY ops e o then match YK X ex e o.op s with
   |some (v,s')=>Me ex ops l (YA e o.dst v) s'
   |none=>none
  else Me ex ops l (YA e o.dst undef) s
inductive Cn where
 |p|r|a|w|q
def Cn.dh:Cn->Bool|.r=>true|_=>false
def Cn.Dc:Cn->Bool|.a=>true|_=>false
def Cn.si:Cn->Bool|.w=>true|_=>false
def cls:Op->Cn
 |.move _|.assign _|.pick ..|.build ..|.nilCheck _|.binOp ..|.unOp ..|.makeInterface ..|.makeFunc ..|.slice ..|.fieldAddr ..|.field ..
 |.indexAddr ..|.index ..|.extract ..=>.p
 |.convert s d _=>match X.Zj s,X.Zj d with
  |some (.slice _),some .string=>.r
  |some (.slice _),_=>.w
  |_,some (.slice _)=>.a
  |some _,some _=>.p
  |_,_=>.w
 |.load ..|.lookup ..=>.r
 |.alloc _|.box ..|.buildSlice ..|.makeSlice ..|.makeMap ..=>.a
 |.call { callee:=.builtin b,.. }=>match b with
  |.len=>.r
  |.min|.max|.unsafeSliceData=>.p
  |_=>.w
 |.call { callee:=.value (.func f),.. }=>if X.pure f&&(X.ext f).isNone then .q else .w
 |_=>.w
def XG (ops:Array Oper)(i j:Nat):Bool:=((Region.before ops).getD j 0).testBit i
def T_:Op->Bool
 |.store ..=>true
 |_=>false
def se:Nat->List Oper->List Nat
 |_,[]=>[]
 |i,o::l=>if T_ o.op then i::se (i+1) l else se (i+1) l
def aak (ops:Array Oper):Bool :=
 let l:=se 0 ops.toList
 l.any fun i=>l.any fun j=>!(i==j)&&!XG ops i j&&!XG ops j i
def nT (ops:Array Oper)(i:Nat):Bool:=match ops[i]? with
 |some o=>T_ o.op&&o.guard.isNone&&(List.range ops.size).all fun k=>k==i||XG ops k i||(match ops[k]? with
  |some ok=>T_ ok.op||(match cls X ok.op with|.p=>true|.a=>true|_=>false)
  |none=>true)
 |none=>false
def Oy (ops:Array Oper):Bool:=aak ops&&(se 0 ops.toList).all (nT X ops)
def late (ops:Array Oper)(i:Nat):Bool:=Oy X ops&&(match ops[i]? with|some o=>T_ o.op|none=>false)
def Ts (ex:Ex)(ops:Array Oper)(base i:Nat)(o:Oper)(e:Env)(s:St):Option (Env×St) :=
 if XY ops e o then
  match cls X o.op with
  |.a=>match YK X ex e o.op { s with next:=base+i } with
   |some (v,s')=>some (YA e o.dst v,{ s' with next:=s.next })
   |none=>none
  |_=>match YK X ex e o.op s with
   |some (v,s')=>some (YA e o.dst v,s')
   |none=>none
 else some (YA e o.dst undef,s)
def zd (ex:Ex)(ops:Array Oper)(base:Nat):Nat->List Oper->Env->St->Option (List (Env×St))
 |_,[],e,s=>some [(e,s)]
 |i,o::l,e,s=>match Ts X ex ops base i o e s with
  |some (e',s')=>match zd ex ops base (i+1) l e' s' with
   |some r=>some ((e,s)::r)
   |none=>none
  |none=>none
def Zk (ops:Array Oper):Nat->List Oper->List Nat
 |_,[]=>[]
 |i,o::l=>if (cls X o.op).si&&!late X ops i then i::Zk ops (i+1) l else Zk ops (i+1) l
def Ua (e:Env):Op->Option Nat
 |.store _ a _=>match eval X e a with
  |some (.ptr b _)=>some b
  |_=>none
 |_=>none
def T7 (ops:Array Oper):Nat->List Oper->List (Env×St)->List (Option Nat)
 |i,o::l,(e,_)::tr=>if late X ops i then Ua X e o.op::T7 ops (i+1) l tr else T7 ops (i+1) l tr
 |_,_,_=>[]
def Pn (base n:Nat):List (Option Nat)->Bool
 |[]=>true
 |none::_=>false
 |some b::l=>(decide (b<base)||decide (base+n<=b))&&l.all (fun x=>!(x==some b))&&Pn base n l
def Tj (tr:List (Env×St)):List Nat->Option (List (Nat×St))
 |[]=>some []
 |j::l=>match tr[j+1]?,Tj tr l with
  |some (_,s),some r=>some ((j+1,s)::r)
  |_,_=>none
def U8:Nat->List Oper->List Nat
 |_,[]=>[]
 |i,o::l=>if (cls X o.op).Dc then i::U8 (i+1) l else U8 (i+1) l
def Up (ops:Array Oper)(base i m:Nat)(tr:List (Env×St)):List Nat->St->St
 |[],s=>s
 |j::l,s=>if m<=j&&XG ops j i then match tr[j+1]? with
   |some (_,s1)=>match s1.get (base+j) with
    |some b=>Up ops base i m tr l (s.put (base+j) b)
    |none=>Up ops base i m tr l s
   |none=>Up ops base i m tr l s
  else Up ops base i m tr l s
def Xa (ex:Ex)(ops:Array Oper)(base i:Nat)(as:List Nat)(tr:List (Env×St))(e:Env)(o:Op)(v:AV):List (Nat×St)->Bool
 |[]=>true
 |(m,s)::l=>match YK X ex e o (Up ops base i m tr as s) with
  |some (u,_)=>same u v&&Xa ex ops base i as tr e o v l
  |none=>false
def TR (ops:Array Oper)(base i:Nat)(as:List Nat)(tr:List (Env×St))(vs us:List AV):List (Nat×St)->Bool
 |[]=>true
 |(m,s)::l=>match VF X (Up ops base i m tr as s) vs with
  |some us'=>Ww us' us&&TR ops base i as tr vs us l
  |none=>false
def Ys (p:Nat->Bool):List Nat->Nat
 |[]=>0
 |j::l=>if p j then Ys p l+1 else Ys p l
def UW (ops:Array Oper)(ws:List Nat)(ss:List (Nat×St))(i:Nat):List (Nat×St) :=
 (ss.take (Ys (fun j=>!XG ops i j) ws+1)).drop (Ys (fun j=>XG ops j i) ws)
def Uf (ex:Ex)(ops:Array Oper)(base:Nat)(ws as:List Nat)(ss:List (Nat×St))(xK:List (Env×St)):Nat->List Oper->List (Env×St)->Bool
 |i,o::l,(e,s)::tr =>
  (match cls X o.op with
   |.r=>!XY ops e o||(match YK X ex e o.op s with
    |some (v,_)=>Xa X ex ops base i as xK e o.op v (UW ops ws ss i)
    |none=>false)
   |.q=>!XY ops e o||(match o.op with
    |.call c=>match Wz X e c.args.toList with
     |some vs=>ZO vs||(match VF X s vs with
      |some us=>TR X ops base i as xK vs us (UW ops ws ss i)
      |none=>false)
     |none=>false
    |_=>false)
   |_=>true)&&Uf ex ops base ws as ss xK (i+1) l tr
 |_,_,_=>true
def HU (base:Nat)(s:St):Nat->List Oper->Bool
 |_,[]=>true
 |i,o::l=>(!(cls X o.op).Dc||(s.get (base+i)).isNone)&&HU base s (i+1) l
def Ti (ops:Array Oper)(base:Nat):List (Nat×St)->Bool
 |[]=>true
 |(m,s)::l=>HU X base s m (ops.toList.drop m)&&Ti ops base l
def HT:List (Env×St)->Option (Env×St)
 |[]=>none
 |[x]=>some x
 |_::l=>HT l
def PY (ex:Ex)(ops:Array Oper)(e:Env)(s:St):Option (Env×St) :=
 match zd X ex ops s.next 0 ops.toList e { s with next:=s.next+ops.size } with
 |some tr =>
  let ws:=Zk X ops 0 ops.toList
  match Tj tr ws with
  |some ss =>
   if Pn s.next ops.size (T7 X ops 0 ops.toList tr)&&Uf X ex ops s.next ws (U8 X 0 ops.toList) ((0,{ s with next:=s.next+ops.size })::ss) tr 0 ops.toList tr&&Ti X ops s.next ((0,{ s with next:=s.next+ops.size })::ss)
   then HT tr else none
  |none=>none
 |none=>none
def N1 (ops:Array Oper)(o:Oper):List Tmp :=
 (o.op.operands.toList.filterMap fun|.tmp t=>some t|_=>none) ++
 (match o.guard with
  |some (g,_)=>match ops[g]? with|some x=>x.dst.toList|none=>[]
  |none=>[])
def Db (ops:Array Oper)(x y:Oper):Bool :=
 (match x.dst with
  |some d=>!(N1 ops y).contains d&&y.dst != some d
  |none=>true) &&
 (match y.dst with
  |some d=>!(N1 ops x).contains d
  |none=>true)
def nS (ops:Array Oper)(i j:Nat)(oi oj:Oper):Bool :=
 XG ops i j||(Db ops oi oj &&
  match cls X oi.op,cls X oj.op with
  |.a,.w=>late X ops j
  |.w,.w=>late X ops i&&late X ops j
  |_,_=>true)
def dc (ops:Array Oper):Bool :=
 ((List.range ops.size).all fun j=>match ops[j]? with
  |some oj=>(oj.after.toList.all fun e=>!Region.binds .any e||decide (e.on<j)) &&
   (match oj.guard with|some (g,_)=>decide (g<ops.size)|none=>true) &&
   (List.range j).all fun i=>match ops[i]? with
    |some oi=>nS X ops i j oi oj
    |none=>true
  |none=>true)
def Md (p:Option Code)(e:Env)(s:St):Option (Out×Env×St):=match p with
 |none=>some (.norm,e,s)
 |some (.exit i)=>some (.exit i,e,s)
 |some .ret=>some (.ret,e,s)
 |_=>none
def Xj (ex:Ex)(c:Code)(e:Env)(s:St):Option (Out×Env×St):=match c with
 |.skip=>some (.norm,e,s)
 |.label _=>some (.norm,e,s)
 |.region _ ops d=>if d then match PY X ex ops e s with
   |some (e,s)=>some (.norm,e,s)
   |none=>none
  else match Me X ex ops ops.toList e s with
  |some (e,s)=>some (.norm,e,s)
  |none=>none
 |.seq a b=>match ex a e s with
  |some (.norm,e,s)=>ex b e s
  |r=>r
 |.cond c a b=>match eval X e c with
  |some (.bool true)=>ex a e s
  |some (.bool false)=>ex b e s
  |_=>none
 |.block id b=>match ex b e s with
  |some (.exit i,e,s)=>if i=id then some (.norm,e,s) else some (.exit i,e,s)
  |r=>r
 |.loop b=>match ex b e s with
  |some (.norm,e,s)=>ex (.loop b) e s
  |r=>r
 |.scope b=>ex b e s
 |.exit id=>some (.exit id,e,s)
 |.ret=>some (.ret,e,s)
 |.rangeFunc f params assign body=>match eval X e f with
  |some (.fn (.func g) first cap)=>if (X.ext g).isNone then
   match UG X ex g (first++[.fn (.yield s.next) [] []]++cap) (s.new (.loop 0 none e params.toList assign body)) with
   |some (_,s1)=>match s1.get s.next with
    |some (.loop st p _ _ _ _)=>if st=1 then none else Md p e (s1.put s.next .gone)
    |_=>none
   |none=>none
   else none
  |_=>none
 |_=>none
def Rg:Code->Bool
 |.seq a b=>Rg a&&Rg b
 |.cond _ a b=>Rg a&&Rg b
 |.block _ b=>Rg b
 |.loop b=>Rg b
 |.scope b=>Rg b
 |.rangeFunc ..=>false
 |_=>true
def JC (n:Nat):Code->Bool
 |.region _ ops d=>(ops.toList.all fun o=>match o.dst with|some t=>decide (t<n)|none=>true)&&(!d||dc X ops)
 |.seq a b=>JC n a&&JC n b
 |.cond _ a b=>JC n a&&JC n b
 |.block _ b=>JC n b
 |.loop b=>JC n b
 |.scope b=>JC n b
 |.rangeFunc _ ps a b=>(ps.toList.all fun t=>decide (t<n))&&JC n a&&JC n b&&Rg a&&Rg b
 |_=>true
def exec:Nat->Ex
 |0=>fun _ _ _=>none
 |n+1=>Xj X (exec n)
def run (n:Nat)(f:FuncId)(args:List AV)(s:St):Option (AV×St):=UG X (exec X n) f args s
end
abbrev iI (n:Int):AV:=.int .i64 n
abbrev bF:AV:=.bool false
abbrev bT:AV:=.bool true
end Go.Am
namespace Go.Am
open Go
structure Pl where
 b:Nat
 sh:Nat
 n:Nat
structure Sg where
 m:Nat->Option Pl
 fz:Nat->Option Obj
instance:CoeFun Sg (fun _=>Nat->Option Pl):=⟨Sg.m⟩
structure Sg.le (σ τ:Sg):Prop where
 p:∀i p,σ i=some p->τ i=some p
 z:∀b o,σ.fz b=some o->τ.fz b=some o
def Sg.bare (σ:Sg):Sg:={ m:=fun _=>none,fz:=σ.fz }
theorem Sg.le_refl (σ:Sg):Sg.le σ σ:=⟨fun _ _ h=>h,fun _ _ h=>h⟩
theorem Sg.le_trans {a b c:Sg}(h:Sg.le a b)(k:Sg.le b c):Sg.le a c:=⟨fun i p e=>k.p i p (h.p i p e),fun b o e=>k.z b o (h.z b o e)⟩
theorem Sg.le.bare {σ τ:Sg}(h:Sg.le σ τ):Sg.le σ.bare τ.bare:=⟨fun _ _ h=>h,h.z⟩
theorem Sg.Uv (σ:Sg):Sg.le σ.bare σ:=⟨fun i p h=>(by simp[Sg.bare] at h),fun _ _ h=>h⟩
def Tw (σ:Sg):Fn->Fn->Prop
 |.func g,f=>f=.func g
 |.yield l,f=>∃p,σ l=some p/\f=.yield p.b
 |_,_=>False
structure Fq (σ:Sg)(b o len:Nat)(cap:Option Nat)(Wa:Nat)(a:Addr)(c:Nat):Prop where
 len:len<=c
 at_:∃p,σ b=some p/\(c≠0->a=⟨p.b,p.sh+o,none⟩)/\(Wa≠0->p.sh+o+c*Wa<=p.n)
 cap:∀k,cap=some k->c=k
def Li (σ:Sg)(a:Addr)(us:List Value):Prop:=a.spot=none/\∃cc e fz n,σ.fz a.block=some (.cells cc e fz)/\n≠0/\(∀u∈us,u.cells.size=n)/\∀i v,(us.flatMap fun u=>u.cells.toList)[i]? = some v->cc[a.off+i]? = some v
mutual
def ZT:Sg->AV->Value->Prop
 |_,.bool b,v=>v=.bool b
 |_,.int k n,v=>v=.int k n
 |_,.Cr k n,v=>v=.float k n
 |_,.str s,v=>∃bs:ByteArray,v=.string bs/\bs.data.toList=s
 |_,.VI,v=>v=.pointer none
 |σ,.ptr b o,v=>∃p,σ b=some p/\v=.pointer (some ⟨p.b,p.sh+o,none⟩)
 |_,.ZM,v=>v=.slice none 0 0
 |σ,.sl b o len cap Wa,v=>∃a c,v=.slice (some a) len c/\Fq σ b o len cap Wa a c
 |_,.QP,v=>v=.map none
 |σ,.map r,v=>∃p,σ r=some p/\v=.map (some p.b)
 |_,.Wt,v=>v=.nilFunc
 |σ,.fn f x y,v=>∃f' x' y',v=.func f' x' y'/\Tw σ f f'/\ZU σ x x'.toList/\ZU σ y y'.toList
 |_,.Ul,v=>v=.nilIface
 |σ,.iface t x,v=>∃y,v=.iface t y/\ZT σ x y
 |σ,.agg cs,v=>∃vs,v=.agg vs/\ZU σ cs vs.toList
 |σ,.XF cs,v=>∃vs,v=.tuple vs/\ZU σ cs vs.toList
 |σ,.fz es,v=>∃a c us,v=.slice (some a) es.length c/\es.length<=c/\ZU σ.bare es us/\(us=[]\/Li σ a us)
 |σ,.fp cs o,v=>∃b base us cc e fz,v=.pointer (some ⟨b,base+o,none⟩)/\σ.fz b=some (.cells cc e fz)/\ZU σ.bare cs us/\∀i u,us[i]? = some u->cc[base+i]? = some u
 |σ,.fm ks vs,v=>∃r Wc clock,v=.map (some r)/\σ.fz r=some (.map Wc clock)/\ZU σ.bare ks (Wc.toList.map MapEntry.key)/\ZU σ.bare vs (Wc.toList.map MapEntry.val)
def ZU:Sg->List AV->List Value->Prop
 |_,[],l=>l=[]
 |σ,a::x,l=>∃v y,l=v::y/\ZT σ a v/\ZU σ x y
end
theorem Tw.mono {σ τ:Sg}(h:Sg.le σ τ){f f':Fn}(k:Tw σ f f'):Tw τ f f':=by
 cases f <;> simp only[Tw] at * <;> first|exact k|skip
 obtain⟨p,hp,e⟩:=k;exact⟨p,h.p _ _ hp,e⟩
theorem Fq.mono {σ τ:Sg}(h:Sg.le σ τ){b o len:Nat}{cap:Option Nat}{Wa:Nat}{a:Addr}{c:Nat}(k:Fq σ b o len cap Wa a c):Fq τ b o len cap Wa a c:=by
 obtain⟨h1,⟨p,hp,h2⟩,h3⟩:=k;exact⟨h1,⟨p,h.p _ _ hp,h2⟩,h3⟩
theorem Li.mono {σ τ:Sg}(h:Sg.le σ τ){a:Addr}{us:List Value}(k:Li σ a us):Li τ a us:=by
 obtain⟨h0,cc,e,fz,n,h1,h2⟩:=k;exact⟨h0,cc,e,fz,n,h.z _ _ h1,h2⟩
mutual
theorem ZT.mono {σ τ:Sg}:∀(_:Sg.le σ τ) (a:AV) (v:Value),ZT σ a v->ZT τ a v
 |_,.bool _,_,k|_,.int _ _,_,k|_,.Cr _ _,_,k|_,.str _,_,k|_,.VI,_,k|_,.ZM,_,k|_,.QP,_,k|_,.Wt,_,k|_,.Ul,_,k=>by simpa only[ZT] using k
 |h,.ptr b o,v,k=>by
  simp only[ZT] at *;obtain⟨p,hp,e⟩:=k;exact⟨p,h.p _ _ hp,e⟩
 |h,.sl ..,v,k=>by
  simp only[ZT] at *;obtain⟨a,c,e,r⟩:=k;exact⟨a,c,e,r.mono h⟩
 |h,.map b,v,k=>by
  simp only[ZT] at *;obtain⟨p,hp,e⟩:=k;exact⟨p,h.p _ _ hp,e⟩
 |h,.fn f x y,v,k=>by
  simp only[ZT] at *;obtain⟨f',x',y',e,hf,hx,hy⟩:=k;exact⟨f',x',y',e,hf.mono h,ZU.mono h _ _ hx,ZU.mono h _ _ hy⟩
 |h,.iface t x,v,k=>by
  simp only[ZT] at *;obtain⟨y,e,r⟩:=k;exact⟨y,e,ZT.mono h _ _ r⟩
 |h,.agg cs,v,k=>by
  simp only[ZT] at *;obtain⟨y,e,r⟩:=k;exact⟨y,e,ZU.mono h _ _ r⟩
 |h,.XF cs,v,k=>by
  simp only[ZT] at *;obtain⟨y,e,r⟩:=k;exact⟨y,e,ZU.mono h _ _ r⟩
 |h,.fz es,v,k=>by
  simp only[ZT] at *;obtain⟨a,c,us,e,hl,r,ho⟩:=k;exact⟨a,c,us,e,hl,ZU.mono h.bare _ _ r,ho.imp id (Li.mono h)⟩
 |h,.fp cs o,v,k=>by
  simp only[ZT] at *;obtain⟨b,base,us,cc,e,fz,e1,e2,r,e3⟩:=k;exact⟨b,base,us,cc,e,fz,e1,h.z _ _ e2,ZU.mono h.bare _ _ r,e3⟩
 |h,.fm ks vs,v,k=>by
  simp only[ZT] at *;obtain⟨b,Wc,clock,e1,e2,r,r'⟩:=k;exact⟨b,Wc,clock,e1,h.z _ _ e2,ZU.mono h.bare _ _ r,ZU.mono h.bare _ _ r'⟩
theorem ZU.mono {σ τ:Sg}:∀(_:Sg.le σ τ) (a:List AV) (v:List Value),ZU σ a v->ZU τ a v
 |_,[],v,k=>by simpa only[ZU] using k
 |h,a::x,v,k=>by
  simp only[ZU] at *;obtain⟨u,y,e,h1,h2⟩:=k;exact⟨u,y,e,ZT.mono h _ _ h1,ZU.mono h _ _ h2⟩
end
theorem ZU.length {σ:Sg}:∀{x:List AV} {l:List Value},ZU σ x l->x.length=l.length
 |[],l,h=>by simp only[ZU] at h;simp[h]
 |a::x,l,h=>by
  simp only[ZU] at h;obtain⟨v,y,rfl,_,h2⟩:=h;simp[ZU.length h2]
theorem ZU.get {σ:Sg}:∀{x:List AV} {l:List Value},ZU σ x l->∀(i:Nat) (a:AV),x[i]? = some a->∃v,l[i]? = some v/\ZT σ a v
 |[],l,h,i,a,e=>by simp at e
 |b::x,l,h,i,a,e=>by
  simp only[ZU] at h;obtain⟨v,y,rfl,h1,h2⟩:=h
  cases i with
  |zero=>simp at e;subst e;exact⟨v,by simp,h1⟩
  |succ i=>simp at e;simpa using ZU.get h2 i a e
theorem ZU.append {σ:Sg}:∀{x y:List AV} {l m:List Value},ZU σ x l->ZU σ y m->ZU σ (x++y) (l++m)
 |[],y,l,m,h,k=>by simp only[ZU] at h;simpa[h] using k
 |a::x,y,l,m,h,k=>by
  simp only[ZU] at h;obtain⟨v,z,rfl,h1,h2⟩:=h;simp only[ajz,ZU];exact⟨v,z++m,rfl,h1,ZU.append h2 k⟩
theorem ZU.Du {σ:Sg}:∀{x:List AV} {l:List Value},x.length=l.length->(∀i (h:i<x.length) (h':i<l.length),ZT σ x[i] l[i])->ZU σ x l
 |[],l,h,_=>by simp only[ZU];exact ajI.1 (by simpa using h.symm)
 |a::x,[],h,_=>by simp at h
 |a::x,v::l,h,k=>by
  simp only[ZU];exact⟨v,l,rfl,k 0 (Nat.succ_pos _) (Nat.succ_pos _),ZU.Du (Nat.succ.inj h) fun i hi OL=>k (i+1) (Nat.succ_lt_succ hi) (Nat.succ_lt_succ OL)⟩
theorem Lh {σ:Sg}{a:AV}{v:Value}(h:ZT σ a v):ZU σ [a] [v]:=by
 simp only[ZU];exact⟨v,[],rfl,h,rfl⟩
theorem S3 {σ:Sg}{a:AV}{v:Value}(h:ZT σ a v)(hn:Zx a=true):v.cells=#[v]/\(∀cs,v≠.agg cs)/\(∀cs,v≠.tuple cs):=by
 cases a <;> simp only[Zx] at hn <;> simp only[ZT] at h <;>
  first
  |(subst h;simp[Value.cells];done)
  |(obtain⟨x,rfl,_⟩:=h;simp[Value.cells];done)
  |(obtain⟨x,y,rfl⟩:=h;simp[Value.cells];done)
  |(obtain⟨x,y,rfl,_⟩:=h;simp[Value.cells];done)
  |(obtain⟨x,y,z,rfl,_⟩:=h;simp[Value.cells];done)
  |(obtain⟨_,_,_,_,_,_,rfl,_⟩:=h;simp[Value.cells];done)
  |(cases hn)
theorem WD {σ:Sg}{a:AV}{v:Value}(h:ZT σ a v):ZU σ a.cells v.cells.toList:=by
 cases a with
 |agg cs=>simp only[ZT] at h;obtain⟨vs,rfl,h⟩:=h;exact h
 |XF cs =>
  have h0:=h;simp only[ZT] at h;obtain⟨vs,rfl,_⟩:=h;exact Lh h0
 |_=>rw[(S3 h rfl).1];exact Lh h
def TI (σ:Sg)(e:Env)(tmps:Array Value):Prop:=∀t,ZT σ (Env.get e t) (tmps.getD t Go.undef)
theorem TI.mono {σ τ:Sg}(h:Sg.le σ τ){e:Env}{tmps:Array Value}(k:TI σ e tmps):TI τ e tmps:=fun t=>ZT.mono h _ _ (k t)
theorem Tr.get_nil {α:Type}(k:Nat):(Tr.nil:Tr α).get k=none:=rfl
theorem Tr.U5 {α:Type}:∀(f:Nat) (t:Tr α) (k:Nat) (x:α),k<f->(Tr.Qc f t k x).get k=some x
 |0,_,_,_,h=>by omega
 |f+1,.nil,0,x,_=>rfl
 |f+1,.n v l r,0,x,_=>rfl
 |f+1,.nil,k+1,x,h=>by
  unfold Tr.Qc;by_cases hb:Nat.beq (k%2) 0=true
  ·simp only[hb,cond_true,Tr.get];exact Tr.U5 f .nil (k / 2) x (by omega)
  ·simp only[Bool.not_eq_true] at hb;simp only[hb,cond_false,Tr.get];exact Tr.U5 f .nil (k / 2) x (by omega)
 |f+1,.n v l r,k+1,x,h=>by
  unfold Tr.Qc;by_cases hb:Nat.beq (k%2) 0=true
  ·simp only[hb,cond_true,Tr.get];exact Tr.U5 f l (k / 2) x (by omega)
  ·simp only[Bool.not_eq_true] at hb;simp only[hb,cond_false,Tr.get];exact Tr.U5 f r (k / 2) x (by omega)
theorem Dt {k j:Nat}(h:k+1≠j+1)(hp:Nat.beq (k%2) 0=Nat.beq (j%2) 0):k / 2≠j / 2:=by
 intro e;have h1:k%2=j%2:=by
  have a1:k%2=0\/k%2=1:=by omega
  have a2:j%2=0\/j%2=1:=by omega
  rcases a1 with a1|a1 <;> rcases a2 with a2|a2 <;> simp[a1,a2] at hp ⊢
 omega
theorem Tr.Sw {α:Type}:∀(f:Nat) (t:Tr α) (k j:Nat) (x:α),k≠j->(Tr.Qc f t k x).get j=t.get j
 |0,_,_,_,_,_=>rfl
 |f+1,.nil,0,j,x,h=>by
  cases j with
  |zero=>exact absurd rfl h
  |succ j=>unfold Tr.Qc;simp[Tr.get]
 |f+1,.n v l r,0,j,x,h=>by
  cases j with
  |zero=>exact absurd rfl h
  |succ j=>unfold Tr.Qc;simp[Tr.get]
 |f+1,.nil,k+1,0,x,_=>by
  unfold Tr.Qc;rcases Bool.eq_false_or_eq_true (Nat.beq (k%2) 0) with hb|hb <;> simp only[hb,cond_true,cond_false,Tr.get]
 |f+1,.n v l r,k+1,0,x,_=>by
  unfold Tr.Qc;rcases Bool.eq_false_or_eq_true (Nat.beq (k%2) 0) with hb|hb <;> simp only[hb,cond_true,cond_false,Tr.get]
 |f+1,.nil,k+1,j+1,x,h=>by
  unfold Tr.Qc;have ih:=fun hp=>Tr.Sw f (Tr.nil:Tr α) (k / 2) (j / 2) x (Dt h hp)
  rcases Bool.eq_false_or_eq_true (Nat.beq (k%2) 0) with hb|hb <;> rcases Bool.eq_false_or_eq_true (Nat.beq (j%2) 0) with hj|hj <;> simp only[hb,cond_true,cond_false,Tr.get,hj]
  ·exact ih (by rw[hb,hj])
  ·exact ih (by rw[hb,hj])
 |f+1,.n v l r,k+1,j+1,x,h=>by
  unfold Tr.Qc;have Gf:=fun hp=>Tr.Sw f l (k / 2) (j / 2) x (Dt h hp)
  have ihr:=fun hp=>Tr.Sw f r (k / 2) (j / 2) x (Dt h hp)
  rcases Bool.eq_false_or_eq_true (Nat.beq (k%2) 0) with hb|hb <;> rcases Bool.eq_false_or_eq_true (Nat.beq (j%2) 0) with hj|hj <;> simp only[hb,cond_true,cond_false,Tr.get,hj]
  ·exact Gf (by rw[hb,hj])
  ·exact ihr (by rw[hb,hj])
theorem Tr.Ds {α:Type}(t:Tr α)(k:Nat)(x:α):(t.set k x).get k=some x:=Tr.U5 _ _ _ _ (Nat.lt_succ_self k)
theorem Tr.yB {α:Type}(t:Tr α){k j:Nat}(x:α)(h:k≠j):(t.set k x).get j=t.get j:=Tr.Sw _ _ _ _ _ h
theorem Tr.Tl {α:Type}(t:Tr α)(k j:Nat)(x:α):(t.set k x).get j=if k=j then some x else t.get j:=by
 by_cases h:k=j
 ·subst h;simp[Tr.Ds]
 ·simp[h,Tr.yB]
theorem Env.Tl (e:Env)(k j:Nat)(x:AV):Env.get (Tr.set e k x) j=if k=j then x else Env.get e j:=by
 unfold Env.get;rw[Tr.Tl];by_cases h:k=j <;> simp[h]
theorem St.Z0 (s:St)(k j:Nat)(x:Vr):(s.put k x).get j=if k=j then some x else s.get j:=by
 unfold St.put St.get;simp only[Tr.Tl];by_cases h:k=j <;> simp[h]
theorem St.ZY (s:St)(j:Nat)(x:Vr):(s.new x).get j=if s.next=j then some x else s.get j:=by
 unfold St.new St.get;simp only[Tr.Tl];by_cases h:s.next=j <;> simp[h]
theorem St.Z_ (s:St)(k:Nat)(x:Vr):(s.put k x).next=s.next:=rfl
theorem St.Z' (s:St)(x:Vr):(s.new x).next=s.next+1:=rfl
def St.look (s:St)(i:Nat):Option Vr:=match s.get i with
 |some .gone=>none
 |r=>r
theorem St.Xl (s:St)(k j:Nat)(x:Vr):(s.put k x).look j=if k=j then (match x with|.gone=>none|x=>some x) else s.look j:=by
 unfold St.look;rw[St.Z0];by_cases h:k=j
 ·subst h;cases x <;> simp
 ·simp[h]
theorem St.U9 (s:St)(j:Nat)(x:Vr)(hx:x≠.gone):(s.new x).look j=if s.next=j then some x else s.look j:=by
 unfold St.look;rw[St.ZY];by_cases h:s.next=j
 ·subst h;cases x <;> simp at hx ⊢
 ·simp[h]
theorem St.X_ {s:St}{i:Nat}{b:Vr}(h:s.get i=some b)(hb:b≠.gone):s.look i=some b:=by
 unfold St.look;rw[h];cases b <;> simp at hb ⊢
def Vr.own:Vr->Bool
 |.cells _ _ ro _ _=>!ro
 |.gone=>false
 |.map _ ro=>!ro
 |.iter _ _=>true
 |.loop ..=>true
def ZL (σ:Sg):List (AV×AV)->List MapEntry->Prop
 |[],l=>l=[]
 |(k,v)::es,l=>∃m r,l=m::r/\ZT σ k m.key/\ZT σ v m.val/\ZL σ es r
theorem ZL.mono {σ τ:Sg}(h:Sg.le σ τ):∀{x:List (AV×AV)} {l:List MapEntry},ZL σ x l->ZL τ x l
 |[],l,k=>k
 |(a,b)::x,l,k=>by
  simp only[ZL] at *;obtain⟨m,r,e,h1,h2,h3⟩:=k;exact⟨m,r,e,ZT.mono h _ _ h1,ZT.mono h _ _ h2,ZL.mono h h3⟩
def Td:Nat->LoopState
 |0=>.ready
 |1=>.busy
 |2=>.done
 |_=>.exhausted
class Stat where
 ok:Nat->Code->Prop
 spec:TypeId->Bool
variable [Stat]
def BR (σ:Sg)(p:Pl):Vr->Obj->Prop
 |.cells c e ro PQ QO,.cells cc e' fz=>cc.size=p.n/\p.sh+c.length<=p.n/\e=e' /\
   (∀j a,c[j]? = some a->∃v,cc[p.sh+j]? = some v/\ZT σ a v) /\
   (ro=false->∀j,fz.1<=p.sh+j->p.sh+j<fz.2->p.sh+j<p.n->PQ<=j/\j<QO) /\
   (Stat.spec e=true->p.sh=0/\p.n=c.length)
 |.map es _,.map Wc _=>ZL σ es Wc.toList
 |.iter s pos,.stringIter bs pos'=>p.sh=0/\pos=pos'/\bs.data.toList.drop pos=s
 |.loop st pe env params assign body,.loop r=>r.state=Td st/\r.pending=pe/\TI σ env r.tmps/\r.params.toList=params/\r.assign=assign/\r.body=body/\Stat.ok r.tmps.size assign/\Stat.ok r.tmps.size body/\(∀t∈params,t<r.tmps.size)
 |_,_=>False
theorem BR.mono {σ τ:Sg}(h:Sg.le σ τ){p:Pl}{b:Vr}{o:Obj}(k:BR σ p b o):BR τ p b o:=by
 cases b <;> cases o <;> simp only[BR] at * <;> first|exact k|skip
 ·obtain⟨h1,h2,h3,h4,h5⟩:=k;exact⟨h1,h2,h3,fun j a e=>by obtain⟨v,hv,hr⟩:=h4 j a e;exact⟨v,hv,ZT.mono h _ _ hr⟩,h5⟩
 ·exact ZL.mono h k
 ·obtain⟨h1,h2,h3,h4⟩:=k;exact⟨h1,h2,h3.mono h,h4⟩
def Rv (σ:Sg)(s:St)(c:Nat):Prop:=∃i p b,σ i=some p/\s.look i=some b/\b.own=true/\p.b=c
structure HR (σ:Sg)(s:St)(w:World):Prop where
 lt:∀i p,σ i=some p->p.b<w.heap.size
 Gv:∀i p b,σ i=some p->s.look i=some b->∃o,w.heap[p.b]? = some o/\BR σ p b o
 inj:∀i j p q b c,σ i=some p->σ j=some q->s.look i=some b->s.look j=some c->p.b=q.b->i=j
 fz:∀c o,σ.fz c=some o->w.heap[c]? = some o/\¬Rv σ s c
structure Ext (σ:Sg)(s:St)(w:World)(YE:Sg)(s':St)(w':World):Prop where
 le:Sg.le σ YE
 vy:∀c o,YE.fz c=some o->σ.fz c=some o\/w.heap.size<=c
 size:w.heap.size<=w'.heap.size
 keep:∀c,c<w.heap.size->¬Rv σ s c->w'.heap[c]? = w.heap[c]?
 owns:∀c,c<w.heap.size->Rv YE s' c->Rv σ s c
 os:w'.os=w.os
 tape:w'.tape=w.tape
 output:w'.output=w.output
theorem Ext.refl (σ:Sg)(s:St)(w:World):Ext σ s w σ s w :=
 ⟨Sg.le_refl _,fun _ _ h=>.inl h,ajg _,fun _ _ _=>rfl,fun _ _ h=>h,rfl,rfl,rfl⟩
theorem Ext.trans {JM Cq σ3:Sg}{s1 s2 s3:St}{w1 w2 w3:World}(h:Ext JM s1 w1 Cq s2 w2)(k:Ext Cq s2 w2 σ3 s3 w3):Ext JM s1 w1 σ3 s3 w3 where
 le:=Sg.le_trans h.le k.le
 vy:=fun c o hc=>by
  rcases k.vy c o hc with h1|h1
  ·exact h.vy c o h1
  ·exact .inr (aka h.size h1)
 size:=aka h.size k.size
 keep:=fun c hc hn=>by
  rw[k.keep c (Nat.lt_of_lt_of_le hc h.size) (fun ho=>hn (h.owns c hc ho)),h.keep c hc hn]
 owns:=fun c hc ho=>h.owns c hc (k.owns c (Nat.lt_of_lt_of_le hc h.size) ho)
 os:=k.os.trans h.os
 tape:=k.tape.trans h.tape
 output:=k.output.trans h.output
def TY (σ:Sg)(s:St):Prop:=∀i,s.next<=i->σ i=none
def Sg.add (σ:Sg)(i:Nat)(p:Pl):Sg:={ σ with m:=fun j=>if j=i then some p else σ j }
theorem Sg.NH {σ:Sg}{i:Nat}{p:Pl}(h:σ i=none):Sg.le σ (σ.add i p):=by
 refine⟨?_,fun _ _ h=>h⟩;intro j q hq;unfold Sg.add;by_cases e:j=i
 ·subst e;rw[h] at hq;cases hq
 ·simp[e,hq]
theorem Sg.Yx (σ:Sg)(i:Nat)(p:Pl):(σ.add i p) i=some p:=by simp[Sg.add]
theorem Sg.WQ (σ:Sg){i j:Nat}(p:Pl)(h:j≠i):(σ.add i p) j=σ j:=by simp[Sg.add,h]
theorem HR.new {σ:Sg}{s:St}{w:World}(h:HR σ s w)(hf:σ s.next=none)(b:Vr)(hb:b≠.gone)(o:Obj)(n:Nat)
  (hr:BR (σ.add s.next ⟨w.heap.size,0,n⟩) ⟨w.heap.size,0,n⟩ b o) :
  HR (σ.add s.next ⟨w.heap.size,0,n⟩) (s.new b) (w.alloc o):=by
 have hle:Sg.le σ (σ.add s.next ⟨w.heap.size,0,n⟩):=Sg.NH hf;refine⟨?_,?_,?_,?_⟩
 ·intro i p hp;by_cases e:i=s.next
  ·subst e;rw[Sg.Yx] at hp;cases hp;simp
  ·rw[Sg.WQ _ _ e] at hp;have:=h.lt i p hp;simp;omega
 ·intro i p c hp hc;rw[St.U9 _ _ _ hb] at hc;by_cases e:i=s.next
  ·subst e;rw[Sg.Yx] at hp;cases hp;simp at hc;subst hc;exact⟨o,by show (w.heap.push o)[w.heap.size]? = some o;simp,hr⟩
  ·rw[Sg.WQ _ _ e] at hp;rw[if_neg (fun h=>e h.symm)] at hc;obtain⟨o',ho,zh⟩:=h.Gv i p c hp hc;have:=h.lt i p hp;refine⟨o',?_,zh.mono hle⟩;simp only[World.alloc];rw[ajW,if_neg (by omega)];exact ho
 ·intro i j p q c d hp hq hc hd p_;rw[St.U9 _ _ _ hb] at hc hd;by_cases e:i=s.next <;> by_cases e':j=s.next
  ·rw[e,e']
  ·subst e;rw[Sg.Yx] at hp;cases hp;rw[Sg.WQ _ _ e'] at hq;have:=h.lt j q hq;simp at p_;omega
  ·subst e';rw[Sg.Yx] at hq;cases hq;rw[Sg.WQ _ _ e] at hp;have:=h.lt i p hp;simp at p_;omega
  ·rw[Sg.WQ _ _ e] at hp;rw[Sg.WQ _ _ e'] at hq;rw[if_neg (fun h=>e h.symm)] at hc;rw[if_neg (fun h=>e' h.symm)] at hd;exact h.inj i j p q c d hp hq hc hd p_
 ·intro c o' hc;obtain⟨h1,h2⟩:=h.fz c o' hc;have YH:c<w.heap.size:=(ajd.1 h1).1;refine⟨by simp only[World.alloc];rw[ajW,if_neg (by omega)];exact h1,?_⟩;rintro⟨i,p,d,hp,hd,TH,rfl⟩;rw[St.U9 _ _ _ hb] at hd;by_cases e:i=s.next
  ·subst e;rw[Sg.Yx] at hp;cases hp;simp at YH
  ·rw[Sg.WQ _ _ e] at hp;rw[if_neg (fun h=>e h.symm)] at hd;exact h2 ⟨i,p,d,hp,hd,TH,rfl⟩
theorem Ext.new {σ:Sg}{s:St}{w:World}(hf:σ s.next=none)(b:Vr)(hb:b≠.gone)(o:Obj)(n:Nat) :
  Ext σ s w (σ.add s.next ⟨w.heap.size,0,n⟩) (s.new b) (w.alloc o):=by
 refine⟨Sg.NH hf,fun _ _ h=>.inl h,by simp,?_,?_,rfl,rfl,rfl⟩
 ·intro c hc _;simp only[World.alloc];rw[ajW,if_neg (by omega)]
 ·rintro c hc ⟨i,p,d,hp,hd,TH,rfl⟩;rw[St.U9 _ _ _ hb] at hd;by_cases e:i=s.next
  ·subst e;rw[Sg.Yx] at hp;cases hp;simp at hc
  ·rw[Sg.WQ _ _ e] at hp;rw[if_neg (fun h=>e h.symm)] at hd;exact⟨i,p,d,hp,hd,TH,rfl⟩
theorem TY.new {σ:Sg}{s:St}(h:TY σ s)(b:Vr)(p:Pl):TY (σ.add s.next p) (s.new b):=by
 intro i hi;rw[St.Z'] at hi;rw[Sg.WQ _ _ (by omega)];exact h i (by omega)
theorem HR.put {σ:Sg}{s:St}{w:World}(h:HR σ s w){i:Nat}{p:Pl}{b0 b:Vr}(hp:σ i=some p)(hl:s.look i=some b0)(TH:b0.own=true)(hb:b≠.gone){w':World}(Wh:w'.heap.size=w.heap.size)
  (TW:∀c,c≠p.b->w'.heap[c]? = w.heap[c]?){o:Obj}(ho:w'.heap[p.b]? = some o)(hr:BR σ p b o):HR σ (s.put i b) w':=by
 refine⟨fun j q hq=>by rw[Wh];exact h.lt j q hq,?_,?_,?_⟩
 ·intro j q c hq hc;rw[St.Xl] at hc;by_cases e:i=j
  ·subst e;rw[hp] at hq;cases hq;rw[if_pos rfl] at hc;have:c=b:=by cases b <;> simp at hb hc ⊢ <;> exact hc.symm
   subst this;exact⟨o,ho,hr⟩
  ·rw[if_neg e] at hc;obtain⟨o',VL,UM⟩:=h.Gv j q c hq hc;have Zv:q.b≠p.b:=fun he=>e (h.inj j i q p c b0 hq hp hc hl he).symm
   exact⟨o',by rw[TW _ Zv];exact VL,UM⟩
 ·intro j k q r c d hq UM hc hd he;have look:∀j c,(s.put i b).look j=some c->∃c',s.look j=some c':=by
   intro j c hc;rw[St.Xl] at hc;by_cases e:i=j
   ·subst e;exact⟨b0,hl⟩
   ·rw[if_neg e] at hc;exact⟨c,hc⟩
  obtain⟨c',J7⟩:=look j c hc;obtain⟨d',MO⟩:=look k d hd;exact h.inj j k q r c' d' hq UM J7 MO he
 ·intro c o' hc;obtain⟨h1,h2⟩:=h.fz c o' hc;refine⟨by rw[TW c (fun e=>h2 ⟨i,p,b0,hp,hl,TH,e.symm⟩)];exact h1,?_⟩;rintro⟨j,q,d,hq,hd,VL,rfl⟩;rw[St.Xl] at hd;by_cases e:i=j
  ·subst e;rw[hp] at hq;cases hq;exact h2 ⟨i,p,b0,hp,hl,TH,rfl⟩
  ·rw[if_neg e] at hd;exact h2 ⟨j,q,d,hq,hd,VL,rfl⟩
theorem Ext.put {σ:Sg}{s:St}{w:World}{i:Nat}{p:Pl}{b0 b:Vr}(hp:σ i=some p)(hl:s.look i=some b0)(TH:b0.own=true){w':World}(Wh:w'.heap.size=w.heap.size)
  (TW:∀c,c≠p.b->w'.heap[c]? = w.heap[c]?)(aN:w'.os=w.os)(ht:w'.tape=w.tape)(NG:w'.output=w.output):Ext σ s w σ (s.put i b) w':=by
 refine⟨Sg.le_refl _,fun _ _ h=>.inl h,by omega,?_,?_,aN,ht,NG⟩
 ·intro c _ hn;exact TW c (fun e=>hn ⟨i,p,b0,hp,hl,TH,e.symm⟩)
 ·rintro c _ ⟨j,q,d,hq,hd,ho,rfl⟩;rw[St.Xl] at hd;by_cases e:i=j
  ·subst e;rw[hp] at hq;cases hq;exact⟨i,p,b0,hp,hl,TH,rfl⟩
  ·rw[if_neg e] at hd;exact⟨j,q,d,hq,hd,ho,rfl⟩
structure Good (σ:Sg)(s:St)(w:World)(YE:Sg)(s':St)(w':World):Prop where
 hr:HR YE s' w'
 ext:Ext σ s w YE s' w'
 Oc:∀i,i<s.next\/s'.next<=i->YE i=σ i
 next:s.next<=s'.next
 dead:∀i,i<s.next->s.look i=none->s'.look i=none
 news:∀i p,YE i=some p->σ i=none->w.heap.size<=p.b\/Rv σ s p.b
 glob:s'.base=s.base
theorem Good.refl {σ:Sg}{s:St}{w:World}(h:HR σ s w):Good σ s w σ s w :=
 ⟨h,Ext.refl _ _ _,fun _ _=>rfl,ajg _,fun _ _ h=>h,fun i p h k=>(by rw[k] at h;cases h),rfl⟩
theorem Good.trans {JM Cq σ3:Sg}{s1 s2 s3:St}{w1 w2 w3:World}(h:Good JM s1 w1 Cq s2 w2)(k:Good Cq s2 w2 σ3 s3 w3):Good JM s1 w1 σ3 s3 w3 where
 hr:=k.hr
 ext:=h.ext.trans k.ext
 Oc:=fun i hi=>by
  have h1:=h.next;have h2:=k.next;rw[k.Oc i (by omega),h.Oc i (by omega)]
 next:=aka h.next k.next
 dead:=fun i hi hl=>k.dead i (Nat.lt_of_lt_of_le hi h.next) (h.dead i hi hl)
 news:=fun i p hp hn=>by
  by_cases e:Cq i=none
  ·rcases k.news i p hp e with hk|hk
   ·exact .inl (aka h.ext.size hk)
   ·by_cases hb:p.b<w1.heap.size
    ·exact .inr (h.ext.owns _ hb hk)
    ·exact .inl (by omega)
  ·cases hq:Cq i with
   |none=>exact absurd hq e
   |some q =>
    have:=k.ext.le.p i q hq;rw[hp] at this;cases this;exact h.news i p hq hn
 glob:=k.glob.trans h.glob
theorem Good.fresh {σ YE:Sg}{s s':St}{w w':World}(h:Good σ s w YE s' w')(hf:TY σ s):TY YE s':=fun i hi=>by
 rw[h.Oc i (.inr hi)];exact hf i (aka h.next hi)
theorem HR.of_heap {σ:Sg}{s:St}{w w':World}(h:HR σ s w)(e:w'.heap=w.heap):HR σ s w' :=
 ⟨fun i p hp=>by rw[e];exact h.lt i p hp,fun i p b hp hb=>by rw[e];exact h.Gv i p b hp hb,h.inj,fun c o hc=>by rw[e];exact h.fz c o hc⟩
theorem Good.drew {σ YE:Sg}{s s':St}{w w':World}(h:Good σ s w YE s' w'):Good σ s w YE s' w'.drew :=
 ⟨h.hr.of_heap rfl,⟨h.ext.le,h.ext.vy,h.ext.size,h.ext.keep,h.ext.owns,h.ext.os,h.ext.tape,h.ext.output⟩,h.Oc,h.next,h.dead,h.news,h.glob⟩
theorem Good.oU {σ YE:Sg}{s s':St}{w w':World}(h:Good σ s w.drew YE s' w'):Good σ s w YE s' w' :=
 ⟨h.hr,⟨h.ext.le,h.ext.vy,h.ext.size,h.ext.keep,h.ext.owns,h.ext.os,h.ext.tape,h.ext.output⟩,h.Oc,h.next,h.dead,h.news,h.glob⟩
theorem Good.new {σ:Sg}{s:St}{w:World}(h:HR σ s w)(hf:σ s.next=none)(b:Vr)(hb:b≠.gone)(o:Obj)(n:Nat)
  (hr:BR (σ.add s.next ⟨w.heap.size,0,n⟩) ⟨w.heap.size,0,n⟩ b o) :
  Good σ s w (σ.add s.next ⟨w.heap.size,0,n⟩) (s.new b) (w.alloc o) where
 hr:=h.new hf b hb o n hr
 ext:=Ext.new hf b hb o n
 Oc:=fun i hi=>by
  rw[St.Z'] at hi;exact Sg.WQ _ _ (by omega)
 next:=by rw[St.Z'];omega
 dead:=fun i hi hl=>by
  rw[St.U9 _ _ _ hb,if_neg (by omega)];exact hl
 news:=fun i p hp hn=>by
  by_cases e:i=s.next
  ·subst e;rw[Sg.Yx] at hp;cases hp;exact .inl (ajg _)
  ·rw[Sg.WQ _ _ e,hn] at hp;cases hp
 glob:=rfl
theorem Good.put {σ:Sg}{s:St}{w:World}(h:HR σ s w){i:Nat}{p:Pl}{b0 b:Vr}(hp:σ i=some p)(hl:s.look i=some b0)(TH:b0.own=true)(hb:b≠.gone){w':World}(Wh:w'.heap.size=w.heap.size)
  (TW:∀c,c≠p.b->w'.heap[c]? = w.heap[c]?){o:Obj}(ho:w'.heap[p.b]? = some o)(hr:BR σ p b o)(aN:w'.os=w.os)(ht:w'.tape=w.tape)(NG:w'.output=w.output):Good σ s w σ (s.put i b) w' where
 hr:=h.put hp hl TH hb Wh TW ho hr
 ext:=Ext.put hp hl TH Wh TW aN ht NG
 Oc:=fun _ _=>rfl
 next:=ajg _
 dead:=fun j _ hj=>by
  rw[St.Xl];by_cases e:i=j
  ·subst e;rw[hl] at hj;cases hj
  ·rw[if_neg e];exact hj
 news:=fun j q h1 h2=>by rw[h2] at h1;cases h1
 glob:=rfl
end Go.Am
namespace Go.Am
open Go
structure Wb [Stat] (X:Cx)(P:Program):Prop where
 Zj:∀t d,X.Zj t=some d->P.underlying t=some d
 inf:∀t i,X.inf t=some i->P.info? t=some i
 fn:∀f fn,X.fn f=some fn->P.funcs[f]? = some fn
 BU:∀t,X.BU t=true->P.eqGuardType P.depth t=false/\P.stoodInHeld t=false
 spec:∀t,Stat.spec t=true->X.spec t=true
 acC:∀t,Stat.spec t=true->X.Zj t≠some (.int .u8)
def WR [Stat] (X:Cx)(σ:Sg):Prop:=∀g,g<X.glob->∃n,σ g=some ⟨g,0,n⟩/\∀b,X.Na g=some b->b.own=false/\∃o,σ.fz g=some o/\BR σ.bare ⟨g,0,n⟩ b o
section
variable {P:Program}{w:World}
theorem ZK {t:TypeId}{d:TypeDesc}(h:P.underlying t=some d):(underlying t).run P w=.ok d w:=by
 simp[underlying,h]
theorem JL {t:TypeId}{i:TypeInfo}(h:P.info? t=some i):(typeInfo t).run P w=.ok i w:=by
 simp[typeInfo,h]
theorem o_ {t:TypeId}{i:TypeInfo}(h:P.info? t=some i):(sizeOf t).run P w=.ok i.size w:=by
 simp[sizeOf,JL h]
theorem BT {t:TypeId}{i:TypeInfo}{z:Value}(h:P.info? t=some i)(hz:i.zero=some z):(zeroValue t).run P w=.ok z w:=by
 simp[zeroValue,JL h,hz]
end
section
variable [Stat] {X:Cx}{P:Program}(hX:Wb X P){w:World}
include hX
theorem Y_ {t:TypeId}{n:Nat}(h:size X t=some n):(sizeOf t).run P w=.ok n w:=by
 unfold size at h
 split at h
 ·rename_i i hi;cases h;exact o_ (hX.inf _ _ hi)
 ·cases h
theorem Uh {t:TypeId}{b:Bool}(h:YB X t=some b):(isAgg t).run P w=.ok b w:=by
 unfold YB at h
 split at h <;> cases h <;> rename_i hd
 ·simp[isAgg,ZK (hX.Zj _ _ hd)]
 ·simp[isAgg,ZK (hX.Zj _ _ hd)]
 ·simp only[isAgg,Sem.run_bind,ZK (hX.Zj _ _ hd),Result.andThen_ok];rfl
end
theorem vH (σ:Sg):∀(n:Nat) (v:Value) (a:AV),o9 n v=some a->ZT σ a v:=by
 intro n
 induction n with
 |zero=>intro v a h;simp[o9] at h
 |succ n ih =>
  have hl:∀(l:List Value) (as:List AV),l.mapM (o9 n)=some as->ZU σ as l:=by
   intro l
   induction l with
   |nil=>intro as h;simp at h;subst h;simp[ZU]
   |cons v l Gf =>
    intro as h;simp only[List.mapM_cons,Option.bind_eq_bind,Option.bind_eq_some_iff,Option.pure_def,Option.some.injEq] at h;obtain⟨a,ha,as',has,rfl⟩:=h;simp only[ZU];exact⟨v,l,rfl,ih v a ha,Gf as' has⟩
  intro v a h;unfold o9 at h
  split at h <;> first|(cases h;simp[ZT];done)|(cases h;done)|skip
  ·simp only[aj6] at h;obtain⟨as,has,rfl⟩:=h;simp only[ZT];exact⟨_,rfl,hl _ _ has⟩
  ·simp only[aj6] at h;obtain⟨as,has,rfl⟩:=h;simp only[ZT];exact⟨_,rfl,hl _ _ has⟩
def JK (tmps:Array Value):Operand->Value
 |.tmp t=>tmps.getD t Go.undef
 |.const v=>v
 |.global g=>.pointer (some ⟨g,0,none⟩)
 |.func f=>.func (.func f) #[] #[]
theorem Uy [Stat] {X:Cx}{σ:Sg}(hg:WR X σ){e:Env}{tmps:Array Value}(he:TI σ e tmps){x:Operand}{a:AV}(h:eval X e x=some a):ZT σ a (JK tmps x):=by
 cases x <;> simp only[eval] at h
 ·cases h;exact he _
 ·exact vH σ _ _ _ h
 ·rename_i g
  split at h
  ·rename_i YH
   cases h
   obtain⟨n,hn,_⟩:=hg g YH;simp only[ZT,JK];exact⟨_,hn,rfl⟩
  ·cases h
 ·cases h
  simp only[ZT,JK];exact⟨_,_,_,rfl,rfl,by simp[ZU],by simp[ZU]⟩
theorem RD [Stat] {X:Cx}{σ:Sg}(hg:WR X σ){e:Env}{tmps:Array Value}(he:TI σ e tmps):∀{l:List Operand} {as:List AV},Wz X e l=some as->ZU σ as (l.map (JK tmps))
 |[],as,h=>by simp[Wz] at h;subst h;simp[ZU]
 |x::l,as,h=>by
  simp only[Wz] at h
  split at h
  ·rename_i v r h1 h2
   cases h
   simp only[aju,ZU];exact⟨_,_,rfl,Uy hg he h1,RD hg he h2⟩
  ·cases h
def Ux (σ:Sg):List (Nat×AV)->List (Nat×Value)->Prop
 |[],l=>l=[]
 |(i,a)::x,l=>∃v y,l=(i,v)::y/\ZT σ a v/\Ux σ x y
theorem Sc [Stat] {X:Cx}{σ:Sg}(hg:WR X σ){e:Env}{tmps:Array Value}(he:TI σ e tmps):∀{l:List (Nat×Operand)} {as:List (Nat×AV)},Wk X e l=some as->Ux σ as (l.map fun (i,x)=>(i,JK tmps x))
 |[],as,h=>by simp[Wk] at h;subst h;simp[Ux]
 |(i,x)::l,as,h=>by
  simp only[Wk] at h
  split at h
  ·rename_i v r h1 h2
   cases h
   simp only[aju,Ux];exact⟨_,_,rfl,Uy hg he h1,Sc hg he h2⟩
  ·cases h
theorem Xc:∀{n o:Nat} {l r:List AV},XE n o l=some r->r.length=n/\∀i,i<n->r[i]? = l[o+i]?/\o+i<l.length
 |0,_,_,r,h=>by simp[XE] at h;subst h;exact⟨rfl,fun i hi=>by omega⟩
 |n+1,_,[],r,h=>by simp[XE] at h
 |n+1,0,x::l,r,h=>by
  simp only[XE] at h
  split at h
  ·rename_i r' h'
   cases h
   obtain⟨h1,h2⟩:=Xc h';refine⟨by simp[h1],fun i hi=>?_⟩
   cases i with
   |zero=>simp
   |succ i =>
    have:=h2 i (by omega);simp only[ajr] at this;simp only[ajr,ajO,ajk];exact⟨this.1,by omega⟩
  ·cases h
 |n+1,o+1,x::l,r,h=>by
  simp only[XE] at h;obtain⟨h1,h2⟩:=Xc h;refine⟨h1,fun i hi=>?_⟩;have:=h2 i hi;rw[show o+1+i=(o+i)+1 from by omega];simp only[ajO,ajk];exact⟨this.1,by omega⟩
theorem RA {n o:Nat}{l r:List AV}(h:XE n o l=some r){i:Nat}{a:AV}(ha:r[i]? = some a):l[o+i]? = some a:=by
 obtain⟨h1,h2⟩:=Xc h;have:i<n:=by
  have:=(ajt.1 ha).1;omega
 rw[<-(h2 i this).1];exact ha
theorem MX:∀{o:Nat} {vs l r:List AV},lay o vs l=some r->r.length=l.length/\(vs≠[]->o+vs.length<=l.length)/\∀i,r[i]? = if o<=i/\i<o+vs.length then vs[i-o]? else l[i]?
 |o,[],l,r,h=>by
  simp[lay] at h;subst h;refine⟨rfl,fun h=>absurd rfl h,fun i=>?_⟩;rw[if_neg (by simp)]
 |o,v::vs,[],r,h=>by cases o <;> simp[lay] at h
 |0,v::vs,x::l,r,h=>by
  simp only[lay] at h
  split at h
  ·rename_i r' h'
   cases h
   obtain⟨h1,h2,h3⟩:=MX h';refine⟨by simp[h1],fun _=>?_,fun i=>?_⟩
   ·by_cases hv:vs=[]
    ·subst hv;simp
    ·have:=h2 hv;simp;omega
   ·cases i with
    |zero=>simp
    |succ i =>
     have:=h3 i;simp only[ajr,aji,true_and,Nat.sub_zero] at this;simp only[ajr,aji,true_and,Nat.sub_zero,ajk,ajO,this];by_cases hc:i<vs.length
     ·rw[if_pos hc,if_pos (by omega)]
     ·rw[if_neg hc,if_neg (by omega)]
  ·cases h
 |o+1,v::vs,x::l,r,h=>by
  simp only[lay] at h
  split at h
  ·rename_i r' h'
   cases h
   obtain⟨h1,h2,h3⟩:=MX h';refine⟨by simp[h1],fun _=>?_,fun i=>?_⟩
   ·have:=h2 (by simp);simp at this ⊢;omega
   ·cases i with
    |zero=>rw[if_neg (by omega)];simp
    |succ i =>
     have:=h3 i;simp only[ajO,this];by_cases hc:o<=i/\i<o+(v::vs).length
     ·rw[if_pos hc,if_pos (by omega)]
      congr 1
      omega
     ·rw[if_neg hc,if_neg (by omega)]
  ·cases h
end Go.Am
namespace Go.Am
open Go
def Vc (P:Program)(w:World)(σ:Sg)(m:Sem Value)(a:AV):Prop:=∃v,m.run P w=.ok v w/\ZT σ a v
section
variable [Stat] {X:Cx}{P:Program}(hX:Wb X P){w:World}{σ:Sg}
theorem Ze {k:IntKind}{n:Int}{v:Value}(h:ZT σ (.int k n) v):v=.int k n:=by simpa only[ZT] using h
theorem Xb {b:Bool}{v:Value}(h:ZT σ (.bool b) v):v=.bool b:=by simpa only[ZT] using h
theorem XM {s:List UInt8}{v:Value}(h:ZT σ (.str s) v):∃bs:ByteArray,v=.string bs/\bs.data.toList=s:=by simpa only[ZT] using h
theorem Xm {b o:Nat}{v:Value}(h:ZT σ (.ptr b o) v):∃p,σ b=some p/\v=.pointer (some ⟨p.b,p.sh+o,none⟩):=by simpa only[ZT] using h
theorem T8 {b o n:Nat}{c:Option Nat}{z:Nat}{v:Value}(h:ZT σ (.sl b o n c z) v):∃a k,v=.slice (some a) n k/\Fq σ b o n c z a k:=by simpa only[ZT] using h
theorem WJ {cs:List AV}{v:Value}(h:ZT σ (.agg cs) v):∃vs,v=.agg vs/\ZU σ cs vs.toList:=by simpa only[ZT] using h
theorem lL {cs:List AV}{v:Value}(h:ZT σ (.XF cs) v):∃vs,v=.tuple vs/\ZU σ cs vs.toList:=by simpa only[ZT] using h
theorem PK {r:Nat}{v:Value}(h:ZT σ (.map r) v):∃p,σ r=some p/\v=.map (some p.b):=by simpa only[ZT] using h
theorem OE {es:List AV}{v:Value}(h:ZT σ (.fz es) v):∃a c us,v=.slice (some a) es.length c/\es.length<=c/\ZU σ.bare es us/\(us=[]\/Li σ a us):=by simpa only[ZT] using h
theorem LU {cs:List AV}{o:Nat}{v:Value}(h:ZT σ (.fp cs o) v):∃b base us cc e fz,v=.pointer (some ⟨b,base+o,none⟩)/\σ.fz b=some (.cells cc e fz)/\ZU σ.bare cs us/\∀i u,us[i]? = some u->cc[base+i]? = some u:=by simpa only[ZT] using h
theorem Ah {α β:Type}(f:α->List β)(n:Nat):∀(l:List α),(∀u∈l,(f u).length=n)->∀(i j:Nat) (u:α),l[i]? = some u->j<n->(l.flatMap f)[i*n+j]? = (f u)[j]?
 |[],_,i,j,u,h,_=>by simp at h
 |x::l,hl,0,j,u,h,hj=>by
  simp at h;subst h;have:=hl x (aba ..);rw[ajL,Nat.zero_mul,ajr,ajM (by omega)]
 |x::l,hl,i+1,j,u,h,hj=>by
  simp at h;have hx:=hl x (aba ..);rw[ajL,akc (by rw[hx,akf];omega),hx,akf,ajB,show i*n+n+j-n=i*n+j by omega];exact Ah f n l (fun u hu=>hl u (aab _ hu)) i j u h hj
theorem XK (b o n:Nat):(⟨b,o,none⟩:Addr).add n=⟨b,o+n,none⟩:=by
 unfold Addr.add;split
 ·subst_vars;rfl
 ·rfl
include hX
theorem FY {t:TypeId}{x:AV}{v:Value}{f:Nat}{a:AV}(hx:ZT σ x v)(h:SP X t x f=some a):Vc P w σ (Instr.fieldAt t v f) a:=by
 unfold SP at h
 split at h
 ·rename_i fs b o hu
  split at h
  ·rename_i fd hf
   split at h
   ·rename_i n hs
    cases h
    obtain⟨p,hp,rfl⟩:=Xm hx;refine⟨.pointer (some ⟨p.b,p.sh+(o+fd.offset),none⟩),?_,?_⟩
    ·simp only[Instr.fieldAt,Sem.run_bind,ZK (hX.Zj _ _ hu),Result.andThen_ok,hf,Instr.sureAddr,Sem.run_pure,fieldPlace,Y_ hX hs];simp[XK,ajf]
    ·simp only[ZT];exact⟨p,hp,rfl⟩
   ·cases h
  ·cases h
 ·rename_i fs c o hu
  split at h
  ·rename_i fd hf
   split at h
   ·rename_i n hs
    cases h
    obtain⟨b,base,us,cc,e,fz,rfl,h1,h2,h3⟩:=LU hx;refine⟨.pointer (some ⟨b,base+(o+fd.offset),none⟩),?_,?_⟩
    ·simp only[Instr.fieldAt,Sem.run_bind,ZK (hX.Zj _ _ hu),Result.andThen_ok,hf,Instr.sureAddr,Sem.run_pure,fieldPlace,Y_ hX hs];simp[XK,ajf]
    ·simp only[ZT];exact⟨b,base,us,cc,e,fz,rfl,h1,h2,h3⟩
   ·cases h
  ·cases h
 ·cases h
theorem FX {t:TypeId}{x i:AV}{v u:Value}{a:AV}(hx:ZT σ x v)(hi:ZT σ i u)(h:VZ X t x i=some a):Vc P w σ (Instr.indexAt t v u) a:=by
 unfold VZ at h
 split at h
 ·rename_i k i;have:=Ze hi;subst this
  split at h
  ·rename_i e b o len cap Wa hu
   split at h
   ·rename_i YH
    split at h
    ·rename_i n hs
     cases h
     obtain⟨ad,c,rfl,LA⟩:=T8 hx;obtain⟨p,hp,Cu,_⟩:=LA.at_;have hlen:=LA.len;have hc:c≠0:=by omega
     have:=Cu hc;subst this;refine⟨.pointer (some ⟨p.b,p.sh+(o+i.toNat*n),none⟩),?_,?_⟩
     ·simp only[Instr.indexAt,asIntOf,Sem.run_bind,Sem.run_pure,Result.andThen_ok,ZK (hX.Zj _ _ hu),YH,and_self,if_true,Y_ hX hs];simp[XK,ajf]
     ·simp only[ZT];exact⟨p,hp,rfl⟩
    ·cases h
   ·cases h
  ·rename_i len e b o hu
   split at h
   ·rename_i YH
    split at h
    ·rename_i n hs
     cases h
     obtain⟨p,hp,rfl⟩:=Xm hx;refine⟨.pointer (some ⟨p.b,p.sh+(o+i.toNat*n),none⟩),?_,?_⟩
     ·simp only[Instr.indexAt,asIntOf,Sem.run_bind,Sem.run_pure,Result.andThen_ok,ZK (hX.Zj _ _ hu),Instr.sureAddr,YH,and_self,if_true,Y_ hX hs];simp[XK,ajf]
     ·simp only[ZT];exact⟨p,hp,rfl⟩
    ·cases h
   ·cases h
  ·rename_i e es hu
   split at h
   ·rename_i h0
    split at h
    ·rename_i x n S8 hs
     split at h
     ·rename_i hxn
      cases h
      obtain⟨a,c,us,rfl,dn,TF,Sb⟩:=OE hx;obtain⟨u,F9,NB⟩:=TF.get _ _ S8;have YH:i.toNat<es.length:=(ajt.1 S8).1;have Pc:=WD NB;have hun:u.cells.size=n:=by have:=Pc.length;simpa[hxn.1] using this.symm
      rcases Sb with rfl|⟨Lu,cc,ee,fz,m,g1,g2,g3,g4⟩
      ·simp at F9
      ·have hm:u.cells.size=m:=g3 u (aj1 F9);have Ca:m=n:=by omega
       subst Ca;have Zv:¬(m=0):=g2;obtain⟨ab,ao,asp⟩:=a;simp only at Lu g1 g4;subst Lu;refine⟨.pointer (some ⟨ab,ao+i.toNat*m+0,none⟩),?_,?_⟩
       ·have ahb:0<=i/\i<(es.length:Int):=⟨h0,by omega⟩;simp only[Instr.indexAt,asIntOf,Sem.run_bind,Sem.run_pure,Result.andThen_ok,ZK (hX.Zj _ _ hu),ahb,and_self,if_true,Y_ hX hs];simp[XK]
       ·simp only[ZT];refine⟨ab,ao+i.toNat*m,u.cells.toList,cc,ee,fz,rfl,g1,Pc,fun j y hj=>?_⟩;have hjm:j<m:=by rw[<-hm];exact (ajt.1 hj).1
        have:=Ah (fun u:Value=>u.cells.toList) m us (fun u hu=>by simpa using g3 u hu) i.toNat j u F9 hjm;rw[hj] at this;rw[ajf];exact g4 _ _ this
     ·cases h
    ·cases h
   ·cases h
  ·rename_i len e c o hu
   split at h
   ·rename_i YH
    split at h
    ·rename_i n hs
     cases h
     obtain⟨b,base,us,cc,ee,fz,rfl,h1,h2,h3⟩:=LU hx;refine⟨.pointer (some ⟨b,base+(o+i.toNat*n),none⟩),?_,?_⟩
     ·simp only[Instr.indexAt,asIntOf,Sem.run_bind,Sem.run_pure,Result.andThen_ok,ZK (hX.Zj _ _ hu),Instr.sureAddr,YH,and_self,if_true,Y_ hX hs];simp[XK,ajf]
     ·simp only[ZT];exact⟨b,base,us,cc,ee,fz,rfl,h1,h2,h3⟩
    ·cases h
   ·cases h
  ·cases h
 ·cases h
theorem Rw {t:TypeId}{cs:List AV}{vs:Array Value}{off:Nat}{a:AV}(hv:ZU σ cs vs.toList)(h:Ss X t cs off=some a):Vc P w σ (part t vs off) a:=by
 unfold Ss at h
 split at h
 ·rename_i MG
  split at h
  ·rename_i n hs
   split at h
   ·rename_i r hr
    cases h
    refine⟨.agg (vs.extract off (off+n)),?_,?_⟩
    ·simp only[part,Sem.run_bind,Uh hX MG,Result.andThen_ok,if_true,Y_ hX hs,Sem.run_pure]
    ·simp only[ZT];refine⟨_,rfl,?_⟩;obtain⟨h1,h2⟩:=Xc hr;have hlen:=hv.length;have Wh:off+n<=vs.size\/n=0:=by
      by_cases hn:n=0
      ·exact .inr hn
      ·have:=(h2 (n-1) (by omega)).2;simp at hlen;left;omega
     apply ZU.Du
     ·simp[h1];omega
     ·intro i hi OL;have Sd:i<n:=by omega
      obtain⟨h3,h4⟩:=h2 i Sd;obtain⟨u,F9,NB⟩:=ZU.get hv (off+i) cs[off+i] (aaa h4);have e1:r[i]=cs[off+i]:=by
       rw[aaa hi,aaa h4] at h3;exact Option.some.inj h3
      rw[e1];have e2:(vs.extract off (off+n)).toList[i]=u:=by
       have:off+i<vs.size:=by simp at hlen;omega
       simp only[Array.getElem_toList,Array.getElem_extract];rw[ajK,ajN this] at F9;exact Option.some.inj F9
      rw[e2];exact NB
   ·cases h
  ·cases h
 ·rename_i MG;obtain⟨u,F9,NB⟩:=ZU.get hv _ _ h;refine⟨u,?_,NB⟩;rw[ajK] at F9;simp only[part,Sem.run_bind,Uh hX MG,Result.andThen_ok,ajn,if_false,F9,Sem.run_pure]
 ·cases h
theorem qN {t:TypeId}{x i:AV}{v u:Value}{a:AV}(hx:ZT σ x v)(hi:ZT σ i u)(h:HX X t x i=some a):Vc P w σ (Instr.index t v u) a:=by
 unfold HX at h
 split at h
 ·rename_i k i;have:=Ze hi;subst this
  split at h
  ·rename_i len e cs hu
   split at h
   ·rename_i YH
    split at h
    ·rename_i n hs;obtain⟨vs,rfl,TA⟩:=WJ hx;obtain⟨r,B6,bB⟩:=Rw hX (w:=w) TA h;refine⟨r,?_,bB⟩;simp only[Instr.index,asIntOf,Sem.run_bind,Sem.run_pure,Result.andThen_ok,ZK (hX.Zj _ _ hu),YH,and_self,if_true,Y_ hX hs,B6]
    ·cases h
   ·cases h
  ·rename_i b hu
   split at h
   ·rename_i h0
    split at h
    ·rename_i c hc
     cases h
     obtain⟨bs,rfl,rfl⟩:=XM hx;refine⟨.int .u8 c.toNat,?_,by simp[ZT]⟩;have YH:i.toNat<bs.size:=by
      have:=(ajt.1 hc).1;rw[ajx] at this;exact this
     have hb:bs[i.toNat]? = some c:=by
      rw[ByteArray.getElem?_lt' _ _ YH];obtain⟨h1,h2⟩:=ajt.1 hc
      simpa[ByteArray.getElem_eq_getElem_data] using h2
     simp only[Instr.index,asIntOf,Sem.run_bind,Sem.run_pure,Result.andThen_ok,ZK (hX.Zj _ _ hu),h0,if_true,hb]
    ·cases h
   ·cases h
  ·cases h
 ·cases h
theorem qM {t:TypeId}{fs:Array Field}{cs:List AV}{v:Value}{f:Nat}{fd:Field}{a:AV}(hu:X.Zj t=some (.struct fs))(hx:ZT σ (.agg cs) v)(hf:fs[f]? = some fd)(h:Ss X fd.type cs fd.offset=some a) :
  Vc P w σ (Instr.field t v f) a:=by
 obtain⟨vs,rfl,TA⟩:=WJ hx;obtain⟨r,B6,bB⟩:=Rw hX (w:=w) TA h;refine⟨r,?_,bB⟩;simp only[Instr.field,Sem.run_bind,ZK (hX.Zj _ _ hu),Result.andThen_ok,hf,asAgg,Sem.run_pure,B6]
omit hX in
theorem Ag {vs:List AV}{v:Value}{i:Nat}{a:AV}(hx:ZT σ (.XF vs) v)(h:vs[i]? = some a):Vc P w σ (Instr.extract v i) a:=by
 obtain⟨us,rfl,NP⟩:=lL hx;obtain⟨u,F9,NB⟩:=ZU.get NP _ _ h;rw[ajK] at F9;exact⟨u,by simp[Instr.extract,F9],NB⟩
end
end Go.Am
namespace Go.Am
open Go
section
variable [Stat] {X:Cx}{P:Program}(hX:Wb X P){w:World}{σ:Sg}
theorem bytes_beq (a b:ByteArray):(a==b)=(a.data.toList==b.data.toList):=by
 rw[beq_toListBytes,ByteArray.toList_eq,ByteArray.toList_eq]
def Rx (d:Nat)(elem:TypeId)(n:Nat)(xs ys:Array Value):List Nat->Sem Bool
 |[]=>pure true
 |i::l=>do
  let a <-part elem xs (i*n)
  let b <-part elem ys (i*n)
  let r <-Op.equalIn d elem a b
  if (!r)=true then pure false else Rx d elem n xs ys l
theorem run_equalIn_array {d:Nat}{t:TypeId}{len:Nat}{elem:TypeId}{n:Nat}{xs ys:Array Value}(ht:P.underlying t=some (.array len elem))
  (hs:∀w,(sizeOf elem).run P w=.ok n w):(Op.equalIn (d+1) t (.agg xs) (.agg ys)).run P w=(Rx d elem n xs ys (List.range' 0 len)).run P w:=by
 simp only[Op.equalIn,Sem.run_bind,ZK ht,Result.andThen_ok,hs];rw[Std.Legacy.Range.forIn_eq_forIn_range'];simp only[Std.Legacy.Range.size,Nat.sub_zero,Nat.add_sub_cancel,Nat.div_one];generalize List.range' 0 len=l
 induction l generalizing w with
 |nil=>simp[Rx]
 |cons i l ih =>
  simp only[List.forIn_cons,Rx,Sem.run_bind,Sem.run_ite];generalize (part elem xs (i*n)).run P w=r1
  cases r1 with
  |halt x w1=>simp[Result.andThen]
  |ok a w1 =>
   simp only[Result.andThen_ok];generalize (part elem ys (i*n)).run P w1=r2
   cases r2 with
   |halt x w1=>simp[Result.andThen]
   |ok b w2 =>
    simp only[Result.andThen_ok];generalize (Op.equalIn d elem a b).run P w2=r3
    cases r3 with
    |halt x w1=>simp[Result.andThen]
    |ok r w3 =>
     cases r
     ·simp only[Result.andThen_ok,ajY,if_true,Sem.run_pure]
     ·simp only[Result.andThen_ok,ajT,ajn,if_false,Sem.run_pure];exact ih
include hX
theorem JI:∀(d:Nat) (t:TypeId) (x y:AV) (b:Bool),yG X d t x y=some b->∀(u v:Value),ZT σ x u->ZT σ y v->∀D,d<=D->∀w,(Op.equalIn D t u v).run P w=.ok b w:=by
 intro d
 induction d with
 |zero=>intro t x y b h;simp[yG] at h
 |succ d ih =>
  intro t x y b h u v hu hv D hD w;obtain⟨D,rfl⟩:∃D',D=D'+1:=⟨D-1,by omega⟩;have hD':d<=D:=by omega
  unfold yG at h
  split at h <;> try (cases h;done)
  ·rename_i ht
   cases h;rw[Xb hu,Xb hv]
   exact run_equalIn_bool w D t _ _ (hX.Zj _ _ ht)
  ·rename_i k1 k a k' b' ht
   split at h
   ·rename_i hk;cases h;rw[Ze hu,Ze hv];subst hk;exact run_equalIn_int w D t _ _ _ _ (hX.Zj _ _ ht)
   ·cases h
  ·rename_i a b' ht
   cases h
   obtain⟨p,rfl,rfl⟩:=XM hu;obtain⟨q,rfl,rfl⟩:=XM hv;rw[run_equalIn_string w D t _ _ (hX.Zj _ _ ht),ByteArray.toList_eq,ByteArray.toList_eq]
  ·rename_i e ht
   cases h;simp only[ZT] at hu hv;subst hu;subst hv
   simp[Op.equalIn,ZK (hX.Zj _ _ ht)]
  ·rename_i e b o ht
   cases h;obtain⟨p,_,rfl⟩:=Xm hv;simp only[ZT] at hu;subst hu
   simp[Op.equalIn,ZK (hX.Zj _ _ ht)]
  ·rename_i e b o ht
   cases h;obtain⟨p,_,rfl⟩:=Xm hu;simp only[ZT] at hv;subst hv
   simp[Op.equalIn,ZK (hX.Zj _ _ ht)]
  ·rename_i e b1 o1 b2 o2 ht
   split at h
   ·rename_i n hs
    split at h
    ·rename_i hb;subst hb;cases h;obtain⟨p,hp,rfl⟩:=Xm hu;obtain⟨q,hq,rfl⟩:=Xm hv;rw[hp] at hq;cases hq;simp only[Op.equalIn,Sem.run_bind,ZK (hX.Zj _ _ ht),Result.andThen_ok,Y_ hX hs];have hn:n.succ≠0:=Nat.succ_ne_zero n;rw[if_pos hn];simp only[sameAddr,beq_self_eq_true,if_true];show Result.ok (({ block:=p.b,off:=p.sh+o1 }:Addr)=={ block:=p.b,off:=p.sh+o2 }) w=Result.ok (o1==o2) w
     congr 1
     rw[aj4];simp
    ·cases h
   ·cases h
  all_goals first
   |(rename_i ht;cases h;simp only[ZT] at hu hv;subst hu;subst hv;simp[Op.equalIn,ZK (hX.Zj _ _ ht)];done)
   |(rename_i ht;cases h;simp only[ZT] at hu hv;obtain⟨_,_,rfl,_⟩:=hu;subst hv;simp[Op.equalIn,ZK (hX.Zj _ _ ht)];done)
   |(rename_i ht;cases h;simp only[ZT] at hu hv;obtain⟨_,_,rfl,_⟩:=hv;subst hu;simp[Op.equalIn,ZK (hX.Zj _ _ ht)];done)
   |(rename_i ht;cases h;simp only[ZT] at hu hv;obtain⟨_,_,rfl⟩:=hu;subst hv;simp[Op.equalIn,ZK (hX.Zj _ _ ht)];done)
   |(rename_i ht;cases h;simp only[ZT] at hu hv;obtain⟨_,_,rfl⟩:=hv;subst hu;simp[Op.equalIn,ZK (hX.Zj _ _ ht)];done)
   |(rename_i ht;cases h;simp only[ZT] at hu hv;obtain⟨_,_,_,rfl,_⟩:=hu;subst hv;simp[Op.equalIn,ZK (hX.Zj _ _ ht)];done)
   |(rename_i ht;cases h;simp only[ZT] at hu hv;obtain⟨_,_,_,rfl,_⟩:=hv;subst hu;simp[Op.equalIn,ZK (hX.Zj _ _ ht)];done)
   |(rename_i ht;cases h;simp only[ZT] at hu hv;obtain⟨_,rfl,_⟩:=hu;subst hv;simp[Op.equalIn,ZK (hX.Zj _ _ ht)];done)
   |(rename_i ht;cases h;simp only[ZT] at hu hv;obtain⟨_,rfl,_⟩:=hv;subst hu;simp[Op.equalIn,ZK (hX.Zj _ _ ht)];done)
   |skip
  ·
   rename_i fs a b' ht
   split at h
   ·rename_i Ya;obtain⟨us,rfl,NP⟩:=WJ hu;obtain⟨vs,rfl,TA⟩:=WJ hv;have hfo:P.fieldsOf t=fs:=by unfold Program.fieldsOf;rw[hX.Zj _ _ ht]
    rw[run_equalIn_struct w D t us vs (by rw[hfo];exact hX.Zj _ _ ht) (hX.BU _ Ya).2,hfo];generalize fs.toList=l at h;clear hfo ht
    induction l generalizing w with
    |nil=>simp only[OI] at h;cases h;simp[Op.eqFields]
    |cons f l Gf =>
     simp only[OI] at h
     split at h
     ·cases h
     ·rename_i hn
      split at h
      ·rename_i x1 y1 h1 h2;obtain⟨x2,aV,Cs⟩:=Rw hX (w:=w) NP h1;obtain⟨y2,dQ,jH⟩:=Rw hX (w:=w) TA h2;simp only[Op.eqFields,ne_eq,hn,not_false_eq_true,if_true,Sem.run_bind,aV,Result.andThen_ok,dQ]
       split at h
       ·rename_i he;rw[ih _ _ _ _ he _ _ Cs jH D hD' w];simp only[Result.andThen_ok,ajT,ajn,if_false];exact Gf w h
       ·rename_i he
        cases h
        rw[ih _ _ _ _ he _ _ Cs jH D hD' w];simp
       ·cases h
      ·cases h
   ·cases h
  ·
   rename_i len e a b' ht
   split at h
   ·rename_i n hs;obtain⟨us,rfl,NP⟩:=WJ hu;obtain⟨vs,rfl,TA⟩:=WJ hv;rw[run_equalIn_array (hX.Zj _ _ ht) (fun w=>Y_ hX hs)];clear ht;generalize 0=i at h
    induction len generalizing w i with
    |zero=>simp only[QQ] at h;cases h;simp[Rx]
    |succ len Gf =>
     simp only[QQ] at h
     split at h
     ·rename_i x1 y1 h1 h2;obtain⟨x2,aV,Cs⟩:=Rw hX (w:=w) NP h1;obtain⟨y2,dQ,jH⟩:=Rw hX (w:=w) TA h2;rw[List.range'_succ];simp only[Rx,Sem.run_bind,aV,Result.andThen_ok,dQ]
      split at h
      ·rename_i he;rw[ih _ _ _ _ he _ _ Cs jH D hD' w];simp only[Result.andThen_ok,ajT,ajn,if_false];exact Gf w _ h
      ·rename_i he
       cases h
       rw[ih _ _ _ _ he _ _ Cs jH D hD' w];simp
      ·cases h
     ·cases h
   ·cases h
end
end Go.Am
namespace Go.Am
open Go
section
variable [Stat] {X:Cx}{P:Program}(hX:Wb X P){w:World}{σ:Sg}
theorem wF (a b:List UInt8):Tk a b=Op.bytesLess a b:=by
 induction a generalizing b with
 |nil=>cases b <;> simp[Tk,Op.bytesLess]
 |cons x a ih=>cases b with
  |nil=>simp[Tk,Op.bytesLess]
  |cons y b=>simp[Tk,Op.bytesLess,ih]
theorem kX {op:BinOp}{t:TypeId}{k:IntKind}{a b:Int}{r:AV}(h:Pp op k a b=some r):Vc P w σ (binOp op t (.int k a) (.int k b)) r:=by
 cases op <;> simp only[Pp] at h <;> try (cases h;done)
 all_goals first
  |(cases h;exact⟨_,by simp[binOp,Op.intArith,Op.intCmp,Op.intBits];rfl,by simp[ZT]⟩)
  |(split at h
    ·cases h
    ·rename_i hb;cases h;exact⟨_,by simp[binOp,Op.intDiv,hb];rfl,by simp[ZT]⟩)
theorem Hc {op:BinOp}{t:TypeId}{k yk:IntKind}{a b:Int}{r:AV}(ho:op=.shl\/op=.shr)(h:K' op k a b=some r):Vc P w σ (binOp op t (.int k a) (.int yk b)) r:=by
 unfold K' at h
 split at h
 ·cases h
 ·rename_i hb;rcases ho with rfl|rfl
  ·cases h;exact⟨_,by simp[binOp,Op.shift,hb];rfl,by simp[ZT]⟩
  ·cases h;exact⟨_,by simp[binOp,Op.shift,hb];rfl,by simp[ZT]⟩
theorem kV {op:BinOp}{t:TypeId}{a b:ByteArray}{r:AV}(h:nV op a.data.toList b.data.toList=some r):Vc P w σ (binOp op t (.string a) (.string b)) r:=by
 cases op <;> simp only[nV] at h <;> try (cases h;done)
 case add =>
  split at h
  ·rename_i YH
   cases h
   refine⟨.string (a++b),?_,?_⟩
   ·have h1:a.size=a.data.toList.length:=by rw[ajx];rfl
    have h2:b.size=b.data.toList.length:=by rw[ajx];rfl
    have:¬((a.size+b.size:Nat):Int)>IntKind.i64.max:=by rw[h1,h2,IntKind.max_i64];omega
    simp only[binOp,Op.stringOp,this,if_false,Sem.run_pure]
   ·simp only[ZT];exact⟨_,rfl,by simp[ByteArray.data_append]⟩
  ·cases h
 all_goals
  cases h
  exact⟨_,by simp only[binOp,Op.stringOp,Sem.run_pure];rfl,by simp[ZT,wF,ByteArray.toList_eq]⟩
theorem zY {k:FloatKind}{n:Nat}{v:Value}(h:ZT σ (.Cr k n) v):v=.float k n:=by simpa only[ZT] using h
theorem kU {op:BinOp}{t:TypeId}{k:FloatKind}{a b:Nat}{r:AV}(h:aaj op k a b=some r):Vc P w σ (binOp op t (.float k a) (.float k b)) r:=by
 cases op <;> simp only[aaj] at h <;> try (cases h;done)
 all_goals first
  |(cases h;exact⟨_,by simp[binOp,Op.floatCmp];rfl,by simp[ZT]⟩)
  |(obtain⟨q,hq,rfl⟩:=aj6.1 h
    exact⟨.float k q,by simp[binOp,Op.floatArith,hq],by simp[ZT]⟩)
theorem Sj {op:BinOp}{t:TypeId}{xo yo:Operand}{u v:Value}(h1:¬(u=.nilIface/\v=.nilIface))(h2:∀a b,¬(u=.agg a/\v=.agg b)):(eqGuard op t xo yo u v).run P w=.ok () w:=by
 have:eqGuard op t xo yo u v=pure ():=by
  cases u
  case nilIface=>cases v <;> first|(exact absurd ⟨rfl,rfl⟩ h1)|(cases op <;> rfl)
  case agg a=>cases v <;> first|(exact absurd ⟨rfl,rfl⟩ (h2 _ _))|(cases op <;> rfl)
  all_goals (cases op <;> rfl)
 rw[this];rfl
theorem Jl {x:AV}{k:IntKind}{n:Int}(h:ZT σ x (.int k n)):x=.int k n:=by
 cases x <;> simp only[ZT] at h <;> first|(cases h;rfl)|(cases h;done)|(obtain⟨_,h,_⟩:=h;cases h;done)|(obtain⟨_,_,h⟩:=h;cases h;done)|(obtain⟨_,_,h,_⟩:=h;cases h;done)|(obtain⟨_,_,_,h,_⟩:=h;cases h;done)|(obtain⟨_,_,_,_,_,_,h,_⟩:=h;cases h;done)
theorem Jk {x:AV}{k:FloatKind}{n:Nat}(h:ZT σ x (.float k n)):x=.Cr k n:=by
 cases x <;> simp only[ZT] at h <;> first|(cases h;rfl)|(cases h;done)|(obtain⟨_,h,_⟩:=h;cases h;done)|(obtain⟨_,_,h⟩:=h;cases h;done)|(obtain⟨_,_,h,_⟩:=h;cases h;done)|(obtain⟨_,_,_,h,_⟩:=h;cases h;done)|(obtain⟨_,_,_,_,_,_,h,_⟩:=h;cases h;done)
theorem Kk {x:AV}{k:FloatKind}{n m:Nat}(h:ZT σ x (.complex k n m)):False:=by
 cases x <;> simp only[ZT] at h <;> first|(cases h;done)|(obtain⟨_,h,_⟩:=h;cases h;done)|(obtain⟨_,_,h⟩:=h;cases h;done)|(obtain⟨_,_,h,_⟩:=h;cases h;done)|(obtain⟨_,_,_,h,_⟩:=h;cases h;done)|(obtain⟨_,_,_,_,_,_,h,_⟩:=h;cases h;done)
theorem Jj {x:AV}{s:ByteArray}(h:ZT σ x (.string s)):x=.str s.data.toList:=by
 cases x <;> simp only[ZT] at h <;> first|(cases h;done)|(obtain⟨_,h,e⟩:=h;cases h;rw[<-e];done)|(obtain⟨_,h,_⟩:=h;cases h;done)|(obtain⟨_,_,h⟩:=h;cases h;done)|(obtain⟨_,_,h,_⟩:=h;cases h;done)|(obtain⟨_,_,_,h,_⟩:=h;cases h;done)|(obtain⟨_,_,_,_,_,_,h,_⟩:=h;cases h;done)
theorem zX {x:AV}(h:ZT σ x .nilIface):x=.Ul:=by
 cases x <;> simp only[ZT] at h <;> first|rfl|(cases h;done)|(obtain⟨_,h,_⟩:=h;cases h;done)|(obtain⟨_,_,h⟩:=h;cases h;done)|(obtain⟨_,_,h,_⟩:=h;cases h;done)|(obtain⟨_,_,_,h,_⟩:=h;cases h;done)|(obtain⟨_,_,_,_,_,_,h,_⟩:=h;cases h;done)
theorem tR {x:AV}{a:Array Value}(h:ZT σ x (.agg a)):∃c,x=.agg c:=by
 cases x <;> simp only[ZT] at h <;> first|exact⟨_,rfl⟩|(cases h;done)|(obtain⟨_,h,_⟩:=h;cases h;done)|(obtain⟨_,_,h⟩:=h;cases h;done)|(obtain⟨_,_,h,_⟩:=h;cases h;done)|(obtain⟨_,_,_,h,_⟩:=h;cases h;done)|(obtain⟨_,_,_,_,_,_,h,_⟩:=h;cases h;done)
theorem Qi {t:TypeId}{u v:Value}(h1:∀k a j b,¬(u=.int k a/\v=.int j b))(h2:∀a b,¬(u=.string a/\v=.string b))(h3:∀k a j b,¬(u=.float k a/\v=.float j b))(h4:∀k a c,u≠.complex k a c) :
  binOp .eql t u v=(do pure (.bool (<-Op.equal t u v)))/\binOp .neq t u v=(do pure (.bool (!(<-Op.equal t u v)))):=by
 cases u <;> cases v <;> first
  |(exact⟨rfl,rfl⟩)
  |(exact absurd ⟨rfl,rfl⟩ (h1 _ _ _ _))
  |(exact absurd ⟨rfl,rfl⟩ (h2 _ _))
  |(exact absurd ⟨rfl,rfl⟩ (h3 _ _ _ _))
  |(exact absurd rfl (h4 _ _ _))
include hX
theorem Ej {cst:Bool}{t:TypeId}{x y:AV}{b:Bool}{u v:Value}{xo yo:Operand}(hc:cst=(Ur xo||Ur yo))(hu:ZT σ x u)(hv:ZT σ y v)(h:ET X cst t x y=some b)(op:BinOp) :
  (eqGuard op t xo yo u v).run P w=.ok () w/\(Op.equal t u v).run P w=.ok b w:=by
 unfold ET at h
 split at h
 ·split at h
  ·rename_i aeX;have y0:=hu;have hv':=hv;simp only[ZT] at y0 hv';subst y0;subst hv';refine⟨?_,JI hX _ _ _ _ _ h _ _ hu hv 10000 (by omega) w⟩;rw[hc] at aeX
   cases xo <;> cases yo <;> simp[Ur] at aeX <;> first
    |(rw[eqGuard_nil_constL];rfl)
    |(rw[eqGuard_nil_constR];rfl)
  ·cases h
 ·split at h
  ·rename_i Ya;obtain⟨us,F9,_⟩:=WJ hu;obtain⟨vs,Qm,_⟩:=WJ hv;subst F9;subst Qm;exact⟨run_eqGuard_agg w op t xo yo us vs (hX.BU _ Ya).1,JI hX _ _ _ _ _ h _ _ hu hv 10000 (by omega) w⟩
  ·cases h
 ·rename_i h1 h2;refine⟨Sj ?_ ?_,JI hX _ _ _ _ _ h _ _ hu hv 10000 (by omega) w⟩
  ·rintro⟨rfl,rfl⟩;exact h1 (zX hu) (zX hv)
  ·rintro a b' ⟨rfl,rfl⟩;obtain⟨c,rfl⟩:=tR hu;obtain⟨d,rfl⟩:=tR hv;exact h2 c d rfl rfl
theorem kR {op:BinOp}{cst:Bool}{t:TypeId}{x y r:AV}{u v:Value}{xo yo:Operand}(hc:cst=(Ur xo||Ur yo))(hu:ZT σ x u)(hv:ZT σ y v)(h:WO X op t cst x y=some r) :
  Vc P w σ (do eqGuard op t xo yo u v;binOp op t u v) r:=by
 unfold WO at h
 split at h
 ·rw[Ze hu,Ze hv];obtain⟨q,hq,hr⟩:=Hc (P:=P) (w:=w) (σ:=σ) (t:=t) (.inl rfl) h;exact⟨q,by simpa[eqGuard_shl] using hq,hr⟩
 ·rw[Ze hu,Ze hv];obtain⟨q,hq,hr⟩:=Hc (P:=P) (w:=w) (σ:=σ) (t:=t) (.inr rfl) h;exact⟨q,by simpa[eqGuard_shr] using hq,hr⟩
 ·rename_i op k a k' b h1 h2
  split at h
  ·rename_i hk;subst hk;rw[Ze hu,Ze hv];obtain⟨q,hq,hr⟩:=kX (P:=P) (w:=w) (σ:=σ) (t:=t) h;exact⟨q,by simpa[eqGuard_at_int] using hq,hr⟩
  ·cases h
 ·obtain⟨p,rfl,rfl⟩:=XM hu;obtain⟨q,rfl,rfl⟩:=XM hv;obtain⟨q,hq,hr⟩:=kV (P:=P) (w:=w) (σ:=σ) (t:=t) h;exact⟨q,by simpa[eqGuard_at_string] using hq,hr⟩
 ·rename_i op k a k' b h1 h2
  split at h
  ·rename_i hk;subst hk;rw[zY hu,zY hv];obtain⟨q,hq,hr⟩:=kU (P:=P) (w:=w) (σ:=σ) (t:=t) h;refine⟨q,?_,hr⟩;rw[Sem.run_bind,Sj (fun h=>by cases h.1) (fun a b h=>by cases h.1)]
   simpa using hq
  ·cases h
 ·rename_i hni lF hnf
  split at h
  ·rename_i b hb
   cases h
   obtain⟨g1,g2⟩:=Ej hX (w:=w) (xo:=xo) (yo:=yo) hc hu hv hb .eql;obtain⟨e1,e2⟩:=Qi (t:=t) (u:=u) (v:=v)
    (by rintro k a j b' ⟨rfl,rfl⟩;exact hni _ _ _ _ (Jl hu) (Jl hv))
    (by rintro a b' ⟨rfl,rfl⟩;exact lF _ _ (Jj hu) (Jj hv))
    (by rintro k a j b' ⟨rfl,rfl⟩;exact hnf _ _ _ _ (Jk hu) (Jk hv))
    (by rintro k a c rfl;exact Kk hu)
   refine⟨.bool b,?_,by simp[ZT]⟩;simp only[Sem.run_bind,g1,Result.andThen_ok,e1,g2,Sem.run_pure]
  ·cases h
 ·rename_i hni lF hnf
  split at h
  ·rename_i b hb
   cases h
   obtain⟨g1,g2⟩:=Ej hX (w:=w) (xo:=xo) (yo:=yo) hc hu hv hb .neq;obtain⟨e1,e2⟩:=Qi (t:=t) (u:=u) (v:=v)
    (by rintro k a j b' ⟨rfl,rfl⟩;exact hni _ _ _ _ (Jl hu) (Jl hv))
    (by rintro a b' ⟨rfl,rfl⟩;exact lF _ _ (Jj hu) (Jj hv))
    (by rintro k a j b' ⟨rfl,rfl⟩;exact hnf _ _ _ _ (Jk hu) (Jk hv))
    (by rintro k a c rfl;exact Kk hu)
   refine⟨.bool !b,?_,by simp[ZT]⟩;simp only[Sem.run_bind,g1,Result.andThen_ok,e2,g2,Sem.run_pure]
  ·cases h
 ·cases h
omit hX in
theorem eG {op:UnOp}{x r:AV}{u:Value}(hu:ZT σ x u)(h:unA op x=some r):Vc P w σ (Op.unary op u) r:=by
 unfold unA at h
 split at h
 ·rw[Ze hu];cases h;exact⟨_,by simp[Op.unary,Op.intArith];rfl,by simp[ZT]⟩
 ·rw[Ze hu];simp only[Pp] at h;cases h;exact⟨_,by simp[Op.unary,Op.intBits];rfl,by simp[ZT]⟩
 ·rw[Xb hu];cases h;exact⟨_,by simp[Op.unary];rfl,by simp[ZT]⟩
 ·cases h
end
end Go.Am
namespace Go.Am
open Go
section
variable [Stat] {X:Cx}{P:Program}(hX:Wb X P){w:World}{σ:Sg}
theorem yf {x:Option AV}{xv:Option Value}{ye y r:Nat}(hx:match x,xv with|none,none=>True|some a,some v=>ZT σ a v|_,_=>False)(h:YR x ye y=some r) :
  (x=none/\xv=none/\r=ye)\/∃k i,xv=some (.int k i)/\0<=i/\i<=(y:Int)/\r=i.toNat/\r<=y/\∃k',x=some (.int k' i):=by
 unfold YR at h
 split at h
 ·cases xv with
  |none=>cases h;exact .inl ⟨rfl,rfl,rfl⟩
  |some v=>exact hx.elim
 ·rename_i k i
  split at h
  ·rename_i hi
   cases xv with
   |none=>exact hx.elim
   |some v =>
    have:=Ze (σ:=σ) hx;subst this
    cases h
    exact .inr ⟨k,i,rfl,hi.1,hi.2,rfl,by omega,_,rfl⟩
  ·cases h
 ·cases h
def yd (σ:Sg):Option AV->Option Value->Prop
 |none,none=>True
 |some a,some v=>ZT σ a v
 |_,_=>False
theorem UI {x:Option AV}{xv:Option Value}{ye y r:Nat}(hx:yd σ x xv)(h:YR x ye y=some r) :
  (x=none/\xv=none/\r=ye)\/∃k i,xv=some (.int k i)/\0<=i/\i<=(y:Int)/\r=i.toNat/\r<=y/\∃k',x=some (.int k' i):=by
 refine yf (σ:=σ) ?_ h
 cases x <;> cases xv <;> exact hx
theorem SU {P:Program}{w:World}{isSlice:Bool}{len cap:Nat}{lo hi:Option AV}{lv hv:Option Value}{h l top:Nat}(qc:yd σ lo lv)(iL:yd σ hi hv)(hb:YR hi len top=some h)(lb:YR lo 0 h=some l)
  (ac2:top<=cap)(hl:len<=cap):(Instr.sliceBounds isSlice len cap lv hv none).run P w=.ok (l,h,cap) w/\l<=h/\h<=cap:=by
 rcases UI iL hb with⟨rfl,rfl,rfl⟩|⟨k,i,rfl,h0,h1,rfl,h2,k',rfl⟩
 ·rcases UI qc lb with⟨rfl,rfl,rfl⟩|⟨kl,j,rfl,g0,g1,rfl,g2,kl',rfl⟩
  ·simp[Instr.sliceBounds,hl]
  ·simp[Instr.sliceBounds,Instr.sliceBound,asIntOf,g0,g1,hl,g2]
 ·have h3:i<=(cap:Int):=by omega
  have h4:i.toNat<=cap:=by omega
  have h5:(i.toNat:Int)=i:=Int.toNat_of_nonneg h0;rcases UI qc lb with⟨rfl,rfl,rfl⟩|⟨kl,j,rfl,g0,g1,rfl,g2,kl',rfl⟩
  ·simp[Instr.sliceBounds,Instr.sliceBound,asIntOf,h0,h3]
  ·rw[h5] at g1;have g3:j.toNat<=i.toNat:=by omega
   simp only[Instr.sliceBounds,Instr.sliceBound,asIntOf,Sem.run_bind,Sem.run_pure,Result.andThen_ok,h0,h3,g0,g1,h5,and_self,if_true];exact⟨trivial,g3,h4⟩
theorem extract_toList (bs:ByteArray)(l h:Nat):(bs.extract l h).data.toList=(bs.data.toList.take h).drop l:=by
 rw[ByteArray.data_extract,Array.toList_extract,List.extract_eq_take_drop,List.take_drop];by_cases hlh:l<=h
 ·rw[show l+(h-l)=h from by omega]
 ·rw[show h-l=0 from by omega];simp only[Nat.add_zero];rw[List.drop_eq_nil_of_le,List.drop_eq_nil_of_le]
  ·rw[aj2];omega
  ·rw[aj2];omega
theorem E9 {α β:Type}(f:α->List β)(n:Nat):∀(l:List α),(∀u∈l,(f u).length=n)->∀k,(l.take k).flatMap f=(l.flatMap f).take (k*n)
 |[],_,k=>by simp
 |x::l,hl,0=>by simp
 |x::l,hl,k+1=>by
  have hx:=hl x (aba ..);rw[List.take_succ_cons,ajL,ajL,E9 f n l (fun u hu=>hl u (aab _ hu)) k,List.take_append,hx,
   show (k+1)*n-n=k*n by rw[akf];omega,List.take_of_length_le (l:=f x) (by rw[hx,akf];omega)]
theorem E8 {α β:Type}(f:α->List β)(n:Nat):∀(l:List α),(∀u∈l,(f u).length=n)->∀k,(l.drop k).flatMap f=(l.flatMap f).drop (k*n)
 |[],_,k=>by simp
 |x::l,hl,0=>by simp
 |x::l,hl,k+1=>by
  have hx:=hl x (aba ..);rw[List.drop_succ_cons,ajL,E8 f n l (fun u hu=>hl u (aab _ hu)) k,List.drop_append,hx,
   show (k+1)*n-n=k*n by rw[akf];omega,List.drop_eq_nil_of_le (as:=f x) (by rw[hx,akf];omega),ajP]
theorem ZU.take {σ:Sg}:∀{x:List AV} {l:List Value},ZU σ x l->∀k,ZU σ (x.take k) (l.take k)
 |[],l,h,k=>by simp only[ZU] at h;simp[h,ZU]
 |a::x,l,h,0=>by simp[ZU]
 |a::x,l,h,k+1=>by
  simp only[ZU] at h;obtain⟨v,y,rfl,h1,h2⟩:=h;simp only[List.take_succ_cons,ZU];exact⟨v,y.take k,rfl,h1,h2.take k⟩
theorem ZU.drop {σ:Sg}:∀{x:List AV} {l:List Value},ZU σ x l->∀k,ZU σ (x.drop k) (l.drop k)
 |[],l,h,k=>by simp only[ZU] at h;simp[h,ZU]
 |a::x,l,h,0=>by simpa using h
 |a::x,l,h,k+1=>by
  simp only[ZU] at h;obtain⟨v,y,rfl,h1,h2⟩:=h
  simpa using h2.drop k
theorem sC {x:Option AV}{d y r:Nat}(h:YR x d y=some r)(hd:d<=y:=by exact ajg _):r<=y:=by
 unfold YR at h
 split at h
 ·cases h;exact hd
 ·split at h
  ·cases h;omega
  ·cases h
 ·cases h
include hX
theorem yc {t:TypeId}{x r:AV}{v:Value}{lo hi mx:Option AV}{lv hv mv:Option Value}(hx:ZT σ x v)(qc:yd σ lo lv)(iL:yd σ hi hv)(qg:yd σ mx mv)(h:QH X t x lo hi mx=some r) :
  Vc P w σ (Instr.sliceAt t v lv hv mv) r:=by
 unfold QH at h
 split at h
 ·
  rename_i b hu;obtain⟨bs,rfl,rfl⟩:=XM hx
  split at h
  ·rename_i h' hb
   split at h
   ·rename_i l hl
    cases h
    cases mv with
    |some _=>exact qg.elim
    |none =>
     have Wh:bs.data.toList.length=bs.size:=by rw[ajx];rfl
     rw[Wh] at hb;obtain⟨e,e1,e2⟩:=SU (P:=P) (w:=w) (isSlice:=false) qc iL hb hl (ajg _) (ajg _);refine⟨.string (bs.extract l h'),?_,?_⟩
     ·simp[Instr.sliceAt,Instr.slice,ZK (hX.Zj _ _ hu),e]
     ·simp only[ZT];exact⟨_,rfl,extract_toList _ _ _⟩
   ·cases h
  ·cases h
 ·
  rename_i el b o len cap Wa hu;obtain⟨a,c,rfl,hlen,⟨p,hp,ha,ak⟩,F4⟩:=T8 hx;have ac2:cap.getD len<=c:=by
   cases cap with
   |none=>exact hlen
   |some k=>exact Nat.le_of_eq (F4 k rfl).symm
  have bd:∀(n l m:Nat),l<=m->m<=c->(if Wa=n then n else 0)≠0->p.sh+(o+l*n)+(m-l)*(if Wa=n then n else 0)<=p.n:=by
   intro n l m aj ai hz
   split at hz
   ·rename_i hez;subst hez;have h1:=ak hz;rw[if_pos rfl];have h2:l*Wa+(m-l)*Wa=m*Wa:=by rw[<-akf];congr 1;omega
    have h3:m*Wa<=c*Wa:=aj7 _ ai;omega
   ·exact absurd rfl hz
  split at h
  ·
   rename_i n hs
   cases mv with
   |some _=>exact qg.elim
   |none =>
    split at h
    ·rename_i h' hb
     split at h
     ·rename_i l hl
      cases h
      obtain⟨e,e1,e2⟩:=SU (P:=P) (w:=w) (isSlice:=true) qc iL hb hl ac2 hlen;refine⟨.slice (if c=l then some a else some (a.add (l*n))) (h'-l) (c-l),?_,?_⟩
      ·simp[Instr.sliceAt,Instr.slice,ZK (hX.Zj _ _ hu),e,Y_ hX hs]
      ·simp only[ZT];refine⟨if c=l then a else a.add (l*n),c-l,?_,by omega,⟨p,hp,?_,?_⟩,?_⟩
       ·split <;> rfl
       ·intro Zv;rw[if_neg (by omega),ha (by omega),XK,ajf]
       ·exact bd n l c (by omega) (ajg _)
       ·intro k hk
        cases cap with
        |none=>cases hk
        |some q=>have:=F4 q rfl;simp at hk;omega
     ·cases h
    ·cases h
  ·
   rename_i n m hs
   cases mv with
   |none=>exact qg.elim
   |some mv =>
    split at h
    ·rename_i m' OL hm
     split at h
     ·rename_i h' hb
      split at h
      ·rename_i l hl
       cases h
       rcases UI (x:=some m) (xv:=some mv) qg hm with⟨e,_,_⟩|⟨km,im,e1,m0,m1,rfl,m2,_,_⟩
       ·cases e
       cases e1
       rcases UI iL hb with⟨e,_,_⟩|⟨kh,ih,rfl,h0,h1,rfl,h2,_,_⟩
       ·cases e
       have em:(im.toNat:Int)=im:=Int.toNat_of_nonneg m0;have eh:(ih.toNat:Int)=ih:=Int.toNat_of_nonneg h0;have ze:im<=(c:Int):=by omega
       have hr:∃l',(Instr.sliceBounds true len c lv (some (.int kh ih)) (some (.int km im))).run P w=.ok (l',ih.toNat,im.toNat) w/\l'=l/\l<=ih.toNat:=by
        rcases UI qc hl with⟨rfl,rfl,rfl⟩|⟨kl,j,rfl,g0,g1,rfl,g2,kl',rfl⟩
        ·exact⟨0,by simp only[Instr.sliceBounds,Instr.sliceBound,asIntOf,Sem.run_bind,Sem.run_pure,Result.andThen_ok,m0,ze,h0,h1,and_self,if_true],rfl,aji _⟩
        ·exact⟨j.toNat,by simp only[Instr.sliceBounds,Instr.sliceBound,asIntOf,Sem.run_bind,Sem.run_pure,Result.andThen_ok,m0,ze,h0,h1,g0,g1,and_self,if_true],rfl,g2⟩
       obtain⟨l',e,rfl,hle⟩:=hr;refine⟨.slice (if im.toNat=l' then some a else some (a.add (l'*n))) (ih.toNat-l') (im.toNat-l'),?_,?_⟩
       ·simp[Instr.sliceAt,Instr.slice,ZK (hX.Zj _ _ hu),e,Y_ hX hs]
       ·simp only[ZT];refine⟨if im.toNat=l' then a else a.add (l'*n),im.toNat-l',?_,by omega,⟨p,hp,?_,?_⟩,?_⟩
        ·split <;> rfl
        ·intro Zv;rw[if_neg (by omega),ha (by omega),XK,ajf]
        ·exact bd n l' im.toNat (by omega) (by omega)
        ·intro k hk
         cases hk;rfl
      ·cases h
     ·cases h
    ·cases h
  ·cases h
 ·
  rename_i el hu;have Ms:=hx;simp only[ZT] at Ms;subst Ms
  split at h
  ·rename_i n h' hs hb
   split at h
   ·rename_i l hl
    cases h
    cases mv with
    |some _=>exact qg.elim
    |none =>
     obtain⟨e,e1,e2⟩:=SU (P:=P) (w:=w) (isSlice:=true) (len:=0) (cap:=0) qc iL hb hl (ajg _) (ajg _);refine⟨.slice none 0 0,?_,by simp[ZT]⟩;have e3:h'=0:=by omega
     subst e3;simp[Instr.sliceAt,Instr.slice,ZK (hX.Zj _ _ hu),e,Y_ hX hs]
   ·cases h
  ·cases h
 ·
  rename_i el es hu;obtain⟨a,c,us,rfl,dn,TF,Sb⟩:=OE hx
  split at h
  ·rename_i n h' hs hb
   split at h
   ·rename_i l hl
    split at h
    ·rename_i Xv
     cases h
     cases mv with
     |some _=>exact qg.elim
     |none =>
      obtain⟨e,e1,e2⟩:=SU (P:=P) (w:=w) (isSlice:=true) qc iL hb hl dn dn;have hle:h'<=es.length:=sC hb;have J8:=TF.length;have Wh:∀u∈us,u.cells.size=n:=by
       intro u y0;obtain⟨i,hi⟩:=List.getElem?_of_mem y0;have YH:i<es.length:=by rw[J8];exact (ajt.1 hi).1
       obtain⟨u',h1,h2⟩:=TF.get i _ (aaa YH);rw[hi] at h1;cases h1;have:=(WD h2).length;have h3:=ajq.1 Xv _ (ajc YH);simp at h3 this;omega
      refine⟨.slice (if c=l then some a else some (a.add (l*n))) (h'-l) (c-l),?_,?_⟩
      ·simp[Instr.sliceAt,Instr.slice,ZK (hX.Zj _ _ hu),e,Y_ hX hs]
      ·simp only[ZT];refine⟨if c=l then a else a.add (l*n),c-l,(us.take h').drop l,?_,?_,?_,?_⟩
       ·have:((es.take h').drop l).length=h'-l:=by rw[List.length_drop,aj2];omega
        rw[this]
        split <;> rfl
       ·rw[List.length_drop,aj2];omega
       ·exact (TF.take h').drop l
       ·rcases Sb with rfl|⟨Lu,cc,ee,fz,m,g1,g2,g3,g4⟩
        ·exact .inl (by simp)
        ·by_cases vV:c=l
         ·left
          rw[List.drop_eq_nil_of_le];rw[aj2];omega
         ·right
          rw[if_neg vV];by_cases hem:us=[]
          ·subst hem;obtain⟨ab,ao,asp⟩:=a;simp only at Lu g1;subst Lu;rw[XK];exact⟨rfl,cc,ee,fz,m,g1,g2,by simp,by simp⟩
          ·obtain⟨u,y0⟩:=List.exists_mem_of_ne_nil us hem;have Ca:m=n:=by rw[<-g3 u y0,Wh u y0]
           subst Ca;obtain⟨ab,ao,asp⟩:=a;simp only at Lu g1 g4;subst Lu;rw[XK];refine⟨rfl,cc,ee,fz,m,g1,g2,fun u hu=>g3 u (List.mem_of_mem_take (List.mem_of_mem_drop hu)),fun i v hv=>?_⟩;show cc[ao+l*m+i]? = some v;rw[ajf];refine g4 _ _ ?_;have h1:=E9 (fun u:Value=>u.cells.toList) m us (fun u hu=>by simpa using g3 u hu) h';have h2:=E8 (fun u:Value=>u.cells.toList) m (us.take h') (fun u hu=>by simpa using g3 u (List.mem_of_mem_take hu)) l;rw[h2,h1,List.getElem?_drop,List.getElem?_take] at hv
           split at hv
           ·exact hv
           ·cases hv
    ·cases h
   ·cases h
  ·cases h
 ·
  rename_i n el b o hu;obtain⟨p,hp,rfl⟩:=Xm hx
  split at h
  ·rename_i z h' hs hb
   split at h
   ·rename_i l hl
    cases h
    cases mv with
    |some _=>exact qg.elim
    |none =>
     obtain⟨e,e1,e2⟩:=SU (P:=P) (w:=w) (isSlice:=false) (len:=n) (cap:=n) qc iL hb hl (ajg _) (ajg _);refine⟨.slice (some (if n=l then ⟨p.b,p.sh+o,none⟩ else (⟨p.b,p.sh+o,none⟩:Addr).add (l*z))) (h'-l) (n-l),?_,?_⟩
     ·simp[Instr.sliceAt,Instr.sureAddr,ZK (hX.Zj _ _ hu),e,Y_ hX hs]
     ·simp only[ZT];refine⟨_,n-l,rfl,by omega,⟨p,hp,?_,?_⟩,?_⟩
      ·intro Zv;rw[if_neg (by omega),XK,ajf]
      ·intro hz;exact absurd rfl hz
      ·intro k hk;cases hk;rfl
   ·cases h
  ·cases h
 ·cases h
end
end Go.Am
namespace Go.Am
open Go
section
variable [Stat] {X:Cx}{P:Program}(hX:Wb X P){w:World}{σ:Sg}
theorem vk (off:Nat):∀(l:List Value) (k:Nat) (cells:Array Value),
  ((l.zipIdx k).foldl (fun cs (p:Value×Nat)=>cs.setIfInBounds (off+p.2) p.1) cells).size=cells.size /\
  (off+k+l.length<=cells.size->∀i,((l.zipIdx k).foldl (fun cs (p:Value×Nat)=>cs.setIfInBounds (off+p.2) p.1) cells)[i]? = if off+k<=i/\i<off+k+l.length then l[i-(off+k)]? else cells[i]?)
 |[],k,cells=>⟨rfl,fun _ i=>by rw[if_neg (by simp)];rfl⟩
 |v::l,k,cells=>by
  obtain⟨h1,h2⟩:=vk off l (k+1) (cells.setIfInBounds (off+k) v);rw[List.zipIdx_cons,List.foldl_cons];refine⟨by rw[h1];simp,fun Wh i=>?_⟩;have YH:off+k<cells.size:=by simp at Wh;omega
  rw[h2 (by simp at Wh ⊢;omega) i];by_cases hi:off+(k+1)<=i/\i<off+(k+1)+l.length
  ·rw[if_pos hi,if_pos (by simp;omega)];rw[show i-(off+k)=(i-(off+(k+1)))+1 from by omega];simp
  ·rw[if_neg hi];by_cases he:i=off+k
   ·subst he;rw[if_pos (by simp),Nat.sub_self];simp[YH]
   ·rw[if_neg (by simp;omega)];rw[Array.getElem?_setIfInBounds_ne (by omega)]
theorem F' (off:Nat)(vs cells:Array Value):vs.zipIdx.foldl (fun cs (p:Value×Nat)=>cs.setIfInBounds (off+p.2) p.1) cells=(vs.toList.zipIdx 0).foldl (fun cs (p:Value×Nat)=>cs.setIfInBounds (off+p.2) p.1) cells:=by
 rw[<-Array.foldl_toList,Array.toList_zipIdx]
theorem sK {off:Nat}{xs cells c:List AV}{vs cs:Array Value}(h:lay off xs cells=some c)(hx:ZU σ xs vs.toList)(hc:ZU σ cells cs.toList)(hle:off+xs.length<=cells.length) :
  ZU σ c (vs.zipIdx.foldl (fun cs (p:Value×Nat)=>cs.setIfInBounds (off+p.2) p.1) cs).toList/\(vs.zipIdx.foldl (fun cs (p:Value×Nat)=>cs.setIfInBounds (off+p.2) p.1) cs).size=cs.size:=by
 obtain⟨h1,_,h3⟩:=MX h;obtain⟨o1,o2⟩:=vk off vs.toList 0 cs;have jF:=hx.length;have vV:=hc.length;rw[F'];have hlen:c.length=cs.size:=by rw[h1,vV];simp
 have hvl:vs.toList.length=vs.size:=ajx;have aiV:cs.toList.length=cs.size:=ajx;have o2:=o2 (by omega);generalize (vs.toList.zipIdx 0).foldl (fun cs (p:Value×Nat)=>cs.setIfInBounds (off+p.2) p.1) cs=R at o1 o2 ⊢;refine⟨?_,o1⟩;apply ZU.Du
 ·have:R.toList.length=R.size:=ajx;omega
 ·intro i hi OL;have e1:=h3 i;have e2:=o2 i;rw[aaa hi] at e1;have agd:i<R.size:=by rw[<-ajx];exact OL
  rw[ajN agd] at e2;simp only[Nat.add_zero] at e2;have e3:R.toList[i]=R[i]:=by simp
  rw[e3];by_cases hr:off<=i/\i<off+xs.length
  ·rw[if_pos hr] at e1;rw[if_pos (by omega)] at e2;obtain⟨u,F9,NB⟩:=ZU.get hx _ _ e1.symm;rw[F9] at e2;rw[Option.some.inj e2];exact NB
  ·rw[if_neg hr] at e1;rw[if_neg (by omega)] at e2;obtain⟨u,F9,NB⟩:=ZU.get hc _ _ e1.symm;rw[ajK] at F9;rw[F9] at e2;rw[Option.some.inj e2];exact NB
theorem Mz {place pl:Nat->Option (Nat×Nat)}(hp:∀i x,pl i=some x->place i=some x):∀{parts:List (Nat×AV)} {ps:List (Nat×Value)} {cells c:List AV} {cs:Array Value},
  My pl cells parts=some c->Ux σ parts ps->ZU σ cells cs.toList->∃c',Instr.fill place cs ps=some c'/\ZU σ c c'.toList/\c'.size=cs.size
 |[],ps,cells,c,cs,h,hq,hc=>by
  simp only[Ux] at hq;subst hq;simp only[My] at h;cases h;exact⟨cs,rfl,hc,rfl⟩
 |(i,a)::parts,ps,cells,c,cs,h,hq,hc=>by
  simp only[Ux] at hq;obtain⟨v,y,rfl,hv,hy⟩:=hq;simp only[My] at h
  split at h
  ·cases h
  ·rename_i off n Tz
   split at h
   ·rename_i hn
    split at h
    ·rename_i c1 J0;have hvc:=WD hv;have zf:=hvc.length;have LB:=hc.length;obtain⟨g1,g2⟩:=sK J0 hvc hc (by omega);obtain⟨c',e1,e2,e3⟩:=Mz hp h hy g1;refine⟨c',?_,e2,by rw[e3,g2]⟩;simp only[Instr.fill,hp _ _ Tz];rw[if_neg]
     ·exact e1
     ·simp only[ajx] at zf LB;simp only[ne_eq,akj,not_or,decide_eq_true_eq,Decidable.not_not,Nat.not_lt];omega
    ·cases h
   ·cases h
theorem Is (hX:Wb X P):∀{fs:List Field} {pl:List (Nat×Nat)},OG X fs=some pl->(fs.mapM fun f=>do pure (f.offset,<-sizeOf f.type):Sem (List (Nat×Nat))).run P w=.ok pl w
 |[],pl,h=>by simp only[OG] at h;cases h;rfl
 |f::fs,pl,h=>by
  simp only[OG] at h
  split at h
  ·rename_i n r hs hr
   cases h
   simp only[List.mapM_cons,Sem.run_bind,Y_ hX hs,Result.andThen_ok,Sem.run_pure,Is hX hr]
  ·cases h
theorem PH {α β:Type}(f:α->Sem β)(l:Array α)(r:List β)(h:(l.toList.mapM f).run P w=.ok r w):(l.mapM f).run P w=.ok r.toArray w:=by
 rw[Array.mapM_eq_mapM_toList];simp only[Sem.run_map,h,Result.andThen_ok]
theorem PL (hX:Wb X P){t:TypeId}{z:AV}(h:zero X t=some z):∃zv,(zeroValue t).run P w=.ok zv w/\ZT σ z zv:=by
 unfold zero at h
 split at h
 ·rename_i i hi
  split at h
  ·rename_i zv hz;exact⟨zv,BT (hX.inf _ _ hi) hz,vH σ _ _ _ h⟩
  ·cases h
 ·cases h
include hX
theorem yq {t:TypeId}{parts:List (Nat×AV)}{ps:Array (Nat×Value)}{r:AV}(hq:Ux σ parts ps.toList)(h:Ir X t parts=some r):Vc P w σ (Instr.build t ps) r:=by
 unfold Ir at h
 split at h
 ·rename_i z hz;obtain⟨zv,zp,oO⟩:=PL (w:=w) (σ:=σ) hX hz;obtain⟨zc,rfl,dA⟩:=WJ oO
  split at h
  ·rename_i fs hu
   split at h
   ·rename_i pl Tz
    split at h
    ·rename_i c hc
     cases h
     obtain⟨c',e1,e2,_⟩:=Mz (place:=fun i=>pl.toArray[i]?) (fun i x hx=>by simpa using hx) hc hq dA;refine⟨.agg c',?_,by simp only[ZT];exact⟨_,rfl,e2⟩⟩;have hm:=PH (P:=P) (w:=w) (fun f:Field=>do pure (f.offset,<-sizeOf f.type)) fs pl (Is hX Tz);simp only[Instr.build,Sem.run_bind,zp,Result.andThen_ok,ZK (hX.Zj _ _ hu),hm,Value.cells,e1,Sem.run_pure]
    ·cases h
   ·cases h
  ·rename_i n e hu
   split at h
   ·rename_i n hs
    split at h
    ·rename_i c hc
     cases h
     obtain⟨c',e1,e2,_⟩:=Mz (place:=fun i=>some (i*n,n)) (fun i x hx=>hx) hc hq dA;refine⟨.agg c',?_,by simp only[ZT];exact⟨_,rfl,e2⟩⟩;simp only[Instr.build,Sem.run_bind,zp,Result.andThen_ok,ZK (hX.Zj _ _ hu),Y_ hX hs,Value.cells,e1,Sem.run_pure]
    ·cases h
   ·cases h
  ·cases h
 ·cases h
theorem Mx {t:TypeId}{x:AV}{v:Value}{d:TypeDesc}(hx:ZT σ x v)(hu:X.Zj t=some d)(hd:∀ms,d≠.interface ms):Vc P w σ (Instr.makeInterface t v) (.iface t x):=by
 refine⟨.iface t v,?_,by simp only[ZT];exact⟨_,rfl,hx⟩⟩;simp only[Instr.makeInterface,Sem.run_bind,ZK (hX.Zj _ _ hu),Result.andThen_ok]
 cases d <;> first|rfl|exact absurd rfl (hd _)
theorem sJ {src dst:TypeId}{x r:AV}{v:Value}{s s':St}(hx:ZT σ x v)(h:Tv X src dst x s=some (r,s'))
  (hc1:¬∃e,X.Zj src=some (.slice e)/\X.Zj dst=some .string)(zl:¬∃e l,X.Zj dst=some (.slice e)/\x=.str l):s'=s/\Vc P w σ (convert src dst v) r:=by
 unfold Tv at h
 split at h
 ·rename_i d1 k k' n h1 h2
  cases h
  refine⟨rfl,.int k (k.wrap n),?_,by simp[ZT]⟩;rw[Ze hx];simp[convert,ZK (hX.Zj _ _ h1),ZK (hX.Zj _ _ h2),Conv.intToInt]
 ·rename_i d1 k' n h1 h2
  cases h
  refine⟨rfl,.string (Utf8.encode n),?_,by simp only[ZT];exact⟨_,rfl,rfl⟩⟩;rw[Ze hx];simp[convert,ZK (hX.Zj _ _ h1),ZK (hX.Zj _ _ h2),Conv.intToString]
 ·rename_i d1 b h1 h2
  cases h
  obtain⟨bs,rfl,rfl⟩:=XM hx;refine⟨rfl,.string bs,?_,by simp only[ZT];exact⟨_,rfl,rfl⟩⟩;simp[convert,ZK (hX.Zj _ _ h1),ZK (hX.Zj _ _ h2)]
 ·rename_i d1 e b _ h1 h2;exact absurd ⟨_,_,h2,rfl⟩ zl
 ·rename_i e h1 h2 _ _;exact absurd ⟨_,h1,h2⟩ hc1
 ·cases h
end
end Go.Am
namespace Go.Am
open Go
section
variable [Stat]
variable {X:Cx}{P:Program}{w:World}{σ:Sg}{s:St}
theorem Hn {b:Nat}{c:List AV}(h:s.cells b=some c):∃e ro lo hi,s.look b=some (.cells c e ro lo hi)/\s.get b=some (.cells c e ro lo hi):=by
 unfold St.cells at h
 split at h
 ·rename_i c' e ro lo hi hg
  cases h
  exact⟨e,ro,lo,hi,by rw[St.X_ hg (by simp)],hg⟩
 ·cases h
theorem HR.cells (H:HR σ s w){b:Nat}{p:Pl}{c:List AV}{e:TypeId}{ro:Bool}{lo hi:Nat}(hp:σ b=some p)(hc:s.look b=some (.cells c e ro lo hi)) :
  ∃cc fz,w.heap[p.b]? = some (.cells cc e fz)/\cc.size=p.n/\p.sh+c.length<=p.n/\(∀j a,c[j]? = some a->∃v,cc[p.sh+j]? = some v/\ZT σ a v) /\
   (ro=false->∀j,fz.1<=p.sh+j->p.sh+j<fz.2->p.sh+j<p.n->lo<=j/\j<hi):=by
 obtain⟨o,ho,hb⟩:=H.Gv b p _ hp hc
 cases o <;> simp only[BR] at hb
 obtain⟨h1,h2,h3,h4,h5,_⟩:=hb;subst h3;exact⟨_,_,ho,h1,h2,h4,h5⟩
theorem HR.spec (H:HR σ s w){b:Nat}{p:Pl}{c:List AV}{e:TypeId}{ro:Bool}{lo hi:Nat}(hp:σ b=some p)(hc:s.look b=some (.cells c e ro lo hi))(he:Stat.spec e=true):p.sh=0/\p.n=c.length:=by
 obtain⟨o,ho,hb⟩:=H.Gv b p _ hp hc
 cases o <;> simp only[BR] at hb
 obtain⟨_,_,_,_,_,h6⟩:=hb;exact h6 he
theorem XZ {b o:Nat}{cc:Array Value}{e:TypeId}{fz:Nat×Nat}(h:w.heap[b]? = some (.cells cc e fz)):w.cell? ⟨b,o,none⟩=cc[o]? := by
 simp[World.cell?,h]
theorem HR.cell (H:HR σ s w){b:Nat}{p:Pl}{c:List AV}(hp:σ b=some p)(hc:s.cells b=some c){o:Nat}{a:AV}(ha:c[o]? = some a) :
  ∃v,w.cell? ⟨p.b,p.sh+o,none⟩=some v/\ZT σ a v:=by
 obtain⟨e,ro,lo,hi,hl,_⟩:=Hn hc;obtain⟨cc,fz,h1,_,_,h4,_⟩:=H.cells hp hl;obtain⟨v,hv,hr⟩:=h4 o a ha;exact⟨v,by rw[XZ h1];exact hv,hr⟩
theorem HR.row (H:HR σ s w){b:Nat}{p:Pl}{c:List AV}(hp:σ b=some p)(hc:s.cells b=some c):∀(r:List AV) (o:Nat),(∀i a,r[i]? = some a->c[o+i]? = some a) ->
  ∃vs:List Value,ZU σ r vs/\∀i v,vs[i]? = some v->w.cell? ⟨p.b,p.sh+o+i,none⟩=some v
 |[],o,_=>⟨[],by simp[ZU],by simp⟩
 |a::r,o,h=>by
  obtain⟨v,hv,hr⟩:=H.cell hp hc (h 0 a (by simp));obtain⟨vs,h1,h2⟩:=HR.row H hp hc r (o+1) (fun i x hx=>by rw[show o+1+i=o+(i+1) from by omega];exact h (i+1) x (by simpa using hx));refine⟨v::vs,by simp only[ZU];exact⟨v,vs,rfl,hr,h1⟩,fun i u hu=>?_⟩
  cases i with
  |zero=>simp at hu;subst hu;simpa using hv
  |succ i =>
   have:=h2 i u (by simpa using hu);rw[show p.sh+o+(i+1)=p.sh+(o+1)+i from by omega];exact this
theorem cell_of_heap {w w':World}(h:w'.heap=w.heap)(a:Addr):w'.cell? a=w.cell? a:=by
 simp only[World.cell?,h]
theorem RW (H:HR σ s w){b:Nat}{p:Pl}{c r:List AV}{n o:Nat}(hp:σ b=some p)(hc:s.cells b=some c)(hg:XE n o c=some r) :
  ∃vs:List Value,(∀w',w'.heap=w.heap->(loadCells ⟨p.b,p.sh+o,none⟩ n).run P w'=.ok vs.toArray w')/\ZU σ r vs:=by
 obtain⟨vs,h1,h2⟩:=H.row hp hc r o (fun i a ha=>RA hg ha);refine⟨vs,fun w' hw=>?_,h1⟩;have:=run_loadCells_list (P:=P) w' ⟨p.b,p.sh+o,none⟩ vs (fun j v hv=>by rw[XK,cell_of_heap hw];exact h2 j v hv)
 rwa [<-h1.length,(Xc hg).1] at this
theorem ZU.sub {σ:Sg}:∀{r c:List AV} {us:List Value} {o:Nat},ZU σ c us->(∀i a,r[i]? = some a->c[o+i]? = some a)->∃vs,ZU σ r vs/\∀i v,vs[i]? = some v->us[o+i]? = some v
 |[],_,us,o,_,_=>⟨[],by simp[ZU],by simp⟩
 |a::r,c,us,o,h,k=>by
  obtain⟨v,hv,hr⟩:=h.get (o+0) a (k 0 a (by simp));obtain⟨vs,h1,h2⟩:=ZU.sub (r:=r) (o:=o+1) h (fun i x hx=>by rw[show o+1+i=o+(i+1) from by omega];exact k (i+1) x (by simpa using hx));refine⟨v::vs,by simp only[ZU];exact⟨v,vs,rfl,hr,h1⟩,fun i u hu=>?_⟩
  cases i with
  |zero=>simp at hu;subst hu;exact hv
  |succ i=>rw[show o+(i+1)=o+1+i from by omega];exact h2 i u (by simpa using hu)
theorem wT (H:HR σ s w){b base o n:Nat}{us:List Value}{cs r:List AV}{cc:Array Value}{e:TypeId}{fz:Nat×Nat}(hz:σ.fz b=some (.cells cc e fz))(hr:ZU σ.bare cs us)(hc:∀i u,us[i]? = some u->cc[base+i]? = some u)
  (hg:XE n o cs=some r):∃vs:List Value,(∀w',w'.heap=w.heap->(loadCells ⟨b,base+o,none⟩ n).run P w'=.ok vs.toArray w')/\ZU σ r vs:=by
 obtain⟨vs,h1,h2⟩:=hr.sub (fun i a ha=>RA hg ha);refine⟨vs,fun w' hw=>?_,ZU.mono (Sg.Uv σ) _ _ h1⟩;have:=run_loadCells_list (P:=P) w' ⟨b,base+o,none⟩ vs (fun j v hv=>by
  rw[XK,cell_of_heap hw,XZ (H.fz _ _ hz).1,ajf];exact hc _ _ (h2 j v hv))
 rwa [<-h1.length,(Xc hg).1] at this
theorem Em (hX:Wb X P)(H:HR σ s w){t:TypeId}{x r:AV}{u:Value}(hx:ZT σ x u)(h:Vb X t x s=some r):Vc P w σ (Instr.loadAt t u) r:=by
 unfold Vb at h
 split at h
 ·rename_i b o;obtain⟨p,hp,rfl⟩:=Xm hx
  split at h
  ·rename_i MG
   split at h
   ·rename_i n c hs hc
    split at h
    ·rename_i r' hg
     cases h
     obtain⟨vs,h1,h2⟩:=RW (P:=P) H hp hc hg;refine⟨.agg vs.toArray,?_,by simp only[ZT];exact⟨_,rfl,h2⟩⟩;simp only[Instr.loadAt,Instr.sureAddr,loadVar,Sem.run_bind,Sem.run_pure,Result.andThen_ok,Uh hX MG,if_true,Y_ hX hs,h1 w rfl]
    ·cases h
   ·cases h
  ·rename_i MG;unfold cell at h
   split at h
   ·rename_i c hc;obtain⟨v,hv,hr⟩:=H.cell hp hc h;refine⟨v,?_,hr⟩;simp only[Instr.loadAt,Instr.sureAddr,loadVar,Sem.run_bind,Sem.run_pure,Result.andThen_ok,Uh hX MG,ajn,if_false,run_load,hv]
   ·cases h
  ·cases h
 ·rename_i c o;obtain⟨b,base,us,cc,e,fz,rfl,hz,hr,jg⟩:=LU hx
  split at h
  ·rename_i MG
   split at h
   ·rename_i n hs
    split at h
    ·rename_i r' hg
     cases h
     obtain⟨vs,h1,h2⟩:=wT (P:=P) H hz hr jg hg;refine⟨.agg vs.toArray,?_,by simp only[ZT];exact⟨_,rfl,h2⟩⟩;simp only[Instr.loadAt,Instr.sureAddr,loadVar,Sem.run_bind,Sem.run_pure,Result.andThen_ok,Uh hX MG,if_true,Y_ hX hs,h1 w rfl]
    ·cases h
   ·cases h
  ·rename_i MG;obtain⟨v,hv,TF⟩:=hr.get _ _ h;refine⟨v,?_,ZT.mono (Sg.Uv σ) _ _ TF⟩;have Pc:w.cell? ⟨b,base+o,none⟩=some v:=by rw[XZ (H.fz _ _ hz).1];exact jg _ _ hv
   simp only[Instr.loadAt,Instr.sureAddr,loadVar,Sem.run_bind,Sem.run_pure,Result.andThen_ok,Uh hX MG,ajn,if_false,run_load,Pc]
  ·cases h
 ·cases h
theorem Q_ {a:AV}{v:Value}(h:ZT σ a v)(hn:Zx a=true):v.oneCell'=true:=by
 obtain⟨_,h1,h2⟩:=S3 h hn
 cases v <;> first|rfl|exact absurd rfl (h1 _)|exact absurd rfl (h2 _)
theorem SJ {b:Nat}{e:TypeId}{fz:Nat×Nat}:∀(us:List Value) (off i:Nat) (w:World) (cc:Array Value),w.heap[b]? = some (.cells cc e fz)->(∀v∈us,v.oneCell'=true)->off+i+us.length<=cc.size ->
  (∀j,off+i<=j->j<off+i+us.length->¬(fz.1<=j/\j<fz.2)) ->
  ∃w' dx,(storeCells ⟨b,off,none⟩ us i).run P w=.ok () w'/\w'.heap.size=w.heap.size/\(∀c,c≠b->w'.heap[c]? = w.heap[c]?)/\w'.heap[b]? = some (.cells dx e fz)/\dx.size=cc.size /\
   (∀j,dx[j]? = if off+i<=j/\j<off+i+us.length then us[j-(off+i)]? else cc[j]?)/\w'.os=w.os/\w'.tape=w.tape/\w'.output=w.output
 |[],off,i,w,cc,hb,_,_,_=>⟨w,cc,rfl,rfl,fun _ _=>rfl,hb,rfl,fun j=>by rw[if_neg (by simp)],rfl,rfl,rfl⟩
 |u::us,off,i,w,cc,hb,hv,Wh,NA=>by
  have YH:off+i<cc.size:=by simp at Wh;omega
  have Pc:w.cell? ⟨b,off+i,none⟩=some cc[off+i]:=by rw[XZ hb];simp[YH]
  have SA:w.frozen? ⟨b,off+i,none⟩=false:=by
   have:=NA (off+i) (ajg _) (by simp);obtain⟨PQ,QO⟩:=fz;simp only[World.frozen?,hb];simp only at this;rw[Bool.eq_false_iff];intro hh;simp only[adm,decide_eq_true_eq] at hh;exact this hh
  have aiZ:b<w.heap.size:=(ajd.1 hb).1;have N4:(w.setCell ⟨b,off+i,none⟩ u).heap[b]? = some (.cells (cc.setIfInBounds (off+i) u) e fz):=by
   simp[World.setCell,Array.getElem?_modify,hb]
  obtain⟨w',dx,h1,h2,h3,h4,h5,h6,h7,h8,h9⟩:=SJ us off (i+1) (w.setCell ⟨b,off+i,none⟩ u) (cc.setIfInBounds (off+i) u) N4 (fun v hm=>hv v (aab _ hm)) (by simp at Wh ⊢;omega)
   (fun j hj yh=>NA j (by omega) (by simp;omega))
  refine⟨w',dx,?_,by rw[h2];simp,?_,h4,by rw[h5];simp,?_,h7,h8,h9⟩
  ·simp only[storeCells,Sem.run_bind,XK];rw[run_store P w _ u .plain (hv u (aba ..))];simp only[Pc,SA,ajn,if_false,Result.andThen_ok];exact h1
  ·intro c hc;rw[h3 c hc];simp only[World.setCell,Array.getElem?_modify];rw[if_neg (fun h=>hc h.symm)]
  ·intro j;rw[h6 j];by_cases hj:off+(i+1)<=j/\j<off+(i+1)+us.length
   ·rw[if_pos hj,if_pos (by simp;omega)];rw[show j-(off+i)=(j-(off+(i+1)))+1 from by omega];simp
   ·rw[if_neg hj];by_cases he:j=off+i
    ·subst he;rw[if_pos (by simp),Nat.sub_self];simp[YH]
    ·rw[if_neg (by simp;omega)];rw[Array.getElem?_setIfInBounds_ne (by omega)]
theorem SM (H:HR σ s w){b o:Nat}{p:Pl}{xs:List AV}{us:List Value}{s':St}(hp:σ b=some p)(hx:ZU σ xs us)(h:Xo s b o xs=some s') :
  ∃w',(storeCells ⟨p.b,p.sh+o,none⟩ us).run P w=.ok () w'/\Good σ s w σ s' w':=by
 unfold Xo at h
 split at h
 ·rename_i c e PQ QO hg
  split at h
  ·rename_i Sp;simp only[adm,akj,decide_eq_true_eq,ajq] at Sp;obtain⟨lH,wS⟩:=Sp
   split at h
   ·rename_i c' J0
    cases h
    have hl:s.look b=some (.cells c e false PQ QO):=St.X_ hg (by simp);obtain⟨cc,fz,h1,h2,h3,h4,h5⟩:=H.cells hp hl;obtain⟨g1,g2,g3⟩:=MX J0;have hlen:=hx.length;have hb:o+xs.length<=c.length\/us=[]:=by
     by_cases hn:xs=[]
     ·subst hn;simp only[ZU] at hx;exact .inr hx
     ·exact .inl (g2 hn)
    rcases hb with hb|rfl
    case inr =>
     have:xs=[]:=by cases xs with|nil=>rfl|cons a l=>simp at hlen
     subst this;have e1:c=c':=by cases o <;> simp[lay] at J0 <;> exact J0
     subst e1;refine⟨w,rfl,?_⟩;exact Good.put H hp hl rfl (by simp) rfl (fun _ _=>rfl) h1 ⟨h2,h3,rfl,h4,h5,H.spec hp hl⟩ rfl rfl rfl
    case inl =>
    have lG:∀v∈us,v.oneCell'=true:=by
     intro v hv;obtain⟨i,hi,rfl⟩:=ajw.1 hv;have hix:i<xs.length:=by omega
     obtain⟨v',Qm,Cv⟩:=ZU.get hx i xs[i] (aaa hix);rw[aaa hi] at Qm;cases Qm;exact Q_ Cv (wS _ (ajc hix))
    obtain⟨w',dx,k1,k2,k3,k4,k5,k6,k7,k8,k9⟩:=SJ (P:=P) (b:=p.b) (e:=e) (fz:=fz) us (p.sh+o) 0 w cc h1 lG (by rw[h2];omega)
     (fun j hj yh hf=>by
      obtain⟨q1,q2⟩:=h5 rfl (j-p.sh) (by rw[show p.sh+(j-p.sh)=j from by omega];exact hf.1) (by rw[show p.sh+(j-p.sh)=j from by omega];exact hf.2) (by omega);rcases lH with lH|lH <;> omega)
    refine⟨w',k1,?_⟩;refine Good.put H hp hl rfl (by simp) k2 k3 k4 ⟨by rw[k5,h2],by rw[g1];exact h3,rfl,?_,?_,by rw[g1];exact H.spec hp hl⟩ k7 k8 k9
    ·intro j a ha;rw[g3 j] at ha;rw[k6];simp only[Nat.add_zero];by_cases hj:o<=j/\j<o+xs.length
     ·rw[if_pos hj] at ha;rw[if_pos (by omega)];obtain⟨v,Qm,Cv⟩:=ZU.get hx _ _ ha;refine⟨v,?_,Cv⟩;rw[show p.sh+j-(p.sh+o)=j-o from by omega];exact Qm
     ·rw[if_neg hj] at ha;rw[if_neg (by omega)];exact h4 j a ha
    ·exact h5
   ·cases h
  ·cases h
 ·cases h
theorem wR (hX:Wb X P)(H:HR σ s w){t:TypeId}{x y:AV}{u v:Value}{s':St}(hx:ZT σ x u)(hy:ZT σ y v)(h:Nw X t x y s=some s') :
  ∃w',(Instr.storeAt t u v).run P w=.ok () w'/\Good σ s w σ s' w':=by
 unfold Nw at h
 split at h
 ·rename_i b o;obtain⟨p,hp,rfl⟩:=Xm hx
  split at h
  ·rename_i n hs
   split at h
   ·rename_i hn;have hc:=WD hy;obtain⟨w',h1,h2⟩:=SM (P:=P) H hp hc h;refine⟨w',?_,h2⟩;have hl:=hc.length;have Wh:v.cells.size=n:=by rw[<-ajx];omega
    simp only[Instr.storeAt,Instr.sureAddr,storeVar,Sem.run_bind,Sem.run_pure,Result.andThen_ok,Y_ hX hs,Wh,ne_eq,not_true_eq_false,if_false];exact h1
   ·cases h
  ·cases h
 ·cases h
end
end Go.Am
namespace Go.Am
open Go
variable [Stat]
def N9 (P:Program)(σ:Sg)(s:St)(w:World)(m:Sem Value)(a:AV)(s':St):Prop:=∃YE v w',m.run P w=.ok v w'/\ZT YE a v/\Good σ s w YE s' w'
theorem Vc.o {P:Program}{σ:Sg}{s:St}{w:World}{m:Sem Value}{a:AV}(h:Vc P w σ m a)(H:HR σ s w):N9 P σ s w m a s:=by
 obtain⟨v,h1,h2⟩:=h;exact⟨σ,v,w,h1,h2,Good.refl H⟩
section
variable {X:Cx}{P:Program}{w:World}{σ:Sg}{s:St}
theorem ZU.size {x:List AV}{a:Array Value}(h:ZU σ x a.toList):x.length=a.size:=by
 have h1:=h.length;have h2:a.toList.length=a.size:=ajx;omega
theorem NW (H:HR σ s w)(hf:σ s.next=none){c:List AV}{vs:Array Value}(e:TypeId)(fz:Nat×Nat)(NA:fz=(0,0)\/vs.size<=fz.1)(hle:c.length<=vs.size)(hc:∀(j:Nat) (a:AV),c[j]? = some a->∃v,vs[j]? = some v/\ZT σ a v)(Lu:Stat.spec e=true->vs.size=c.length) :
  Good σ s w (σ.add s.next ⟨w.heap.size,0,vs.size⟩) (s.new (.cells c e false 0 0)) (w.alloc (.cells vs e fz)):=by
 refine Good.new H hf _ (by simp) _ _ ⟨rfl,by simpa using hle,rfl,?_,?_,fun h=>⟨rfl,Lu h⟩⟩
 ·intro j a ha;obtain⟨v,hv,hr⟩:=hc j a ha;exact⟨v,by simpa using hv,ZT.mono (Sg.NH hf) _ _ hr⟩
 ·intro _ j h1 h2 h3;rcases NA with rfl|NA
  ·simp at h2
  ·dsimp only at h1 h2 h3;omega
theorem SO (H:HR σ s w)(hf:σ s.next=none){c:List AV}{vs:Array Value}(e:TypeId)(hc:ZU σ c vs.toList) :
  Good σ s w (σ.add s.next ⟨w.heap.size,0,vs.size⟩) (s.new (.cells c e false 0 0)) (w.alloc (.cells vs e)):=by
 have hl:=hc.size;refine NW H hf e (0,0) (.inl rfl) (by omega) (fun j a ha=>?_) (fun _=>by omega);obtain⟨v,hv,hr⟩:=hc.get j a ha;exact⟨v,by rw[ajK] at hv;exact hv,hr⟩
theorem HS (H:HR σ s w)(hf:σ s.next=none){c:List AV}{vs:Array Value}(e:TypeId)(hc:ZU σ c vs.toList) :
  N9 P σ s w (do pure (.pointer (some (<-newRow e vs)))) (.ptr s.next 0) (s.new (.cells c e false 0 0)):=by
 refine⟨_,.pointer (some ⟨w.heap.size,0,none⟩),w.alloc (.cells vs e),?_,?_,SO H hf e hc⟩
 ·simp only[newRow,Sem.run_bind,run_newObj,Result.andThen_ok,Sem.run_pure,World.alloc_eq]
 ·simp only[ZT];exact⟨_,Sg.Yx _ _ _,by simp⟩
theorem SN:∀(k:Nat) (l:List AV),(Vk k l).length=k*l.length
 |0,l=>by simp[Vk]
 |k+1,l=>by simp[Vk,SN k l,akf];omega
theorem Kw:∀(k:Nat) (l:List AV) (i:Nat),i<k*l.length->(Vk k l)[i]? = l[i%l.length]?
 |0,l,i,h=>by simp at h
 |k+1,l,i,h=>by
  simp only[Vk];by_cases hi:i<l.length
  ·rw[ajM hi,Nat.mod_eq_of_lt hi]
  ·rw[akc (by omega),Kw k l (i-l.length) (by rw[akf] at h;omega)]
   congr 1
   rw[<-Nat.mod_eq_sub_mod (by omega)]
theorem Kv {zc:List AV}{zs:Array Value}(h:ZU σ zc zs.toList)(hz:zs.size≠0)(k:Nat):ZU σ (Vk k zc) ((Array.range (k*zs.size)).map (fun i=>zs[i%zs.size]!)).toList:=by
 have hl:=h.size;apply ZU.Du
 ·rw[SN,hl];simp
 ·intro i hi OL;have hk:i<k*zc.length:=by rw[SN] at hi;exact hi
  have e:=Kw k zc i hk;rw[aaa hi] at e;obtain⟨v,hv,hr⟩:=h.get _ _ e.symm;have e2:((Array.range (k*zs.size)).map (fun i=>zs[i%zs.size]!)).toList[i]=v:=by
   rw[ajK] at hv;rw[hl] at hv;simp[getElem!_def,hv]
  rw[e2];exact hr
theorem r0 (hX:Wb X P)(H:HR σ s w)(hf:σ s.next=none){t:TypeId}{z:AV}(h:zero X t=some z):N9 P σ s w (Instr.alloc t true (.tuple #[])) (VS s z.cells t).1 (VS s z.cells t).2:=by
 obtain⟨zv,h1,h2⟩:=PL (w:=w) (σ:=σ) hX h;obtain⟨YE,v,w',g1,g2,g3⟩:=HS (P:=P) H hf t (WD h2);exact⟨YE,v,w',by simp only[Instr.alloc,Sem.run_bind,h1,Result.andThen_ok,newVar];simpa using g1,g2,g3⟩
theorem gG (H:HR σ s w)(hf:σ s.next=none){t:TypeId}{x:AV}{u:Value}(hx:ZT σ x u):N9 P σ s w (Instr.box t u) (VS s x.cells t).1 (VS s x.cells t).2:=by
 obtain⟨YE,v,w',g1,g2,g3⟩:=HS (P:=P) H hf t (WD hx);exact⟨YE,v,w',by simp only[Instr.box,newVar];exact g1,g2,g3⟩
theorem Mc {b n len cap Wa:Nat}{sz:Nat}(hn:len<=cap)(hz:cap*Wa<=sz):ZT (σ.add b ⟨n,0,sz⟩) (.sl b 0 len (some cap) Wa) (.slice (some ⟨n,0,none⟩) len cap):=by
 simp only[ZT];exact⟨_,_,rfl,hn,⟨_,Sg.Yx _ _ _,fun _=>by simp,fun _=>by simpa using hz⟩,fun k hk=>by cases hk;rfl⟩
theorem JV (hX:Wb X P)(H:HR σ s w)(hf:σ s.next=none){t:TypeId}{len:Nat}{parts:List (Nat×AV)}{ps:Array (Nat×Value)}{r:AV}{s':St}(hq:Ux σ parts ps.toList)(h:UH X t len parts s=some (r,s')) :
  N9 P σ s w (Instr.buildSlice t len ps) r s':=by
 unfold UH at h
 split at h
 ·rename_i elem hu
  split at h
  ·rename_i n z hs hz
   split at h
   ·rename_i Sp;obtain⟨hzl,DL,adr⟩:=Sp
    split at h
    ·rename_i c hc
     cases h
     obtain⟨zv,h1,h2⟩:=PL (w:=w) (σ:=σ) hX hz;have dA:=WD h2;have jj:zv.cells.size=n:=by have:=dA.size;omega
     have aan:=Kv dA (by omega) len;obtain⟨c',e1,e2,e3⟩:=Mz (place:=fun i=>some (i*n,n)) (fun i x hx=>hx) hc hq aan;have Wh:c'.size=len*n:=by rw[e3,jj];simp
     refine⟨_,.slice (some ⟨w.heap.size,0,none⟩) len len,w.alloc (.cells c' elem),?_,Mc (ajg _) (by omega),SO H hf elem e2⟩;have dG:¬(len*n>2^24):=by omega
     simp only[Instr.buildSlice,Sem.run_bind,ZK (hX.Zj _ _ hu),Result.andThen_ok,Y_ hX hs,dG,if_false];by_cases h0:len*n=0
     ·rw[jj,h0] at e1;simp only[h0,if_true,Sem.run_bind,Sem.run_pure,Result.andThen_ok];have:(Array.range 0).map (fun i=>(#[]:Array Value)[i%(#[]:Array Value).size]!)=(Array.range 0).map (fun i=>zv.cells[i%n]!):=by simp
      rw[this,e1];simp only[newRow,Sem.run_bind,run_newObj,Result.andThen_ok,Sem.run_pure,World.alloc_eq]
     ·rw[jj] at e1;simp only[h0,if_false,Sem.run_bind,Sem.run_pure,Result.andThen_ok,h1,jj,e1,newRow,run_newObj,World.alloc_eq]
    ·cases h
   ·cases h
  ·cases h
 ·cases h
theorem Pm (f:Nat->Value):(Array.range 0).map f=#[]:=by
 have:Array.range 0=#[]:=by rw[Array.range_zero']
 rw[this];simp
theorem F2 (hX:Wb X P)(H:HR σ s w)(hf:σ s.next=none){t elem:TypeId}{l c:Int}{kl kc:IntKind}{i:TypeInfo}{z:AV}(hu:X.Zj t=some (.slice elem))(hi:X.inf elem=some i)(hz:zero X elem=some z)
  (hc:0<=l/\l<=c/\c*i.bytes<=2^47/\c<2^47/\z.cells.length=i.size/\i.size≠0) :
  N9 P σ s w (Instr.makeSlice t (.int kl l) (.int kc c)) (.sl s.next 0 l.toNat (some c.toNat) i.size) (s.new (.cells (Vk c.toNat z.cells) elem false 0 0)):=by
 obtain⟨h0,h1,h2,h3,h4,h5⟩:=hc;obtain⟨zv,g1,g2⟩:=PL (w:=w) (σ:=σ) hX hz;have dA:=WD g2;have jj:zv.cells.size=i.size:=by have:=dA.size;omega
 have aan:=Kv dA (by omega) c.toNat;have uK:X.inf elem=some i->size X elem=some i.size:=fun h=>by simp[size,h]
 have wl:IntKind.i64.wrap l=l:=by rw[IntKind.wrap_i64];omega
 have wc:IntKind.i64.wrap c=c:=by rw[IntKind.wrap_i64];omega
 refine⟨_,.slice (some ⟨w.heap.size,0,none⟩) l.toNat c.toNat,w.alloc (.cells ((Array.range (c.toNat*zv.cells.size)).map (fun i=>zv.cells[i%zv.cells.size]!)) elem),?_,Mc (by omega) (by simp[jj]),SO H hf elem aan⟩;have big:((i.bytes:Int)*c>2^48)=False:=by
  rw[eq_iff_iff,iff_false];rw[Int.mul_comm];omega
 simp only[Instr.makeSlice,Sem.run_bind,ZK (hX.Zj _ _ hu),Result.andThen_ok,asInt,asIntOf,Sem.run_pure,JL (hX.inf _ _ hi),wl,wc,big,run_askRoom,Y_ hX (uK hi)];have n1:¬(c<0):=by omega
 have n2:¬(l<0):=by omega
 have n3:¬(l>c):=by omega
 simp only[n1,n2,n3,decide_false,Bool.or_false,ajn,if_false,Sem.run_pure,Result.andThen_ok,run_askRoom,newRow,Sem.run_bind,run_newObj,World.alloc_eq,Y_ hX (uK hi)];by_cases h0:c.toNat*i.size=0
 ·simp only[h0,if_true,Sem.run_bind,Sem.run_pure,Result.andThen_ok,run_newObj,World.alloc_eq,jj];rw[Pm,Pm]
 ·simp only[h0,if_false,Sem.run_bind,Sem.run_pure,Result.andThen_ok,g1,run_newObj,World.alloc_eq,jj]
theorem Ku (H:HR σ s w)(hf:σ s.next=none){t:TypeId}:N9 P σ s w (Instr.makeMap t none) (.map s.next) (s.new (.map [] false)):=by
 refine⟨_,.map (some w.heap.size),w.alloc (.map #[] 0),rfl,?_,Good.new H hf (.map [] false) (by simp) _ 0 (by simp[BR,ZL])⟩;simp only[ZT];exact⟨_,Sg.Yx _ _ _,rfl⟩
theorem Da (hX:Wb X P)(H:HR σ s w)(hf:σ s.next=none){t k e:TypeId}{kn:IntKind}{n:Int}(hu:X.Zj t=some (.map k e)):N9 P σ s w (Instr.makeMap t (some (.int kn n))) (.map s.next) (s.new (.map [] false)):=by
 obtain⟨YE,v,w',g1,g2,g3⟩:=Ku (P:=P) H hf (t:=t);refine⟨YE,v,w',?_,g2,g3⟩;rw[<-g1];simp[Instr.makeMap,ZK (hX.Zj _ _ hu),asInt,asIntOf]
end
end Go.Am
namespace Go.Am
open Go
section
variable [Stat]
variable {X:Cx}{P:Program}{w:World}{σ:Sg}{s:St}
theorem US {r:Nat}{o:Obj}(h:w.heap[r]? = some o)(hc:∀c e f,o≠.cells c e f):(getObj r).run P w=.ok o w:=by
 cases o <;> first|(exact absurd rfl (hc _ _ _))|simp[getObj,Sem.run,h]
theorem ND {r:Nat}{o o':Obj}(h:w.heap[r]? = some o)(hc:∀c e f,o≠.cells c e f):(setObj r o').run P w=.ok () { w with heap:=w.heap.setIfInBounds r o' }:=by
 cases o <;> first|(exact absurd rfl (hc _ _ _))|simp[setObj,Sem.run,h]
theorem Uu {a:AV}{l:List AV}(h:V' (a::l)=true):(∃n,a=.int .i64 n)/\V' l=true:=by
 cases a <;> try (simp only[V'] at h;cases h;done)
 rename_i k n
 cases k <;> simp only[V'] at h <;> first|exact⟨⟨n,rfl⟩,h⟩|(cases h;done)
theorem Sv:∀{l:List AV},V' l=true->∀(i:Nat) (a:AV),l[i]? = some a->∃n,a=AV.int .i64 n
 |[],_,i,a,h=>by simp at h
 |x::l,h,i,a,e=>by
  obtain⟨h1,h2⟩:=Uu h
  cases i with
  |zero=>simp at e;rw[<-e];exact h1
  |succ i=>exact Sv h2 i a (by simpa using e)
theorem yx {t:TypeId}{cs:Array Value}{off:Nat}{v:Value}(hu:P.underlying t=some (.int .i64))(hv:cs[off]? = some v):(part t cs off).run P w=.ok v w:=by
 simp[part,isAgg,ZK hu,hv]
theorem T9 {b:Bool}{d:Nat}{t:TypeId}{v:Value}{td:TypeDesc}(hu:P.underlying t=some td)(h1:∀m,td≠.interface m)(h2:∀n e,td≠.array n e)(h3:∀f,td≠.struct f):(Instr.checkKey b (d+1) t v).run P w=.ok () w:=by
 rw[Instr.checkKey];simp only[Sem.run_bind,ZK hu,Result.andThen_ok]
 cases td <;> first|rfl|(exact absurd rfl (h1 _))|(exact absurd rfl (h2 _ _))|(exact absurd rfl (h3 _))
theorem QK (hX:Wb X P){b:Bool}{t:TypeId}{k:AV}{kv:Value}(hk:ZT σ k kv)(h:Vi X t k=true):(Instr.checkKey b 10000 t kv).run P w=.ok () w:=by
 show (Instr.checkKey b (9999+1) t kv).run P w=.ok () w;unfold Vi at h
 split at h
 ·rename_i hu;exact T9 (hX.Zj _ _ hu) (by simp) (by simp) (by simp)
 ·rename_i hu;exact T9 (hX.Zj _ _ hu) (by simp) (by simp) (by simp)
 ·rename_i hu;exact T9 (hX.Zj _ _ hu) (by simp) (by simp) (by simp)
 ·rename_i len e cs hu;simp only[adm,beq_iff_eq] at h;obtain⟨⟨h1,h2⟩,h3⟩:=h
  split at h3
  ·rename_i he hs;obtain⟨vs,rfl,TA⟩:=WJ hk;have Wh:=TA.size;rw[Instr.checkKey];simp only[Sem.run_bind,ZK (hX.Zj _ _ hu),Result.andThen_ok];rw[Std.Legacy.Range.forIn_eq_forIn_range'];simp only[Std.Legacy.Range.size,Nat.sub_zero,Nat.add_sub_cancel,Nat.div_one];have key:∀(l:List Nat),(∀i∈l,i<len)->∀f:Nat->PUnit->Sem (ForInStep PUnit),(∀i,i<len->(f i PUnit.unit).run P w=.ok (ForInStep.yield PUnit.unit) w)->(forIn l PUnit.unit f).run P w=.ok PUnit.unit w:=by
    intro l hl f hf
    induction l with
    |nil=>rfl
    |cons i l ih =>
     simp only[List.forIn_cons,Sem.run_bind,hf i (hl i (by simp)),Result.andThen_ok];exact ih (fun j hj=>hl j (by simp[hj]))
   rw[key (List.range' 0 len) (by intro i hi;simp at hi;omega) _ (by
    intro i hi;have hic:i<cs.length:=by omega
    obtain⟨v,hv,hr⟩:=TA.get i cs[i] (aaa hic);rw[ajK] at hv;obtain⟨n,hn⟩:=Sv h1 i cs[i] (aaa hic);rw[hn] at hr;have:=Ze hr;subst this;simp only[Sem.run_bind,Y_ hX hs,Result.andThen_ok,ajj,yx (hX.Zj _ _ he) hv];rw[T9 (d:=9998) (hX.Zj _ _ he) (by simp) (by simp) (by simp)];rfl)]
   rfl
  ·cases h3
 ·cases h
theorem BK:∀{a b:List AV},Ww a b=true->V' a=true->V' b=true->a=b
 |[],[],_,_,_=>rfl
 |[],_::_,h,_,_=>by simp[Ww] at h
 |_::_,[],h,_,_=>by simp[Ww] at h
 |x::a,y::b,h,h1,h2=>by
  obtain⟨⟨n,rfl⟩,h1⟩:=Uu h1;obtain⟨⟨m,rfl⟩,h2⟩:=Uu h2;simp only[Ww,same,decide_true,ajF,adm,beq_iff_eq] at h;rw[h.1,BK h.2 h1 h2]
theorem MH {d:Nat}{e:TypeId}(hu:X.Zj e=some (.int .i64)):∀(k i:Nat) (a b:List AV),V' a=true->V' b=true->a.length=i+k->b.length=i+k ->
  QQ (yG X (d+1) e) (fun o l=>Ss X e l o) 1 k i a b=some (Ww (a.drop i) (b.drop i))
 |0,i,a,b,_,_,h1,h2=>by
  simp only[QQ];rw[List.drop_eq_nil_of_le (by omega),List.drop_eq_nil_of_le (by omega)];simp[Ww]
 |k+1,i,a,b,ha,hb,h1,h2=>by
  have hi:i<a.length:=by omega
  have hj:i<b.length:=by omega
  obtain⟨n,hn⟩:=Sv ha i a[i] (aaa hi);obtain⟨m,hm⟩:=Sv hb i b[i] (aaa hj);have MG:YB X e=some false:=by simp[YB,hu]
  have e1:Ss X e a (i*1)=some (.int .i64 n):=by
   simp only[Ss,MG,ajj];rw[aaa hi,hn]
  have e2:Ss X e b (i*1)=some (.int .i64 m):=by
   simp only[Ss,MG,ajj];rw[aaa hj,hm]
  have e3:yG X (d+1) e (.int .i64 n) (.int .i64 m)=some (n==m):=by simp[yG,hu]
  simp only[QQ,e1,e2,e3];rw[abc hi,abc hj,hn,hm];have ih:=MH hu (d:=d) k (i+1) a b ha hb (by omega) (by omega)
  cases yY:(n==m)
  ·simp[Ww,same,yY]
  ·simp only[ih,Ww,same,yY,decide_true,ajF]
theorem Fk (hX:Wb X P){t:TypeId}{len:Nat}{e:TypeId}{a b:List AV}{u v:Value}{r:Bool}(hu:X.Zj t=some (.array len e))(ha:ZT σ (.agg a) u)(hb:ZT σ (.agg b) v)(hk:Vi X t (.agg a)=true)(h:WB (.agg a) (.agg b)=some r) :
  (Op.equal t u v).run P w=.ok r w:=by
 simp only[Vi,hu,adm,beq_iff_eq] at hk;obtain⟨⟨h1,h2⟩,h3⟩:=hk
 split at h3
 ·rename_i he hs;simp only[WB,adm,beq_iff_eq] at h
  split at h
  ·rename_i hc
   cases h
   have:yG X 3 t (.agg a) (.agg b)=some (Ww a b):=by
    have:=MH (X:=X) (d:=1) he len 0 a b h1 hc.1.2 (by omega) (by omega);simp only[ajS] at this;unfold yG;rw[hu];simp only[hs];exact this
   exact JI hX 3 t _ _ _ this u v ha hb 10000 (by omega) w
  ·cases h
 ·cases h3
def Ix (σ:Sg):Option AV->Option (Nat×Value)->Prop
 |none,none=>True
 |some a,some (_,v)=>ZT σ a v
 |_,_=>False
theorem Sr {k:AV}{kv:Value}{d:TypeDesc}(hk:ZT σ k kv)(hd:match d,k with|.int _,.int _ _=>True|.string,.str _=>True|.bool,.bool _=>True|_,_=>False) :
  ∀{es:List (AV×AV)} {Wc:List MapEntry} {r:Option AV} (n:Nat),ZL σ es Wc->VH k es=some r->∃q,Instr.findNow d kv Wc n=some q/\Ix σ r q
 |[],Wc,r,n,he,h=>by
  simp only[ZL] at he;subst he;simp only[VH] at h;cases h;exact⟨none,rfl,trivial⟩
 |(k',v)::es,Wc,r,n,he,h=>by
  simp only[ZL] at he;obtain⟨m,y,rfl,h1,h2,h3⟩:=he;simp only[VH] at h;have key:∀b,WB k k'=some b->Instr.sameNow d kv m.key=some b:=by
   intro b hb
   cases k <;> try (simp only[WB] at hb;cases hb;done)
   all_goals (cases d <;> try (exact hd.elim))
   all_goals (cases k' <;> simp only[WB] at hb <;> try (cases hb;done))
   ·cases hb
    rw[Xb hk,Xb h1];rfl
   ·rename_i k1 n1 _ k2 n2
    split at hb
    ·rename_i ij;subst ij
     cases hb
     rw[Ze hk,Ze h1];simp[Instr.sameNow]
    ·cases hb
   ·cases hb
    obtain⟨p,e1,e2⟩:=XM hk;obtain⟨q,e3,e4⟩:=XM h1;rw[e1,e3,<-e2,<-e4];simp only[Instr.sameNow,bytes_beq]
  split at h
  ·rename_i hb
   cases h
   exact⟨some (n,m.val),by simp[Instr.findNow,key _ hb],h2⟩
  ·rename_i hb;obtain⟨q,h4,h5⟩:=Sr hk hd (n+1) h3 h;exact⟨q,by simp only[Instr.findNow,key _ hb];exact h4,h5⟩
  ·cases h
theorem PO (hX:Wb X P){t:TypeId}{len:Nat}{e:TypeId}{a:List AV}{kv:Value}(hu:X.Zj t=some (.array len e))(hk:ZT σ (.agg a) kv)(Ya:Vi X t (.agg a)=true) :
  ∀{es:List (AV×AV)} {Wc:List MapEntry} {r:Option AV} (n:Nat),ZL σ es Wc->VH (.agg a) es=some r->∃q,(Instr.findAsking t kv Wc n).run P w=.ok q w/\Ix σ r q
 |[],Wc,r,n,he,h=>by
  simp only[ZL] at he;subst he;simp only[VH] at h;cases h;exact⟨none,rfl,trivial⟩
 |(k',v)::es,Wc,r,n,he,h=>by
  simp only[ZL] at he;obtain⟨m,y,rfl,h1,h2,h3⟩:=he;simp only[VH] at h;have key:∀b,WB (.agg a) k'=some b->(Op.equal t kv m.key).run P w=.ok b w:=by
   intro b hb
   cases k' <;> try (simp only[WB] at hb;cases hb;done)
   exact Fk hX hu hk h1 Ya hb
  split at h
  ·rename_i hb
   cases h
   exact⟨some (n,m.val),by simp[Instr.findAsking,key _ hb],h2⟩
  ·rename_i hb;obtain⟨q,h4,h5⟩:=PO hX hu hk Ya (n+1) h3 h;exact⟨q,by simp only[Instr.findAsking,Sem.run_bind,key _ hb,Result.andThen_ok,ajn,if_false];exact h4,h5⟩
  ·cases h
theorem BJ (hX:Wb X P){t:TypeId}{k:AV}{kv:Value}(hk:ZT σ k kv)(Ya:Vi X t k=true){es:List (AV×AV)}{Wc:List MapEntry}{r:Option AV}(he:ZL σ es Wc)(h:VH k es=some r) :
  ∃q,(Instr.findKey t kv Wc).run P w=.ok q w/\Ix σ r q:=by
 have aK:=Ya;unfold Vi at Ya
 split at Ya
 ·rename_i kk k' n hu;obtain⟨q,h1,h2⟩:=Sr (d:=.int kk) hk trivial 0 he h;exact⟨q,by simp only[Instr.findKey,Sem.run_bind,ZK (hX.Zj _ _ hu),Result.andThen_ok,h1,Sem.run_pure],h2⟩
 ·rename_i b hu;obtain⟨q,h1,h2⟩:=Sr (d:=.string) hk trivial 0 he h;exact⟨q,by simp only[Instr.findKey,Sem.run_bind,ZK (hX.Zj _ _ hu),Result.andThen_ok,h1,Sem.run_pure],h2⟩
 ·rename_i b hu;obtain⟨q,h1,h2⟩:=Sr (d:=.bool) hk trivial 0 he h;exact⟨q,by simp only[Instr.findKey,Sem.run_bind,ZK (hX.Zj _ _ hu),Result.andThen_ok,h1,Sem.run_pure],h2⟩
 ·rename_i len e cs hu;obtain⟨q,h1,h2⟩:=PO (P:=P) (w:=w) hX hu hk aK 0 he h;refine⟨q,?_,h2⟩;simp only[Instr.findKey,Sem.run_bind,ZK (hX.Zj _ _ hu),Result.andThen_ok];obtain⟨vs,rfl,_⟩:=WJ hk
  cases Wc with
  |nil=>simp only[Instr.findNow,Sem.run_pure];simpa[Instr.findAsking] using h1
  |cons m y=>simp only[Instr.findNow,Instr.sameNow];exact h1
 ·cases Ya
theorem HR.map (H:HR σ s w){r:Nat}{p:Pl}{es:List (AV×AV)}{ro:Bool}(hp:σ r=some p)(hg:s.get r=some (.map es ro)):∃Wc clock,w.heap[p.b]? = some (.map Wc clock)/\ZL σ es Wc.toList:=by
 obtain⟨o,ho,hb⟩:=H.Gv r p _ hp (St.X_ hg (by simp))
 cases o <;> simp only[BR] at hb
 exact⟨_,_,ho,hb⟩
theorem sU {t key elem:TypeId}{kv:Value}{ok:Bool}{q:Option (Nat×Value)}{mv:Value}{Wc:Array MapEntry}(hu:P.underlying t=some (.map key elem))
  (hm:(mv=.map none/\Wc=#[])\/∃r clock,mv=.map (some r)/\w.heap[r]? = some (.map Wc clock))
  (ig:∀b,(Instr.checkKey b 10000 key kv).run P w=.ok () w)(hf:(Instr.findKey key kv Wc.toList).run P w=.ok q w) :
  (Instr.lookup t mv kv ok).run P w=match q with
   |some (_,v)=>.ok (if ok then .tuple #[v,.bool true] else v) w
   |none=>((zeroValue elem).run P w).andThen fun z w=>.ok (if ok then .tuple #[z,.bool false] else z) w:=by
 rcases hm with⟨rfl,rfl⟩|⟨r,clock,rfl,hr⟩
 ·simp only[Instr.lookup,Sem.run_bind,ZK hu,Result.andThen_ok,Sem.run_pure,ig,hf]
  cases q with
  |none=>simp only[Sem.run_bind,Sem.run_pure,Result.andThen_ok]
  |some q=>obtain⟨i,v⟩:=q;simp only[Sem.run_bind,Sem.run_pure,Result.andThen_ok]
 ·simp only[Instr.lookup,Sem.run_bind,ZK hu,Result.andThen_ok,Sem.run_pure,US hr (by simp),ig,hf]
  cases q with
  |none=>simp only[Sem.run_bind,Sem.run_pure,Result.andThen_ok]
  |some q=>obtain⟨i,v⟩:=q;simp only[Sem.run_bind,Sem.run_pure,Result.andThen_ok]
theorem NC (hX:Wb X P){t key elem:TypeId}{k:AV}{kv:Value}{ok:Bool}{mv:Value}{Wc:Array MapEntry}{es:List (AV×AV)}{q0:Option AV}{r:AV}(hu:X.Zj t=some (.map key elem))(hk:ZT σ k kv)(Ya:Vi X key k=true)
  (hm:(mv=.map none/\Wc=#[])\/∃r clock,mv=.map (some r)/\w.heap[r]? = some (.map Wc clock))
  (he:ZL σ es Wc.toList)(hf:VH k es=some q0)
  (hr:(match q0 with
   |some v=>some (if ok=true then AV.XF [v,.bool true] else v)
   |none=>match zero X elem with
    |some z=>some (if ok=true then AV.XF [z,.bool false] else z)
    |none=>none)=some r):Vc P w σ (Instr.lookup t mv kv ok) r:=by
 obtain⟨q,h1,h2⟩:=BJ (P:=P) (w:=w) hX hk Ya he hf;unfold Vc;rw[sU (hX.Zj _ _ hu) hm (fun b=>QK hX hk Ya) h1]
 cases q0 with
 |some a =>
  cases q with
  |none=>exact h2.elim
  |some q =>
   obtain⟨i,v⟩:=q
   cases hr
   refine⟨if ok then .tuple #[v,.bool true] else v,rfl,?_⟩
   cases ok
   ·exact h2
   ·simp only[if_true,ZT];exact⟨_,rfl,by simp only[ZU];exact⟨_,_,rfl,h2,_,_,rfl,by simp[ZT],rfl⟩⟩
 |none =>
  cases q with
  |some q=>exact h2.elim
  |none =>
   simp only at hr
   split at hr
   ·rename_i z hz
    cases hr
    obtain⟨zv,zp,oO⟩:=PL (w:=w) (σ:=σ) hX hz;refine⟨if ok then .tuple #[zv,.bool false] else zv,by simp only[zp,Result.andThen_ok],?_⟩
    cases ok
    ·exact oO
    ·simp only[if_true,ZT];exact⟨_,rfl,by simp only[ZU];exact⟨_,_,rfl,oO,_,_,rfl,by simp[ZT],rfl⟩⟩
   ·cases hr
theorem vu {ks vs:List AV}{v:Value}(h:ZT σ (.fm ks vs) v):∃r Wc clock,v=.map (some r)/\σ.fz r=some (.map Wc clock)/\ZU σ.bare ks (Wc.toList.map MapEntry.key)/\ZU σ.bare vs (Wc.toList.map MapEntry.val):=by simpa only[ZT] using h
theorem KC {σ:Sg}:∀{ks vs:List AV} {l:List MapEntry},ZU σ ks (l.map MapEntry.key)->ZU σ vs (l.map MapEntry.val)->ZL σ (ks.zip vs) l
 |[],vs,l,h,k=>by
  simp only[ZU,List.map_eq_nil_iff] at h;subst h;simp[ZL]
 |a::ks,[],l,h,k=>by
  simp only[ZU,List.map_eq_nil_iff] at k;subst k;simp[ZU] at h
 |a::ks,b::vs,l,h,k=>by
  cases l with
  |nil=>simp[ZU] at h
  |cons m l =>
   simp only[aju,ZU] at h k;obtain⟨v,y,e,h1,h2⟩:=h;obtain⟨v',y',e',k1,k2⟩:=k
   cases e;cases e'
   simp only[List.zip_cons_cons,ZL];exact⟨m,l,rfl,h1,k1,KC h2 k2⟩
theorem BH (hX:Wb X P)(H:HR σ s w){t:TypeId}{m k r:AV}{mv kv:Value}{ok:Bool}(hm:ZT σ m mv)(hk:ZT σ k kv)(h:Xh X t m k ok s=some r):Vc P w σ (Instr.lookup t mv kv ok) r:=by
 unfold Xh at h
 split at h
 ·rename_i key elem hu
  split at h
  ·rename_i Ya
   cases m <;> simp only at h <;> try (cases h;done)
   ·
    simp only[ZT] at hm;subst hm;exact NC hX hu hk Ya (.inl ⟨rfl,rfl⟩) (es:=[]) (q0:=none) (by simp[ZL]) rfl h
   ·rename_i b;obtain⟨p,hp,rfl⟩:=PK hm
    cases hg:s.get b with
    |none=>rw[hg] at h;cases h
    |some Gv =>
     rw[hg] at h
     cases Gv <;> simp only at h <;> try (cases h;done)
     rename_i es ro
     cases hf:VH k es with
     |none=>rw[hf] at h;cases h
     |some q0 =>
      rw[hf] at h;obtain⟨Wc,clock,g1,g2⟩:=H.map hp hg;refine NC hX hu hk Ya (.inr ⟨p.b,clock,rfl,g1⟩) g2 hf ?_
      cases q0 <;> exact h
   ·rename_i ks vs;obtain⟨b,Wc,clock,rfl,g1,g2,g3⟩:=vu hm
    cases hf:VH k (ks.zip vs) with
    |none=>rw[hf] at h;cases h
    |some q0 =>
     rw[hf] at h;refine NC hX hu hk Ya (.inr ⟨b,clock,rfl,(H.fz _ _ g1).1⟩) ((KC g2 g3).mono (Sg.Uv σ)) hf ?_
     cases q0 <;> exact h
  ·cases h
 ·cases h
end
end Go.Am
namespace Go.Am
open Go
section
variable [Stat]
variable {X:Cx}{P:Program}{w:World}{σ:Sg}{s:St}
def Nx (k:AV):List (AV×AV)->Option (Option Nat)
 |[]=>some none
 |(k',_)::es=>match WB k k' with
  |some true=>some (some 0)
  |some false=>match Nx k es with
   |some (some i)=>some (some (i+1))
   |some none=>some none
   |none=>none
  |none=>none
theorem u_ {k v:AV}:∀{es gY:List (AV×AV)},Mw k v es=some gY->∃o,Nx k es=some o/\gY=(match o with|none=>es++[(k,v)]|some i=>es.set i (k,v))/\(∀i,o=some i->i<es.length)
 |[],gY,h=>by
  simp only[Mw] at h;cases h;exact⟨none,rfl,rfl,by simp⟩
 |(k',v')::es,gY,h=>by
  simp only[Mw] at h
  split at h
  ·rename_i hb
   cases h
   exact⟨some 0,by simp only[Nx,hb],rfl,by simp⟩
  ·rename_i hb
   split at h
   ·rename_i r hr
    cases h
    obtain⟨o,h1,h2,h3⟩:=u_ hr
    cases o with
    |none=>exact⟨none,by simp only[Nx,hb,h1],by simp[h2],by simp⟩
    |some i=>exact⟨some (i+1),by simp only[Nx,hb,h1],by simp[h2],fun j hj=>by cases hj;have:=h3 i rfl;simp;omega⟩
   ·cases h
  ·cases h
theorem SS {k:AV}{kv:Value}{d:TypeDesc}(hk:ZT σ k kv)(hd:match d,k with|.int _,.int _ _=>True|.string,.str _=>True|.bool,.bool _=>True|_,_=>False) :
  ∀{es:List (AV×AV)} {Wc:List MapEntry} {o:Option Nat} (n:Nat),ZL σ es Wc->Nx k es=some o->∃q,Instr.findNow d kv Wc n=some q/\(o=none->q=none)/\(∀i,o=some i->∃v,q=some (n+i,v))
 |[],Wc,o,n,he,h=>by
  simp only[ZL] at he;subst he;simp only[Nx] at h;cases h;exact⟨none,rfl,fun _=>rfl,by simp⟩
 |(k',v)::es,Wc,o,n,he,h=>by
  simp only[ZL] at he;obtain⟨m,y,rfl,h1,h2,h3⟩:=he;simp only[Nx] at h;have key:∀b,WB k k'=some b->Instr.sameNow d kv m.key=some b:=by
   intro b hb
   cases k <;> try (simp only[WB] at hb;cases hb;done)
   all_goals (cases d <;> try (exact hd.elim))
   all_goals (cases k' <;> simp only[WB] at hb <;> try (cases hb;done))
   ·cases hb
    rw[Xb hk,Xb h1];rfl
   ·rename_i k1 n1 _ k2 n2
    split at hb
    ·rename_i ij;subst ij
     cases hb
     rw[Ze hk,Ze h1];simp[Instr.sameNow]
    ·cases hb
   ·cases hb
    obtain⟨p,e1,e2⟩:=XM hk;obtain⟨q,e3,e4⟩:=XM h1;rw[e1,e3,<-e2,<-e4];simp only[Instr.sameNow,bytes_beq]
  split at h
  ·rename_i hb
   cases h
   exact⟨some (n,m.val),by simp[Instr.findNow,key _ hb],by simp,fun i hi=>by cases hi;exact⟨_,rfl⟩⟩
  ·rename_i hb
   split at h
   ·rename_i i hi
    cases h
    obtain⟨q,h4,h5,h6⟩:=SS hk hd (n+1) h3 hi;refine⟨q,by simp only[Instr.findNow,key _ hb];exact h4,by simp,fun j hj=>?_⟩
    cases hj
    obtain⟨v,hv⟩:=h6 i rfl;exact⟨v,by rw[hv];congr 2;omega⟩
   ·rename_i hi
    cases h
    obtain⟨q,h4,h5,h6⟩:=SS hk hd (n+1) h3 hi;exact⟨q,by simp only[Instr.findNow,key _ hb];exact h4,fun _=>h5 rfl,by simp⟩
   ·cases h
  ·cases h
theorem RY (hX:Wb X P){t:TypeId}{len:Nat}{e:TypeId}{a:List AV}{kv:Value}(hu:X.Zj t=some (.array len e))(hk:ZT σ (.agg a) kv)(Ya:Vi X t (.agg a)=true) :
  ∀{es:List (AV×AV)} {Wc:List MapEntry} {o:Option Nat} (n:Nat),ZL σ es Wc->Nx (.agg a) es=some o->∃q,(Instr.findAsking t kv Wc n).run P w=.ok q w/\(o=none->q=none)/\(∀i,o=some i->∃v,q=some (n+i,v))
 |[],Wc,o,n,he,h=>by
  simp only[ZL] at he;subst he;simp only[Nx] at h;cases h;exact⟨none,rfl,fun _=>rfl,by simp⟩
 |(k',v)::es,Wc,o,n,he,h=>by
  simp only[ZL] at he;obtain⟨m,y,rfl,h1,h2,h3⟩:=he;simp only[Nx] at h;have key:∀b,WB (.agg a) k'=some b->(Op.equal t kv m.key).run P w=.ok b w:=by
   intro b hb
   cases k' <;> try (simp only[WB] at hb;cases hb;done)
   exact Fk hX hu hk h1 Ya hb
  split at h
  ·rename_i hb
   cases h
   exact⟨some (n,m.val),by simp[Instr.findAsking,key _ hb],by simp,fun i hi=>by cases hi;exact⟨_,rfl⟩⟩
  ·rename_i hb
   split at h
   ·rename_i i hi
    cases h
    obtain⟨q,h4,h5,h6⟩:=RY hX hu hk Ya (n+1) h3 hi;refine⟨q,by simp only[Instr.findAsking,Sem.run_bind,key _ hb,Result.andThen_ok,ajn,if_false];exact h4,by simp,fun j hj=>?_⟩
    cases hj
    obtain⟨v,hv⟩:=h6 i rfl;exact⟨v,by rw[hv];congr 2;omega⟩
   ·rename_i hi
    cases h
    obtain⟨q,h4,h5,h6⟩:=RY hX hu hk Ya (n+1) h3 hi;exact⟨q,by simp only[Instr.findAsking,Sem.run_bind,key _ hb,Result.andThen_ok,ajn,if_false];exact h4,fun _=>h5 rfl,by simp⟩
   ·cases h
  ·cases h
theorem xZ (hX:Wb X P){t:TypeId}{k:AV}{kv:Value}(hk:ZT σ k kv)(Ya:Vi X t k=true){es:List (AV×AV)}{Wc:List MapEntry}{o:Option Nat}(he:ZL σ es Wc)(h:Nx k es=some o) :
  ∃q,(Instr.findKey t kv Wc).run P w=.ok q w/\(o=none->q=none)/\(∀i,o=some i->∃v,q=some (i,v)):=by
 have aK:=Ya;unfold Vi at Ya
 split at Ya
 ·rename_i kk k' n hu;obtain⟨q,h1,h2,h3⟩:=SS (d:=.int kk) hk trivial 0 he h;exact⟨q,by simp only[Instr.findKey,Sem.run_bind,ZK (hX.Zj _ _ hu),Result.andThen_ok,h1,Sem.run_pure],h2,by simpa using h3⟩
 ·rename_i b hu;obtain⟨q,h1,h2,h3⟩:=SS (d:=.string) hk trivial 0 he h;exact⟨q,by simp only[Instr.findKey,Sem.run_bind,ZK (hX.Zj _ _ hu),Result.andThen_ok,h1,Sem.run_pure],h2,by simpa using h3⟩
 ·rename_i b hu;obtain⟨q,h1,h2,h3⟩:=SS (d:=.bool) hk trivial 0 he h;exact⟨q,by simp only[Instr.findKey,Sem.run_bind,ZK (hX.Zj _ _ hu),Result.andThen_ok,h1,Sem.run_pure],h2,by simpa using h3⟩
 ·rename_i len e cs hu;obtain⟨q,h1,h2,h3⟩:=RY (P:=P) (w:=w) hX hu hk aK 0 he h;refine⟨q,?_,h2,by simpa using h3⟩;simp only[Instr.findKey,Sem.run_bind,ZK (hX.Zj _ _ hu),Result.andThen_ok];obtain⟨vs,rfl,_⟩:=WJ hk
  cases Wc with
  |nil=>simp only[Instr.findNow,Sem.run_pure];simpa[Instr.findAsking] using h1
  |cons m y=>simp only[Instr.findNow,Instr.sameNow];exact h1
 ·cases Ya
theorem E5:∀{a:List AV} {u v:List Value},V' a=true->ZU σ a u->ZU σ a v->u=v
 |[],u,v,_,h1,h2=>by simp only[ZU] at h1 h2;rw[h1,h2]
 |x::a,u,v,h,h1,h2=>by
  obtain⟨⟨n,rfl⟩,h'⟩:=Uu h;simp only[ZU] at h1 h2;obtain⟨p,y,rfl,e1,e2⟩:=h1;obtain⟨q,z,rfl,e3,e4⟩:=h2;rw[Ze e1,Ze e3,E5 h' e2 e4]
theorem SR:∀{a:List AV} {u:List Value},V' a=true->ZU σ a u->(u.zip u).all (fun (x,y)=>Instr.sameBits 9999 x y)=true
 |[],u,_,h1=>by simp only[ZU] at h1;subst h1;rfl
 |x::a,u,h,h1=>by
  obtain⟨⟨n,rfl⟩,h'⟩:=Uu h;simp only[ZU] at h1;obtain⟨p,y,rfl,e1,e2⟩:=h1;rw[Ze e1];simp only[List.zip_cons_cons,List.all_cons,adm];refine⟨?_,SR h' e2⟩;show Instr.sameBits (9998+1) _ _=true;rw[Instr.sameBits];simp
theorem Mm {k k':AV}{kv mk:Value}(hk:ZT σ k kv)(hm:ZT σ k' mk)(h:WB k k'=some true):Instr.sameBits 10000 mk kv=true:=by
 show Instr.sameBits (9999+1) mk kv=true
 cases k <;> try (simp only[WB] at h;cases h;done)
 all_goals (cases k' <;> simp only[WB] at h <;> try (cases h;done))
 ·rw[Xb hk,Xb hm,Instr.sameBits];simp at h;simp[h]
 ·split at h
  ·rename_i ij;subst ij;rw[Ze hk,Ze hm,Instr.sameBits];simp at h;simp[h]
  ·cases h
 ·obtain⟨p,e1,e2⟩:=XM hk;obtain⟨q,e3,e4⟩:=XM hm;rw[e1,e3,Instr.sameBits,bytes_beq];simp at h;simp[e2,e4,h]
 ·split at h
  ·rename_i hc;simp only[adm,beq_iff_eq] at hc;have e:=BK (Option.some.inj h) hc.1.1 hc.1.2;subst e;obtain⟨us,rfl,NP⟩:=WJ hk;obtain⟨vs,rfl,TA⟩:=WJ hm;have e:=E5 hc.1.1 NP TA;have e':us=vs:=by cases us;cases vs;simpa using e
   subst e';rw[Instr.sameBits];simp only[beq_self_eq_true,ajF];exact SR hc.1.1 NP
  ·cases h
theorem Bn {k:AV}:∀{es:List (AV×AV)} {i:Nat},Nx k es=some (some i)->∃k' v',es[i]? = some (k',v')/\WB k k'=some true
 |[],i,h=>by simp only[Nx] at h;cases h
 |(k',v')::es,i,h=>by
  simp only[Nx] at h
  split at h
  ·rename_i hb;cases h;exact⟨k',v',rfl,hb⟩
  ·split at h
   ·rename_i j hj;cases h;obtain⟨a,b,h1,h2⟩:=Bn hj;exact⟨a,b,by simpa using h1,h2⟩
   ·cases h
   ·cases h
  ·cases h
theorem Pw:∀{es:List (AV×AV)} {Wc:List MapEntry},ZL σ es Wc->∀(i:Nat) (k v:AV),es[i]? = some (k,v)->∃m,Wc[i]? = some m/\ZT σ k m.key/\ZT σ v m.val
 |[],Wc,_,i,k,v,h=>by simp at h
 |(k',v')::es,Wc,he,i,k,v,h=>by
  simp only[ZL] at he;obtain⟨m,y,rfl,h1,h2,h3⟩:=he
  cases i with
  |zero=>simp at h;exact⟨m,rfl,h.1 ▸ h1,h.2 ▸ h2⟩
  |succ i=>simpa using Pw h3 i k v (by simpa using h)
theorem Pv {k v:AV}{kv vv:Value}(hk:ZT σ k kv)(hv:ZT σ v vv):∀{es:List (AV×AV)} {Wc:List MapEntry} (i:Nat),ZL σ es Wc->ZL σ (es.set i (k,v)) (Wc.modify i fun e=>{ e with key:=kv,val:=vv })
 |[],Wc,i,h=>by simp only[ZL] at h;subst h;simp[ZL]
 |(k',v')::es,Wc,i,h=>by
  simp only[ZL] at h;obtain⟨m,y,rfl,h1,h2,h3⟩:=h
  cases i with
  |zero=>simp only[List.set_cons_zero,List.modify_zero_cons,ZL];exact⟨_,_,rfl,hk,hv,h3⟩
  |succ i=>simp only[List.set_cons_succ,List.modify_succ_cons,ZL];exact⟨_,_,rfl,h1,h2,Pv hk hv i h3⟩
theorem Ql {k v:AV}{m:MapEntry}(hk:ZT σ k m.key)(hv:ZT σ v m.val):∀{es:List (AV×AV)} {Wc:List MapEntry},ZL σ es Wc->ZL σ (es++[(k,v)]) (Wc++[m])
 |[],Wc,h=>by simp only[ZL] at h;subst h;simp only[ajP,ZL];exact⟨_,_,rfl,hk,hv,rfl⟩
 |(k',v')::es,Wc,h=>by
  simp only[ZL] at h;obtain⟨m',y,rfl,h1,h2,h3⟩:=h;simp only[ajz,ZL];exact⟨_,_,rfl,h1,h2,Ql hk hv h3⟩
theorem Kz (hX:Wb X P)(H:HR σ s w){t:TypeId}{m k v:AV}{mv kv vv:Value}{s':St}(hm:ZT σ m mv)(hk:ZT σ k kv)(hv:ZT σ v vv)(h:V0 X t m k v s=some s') :
  ∃w',(Instr.mapUpdate t mv kv vv).run P w=.ok () w'/\Good σ s w σ s' w':=by
 unfold V0 at h
 split at h
 ·rename_i key elem b hu
  split at h
  ·rename_i Ya
   split at h
   ·rename_i es hg
    split at h
    ·rename_i gY Bm
     cases h
     obtain⟨p,hp,rfl⟩:=PK hm;obtain⟨Wc,clock,g1,g2⟩:=H.map hp hg;obtain⟨o,h1,h2,h3⟩:=u_ Bm;obtain⟨q,f1,f2,f3⟩:=xZ (P:=P) (w:=w) hX hk Ya g2 h1;have YH:p.b<w.heap.size:=H.lt _ _ hp;have hl:s.look b=some (.map es false):=St.X_ hg (by simp);have fin:∀(gW:Array MapEntry) (xY:Nat),ZL σ gY gW.toList->Good σ s w σ (s.put b (.map gY false)) { w with heap:=w.heap.setIfInBounds p.b (.map gW xY) }:=by
      intro gW xY hr;refine Good.put H hp hl rfl (by simp) (by simp) ?_ (o:=.map gW xY) ?_ hr rfl rfl rfl
      ·intro c hc;simp only;rw[Array.getElem?_setIfInBounds_ne (fun e=>hc e.symm)]
      ·simp[YH]
     cases o with
     |none =>
      rw[f2 rfl] at f1;refine⟨_,?_,fin (Wc.push { key:=kv,val:=vv,born:=clock }) (clock+1) (by rw[h2,Array.toList_push];exact Ql hk hv g2)⟩;simp only[Instr.mapUpdate,Sem.run_bind,ZK (hX.Zj _ _ hu),Result.andThen_ok,US g1 (by simp),QK hX hk Ya,f1,ND g1 (by simp)]
     |some i =>
      obtain⟨ov,hq⟩:=f3 i rfl;rw[hq] at f1;obtain⟨k',v',e1,e2⟩:=Bn h1;obtain⟨m,e3,e4,e5⟩:=Pw g2 i k' v' e1;rw[ajK] at e3;refine⟨_,?_,fin (Wc.modify i fun e=>{ e with key:=kv,val:=vv }) clock (by rw[h2,Array.toList_modify];exact Pv hk hv i g2)⟩;simp only[Instr.mapUpdate,Sem.run_bind,ZK (hX.Zj _ _ hu),Result.andThen_ok,US g1 (by simp),QK hX hk Ya,f1,e3,aki,akk];simp only[Instr.keyThatStays,Mm hk e4 e2,if_true,Sem.run_pure,Result.andThen_ok,ND g1 (by simp)]
    ·cases h
   ·cases h
  ·cases h
 ·cases h
end
end Go.Am
namespace Go.Am
open Go
section
variable [Stat]
variable {X:Cx}{P:Program}{w:World}{σ:Sg}{s:St}
theorem Ea (need M:Nat)(hM:need+(need+768) / 4<=M):∀(r c:Nat),c<=M->Builtin.growBy need r c<=M
 |0,c,h=>h
 |r+1,c,h=>by
  simp only[Builtin.growBy]
  split
  ·exact h
  ·exact Ea need M hM r _ (by omega)
theorem wh {need cap:Nat}(h:cap<need):Builtin.nextslicecap need cap<=2*need+200:=by
 unfold Builtin.nextslicecap
 split
 ·omega
 ·split
  ·omega
  ·exact Ea need _ (by omega) 4 cap (by omega)
theorem zC {α β:Type}(f:α->List β)(n:Nat):∀(l:List α),(∀u∈l,(f u).length=n)->(l.flatMap f).length=l.length*n
 |[],_=>by simp
 |x::l,hl=>by
  rw[ajL,ajh,hl x (aba ..),zC f n l fun u hu=>hl u (aab _ hu),ajk,akf];omega
theorem Kp (H:HR σ s w){n m:Nat}{x:AV}{xv:Value}{new:List AV}(hx:ZT σ x xv)(h:WV n x s=some (m,new)) :
  (∀w,(Builtin.lenOf xv).run P w=.ok m w)/\∃vs:Array Value,(∀w',w'.heap=w.heap->(Builtin.firstCells n m xv).run P w'=.ok vs w')/\ZU σ new vs.toList:=by
 unfold WV at h
 split at h
 ·cases h
  simp only[ZT] at hx;subst hx;exact⟨fun _=>rfl,#[],fun _ _=>rfl,by simp[ZU]⟩
 ·rename_i b o len cap Wa;obtain⟨a,c,rfl,hlen,⟨p,hp,ha,_⟩,_⟩:=T8 hx
  split at h
  ·rename_i cs hc
   split at h
   ·rename_i r hg
    cases h
    refine⟨fun _=>rfl,?_⟩;by_cases hm:m=0
    ·subst hm;have:new=[]:=by have:=(Xc hg).1;simpa using this
     subst this;exact⟨#[],fun _ _=>by simp[Builtin.firstCells,loadCells,loadCellsFrom],by simp[ZU]⟩
    ·obtain⟨vs,h1,h2⟩:=RW (P:=P) H hp hc hg;exact⟨vs.toArray,fun w' hw=>by simp only[Builtin.firstCells];rw[ha (by omega)];exact h1 w' hw,h2⟩
   ·cases h
  ·cases h
 ·rename_i bs
  cases h
  obtain⟨b,rfl,rfl⟩:=XM hx;have Wh:b.data.toList.length=b.size:=by rw[ajx];rfl
  refine⟨fun _=>by rw[Wh];rfl,(b.extract 0 b.data.toList.length).data.map fun b=>.int .u8 b.toNat,fun _ _=>rfl,?_⟩;have e:(b.extract 0 b.data.toList.length).data.toList=b.data.toList:=by
   rw[extract_toList,ajS,List.take_of_length_le (ajg _)]
  have:((b.extract 0 b.data.toList.length).data.map fun b=>Value.int .u8 b.toNat).toList=b.data.toList.map fun b=>Value.int .u8 b.toNat:=by
   rw[Array.toList_map,e]
  rw[this];generalize b.data.toList=l
  induction l with
  |nil=>simp[ZU]
  |cons c l ih=>simp only[aju,ZU];exact⟨_,_,rfl,by simp[ZT],ih⟩
 ·rename_i es
  split at h
  ·rename_i Xv
   cases h
   simp only[adm,ajq,beq_iff_eq,bne_iff_ne] at Xv;obtain⟨a,c,us,rfl,dn,TF,Sb⟩:=OE hx;refine⟨fun _=>rfl,(us.flatMap fun u=>u.cells.toList).toArray,fun w' hw=>?_,?_⟩
   ·have J8:=TF.length;rcases Sb with rfl|⟨Lu,cc,ee,fz,m,g1,g2,g3,g4⟩
    ·have:es.length=0:=J8;rw[this];simp[Builtin.firstCells,loadCells,loadCellsFrom]
    ·by_cases hem:us=[]
     ·subst hem;have:es.length=0:=J8;rw[this];simp[Builtin.firstCells,loadCells,loadCellsFrom]
     ·have Ca:m=n:=by
       obtain⟨u,hu⟩:=List.exists_mem_of_ne_nil us hem;obtain⟨i,hi⟩:=List.getElem?_of_mem hu;have YH:i<es.length:=by rw[J8];exact (ajt.1 hi).1
       obtain⟨u',h1,h2⟩:=TF.get i _ (aaa YH);rw[hi] at h1;cases h1;have h3:=(WD h2).length;have h4:=Xv.1 _ (ajc YH);have h5:=g3 u hu;have h6:u.cells.toList.length=u.cells.size:=rfl;omega
      subst Ca;obtain⟨ab,ao,asp⟩:=a;simp only at Lu g1 g4;subst Lu;have:=run_loadCells_list (P:=P) w' ⟨ab,ao,none⟩ (us.flatMap fun u=>u.cells.toList) (fun j v hv=>by
       rw[XK,cell_of_heap hw,XZ (H.fz _ _ g1).1];exact g4 _ _ hv)
      simp only[Builtin.firstCells];have hlen:(us.flatMap fun u=>u.cells.toList).length=es.length*m:=by
       rw[J8];exact zC _ m us fun u hu=>by simpa using g3 u hu
      rw[hlen] at this;exact this
   ·have:ZU σ.bare (es.flatMap AV.cells) (us.flatMap fun u=>u.cells.toList):=by
     clear Sb hx dn Xv
     induction es generalizing us with
     |nil=>simp only[ZU] at TF;subst TF;simp[ZU]
     |cons x es ih =>
      simp only[ZU] at TF;obtain⟨v,y,rfl,h1,h2⟩:=TF;rw[ajL,ajL];exact (WD h1).append (ih y h2)
    simpa using ZU.mono (Sg.Uv σ) _ _ this
  ·cases h
 ·cases h
theorem uw (H:HR σ s w){b o len n:Nat}{cap:Option Nat}{Wa:Nat}{a:Addr}{c:Nat}{cs old:List AV}(LA:Fq σ b o len cap Wa a c)(hc:s.cells b=some cs)(hg:XE (len*n) o cs=some old) :
  ∃vs:Array Value,(∀w',w'.heap=w.heap->(Builtin.firstCells n len (.slice (some a) len c)).run P w'=.ok vs w')/\ZU σ old vs.toList:=by
 obtain⟨hlen,⟨p,hp,ha,_⟩,_⟩:=LA;by_cases hm:len=0
 ·subst hm;have:old=[]:=by have:=(Xc hg).1;simpa using this
  subst this;exact⟨#[],fun _ _=>by simp[Builtin.firstCells,loadCells,loadCellsFrom],by simp[ZU]⟩
 ·obtain⟨vs,h1,h2⟩:=RW (P:=P) H hp hc hg;exact⟨vs.toArray,fun w' hw=>by simp only[Builtin.firstCells];rw[ha (by omega)];exact h1 w' hw,h2⟩
theorem Good.inPlace (H:HR σ s w)(hf:σ s.next=none){b:Nat}{p q:Pl}{b0 b1:Vr}(hp:σ b=some p)(hl:s.look b=some b0)(TH:b0.own=true)(Un:b1≠.gone)(hq:q.b=p.b){w':World}(Wh:w'.heap.size=w.heap.size)
  (TW:∀c,c≠p.b->w'.heap[c]? = w.heap[c]?){o:Obj}(ho:w'.heap[p.b]? = some o)(hr:BR (σ.add s.next q) q b1 o)(aN:w'.os=w.os)(ht:w'.tape=w.tape)(NG:w'.output=w.output) :
  Good σ s w (σ.add s.next q) ((s.put b .gone).new b1) w':=by
 have hle:Sg.le σ (σ.add s.next q):=Sg.NH hf;have look:∀j c,((s.put b .gone).new b1).look j=some c->(j=s.next/\c=b1)\/(j≠s.next/\j≠b/\s.look j=some c):=by
  intro j c hj;rw[St.U9 _ _ _ Un,St.Z_] at hj;by_cases e:s.next=j
  ·rw[if_pos e] at hj;cases hj;exact .inl ⟨e.symm,rfl⟩
  ·rw[if_neg e,St.Xl] at hj;by_cases e':b=j
   ·rw[if_pos e'] at hj;cases hj
   ·rw[if_neg e'] at hj;exact .inr ⟨fun h=>e h.symm,fun h=>e' h.symm,hj⟩
 have YH:p.b<w.heap.size:=H.lt _ _ hp;refine⟨⟨?_,?_,?_,?_⟩,⟨hle,fun _ _ h=>.inl h,by omega,?_,?_,aN,ht,NG⟩,?_,by rw[St.Z',St.Z_];omega,?_,?_,rfl⟩
 ·intro i r hi;by_cases e:i=s.next
  ·subst e;rw[Sg.Yx] at hi;cases hi;omega
  ·rw[Sg.WQ _ _ e] at hi;rw[Wh];exact H.lt i r hi
 ·intro i r c hi hc;rcases look i c hc with⟨rfl,rfl⟩|⟨e,e',J7⟩
  ·rw[Sg.Yx] at hi;cases hi;exact⟨o,by rw[hq];exact ho,hr⟩
  ·rw[Sg.WQ _ _ e] at hi;obtain⟨o',h1,h2⟩:=H.Gv i r c hi J7;have Zv:r.b≠p.b:=fun he=>e' (H.inj i b r p c b0 hi hp J7 hl he)
   exact⟨o',by rw[TW _ Zv];exact h1,h2.mono hle⟩
 ·intro i j r t c d hi hj hc hd he;rcases look i c hc with⟨rfl,rfl⟩|⟨e1,e2,J7⟩ <;> rcases look j d hd with⟨e3,rfl⟩|⟨e3,e4,MO⟩
  ·exact e3.symm
  ·rw[Sg.Yx] at hi;cases hi;rw[Sg.WQ _ _ e3] at hj;exact absurd (H.inj j b t p d b0 hj hp MO hl (by omega)) e4
  ·subst e3;rw[Sg.Yx] at hj;cases hj;rw[Sg.WQ _ _ e1] at hi;exact absurd (H.inj i b r p c b0 hi hp J7 hl (by omega)) e2
  ·rw[Sg.WQ _ _ e1] at hi;rw[Sg.WQ _ _ e3] at hj;exact H.inj i j r t c d hi hj J7 MO he
 ·intro c o' hc;obtain⟨h1,h2⟩:=H.fz c o' hc;have hcp:c≠p.b:=fun e=>h2 ⟨b,p,b0,hp,hl,TH,e.symm⟩
  refine⟨by rw[TW c hcp];exact h1,?_⟩;rintro⟨j,r,d,hj,hd,hdo,rfl⟩;rcases look j d hd with⟨rfl,rfl⟩|⟨e,e',MO⟩
  ·rw[Sg.Yx] at hj;cases hj;exact hcp hq
  ·rw[Sg.WQ _ _ e] at hj;exact h2 ⟨j,r,d,hj,MO,hdo,rfl⟩
 ·intro c _ hn;exact TW c (fun e=>hn ⟨b,p,b0,hp,hl,TH,e.symm⟩)
 ·rintro c hc ⟨j,r,d,hj,hd,hdo,rfl⟩;rcases look j d hd with⟨rfl,rfl⟩|⟨e,e',MO⟩
  ·rw[Sg.Yx] at hj;cases hj;exact⟨b,p,b0,hp,hl,TH,hq.symm⟩
  ·rw[Sg.WQ _ _ e] at hj;exact⟨j,r,d,hj,MO,hdo,rfl⟩
 ·intro i hi;rw[St.Z',St.Z_] at hi;exact Sg.WQ _ _ (by omega)
 ·intro i hi dC
  cases hc:((s.put b .gone).new b1).look i with
  |none=>rfl
  |some c =>
   rcases look i c hc with⟨rfl,_⟩|⟨_,_,J7⟩
   ·omega
   ·rw[dC] at J7;cases J7
 ·intro i r hi hn;by_cases e:i=s.next
  ·subst e;rw[Sg.Yx] at hi;cases hi;exact .inr ⟨b,p,b0,hp,hl,TH,hq.symm⟩
  ·rw[Sg.WQ _ _ e,hn] at hi;cases hi
theorem Good.drop (H:HR σ s w){b:Nat}{b0:Vr}(hl:s.look b=some b0):Good σ s w σ (s.put b .gone) w:=by
 have look:∀j c,(s.put b .gone).look j=some c->s.look j=some c:=by
  intro j c hj;rw[St.Xl] at hj;by_cases e:b=j
  ·rw[if_pos e] at hj;cases hj
  ·rw[if_neg e] at hj;exact hj
 refine⟨⟨H.lt,fun i p c hi hc=>H.Gv i p c hi (look i c hc),fun i j p q c d hi hj hc hd he=>H.inj i j p q c d hi hj (look i c hc) (look j d hd) he,fun c o hc=>⟨(H.fz c o hc).1,fun ⟨i,p,d,hi,hd,ho,he⟩=>(H.fz c o hc).2 ⟨i,p,d,hi,look i d hd,ho,he⟩⟩⟩,
  ⟨Sg.le_refl _,fun _ _ h=>.inl h,ajg _,fun _ _ _=>rfl,?_,rfl,rfl,rfl⟩,fun _ _=>rfl,ajg _,?_,fun i p h k=>(by rw[k] at h;cases h),rfl⟩
 ·rintro c _ ⟨i,p,d,hi,hd,ho,rfl⟩;exact⟨i,p,d,hi,look i d hd,ho,rfl⟩
 ·intro i _ hi
  cases hc:(s.put b .gone).look i with
  |none=>rfl
  |some c=>rw[look i c hc] at hi;cases hi
theorem GI (z:Array Value)(n:Nat):(Builtin.zeroCells z n).size=n*z.size:=by simp[Builtin.zeroCells]
theorem wg (hX:Wb X P){t u elem:TypeId}{ts:Array TypeId}{ty:TypeId}{ei:TypeInfo}{z:Value}{n m len c:Nat}{base:Option Addr}{xv:Value}{old new:Array Value}(ht:ts[0]? = some t)(NB:ts[1]? = some u)
  (pS:∃d,X.Zj u=some d/\∀k,d≠.int k)(hu:X.Zj t=some (.slice elem))(hi:X.inf elem=some ei)(Wh:ei.size=n)(hz:ei.zero=some z)
  (hl:(Builtin.lenOf xv).run P w=.ok m w)(hx:∀w',w'.heap=w.heap->(Builtin.firstCells n m xv).run P w'=.ok new w')(ho:∀w',w'.heap=w.heap->(Builtin.firstCells n len (.slice base len c)).run P w'=.ok old w')
  (zB:c<len+m)(hb:(len+m)*ei.bytes<=2^40)(VD:ei.bytes<=2^20)(CU:len+m<=2^40)(x9:ei.bytes≠0) :
  ∃cap,len+m<=cap/\(Builtin.append_ ts ty #[.slice base len c,xv]).run P w=.ok (.slice (some ⟨w.heap.size,0,none⟩) (len+m) cap) (w.drew.alloc (.cells (old++new++Builtin.zeroCells z.cells (cap-(len+m))) elem)):=by
 obtain⟨d,hd,hdi⟩:=pS;refine⟨(len+m)+(w.tape w.drawn (.appendCap (len+m) c elem))%(2^63-(len+m)),by omega,?_⟩;have hs:size X elem=some n:=by simp[size,hi,Wh]
 have jX:¬(Builtin.nextslicecap (len+m) c*ei.bytes>2^48):=by
  have h1:=wh zB;have h2:Builtin.nextslicecap (len+m) c*ei.bytes<=(2*(len+m)+200)*ei.bytes:=aj7 _ h1;have h3:(2*(len+m)+200)*ei.bytes=2*((len+m)*ei.bytes)+200*ei.bytes:=by rw[akf,Nat.mul_assoc]
  omega
 have adr:¬(((len+m:Nat):Int)>IntKind.i64.max/\ei.bytes=0):=fun h=>x9 h.2
 have hle:¬(len+m<=c):=by omega
 have e0:(#[Value.slice base len c,xv]:Array Value)[0]? = some (.slice base len c):=rfl;have e1:(#[Value.slice base len c,xv]:Array Value)[1]? = some xv:=rfl;unfold Builtin.append_;simp only[ht,e0,e1,Sem.run_bind,ZK (hX.Zj _ _ hu),Result.andThen_ok,Y_ hX hs,NB,ZK (hX.Zj _ _ hd),Sem.run_pure];simp only[ajn,if_false,Sem.run_bind,hl,Result.andThen_ok,hle,ajY,if_true,JL (hX.inf _ _ hi),false_or,adr,jX,run_choose,Question.forced,Question.cut,run_askRoom,World.drew_eq,
  ho w.drew rfl,hx w.drew rfl,BT (hX.inf _ _ hi) hz,newRow,run_newObj,World.alloc_eq,Sem.run_pure]
 rfl
theorem TP (hX:Wb X P){t u elem:TypeId}{ts:Array TypeId}{ty:TypeId}{n m len c:Nat}{base:Option Addr}{xv:Value}{new:Array Value}{w':World}(ht:ts[0]? = some t)(NB:ts[1]? = some u)
  (pS:∃d,X.Zj u=some d/\∀k,d≠.int k)(hu:X.Zj t=some (.slice elem))(hs:size X elem=some n)
  (hl:(Builtin.lenOf xv).run P w=.ok m w)(hx:(Builtin.firstCells n m xv).run P w=.ok new w)(zB:len+m<=c)
  (WY:match base with|some a=>(storeCells (a.add (len*n)) new.toList).run P w=.ok () w'|none=>w'=w) :
  (Builtin.append_ ts ty #[.slice base len c,xv]).run P w=.ok (.slice base (len+m) c) w':=by
 obtain⟨d,hd,hdi⟩:=pS;have e0:(#[Value.slice base len c,xv]:Array Value)[0]? = some (.slice base len c):=rfl;have e1:(#[Value.slice base len c,xv]:Array Value)[1]? = some xv:=rfl;unfold Builtin.append_;simp only[ht,e0,e1,Sem.run_bind,ZK (hX.Zj _ _ hu),Result.andThen_ok,Y_ hX hs,NB,ZK (hX.Zj _ _ hd),Sem.run_pure];simp only[ajn,if_false,Sem.run_bind,hl,Result.andThen_ok,zB,ajY,if_true,hx]
 cases base with
 |none=>simp only at WY;subst WY;rfl
 |some a=>simp only at WY ⊢;simp only[Sem.run_bind,WY,Result.andThen_ok,Sem.run_pure]
theorem zA {old new:List AV}{ov nv:Array Value}(ho:ZU σ old ov.toList)(hn:ZU σ new nv.toList)(z:Array Value):∀(j:Nat) (a:AV),(old++new)[j]? = some a->∃v,(ov++nv++z)[j]? = some v/\ZT σ a v:=by
 intro j a ha;obtain⟨v,hv,hr⟩:=(ho.append hn).get j a ha;refine⟨v,?_,hr⟩;have hj:j<(ov++nv).size:=by
  have:=(ajt.1 hv).1;simp at this ⊢;omega
 rw[<-Array.toList_append,ajK] at hv;rw[Array.getElem?_append_left hj];exact hv
theorem Kg (hX:Wb X P)(H:HR σ s w)(hf:σ s.next=none){t u:TypeId}{ts:Array TypeId}{ty:TypeId}{d x r:AV}{dv xv:Value}{s':St}(ht:ts[0]? = some t)(NB:ts[1]? = some u)
  (pS:∃d,X.Zj u=some d/\∀k,d≠.int k)(hd:ZT σ d dv)(hx:ZT σ x xv)(h:OB X t d x s=some (r,s')):N9 P σ s w (Builtin.append_ ts ty #[dv,xv]) r s':=by
 unfold OB at h
 split at h
 ·rename_i elem hu
  split at h
  ·rename_i ei n hi hs
   split at h
   ·rename_i m new Bs
    split at h
    ·cases h
    ·rename_i afB;simp only[not_or,Decidable.not_not,Nat.not_lt,ne_eq] at afB;obtain⟨IT,hb,VD,CU,DL,x9,hz,b_⟩:=afB;obtain⟨z,hz,jj⟩:∃z,ei.zero=some z/\z.cells.size=n:=by
      cases hzz:ei.zero with
      |none=>rw[hzz] at hz;exact absurd rfl hz
      |some z=>rw[hzz] at hz;exact⟨z,rfl,by simpa[JD] using hz⟩
     obtain⟨hl,nv,hnv,dV⟩:=Kp (P:=P) H hx Bs;have Wh:ei.size=n:=by simp only[size,hi] at hs;exact Option.some.inj hs
     split at h
     ·
      rename_i jz;subst jz;have afC:nv.toList=[]:=by
       have:=dV.length;rw[IT,Nat.zero_mul] at this;exact ajI.1 this.symm
      split at h
      ·cases h
       simp only[ZT] at hd;subst hd;exact⟨σ,_,w,TP hX ht NB pS hu hs (hl w) (hnv w rfl) (by omega) rfl,by simp[ZT],Good.refl H⟩
      ·cases h
       have MO:=hd;obtain⟨a,c,rfl,LA⟩:=T8 hd;refine⟨σ,_,w,TP hX ht NB pS hu hs (hl w) (hnv w rfl) LA.len ?_,MO,Good.refl H⟩;rw[afC];rfl
      ·cases h
       have MO:=hd;obtain⟨a,c,us,rfl,dn,_⟩:=OE hd;refine⟨σ,_,w,TP hX ht NB pS hu hs (hl w) (hnv w rfl) dn ?_,MO,Good.refl H⟩;rw[afC];rfl
      ·cases h
     ·rename_i jz;have fresh:∀(UD:Sg) (s0:St) (base:Option Addr) (len c:Nat) (old:List AV) (ov:Array Value),HR UD s0 w->UD s0.next=none->ZU UD old ov.toList->ZU UD new nv.toList->(∀w',w'.heap=w.heap->(Builtin.firstCells n len (.slice base len c)).run P w'=.ok ov w')->old.length=len*n ->
        c<len+m->(len+m)*ei.bytes<=2^40->len+m<=2^40->∀(PQ QO:Nat),N9 P UD s0 w (Builtin.append_ ts ty #[.slice base len c,xv]) (.sl s0.next 0 (len+m) none n) (s0.new (.cells (old++new) elem false PQ QO)):=by
       intro UD s0 base len c old ov H0 hf0 hor afD hov vJ zB yS Gn PQ QO;obtain⟨cap,F4,X'⟩:=wg (w:=w) hX (ty:=ty) ht NB pS hu hi Wh hz (hl w) hnv hov zB yS VD Gn x9;have aN:=hor.size;have lF:=afD.size;have uK:(ov++nv++Builtin.zeroCells z.cells (cap-(len+m))).size=cap*n:=by
        simp only[Array.size_append,GI,jj,<-aN,<-lF,vJ,IT,<-akf]
        congr 1;omega
       refine⟨UD.add s0.next ⟨w.heap.size,0,cap*n⟩,_,_,X',?_,?_⟩
       ·simp only[ZT];exact⟨_,_,rfl,by omega,⟨_,Sg.Yx _ _ _,fun _=>by simp,fun _=>by simp⟩,by simp⟩
       ·have hle:Sg.le UD (UD.add s0.next ⟨w.heap.size,0,cap*n⟩):=Sg.NH hf0;refine Good.oU (Good.new (w:=w.drew) (H0.of_heap rfl) hf0 _ (by simp) _ _ ⟨uK,?_,rfl,?_,?_,fun h=>absurd (hX.spec _ h) (by simpa using b_)⟩)
        ·simp only[ajh,vJ,IT,<-akf,ajr];exact aj7 _ F4
        ·intro j a ha;obtain⟨v,hv,hr⟩:=zA hor afD (Builtin.zeroCells z.cells (cap-(len+m))) j a ha;exact⟨v,by simpa using hv,ZT.mono hle _ _ hr⟩
        ·intro _ j h1 h2 _;simp at h2
      split at h
      ·
       cases h
       simp only[ZT] at hd;subst hd;have hlz:Xg AV.ZM=0:=rfl;rw[hlz] at hb CU;have:=fresh σ s none 0 0 [] #[] H hf (by simp[ZU]) dV (fun w' _=>rfl) (by simp) (by omega) hb CU 0 0
       simpa using this
      ·rename_i b o len cap Wa;obtain⟨a,c,rfl,LA⟩:=T8 hd
       split at h
       ·rename_i cs hc
        split at h
        ·rename_i old hg;obtain⟨ov,hov,hor⟩:=uw (P:=P) H LA hc hg;have vJ:=(Xc hg).1;simp only[Xg] at hb CU
         split at h
         ·rename_i k;have ig:=LA.cap k rfl;subst ig
          split at h
          ·rename_i LO
           split at h
           ·rename_i ab5;subst ab5
            split at h
            ·rename_i s1 Qp
             cases h
             obtain⟨hlen,⟨p,hp,ha,ak⟩,_⟩:=LA;have iO:=ha (by omega);subst iO;obtain⟨w',g1,g2⟩:=SM (P:=P) H hp dV Qp;refine⟨σ,_,w',TP hX ht NB pS hu hs (hl w) (hnv w rfl) LO (by simp only[XK,ajf] at g1 ⊢;exact g1),?_,g2⟩;simp only[ZT];exact⟨_,_,rfl,LO,⟨p,hp,fun _=>rfl,ak⟩,fun q hq=>by cases hq;rfl⟩
            ·cases h
           ·cases h
          ·rename_i LO
           cases h
           exact fresh σ s (some a) len c old ov H hf hor dV hov vJ (by omega) hb CU 0 0
         ·split at h
          ·rename_i pZ e0 PQ QO hgb
           split at h
           ·rename_i Sp;obtain⟨ab5,ai9,he0,Xv⟩:=Sp;subst ab5;subst he0
            cases h
            have zj:s.look b=some (.cells pZ e0 false PQ QO):=St.X_ hgb (by simp);have Fm:pZ=cs:=by
             obtain⟨_,_,_,_,LB,_⟩:=Hn hc;rw[zj] at LB;cases LB;rfl
            subst Fm;by_cases LO:len+m<=c
            ·
             obtain⟨hlen,⟨p,hp,ha,ak⟩,_⟩:=LA;have iO:=ha (by omega);subst iO;obtain⟨cc,fz,k1,k2,k3,k4,k5⟩:=H.cells hp zj;have ai_:nv.toList.length=m*Wa:=by rw[<-IT];exact dV.length.symm
             have hcb:p.sh+o+c*Wa<=p.n:=ak DL;have hmul:(len+m)*Wa<=c*Wa:=aj7 _ LO;have aiP:(len+m)*Wa=len*Wa+m*Wa:=akf _ _ _;have lG:∀v∈nv.toList,v.oneCell'=true:=by
              intro v hv;obtain⟨i,hi,rfl⟩:=ajw.1 hv;have hix:i<new.length:=by have:=dV.length;omega
              obtain⟨v',Qm,Cv⟩:=ZU.get dV i new[i] (aaa hix);rw[aaa hi] at Qm;cases Qm;exact Q_ Cv (ajq.1 Xv _ (ajc hix))
             obtain⟨w',dx,q1,q2,q3,q4,q5,q6,q7,q8,q9⟩:=SJ (P:=P) (b:=p.b) (e:=e0) (fz:=fz) nv.toList (p.sh+o+len*Wa) 0 w cc k1 lG (by rw[k2];omega)
              (fun j hj yh hfj=>by
               obtain⟨r1,r2⟩:=k5 rfl (j-p.sh) (by rw[show p.sh+(j-p.sh)=j from by omega];exact hfj.1) (by rw[show p.sh+(j-p.sh)=j from by omega];exact hfj.2) (by omega);omega)
             refine⟨σ.add s.next ⟨p.b,p.sh+o,p.n⟩,_,w',TP hX ht NB pS hu hs (hl w) (hnv w rfl) LO (by simp only[XK];exact q1),?_,?_⟩
             ·simp only[ZT];exact⟨_,_,rfl,LO,⟨_,Sg.Yx _ _ _,fun _=>by simp,fun _=>by simpa using hcb⟩,by simp⟩
             ·have hle:Sg.le σ (σ.add s.next ⟨p.b,p.sh+o,p.n⟩):=Sg.NH hf;have hold:=hor.length;refine Good.inPlace (q:=⟨p.b,p.sh+o,p.n⟩) (b1:=.cells (old++new) e0 false (PQ-o) (QO-o)) H hf hp zj rfl (by simp) rfl q2 q3 q4 ⟨by rw[q5,k2],?_,rfl,?_,?_,fun h=>absurd (hX.spec _ h) (by simpa using b_)⟩ q7 q8 q9
              ·simp only[ajh,vJ,IT];omega
              ·intro j a ha;simp only;rw[q6];by_cases hj:j<old.length
               ·rw[ajM hj] at ha;rw[if_neg (by omega)];have:=k4 (o+j) a (RA hg ha);obtain⟨v,hv,hr⟩:=this;exact⟨v,by rw[ajf];exact hv,ZT.mono hle _ _ hr⟩
               ·rw[akc (by omega)] at ha;obtain⟨v,hv,hr⟩:=dV.get _ _ ha;have hjm:j-old.length<new.length:=(ajt.1 ha).1;rw[if_pos (by omega)];refine⟨v,?_,ZT.mono hle _ _ hr⟩;rw[show p.sh+o+j-(p.sh+o+len*Wa+0)=j-old.length from by omega];exact hv
              ·intro _ j h1 h2 h3;simp only at h1 h2 h3;obtain⟨r1,r2⟩:=k5 rfl (o+j) (by omega) (by omega) (by omega);omega
            ·
             have hd0:=Good.drop H zj;have:=fresh σ (s.put b .gone) (some a) len c old ov hd0.hr hf hor dV hov vJ (by omega) hb CU (PQ-o) (QO-o);obtain⟨YE,v,w',g1,g2,g3⟩:=this;exact⟨YE,v,w',g1,g2,hd0.trans g3⟩
           ·cases h
          ·cases h
        ·cases h
       ·cases h
      ·cases h
   ·cases h
  ·cases h
 ·cases h
end
end Go.Am
namespace Go.Am
open Go
section
variable [Stat]
variable {X:Cx}{P:Program}{w:World}{σ:Sg}{s:St}
theorem get!_eq (bs:ByteArray)(n:Nat):bs.get! n=(bs.data.toList[n]?).getD 0:=by
 cases bs with
 |mk a =>
  simp only[ByteArray.get!,getElem!_def,ajK]
  cases a[n]? <;> rfl
theorem xF (bs:ByteArray)(i:Nat):Uq (bs.data.toList.drop i)=Utf8.decode bs i:=by
 have hg:∀k,(((bs.data.toList.drop i)[k]?).getD 0).toNat=(bs.get! (i+k)).toNat:=by
  intro k;rw[get!_eq,List.getElem?_drop]
 have hc:∀k,decide (k<(bs.data.toList.drop i).length)=decide (i+k<bs.size):=by
  intro k;have:bs.data.toList.length=bs.size:=by rw[ajx];rfl
  rw[List.length_drop,this]
  congr 1
  rw[eq_iff_iff];omega
 unfold Uq Utf8.decode;simp only[hg,hc]
theorem rR (hX:Wb X P)(H:HR σ s w)(hf:σ s.next=none){t:TypeId}{b:List UInt8}{v:Value}(hu:X.Zj t=some .string)(hv:ZT σ (.str b) v) :
  N9 P σ s w (Instr.range t v) (.ptr s.next 0) (s.new (.iter b 0)):=by
 obtain⟨bs,rfl,rfl⟩:=XM hv;refine⟨_,.pointer (some ⟨w.heap.size,0,none⟩),w.alloc (.stringIter bs 0),?_,?_,Good.new H hf (.iter _ 0) (by simp) _ 0 ⟨rfl,rfl,by simp⟩⟩
 ·simp only[Instr.range,Sem.run_bind,ZK (hX.Zj _ _ hu),Result.andThen_ok,Sem.run_pure,run_newObj,World.alloc_eq]
 ·simp only[ZT];exact⟨_,Sg.Yx _ _ _,by simp⟩
theorem nz (H:HR σ s w){r pos:Nat}{b:List UInt8}{v:Value}{ty:TypeId}(hv:ZT σ (.ptr r 0) v)(hg:s.get r=some (.iter b pos)) :
  N9 P σ s w (Instr.next v true ty) (match b with|[]=>.XF [.bool false]|_::_=>.XF [.bool true,.int .i64 pos,.int .i32 (Uq b).1])
   (match b with|[]=>s|_::_=>s.put r (.iter (b.drop (Uq b).2) (pos+(Uq b).2))):=by
 obtain⟨p,hp,rfl⟩:=Xm hv;have hl:s.look r=some (.iter b pos):=St.X_ hg (by simp);obtain⟨o,ho,hb⟩:=H.Gv r p _ hp hl
 cases o <;> simp only[BR] at hb
 rename_i bs pos';obtain⟨h0,rfl,h2⟩:=hb;have Wh:bs.data.toList.length=bs.size:=by rw[ajx];rfl
 cases b with
 |nil =>
  have Gu:¬(pos<bs.size):=by
   have:=List.drop_eq_nil_iff.1 h2;omega
  refine⟨σ,.tuple #[.bool false],w,?_,?_,Good.refl H⟩
  ·simp only[Instr.next,h0,Nat.add_zero,Sem.run_bind,US ho (by simp),Result.andThen_ok,Gu,if_false,Sem.run_pure]
  ·simp only[ZT];exact⟨_,rfl,by simp only[ZU];exact⟨_,_,rfl,by simp[ZT],rfl⟩⟩
 |cons c b =>
  have YH:pos<bs.size:=by
   rcases Nat.lt_or_ge pos bs.size with h|h
   ·exact h
   ·rw[List.drop_eq_nil_of_le (by omega)] at h2;cases h2
  have hd:=xF bs pos;rw[h2] at hd;have agS:p.b<w.heap.size:=H.lt _ _ hp;refine⟨σ,.tuple #[.bool true,goInt pos,.int .i32 (Uq (c::b)).1],{ w with heap:=w.heap.setIfInBounds p.b (.stringIter bs (pos+(Uq (c::b)).2)) },?_,?_,?_⟩
  ·simp only[Instr.next,h0,Nat.add_zero,Sem.run_bind,US ho (by simp),Result.andThen_ok,YH,if_true,hd,ND ho (by simp),Sem.run_pure]
  ·simp only[ZT];exact⟨_,rfl,by simp only[ZU];exact⟨_,_,rfl,by simp[ZT],_,_,rfl,by simp[ZT,goInt],_,_,rfl,by simp[ZT],rfl⟩⟩
  ·refine Good.put H hp hl rfl (by simp) (by simp) ?_ (o:=.stringIter bs (pos+(Uq (c::b)).2)) ?_ ⟨h0,rfl,?_⟩ rfl rfl rfl
   ·intro d hd;simp only;rw[Array.getElem?_setIfInBounds_ne (fun e=>hd e.symm)]
   ·simp[agS]
   ·rw[<-h2,List.drop_drop]
theorem UX:∀{r:List AV} {bs:List UInt8} {vs:List Value},Xn r=some bs->ZU σ r vs->∃ns:List Int,vs=ns.map (Value.int .u8)/\bs=ns.map fun n=>UInt8.ofNat n.toNat
 |[],bs,vs,h,hv=>by simp only[Xn] at h;cases h;simp only[ZU] at hv;exact⟨[],hv,rfl⟩
 |a::r,bs,vs,h,hv=>by
  simp only[ZU] at hv;obtain⟨v,y,rfl,h1,h2⟩:=hv;unfold Xn at h
  split at h
  ·rename_i h';cases h'
  ·rename_i n l heq
   cases heq
   split at h
   ·rename_i q hq
    cases h
    obtain⟨ns,rfl,rfl⟩:=UX hq h2;rw[Ze h1];exact⟨n::ns,rfl,rfl⟩
   ·cases h
  ·cases h
theorem fold_push (ns:List Int)(b:ByteArray):(ns.foldl (fun r n=>r.push (UInt8.ofNat n.toNat)) b).data.toList=b.data.toList++ns.map fun n=>UInt8.ofNat n.toNat:=by
 induction ns generalizing b with
 |nil=>simp
 |cons n ns ih=>rw[List.foldl_cons,ih];simp[ByteArray.push]
theorem Qj:∀{es:List AV} {bs:List UInt8},Xn es=some bs->(∀x∈es,x.cells.length=1)/\es.flatMap AV.cells=es
 |[],bs,_=>⟨by simp,rfl⟩
 |x::es,bs,h=>by
  unfold Xn at h
  split at h
  ·rename_i e;cases e
  ·rename_i n l e
   cases e
   split at h
   ·rename_i r hr;obtain⟨h1,h2⟩:=Qj hr;refine⟨?_,by rw[ajL,h2];rfl⟩;intro y hy;rcases ajo.1 hy with rfl|hy
    ·rfl
    ·exact h1 y hy
   ·cases h
  ·cases h
theorem L9 (hX:Wb X P)(H:HR σ s w){src dst e:TypeId}{x r:AV}{v:Value}{s':St}(hs:X.Zj src=some (.slice e))(hd:X.Zj dst=some .string)(hx:ZT σ x v)(h:Tv X src dst x s=some (r,s')):s'=s/\Vc P w σ (convert src dst v) r:=by
 unfold Tv at h;rw[hs,hd] at h
 cases x
 case int k n =>
  cases h
  have:=Ze hx;subst this;refine⟨rfl,.string (Utf8.encode n),?_,by simp only[ZT];exact⟨_,rfl,rfl⟩⟩;simp[convert,ZK (hX.Zj _ _ hs),ZK (hX.Zj _ _ hd),Conv.intToString]
 case str l =>
  cases h
  obtain⟨bs,rfl,rfl⟩:=XM hx;refine⟨rfl,.string bs,?_,by simp only[ZT];exact⟨_,rfl,rfl⟩⟩;simp[convert,ZK (hX.Zj _ _ hs),ZK (hX.Zj _ _ hd)]
 case ZM =>
  simp only at h
  split at h
  ·rename_i he
   cases h
   simp only[ZT] at hx;subst hx;refine⟨rfl,.string .empty,?_,by simp only[ZT];exact⟨_,rfl,rfl⟩⟩;simp[convert,ZK (hX.Zj _ _ hs),ZK (hX.Zj _ _ hd),ZK (hX.Zj _ _ he),Conv.bytesToString]
  ·cases h
 case sl b o len cap Wa =>
  simp only at h
  split at h
  ·rename_i he
   split at h
   ·rename_i c hc
    split at h
    ·rename_i q hq
     split at h
     ·rename_i bs vr
      cases h
      obtain⟨a,k,rfl,LA⟩:=T8 hx;have hq':XE (len*1) o c=some q:=by rw[ajj];exact hq
      obtain⟨vs,h1,h2⟩:=uw (P:=P) H LA hc hq';have h1:=h1 w rfl;simp only[Builtin.firstCells,ajj] at h1;obtain⟨ns,e1,e2⟩:=UX vr h2;have e3:vs=(ns.map (Value.int .u8)).toArray:=by rw[<-e1]
      rw[e3] at h1;refine⟨rfl,.string (ns.foldl (fun r n=>r.push (UInt8.ofNat n.toNat)) ByteArray.empty),?_,?_⟩
      ·rw[run_convert_bytes_string w src dst e (some a) len k (hX.Zj _ _ hs) (hX.Zj _ _ he) (hX.Zj _ _ hd)];exact run_bytesToString w a len k ns h1
      ·simp only[ZT];exact⟨_,rfl,by rw[fold_push,e2];simp⟩
     ·cases h
    ·cases h
   ·cases h
  ·cases h
 case fz es =>
  simp only at h
  split at h
  ·rename_i he
   split at h
   ·rename_i bs vr
    cases h
    obtain⟨k1,k2⟩:=Qj vr;obtain⟨_,vs,h1,h2⟩:=Kp (P:=P) (n:=1) (m:=es.length) (new:=es.flatMap AV.cells) H hx (by
     simp only[WV];rw[if_pos];simpa using k1)
    rw[k2] at h2;obtain⟨a,k,us,rfl,dn,_⟩:=OE hx;have h1:=h1 w rfl;simp only[Builtin.firstCells,ajj] at h1;obtain⟨ns,e1,e2⟩:=UX vr h2;have e3:vs=(ns.map (Value.int .u8)).toArray:=by rw[<-e1]
    rw[e3] at h1;refine⟨rfl,.string (ns.foldl (fun r n=>r.push (UInt8.ofNat n.toNat)) ByteArray.empty),?_,?_⟩
    ·rw[run_convert_bytes_string w src dst _ (some a) es.length k (hX.Zj _ _ hs) (hX.Zj _ _ he) (hX.Zj _ _ hd)];exact run_bytesToString w a es.length k ns h1
    ·simp only[ZT];exact⟨_,rfl,by rw[fold_push,e2];simp⟩
   ·cases h
  ·cases h
 all_goals
  exfalso;simp only at h
  split at h <;> cases h
theorem L8 (hX:Wb X P)(H:HR σ s w)(hf:σ s.next=none){src dst e:TypeId}{d:TypeDesc}{l:List UInt8}{v r:AV}{u:Value}{s':St}(hs:X.Zj src=some d)(hd:X.Zj dst=some (.slice e))(hx:ZT σ (.str l) u)(h:Tv X src dst (.str l) s=some (r,s')) :
  N9 P σ s w (convert src dst u) r s':=by
 obtain⟨bs,rfl,rfl⟩:=XM hx;unfold Tv at h;rw[hs,hd] at h;simp only at h
 split at h
 ·rename_i he
  cases h
  have Wh:bs.data.toList.length=bs.size:=by rw[ajx];rfl
  generalize F4:bs.size+(w.tape w.drawn (.appendCap bs.size 0 e))%(2^63-bs.size)=cap;have hle:bs.size<=cap:=by omega
  have TA:((bs.data.map fun b=>Value.int .u8 b.toNat)++Array.replicate (cap-bs.size) (Value.int .u8 0)).size=cap:=by
   simp only[Array.size_append,Array.size_map,Array.size_replicate];have:bs.data.size=bs.size:=rfl;omega
  have g:=NW (w:=w.drew) (H.of_heap rfl) hf (c:=bs.data.toList.map fun c=>AV.int .u8 c.toNat) (vs:=(bs.data.map fun b=>Value.int .u8 b.toNat)++Array.replicate (cap-bs.size) (Value.int .u8 0)) e (cap,cap+1) (.inr (by rw[TA];exact ajg _)) (by rw[TA];simp only[aje,Wh];exact hle)
   (by
    intro j a ha;rw[ajv] at ha
    cases hj:bs.data.toList[j]? with
    |none=>rw[hj] at ha;cases ha
    |some c =>
     rw[hj] at ha;simp at ha;subst ha;have YH:j<bs.data.toList.length:=(ajt.1 hj).1;rw[ajx] at YH;refine⟨.int .u8 c.toNat,?_,by simp[ZT]⟩;rw[Array.getElem?_append_left (by simpa using YH),Array.getElem?_map];rw[ajK] at hj;rw[hj];rfl) (fun h=>absurd he (hX.acC _ h))
  rw[TA] at g;refine⟨_,.slice (some ⟨w.heap.size,0,none⟩) bs.size cap,_,?_,?_,g.oU⟩
  ·have Bs:∀k,d≠.int k->True:=fun _ _=>trivial
   have adR:(convert src dst (.string bs)).run P w=(Conv.stringToBytes e bs).run P w:=by
    simp only[convert,Sem.run_bind,ZK (hX.Zj _ _ hs),ZK (hX.Zj _ _ hd),Result.andThen_ok]
    cases d <;> simp[ZK (hX.Zj _ _ he)]
   rw[adR];simp only[Conv.stringToBytes,Sem.run_bind,run_choose,Question.forced,Question.cut,ajn,if_false,Result.andThen_ok,F4,newRow,run_newObj,Sem.run_pure,markStringish,run_shape,World.drew_eq,World.alloc_eq];have SF:(w.drew.alloc (.cells ((bs.data.map fun b=>Value.int .u8 b.toNat)++Array.replicate (cap-bs.size) (Value.int .u8 0)) e)).shape? w.drew.heap.size=some (e,cap):=by
    simp only[World.shape?,World.alloc];rw[ajW,if_pos rfl];simp only[TA]
   rw[SF];simp only[run_freeze,Result.andThen_ok]
   congr 1
   simp only[World.freeze,Nat.one_ne_zero,if_false,World.alloc]
   congr 1
   apply Array.ext_getElem?;intro i;rw[Array.getElem?_modify];by_cases hi:w.drew.heap.size=i
   ·subst hi;rw[if_pos rfl,ajW,if_pos rfl,ajW,if_pos rfl];simp
   ·rw[if_neg hi,ajW,ajW,if_neg (fun e=>hi e.symm),if_neg (fun e=>hi e.symm)]
  ·rw[Wh];simp only[ZT];exact⟨_,_,rfl,hle,⟨_,Sg.Yx _ _ _,fun _=>by simp,fun _=>by simp⟩,by simp⟩
 ·cases h
theorem ny (hX:Wb X P)(H:HR σ s w){ts:Array TypeId}{ty:TypeId}{x r:AV}{v:Value}{s':St}(hx:ZT σ x v)(h:Yr X .len ts [x] s=some (r,s')):s'=s/\Vc P w σ (Builtin.len_ ts ty #[v]) r:=by
 have e0:(#[v]:Array Value)[0]? = some v:=rfl;simp only[Yr] at h
 split at h
 ·rename_i t ht
  split at h
  ·rename_i l hu
   cases h
   obtain⟨bs,rfl,rfl⟩:=XM hx;have Wh:bs.data.toList.length=bs.size:=by rw[ajx];rfl
   exact⟨rfl,⟨goInt bs.size,by simp only[Builtin.len_,ht,e0,Sem.run_bind,ZK (hX.Zj _ _ hu),Result.andThen_ok,Sem.run_pure],by rw[Wh];simp[ZT,goInt]⟩⟩
  ·rename_i e hu
   cases h
   simp only[ZT] at hx;subst hx;exact⟨rfl,⟨goInt (0:Nat),by simp only[Builtin.len_,ht,e0,Sem.run_bind,ZK (hX.Zj _ _ hu),Result.andThen_ok,Sem.run_pure],by simp[ZT,goInt]⟩⟩
  ·rename_i e b o n c z hu
   cases h
   obtain⟨a,k,rfl,_⟩:=T8 hx;exact⟨rfl,⟨goInt n,by simp only[Builtin.len_,ht,e0,Sem.run_bind,ZK (hX.Zj _ _ hu),Result.andThen_ok,Sem.run_pure],by simp[ZT,goInt]⟩⟩
  ·rename_i k es hu
   cases h
   obtain⟨a,c,us,rfl,_⟩:=OE hx;exact⟨rfl,⟨goInt es.length,by simp only[Builtin.len_,ht,e0,Sem.run_bind,ZK (hX.Zj _ _ hu),Result.andThen_ok,Sem.run_pure],by simp[ZT,goInt]⟩⟩
  ·rename_i k e ks vs hu
   cases h
   obtain⟨r,Wc,clock,rfl,g1,g2,_⟩:=vu hx;have hl:ks.length=Wc.size:=by have:=g2.length;simpa using this
   exact⟨rfl,⟨goInt Wc.size,by simp only[Builtin.len_,ht,e0,Sem.run_bind,ZK (hX.Zj _ _ hu),Result.andThen_ok,US (H.fz _ _ g1).1 (by simp),Sem.run_pure],by rw[hl];simp[ZT,goInt]⟩⟩
  ·rename_i k e hu
   cases h
   simp only[ZT] at hx;subst hx;exact⟨rfl,⟨goInt 0,by simp only[Builtin.len_,ht,e0,Sem.run_bind,ZK (hX.Zj _ _ hu),Result.andThen_ok,Sem.run_pure],by simp[ZT,goInt]⟩⟩
  ·rename_i k e m hu
   split at h
   ·rename_i es ro hg
    cases h
    obtain⟨p,hp,rfl⟩:=PK hx;obtain⟨Wc,clock,g1,g2⟩:=H.map hp hg;have hl:es.length=Wc.size:=by
     have:∀{es:List (AV×AV)} {l:List MapEntry},ZL σ es l->es.length=l.length:=by
      intro es
      induction es with
      |nil=>intro l hl;simp only[ZL] at hl;subst hl;rfl
      |cons a es ih =>
       intro l hl;obtain⟨k,v⟩:=a;simp only[ZL] at hl;obtain⟨m,r,rfl,_,_,h3⟩:=hl;simp[ih h3]
     have:=this g2
     simpa using this
    exact⟨rfl,⟨goInt Wc.size,by simp only[Builtin.len_,ht,e0,Sem.run_bind,ZK (hX.Zj _ _ hu),Result.andThen_ok,US g1 (by simp),Sem.run_pure],by rw[hl];simp[ZT,goInt]⟩⟩
   ·cases h
  ·rename_i _ n e hu
   cases h
   exact⟨rfl,⟨goInt n,by simp only[Builtin.len_,ht,e0,Sem.run_bind,ZK (hX.Zj _ _ hu),Result.andThen_ok,Sem.run_pure],by simp[ZT,goInt]⟩⟩
  ·rename_i p _ hu
   split at h
   ·rename_i n e hp
    cases h
    exact⟨rfl,⟨goInt n,by simp only[Builtin.len_,ht,e0,Sem.run_bind,ZK (hX.Zj _ _ hu),ZK (hX.Zj _ _ hp),Result.andThen_ok,Sem.run_pure],by simp[ZT,goInt]⟩⟩
   ·cases h
  ·cases h
 ·cases h
theorem AG {k:IntKind}:∀{l:List AV} {x:Int} {vs:List Value} {r:AV},sn k x l=some r->ZU σ l vs->∃v,(vs.foldlM Builtin.min2 (.int k x):Sem Value).run P w=.ok v w/\ZT σ r v
 |[],x,vs,r,h,hv=>by
  simp only[sn] at h;cases h;simp only[ZU] at hv;subst hv;exact⟨_,rfl,by simp[ZT]⟩
 |a::l,x,vs,r,h,hv=>by
  cases a <;> simp only[sn] at h <;> try (cases h;done)
  simp only[ZU] at hv;obtain⟨v,y,rfl,h1,h2⟩:=hv;rw[Ze h1];obtain⟨u,g1,g2⟩:=AG h h2;exact⟨u,by simp only[List.foldlM_cons,Sem.run_bind,Builtin.min2,Sem.run_pure,Result.andThen_ok];exact g1,g2⟩
theorem AF {k:IntKind}:∀{l:List AV} {x:Int} {vs:List Value} {r:AV},xO k x l=some r->ZU σ l vs->∃v,(vs.foldlM Builtin.max2 (.int k x):Sem Value).run P w=.ok v w/\ZT σ r v
 |[],x,vs,r,h,hv=>by
  simp only[xO] at h;cases h;simp only[ZU] at hv;subst hv;exact⟨_,rfl,by simp[ZT]⟩
 |a::l,x,vs,r,h,hv=>by
  cases a <;> simp only[xO] at h <;> try (cases h;done)
  simp only[ZU] at hv;obtain⟨v,y,rfl,h1,h2⟩:=hv;rw[Ze h1];obtain⟨u,g1,g2⟩:=AF h h2;exact⟨u,by simp only[List.foldlM_cons,Sem.run_bind,Builtin.max2,Sem.run_pure,Result.andThen_ok];exact g1,g2⟩
theorem NV {b:Nat}:∀(ns:List Int) (off:Nat) (acc:ByteArray),(∀i v,(ns.map (Value.int .u8))[i]? = some v->w.cell? ⟨b,off+i,none⟩=some v) ->
  ∃bs,(loadBytes ⟨b,off,none⟩ acc ns.length).run P w=.ok bs w/\bs.data.toList=acc.data.toList++ns.map fun n=>UInt8.ofNat n.toNat
 |[],off,acc,_=>⟨acc,rfl,by simp⟩
 |n::ns,off,acc,h=>by
  have h0:=h 0 (.int .u8 n) rfl;simp only[Nat.add_zero] at h0;obtain⟨bs,h1,h2⟩:=NV ns (off+1) (acc.push n.toNat.toUInt8) (fun i v hv=>by rw[show off+1+i=off+(i+1) from by omega];exact h (i+1) v (by simpa using hv));refine⟨bs,?_,?_⟩
  ·simp only[ajk,loadBytes,Sem.run_bind,run_load,h0,Result.andThen_ok,XK];exact h1
  ·rw[h2];simp[ByteArray.push]
theorem xE {p:Program}{e:TypeId}{count off n:Nat}(hs:p.cellsOf e=1)(hn:off+n<=count)(hd:∃d,p.depth=d+1):liesAt p p.depth e count off e n=true:=by
 obtain⟨d,hd⟩:=hd;rw[hd,liesAt,hd];have:rowAt p (fun x=>sameLayout p (d+1) x e) (d+1) e count off n=true:=by
  rw[rowAt];simp only[hs,Nat.one_ne_zero,if_false,Nat.mod_one,Nat.div_one];have:sameLayout p (d+1) e e=true:=by rw[sameLayout];simp
  simp[this,hn]
 simp[this]
theorem Uc (ts:Array TypeId)(ty:TypeId)(p:Option Addr)(l:Value):∃(w1:String) (e1 e2:RuntimeError) (u1 u2:Unsupported),Builtin.unsafeString_ ts ty #[.pointer p,l]=(do
  let n <-asInt l
  let some pt:=ts[0]?|stuck w1
  if n<0 then runtimePanic e1
  if n>IntKind.i64.max then unsupported u1
  match p with
  |none =>
   if n=0 then pure (.string .empty)
   else runtimePanic e2
  |some a =>
   if n=0 then pure (.string .empty)
   else if <-variablesAt a (<-elemOf pt) n.toNat then do
    let s <-loadBytes a .empty n.toNat
    freeze a n.toNat
    pure (.string s)
   else unsupported u2):=⟨_,_,_,_,_,rfl⟩
theorem K5 (hX:Wb X P)(H:HR σ s w){ts:Array TypeId}{ty:TypeId}{x r:AV}{k:IntKind}{n:Int}{v:Value}{s':St}(hx:ZT σ x v)(h:Yr X .unsafeString ts [x,.int k n] s=some (r,s'))(iX:∃t,ts[0]? = some t) :
  N9 P σ s w (Builtin.unsafeString_ ts ty #[v,.int k n]) r s':=by
 obtain⟨t,ht⟩:=iX;have gu:¬ts.size=0:=fun e=>by rw[Array.getElem?_eq_none (by omega)] at ht;cases ht
 simp only[Yr,if_neg gu] at h
 split at h
 ·split at h
  ·rename_i hn
   cases h;subst hn
   simp only[ZT] at hx;subst hx;refine Vc.o ⟨.string .empty,?_,by simp only[ZT];exact⟨_,rfl,rfl⟩⟩ H;obtain⟨w1,e1,e2,u1,u2,nu⟩:=Uc ts ty _ (.int k 0);rw[nu];simp[asInt,asIntOf,ht]
  ·cases h
 ·rename_i b o;obtain⟨p,hp,rfl⟩:=Xm hx
  split at h
  ·rename_i hn
   cases h;subst hn
   refine Vc.o ⟨.string .empty,?_,by simp only[ZT];exact⟨_,rfl,rfl⟩⟩ H;obtain⟨w1,e1,e2,u1,u2,nu⟩:=Uc ts ty _ (.int k 0);rw[nu];simp[asInt,asIntOf,ht]
  ·rename_i DL
   split at h
   ·cases h
   ·rename_i dG
    split at h
    ·rename_i c e PQ QO t' hg iN;rw[ht] at iN;cases iN
     split at h
     ·rename_i u hu
      split at h
      ·rename_i hue;obtain⟨rfl,Wh⟩:=hue
       split at h
       ·rename_i q hq
        split at h
        ·rename_i bs vr
         cases h
         have hl:s.look b=some (.cells c u false PQ QO):=St.X_ hg (by simp);have hc:s.cells b=some c:=by simp[St.cells,hg]
         obtain⟨cc,fz,k1,k2,k3,k4,k5⟩:=H.cells hp hl;obtain⟨vs,Qm,Cv⟩:=H.row hp hc q o (fun i a ha=>RA hq ha);obtain⟨ns,rfl,rfl⟩:=UX vr Qm;have hlen:ns.length=n.toNat:=by
          have h1:=(Xc hq).1;have h2:=Qm.length;simp at h2;omega
         obtain⟨b',g1,g2⟩:=NV (P:=P) (w:=w) (b:=p.b) ns (p.sh+o) .empty Cv;rw[hlen] at g1;have nt:P.cellsOf u=1:=by
          unfold size at Wh
          split at Wh
          ·rename_i i hi;simp only[Program.cellsOf,hX.inf _ _ hi,aki,akk];exact Option.some.inj Wh
          ·cases Wh
         have aiL:0<n.toNat:=by omega
         have hoc:o+n.toNat<=c.length:=by
          have:=(Xc hq).2 (n.toNat-1) (by omega);omega
         have hva:(variablesAt ⟨p.b,p.sh+o,none⟩ u n.toNat).run P w=.ok true w:=by
          simp only[variablesAt,Sem.run_bind,run_program,Result.andThen_ok,run_shape,World.shape?,k1,Sem.run_pure];rw[nt,Nat.div_one,xE nt (by rw[k2];omega) ⟨2*(P.types.size+Made.depth)+1,rfl⟩]
         refine⟨σ,.string b',w.freeze ⟨p.b,p.sh+o,none⟩ n.toNat,?_,?_,?_⟩
         ·have n1:¬(n<0):=by omega
          have n2:¬(n>IntKind.i64.max):=by rw[IntKind.max_i64];omega
          obtain⟨w1,e1,e2,u1,u2,nu⟩:=Uc ts ty (some ⟨p.b,p.sh+o,none⟩) (.int k n);rw[nu];simp only[asInt,asIntOf,Sem.run_bind,Sem.run_pure,Result.andThen_ok,ht,n1,n2,DL,if_false,elemOf,ZK (hX.Zj _ _ hu),hva,if_true,g1,run_freeze]
         ·simp only[ZT];exact⟨_,rfl,by rw[g2];simp⟩
         ·have SA:(w.freeze ⟨p.b,p.sh+o,none⟩ n.toNat).heap=w.heap.modify p.b fun
            |.cells c elem (lo,hi)=>.cells c elem (if lo==hi then (p.sh+o,p.sh+o+n.toNat) else (min lo (p.sh+o),max hi (p.sh+o+n.toNat)))
            |o=>o:=by
           unfold World.freeze;rw[if_neg (by omega)];rfl
          obtain⟨lo,hi⟩:=fz;refine Good.put H hp hl rfl (by simp) (by rw[SA];simp) ?_ (o:=.cells cc u (if lo==hi then (p.sh+o,p.sh+o+n.toNat) else (min lo (p.sh+o),max hi (p.sh+o+n.toNat)))) ?_ ⟨k2,k3,rfl,k4,(fun h=>by cases h),H.spec hp hl⟩ ?_ ?_ ?_
          ·intro d hd;rw[SA,Array.getElem?_modify,if_neg (fun e=>hd e.symm)]
          ·rw[SA,Array.getElem?_modify,if_pos rfl,k1];rfl
          ·simp only[World.freeze];split <;> rfl
          ·simp only[World.freeze];split <;> rfl
          ·simp only[World.freeze];split <;> rfl
        ·cases h
       ·cases h
      ·cases h
     ·cases h
    ·cases h
 ·cases h
end
end Go.Am
namespace Go.Am
open Go
section
variable [Stat]
variable {X:Cx}{P:Program}{w:World}{σ:Sg}{s:St}
def ab3 (nx:Next)(v:Value):Prop:=nx=.value v\/(nx=.skip/\v=Go.undef)
def zD (P:Program)(σ:Sg)(s:St)(w:World)(m:Sem Next)(a:AV)(s':St):Prop :=
 ∃YE nx v w',m.run P w=.ok nx w'/\ab3 nx v/\ZT YE a v/\Good σ s w YE s' w'
theorem N9.op {m:Sem Value}{a:AV}{s':St}(h:N9 P σ s w m a s'):zD P σ s w (do pure (.value (<-m))) a s':=by
 obtain⟨YE,v,w',h1,h2,h3⟩:=h;exact⟨YE,.value v,v,w',by simp only[Sem.run_bind,h1,Result.andThen_ok,Sem.run_pure],.inl rfl,h2,h3⟩
theorem Vc.op {m:Sem Value}{a:AV}(h:Vc P w σ m a)(H:HR σ s w):zD P σ s w (do pure (.value (<-m))) a s:=(h.o H).op
theorem RH:ZT σ Am.undef Go.undef:=by
 simp only[Am.undef,ZT];exact⟨#[],rfl,by simp[ZU]⟩
theorem CB {m:Sem Unit}{s':St}(h:∃w',m.run P w=.ok () w'/\Good σ s w σ s' w'):zD P σ s w (do m;pure .skip) Am.undef s':=by
 obtain⟨w',h1,h2⟩:=h;exact⟨σ,.skip,Go.undef,w',by simp only[Sem.run_bind,h1,Result.andThen_ok,Sem.run_pure],.inr ⟨rfl,rfl⟩,RH,h2⟩
theorem KS (hg:WR X σ){e:Env}{tmps:Array Value}(he:TI σ e tmps){x:Option Operand}{a:Option AV}(h:Py X e x=some a):yd σ a (x.map (JK tmps)):=by
 unfold Py at h
 split at h
 ·cases h;exact trivial
 ·rename_i x
  split at h
  ·rename_i v hv;cases h;exact Uy hg he hv
  ·cases h
def OM:Op->Bool
 |.call { callee:=.value _,.. }=>true
 |_=>false
theorem Zo {v:Option AV}{r:AV}{s s':St}(h:Zm v s=some (r,s')):v=some r/\s'=s:=by
 unfold Zm at h
 split at h
 ·cases h;exact⟨rfl,rfl⟩
 ·cases h
theorem Qy {t:Option St}{r:AV}{s':St}(h:PE t=some (r,s')):t=some s'/\r=Am.undef:=by
 unfold PE at h
 split at h
 ·cases h;exact⟨rfl,rfl⟩
 ·cases h
theorem GL (hX:Wb X P)(H:HR σ s w)(hf:σ s.next=none){b:Builtin}{ts:Array TypeId}{ty:TypeId}{cs:Array Bool}{vs:List AV}{us:List Value}{r:AV}{s':St}(hv:ZU σ vs us)
  (h:Yr X b ts vs s=some (r,s')):zD P σ s w (builtin b ts ty cs us.toArray) r s':=by
 have h0:=h;unfold Yr at h
 split at h
 ·
  simp only[ZU] at hv;obtain⟨v,y,rfl,h1,rfl⟩:=hv;obtain⟨rfl,h2⟩:=ny (P:=P) (ty:=ty) hX H h1 h0;exact h2.op H
 ·
  simp only[ZU] at hv;obtain⟨v,y,rfl,h1,u,z,rfl,h2,rfl⟩:=hv
  split at h
  ·rename_i t u' ht hu
   split at h
   ·rename_i e hd;exact (Kg (P:=P) hX H hf ht hu ⟨_,hd,by simp⟩ h1 h2 h).op
   ·rename_i hd;exact (Kg (P:=P) hX H hf ht hu ⟨_,hd,by simp⟩ h1 h2 h).op
   ·cases h
  ·cases h
 ·
  rename_i k x l
  split at h
  ·rename_i q hq
   cases h
   simp only[ZU] at hv;obtain⟨v,y,rfl,h1,h2⟩:=hv;rw[Ze h1];obtain⟨u,g1,g2⟩:=AG (P:=P) (w:=w) hq h2;exact Vc.op (m:=Builtin.min_ ts ty _) ⟨u,g1,g2⟩ H
  ·cases h
 ·
  rename_i k x l
  split at h
  ·rename_i q hq
   cases h
   simp only[ZU] at hv;obtain⟨v,y,rfl,h1,h2⟩:=hv;rw[Ze h1];obtain⟨u,g1,g2⟩:=AF (P:=P) (w:=w) hq h2;exact Vc.op (m:=Builtin.max_ ts ty _) ⟨u,g1,g2⟩ H
  ·cases h
 ·
  simp only[ZU] at hv;obtain⟨v,y,rfl,h1,rfl⟩:=hv
  split at h
  ·cases h
   simp only[ZT] at h1;subst h1;exact Vc.op (m:=Builtin.unsafeSliceData_ ts ty _) ⟨.pointer none,rfl,by simp[ZT]⟩ H
  ·cases h
   obtain⟨a,c,rfl,hlen,⟨p,hp,ha,_⟩,_⟩:=T8 h1;obtain⟨c',rfl⟩:∃c',c=c'+1:=⟨c-1,by omega⟩;have:=ha (by omega);subst this;exact Vc.op (m:=Builtin.unsafeSliceData_ ts ty _) ⟨.pointer (some ⟨p.b,p.sh+_,none⟩),rfl,by simp only[ZT];exact⟨p,hp,rfl⟩⟩ H
  ·cases h
 ·
  rename_i p k n;simp only[ZU] at hv;obtain⟨v,y,rfl,h1,u,z,rfl,h2,rfl⟩:=hv;rw[Ze h2]
  cases ht:ts[0]? with
  |some t=>exact (K5 (P:=P) (ty:=ty) hX H h1 h0 ⟨t,ht⟩).op
  |none =>
   have:ts.size=0:=by
    rcases Nat.eq_zero_or_pos ts.size with h|h
    ·exact h
    ·rw[ajN h] at ht;cases ht
   rw[if_pos this] at h;cases h
 ·cases h
theorem FJ (hX:Wb X P)(hG:WR X σ)(H:HR σ s w)(hf:σ s.next=none){ex:Ex}{e:Env}{tmps:Array Value}(E:TI σ e tmps){o:Oper}{v:AV}{s':St}(hn:OM o.op=false)
  (h:YK X ex e o.op s=some (v,s')):zD P σ s w (execOp (JK tmps) o) v s':=by
 obtain⟨dst,op,type,pos,after,guard⟩:=o;simp only at h hn;have ev:∀{x a},eval X e x=some a->ZT σ a (JK tmps x):=fun h=>Uy hG E h
 cases op <;> simp only[YK] at h <;> try (cases h;done)
 case move x =>
  obtain⟨h1,rfl⟩:=Zo h;exact⟨σ,_,_,w,rfl,.inl rfl,ev h1,Good.refl H⟩
 case assign x =>
  obtain⟨h1,rfl⟩:=Zo h;exact⟨σ,_,_,w,rfl,.inl rfl,ev h1,Good.refl H⟩
 case pick c a b =>
  split at h
  ·rename_i hc;obtain⟨h1,rfl⟩:=Zo h;exact⟨σ,_,_,w,by simp only[execOp,Sem.run_bind,Xb (ev hc),asBool,Sem.run_pure,Result.andThen_ok,if_true],.inl rfl,ev h1,Good.refl H⟩
  ·rename_i hc;obtain⟨h1,rfl⟩:=Zo h;exact⟨σ,_,_,w,by simp only[execOp,Sem.run_bind,Xb (ev hc),asBool,Sem.run_pure,Result.andThen_ok,ajn,if_false],.inl rfl,ev h1,Good.refl H⟩
  ·cases h
 case alloc t =>
  split at h
  ·rename_i z hz
   cases h
   exact (r0 (P:=P) hX H hf hz).op
  ·cases h
 case box t x =>
  split at h
  ·rename_i a ha
   cases h
   exact (gG (P:=P) H hf (ev ha)).op
  ·cases h
 case build t ps =>
  split at h
  ·rename_i l hl;obtain⟨h1,rfl⟩:=Zo h;exact (yq (w:=w) hX (by simpa using Sc hG E hl) h1).op H
  ·cases h
 case buildSlice t n ps =>
  split at h
  ·rename_i l hl;exact (JV (P:=P) hX H hf (by simpa using Sc hG E hl) h).op
  ·cases h
 case load t a =>
  split at h
  ·rename_i x hx;obtain⟨h1,rfl⟩:=Zo h;exact (Em (P:=P) hX H (ev hx) h1).op H
  ·cases h
 case store t a x =>
  split at h
  ·rename_i y z hy hz;obtain⟨h1,rfl⟩:=Qy h;exact CB (wR (P:=P) hX H (ev hy) (ev hz) h1)
  ·cases h
 case nilCheck x =>
  split at h
  ·rename_i b o hx
   cases h
   have hr:=ev hx;obtain⟨p,hp,hv⟩:=Xm hr;exact⟨σ,.value (JK tmps x),_,w,by simp only[execOp,hv];rfl,.inl rfl,hr,Good.refl H⟩
  ·rename_i c o hx
   cases h
   have hr:=ev hx;obtain⟨b,base,us,cc,e,fz,hv,_⟩:=LU hr;exact⟨σ,.value (JK tmps x),_,w,by simp only[execOp,hv];rfl,.inl rfl,hr,Good.refl H⟩
  ·rename_i f a b hx
   cases h
   have hr:=ev hx;have UM:=hr;simp only[ZT] at UM;obtain⟨f',x',y',hv,EC,_,_⟩:=UM;simp only[Tw] at EC;subst EC;exact⟨σ,.value (JK tmps x),_,w,by simp only[execOp,hv];rfl,.inl rfl,hr,Good.refl H⟩
  ·rename_i f a b hx
   cases h
   have hr:=ev hx;have UM:=hr;simp only[ZT] at UM;obtain⟨f',x',y',hv,EC,_,_⟩:=UM;simp only[Tw] at EC;obtain⟨p,_,rfl⟩:=EC;exact⟨σ,.value (JK tmps x),_,w,by simp only[execOp,hv];rfl,.inl rfl,hr,Good.refl H⟩
  ·cases h
 case binOp op t x y yt =>
  split at h
  ·rename_i a b ha hb;obtain⟨h1,rfl⟩:=Zo h;exact (kR (w:=w) hX rfl (ev ha) (ev hb) h1).op H
  ·cases h
 case unOp op t x =>
  split at h
  ·rename_i a ha;obtain⟨h1,rfl⟩:=Zo h;exact (eG (P:=P) (w:=w) (ev ha) h1).op H
  ·cases h
 case convert src dst x =>
  split at h
  ·rename_i a ha;have hr:=ev ha
   cases hs:X.Zj src with
   |none=>unfold Tv at h;rw[hs] at h;simp at h
   |some sd =>
    cases hd:X.Zj dst with
    |none=>unfold Tv at h;rw[hs,hd] at h;cases a <;> simp at h
    |some dd =>
     by_cases h1:∃e,sd=.slice e/\dd=.string
     ·obtain⟨e,rfl,rfl⟩:=h1;obtain⟨rfl,h2⟩:=L9 (P:=P) hX H hs hd hr h;exact h2.op H
     ·by_cases h2:∃e l,dd=.slice e/\a=.str l
      ·obtain⟨e,l,rfl,rfl⟩:=h2;exact (L8 (P:=P) (v:=.VI) hX H hf hs hd hr h).op
      ·obtain⟨rfl,h3⟩:=sJ (P:=P) (w:=w) hX hr h (fun ⟨e,g1,g2⟩=>h1 ⟨e,by rw[hs] at g1;exact Option.some.inj g1,by rw[hd] at g2;exact Option.some.inj g2⟩) (fun ⟨e,l,g1,g2⟩=>h2 ⟨e,l,by rw[hd] at g1;exact Option.some.inj g1,g2⟩);exact h3.op H
  ·cases h
 case makeInterface t x =>
  split at h
  ·rename_i a ha
   split at h
   ·cases h
   ·rename_i d hd hni
    cases h
    exact (Mx (P:=P) (w:=w) hX (ev ha) hni (fun ms hm=>by subst hm;exact hd ms rfl)).op H
   ·cases h
  ·cases h
 case makeFunc f a b =>
  split at h
  ·rename_i g
   split at h
   ·rename_i x y hx hy
    cases h
    have Ms:=RD hG E hx;have hy':=RD hG E hy;refine Vc.op (m:=Instr.makeFunc (.func g) (a.map (JK tmps)) (b.map (JK tmps))) ⟨.func (.func g) (a.map (JK tmps)) (b.map (JK tmps)),by simp[Instr.makeFunc],?_⟩ H;simp only[ZT];exact⟨_,_,_,rfl,by simp[Tw],by simpa using Ms,by simpa using hy'⟩
   ·cases h
  ·cases h
 case makeMap t r =>
  split at h
  ·cases h
   exact (Ku (P:=P) H hf).op
  ·rename_i x
   split at h
   ·rename_i k n kt et hx hu
    cases h
    have:=(Da (P:=P) hX H hf (kn:=k) (n:=n) hu).op;simp only[execOp,aki,Ze (ev hx)];exact this
   ·cases h
 case makeSlice t l c =>
  split at h
  ·rename_i kl l kc c elem hl hc hu
   split at h
   ·rename_i i z hi hz
    split at h
    ·rename_i Sp
     cases h
     have:=(F2 (P:=P) hX H hf (kl:=kl) (kc:=kc) hu hi hz Sp).op;simp only[execOp,Ze (ev hl),Ze (ev hc)];exact this
    ·cases h
   ·cases h
  ·cases h
 case slice t x lo hi mx =>
  split at h
  ·rename_i v lo' OL mx' hv hl hh hm;obtain⟨h1,rfl⟩:=Zo h;exact (yc (w:=w) hX (ev hv) (KS hG E hl) (KS hG E hh) (KS hG E hm) h1).op H
  ·cases h
 case fieldAddr t x f =>
  split at h
  ·rename_i a ha;obtain⟨h1,rfl⟩:=Zo h;exact (FY (w:=w) hX (ev ha) h1).op H
  ·cases h
 case field t x f =>
  split at h
  ·rename_i cs fs hc hu
   split at h
   ·rename_i fd hfd;obtain⟨h1,rfl⟩:=Zo h;exact (qM (w:=w) hX hu (ev hc) hfd h1).op H
   ·cases h
  ·cases h
 case indexAddr t x i =>
  split at h
  ·rename_i a b ha hb;obtain⟨h1,rfl⟩:=Zo h;exact (FX (w:=w) hX (ev ha) (ev hb) h1).op H
  ·cases h
 case index t x i =>
  split at h
  ·rename_i a b ha hb;obtain⟨h1,rfl⟩:=Zo h;exact (qN (w:=w) hX (ev ha) (ev hb) h1).op H
  ·cases h
 case lookup t m k ok =>
  split at h
  ·rename_i a b ha hb;obtain⟨h1,rfl⟩:=Zo h;exact (BH (P:=P) hX H (ev ha) (ev hb) h1).op H
  ·cases h
 case mapUpdate t m k x =>
  split at h
  ·rename_i a b c ha hb hc;obtain⟨h1,rfl⟩:=Qy h;exact CB (Kz (P:=P) hX H (ev ha) (ev hb) (ev hc) h1)
  ·cases h
 case insert t m k x =>
  split at h
  ·rename_i a b c ha hb hc;obtain⟨h1,rfl⟩:=Qy h;exact CB (Kz (P:=P) hX H (ev ha) (ev hb) (ev hc) h1)
  ·cases h
 case range t x =>
  split at h
  ·rename_i b hb hu
   cases h
   exact (rR (P:=P) hX H hf hu (ev hb)).op
  ·cases h
 case next it str =>
  cases str with
  |false=>simp only[YK] at h;cases h
  |true =>
   simp only[YK] at h
   split at h
   ·rename_i r hr
    split at h
    ·rename_i b pos hg;have:=nz (P:=P) (ty:=type) H (ev hr) hg
     cases b with
     |nil=>cases h;exact this.op
     |cons c b=>cases h;exact this.op
    ·cases h
   ·cases h
 case extract t i =>
  split at h
  ·rename_i vs TA;obtain⟨h1,rfl⟩:=Zo h;exact (Ag (P:=P) (w:=w) (ev TA) h1).op H
  ·cases h
 case call c =>
  obtain⟨callee,args,argTypes⟩:=c
  cases callee with
  |value f=>simp[OM] at hn
  |invoke r m=>simp only at h;cases h
  |builtin b =>
   simp only at h
   split at h
   ·rename_i vs TA;have hv:=RD hG E TA;have:=GL (P:=P) (ty:=type) (cs:=args.map fun|.const _=>true|_=>false) hX H hf hv h;have he:(args.toList.map (JK tmps)).toArray=args.map (JK tmps):=by
     apply Array.ext';simp
    rw[he] at this;exact this
   ·cases h
end
end Go.Am
namespace Go.Am
open Go
abbrev FW (r:Option Nat):Fence:={ Fence.wide with round:=r }
section
variable [Stat]
def DF (n0:Nat)(σ:Sg)(w:World)(ds:List Deferred):Prop :=
 ∃rs:List Nat,ds=rs.map (fun r=>({ target:=.collected r,args:=#[] }:Deferred))/\rs.Nodup/\∀r∈rs,n0<=r/\w.heap[r]? = some (.deferred (some []))/\(∀i p,σ i=some p->p.b≠r)/\σ.fz r=none
theorem DF.nil (n0:Nat)(σ:Sg)(w:World):DF n0 σ w []:=⟨[],rfl,List.nodup_nil,fun _ h=>by cases h⟩
theorem DF.good {n0:Nat}{σ YE:Sg}{s s':St}{w w':World}{ds:List Deferred}(h:DF n0 σ w ds)(g:Good σ s w YE s' w'):DF n0 YE w' ds:=by
 obtain⟨rs,e,hn,hr⟩:=h;refine⟨rs,e,hn,fun r hm=>?_⟩;obtain⟨h1,h2,h3,h4⟩:=hr r hm;have YH:r<w.heap.size:=(ajd.1 h2).1;have Tb:¬Rv σ s r:=fun ⟨i,p,b,hp,_,_,hb⟩=>h3 i p hp hb
 refine⟨h1,by rw[g.ext.keep r YH Tb];exact h2,fun i p hp hb=>?_,?_⟩
 rotate_left
 ·cases hz:YE.fz r with
  |none=>rfl
  |some o =>
   rcases g.ext.vy r o hz with h5|h5
   ·rw[h4] at h5;cases h5
   ·omega
 by_cases e:σ i=none
 ·rcases g.news i p hp e with hk|hk
  ·omega
  ·exact Tb (hb ▸ hk)
 ·cases hq:σ i with
  |none=>exact e hq
  |some q =>
   have:=g.ext.le.p i q hq;rw[hp] at this;cases this;exact h3 i p hq hb
structure Inv (X:Cx)(σ:Sg)(s:St)(w:World)(n0:Nat)(e:Env)(a:Act):Prop where
 hr:HR σ s w
 fresh:TY σ s
 glob:WR X σ
 env:TI σ e a.tmps
 df:DF n0 σ w a.defers
 n0:n0<=w.heap.size
def Sl:Out->Exit->Prop
 |.norm,.normal=>True
 |.exit i,.exit j=>i=j
 |.ret,.ret=>True
 |_,_=>False
def SI (X:Cx)(σ:Sg)(s:St)(w:World)(n0:Nat)(a:Act)(e':Env)(s':St)(a':Act)(w':World):Prop :=
 ∃YE,Good σ s w YE s' w'/\Inv X YE s' w' n0 e' a'/\a'.tmps.size=a.tmps.size
def Zu (X:Cx)(σ:Sg)(s:St)(w:World)(n0:Nat)(a:Act)(out:Out)(e':Env)(s':St):Exit->Act->World->Prop :=
 fun ex a' w'=>Sl out ex/\SI X σ s w n0 a e' s' a' w'
theorem WR.mono {X:Cx}{σ τ:Sg}(h:Sg.le σ τ)(k:WR X σ):WR X τ:=fun g hg=>by
 obtain⟨n,hn,hb⟩:=k g hg;refine⟨n,h.p _ _ hn,fun b e=>?_⟩;obtain⟨h1,o,h2,h3⟩:=hb b e;exact⟨h1,o,h.z _ _ h2,h3.mono h.bare⟩
theorem SI.refl {X:Cx}{σ:Sg}{s:St}{w:World}{n0:Nat}{e:Env}{a:Act}(I:Inv X σ s w n0 e a):SI X σ s w n0 a e s a w:=⟨σ,Good.refl I.hr,I,rfl⟩
theorem SI.trans {X:Cx}{σ JM:Sg}{s s1 s2:St}{w w1 w2:World}{n0:Nat}{e2:Env}{a a1 a2:Act}(g:Good σ s w JM s1 w1)(hs:a1.tmps.size=a.tmps.size)(k:SI X JM s1 w1 n0 a1 e2 s2 a2 w2) :
  SI X σ s w n0 a e2 s2 a2 w2:=by
 obtain⟨Cq,g2,i2,h2⟩:=k;exact⟨Cq,g.trans g2,i2,h2.trans hs⟩
theorem TI.put {σ:Sg}{e:Env}{tmps:Array Value}(h:TI σ e tmps){d:Nat}(hd:d<tmps.size){v:AV}{u:Value}(hv:ZT σ v u):TI σ (Tr.set e d v) (tmps.setIfInBounds d u):=by
 intro t;rw[Env.Tl];by_cases ht:d=t
 ·subst ht;rw[if_pos rfl];simp only[ajH,akh,hd,if_true,if_pos,akk];exact hv
 ·rw[if_neg ht];have:=h t;simp only[ajH,akh] at this ⊢;rw[if_neg ht];exact this
def KK (m:Nat)(d:Option Tmp):Prop:=∀t,d=some t->t<m
theorem BY (a:Act)(d:Option Tmp)(u:Value):(a.put d u).tmps.size=a.tmps.size:=by
 cases d <;> simp[Act.put]
theorem put_defers (a:Act)(d:Option Tmp)(u:Value):(a.put d u).defers=a.defers:=by
 cases d <;> simp[Act.put]
theorem KJ {σ:Sg}{e:Env}{a:Act}(h:TI σ e a.tmps){d:Option Tmp}(hd:KK a.tmps.size d){v:AV}{u:Value}(hv:ZT σ v u):TI σ (YA e d v) (a.put d u).tmps:=by
 cases d with
 |none=>exact h
 |some d=>exact h.put (hd d rfl) hv
theorem Inv.put {X:Cx}{σ YE:Sg}{s s':St}{w w':World}{n0:Nat}{e:Env}{a:Act}(I:Inv X σ s w n0 e a)(g:Good σ s w YE s' w'){d:Option Tmp}(hd:KK a.tmps.size d){v:AV}{u:Value}(hv:ZT YE v u) :
  SI X σ s w n0 a (YA e d v) s' (a.put d u) w' :=
 ⟨YE,g,⟨g.hr,g.fresh I.fresh,I.glob.mono g.ext.le,KJ (I.env.mono g.ext.le) hd hv,by rw[put_defers];exact I.df.good g,aka I.n0 g.ext.size⟩,BY _ _ _⟩
theorem T1 (a:Act):a.eval=JK a.tmps:=by
 funext x;cases x <;> rfl
theorem FU {σ:Sg}{a:AV}{b:Bool}(h:ZT σ a (.bool b)):a=.bool b:=by
 cases a <;> simp only[ZT] at h <;> first
  |(injection h with h;subst h;rfl)
  |(cases h;done)
  |(obtain⟨_,h,_⟩:=h;cases h;done)
  |(obtain⟨_,_,h⟩:=h;cases h;done)
  |(obtain⟨_,_,h,_⟩:=h;cases h;done)
  |(obtain⟨_,_,_,h,_⟩:=h;cases h;done)
  |(obtain⟨_,_,_,_,_,_,h,_⟩:=h;cases h;done)
theorem FE {σ:Sg}{e:Env}{tmps:Array Value}(h:TI σ e tmps)(ops:Array Oper)(o:Oper):Region.wanted o (yielded ops tmps)=XY ops e o:=by
 unfold Region.wanted XY
 cases hg:o.guard with
 |none=>rfl
 |some g =>
  obtain⟨j,want⟩:=g;simp only[yielded]
  cases ho:ops[j]? with
  |none=>simp
  |some oj =>
   cases hd:oj.dst with
   |none=>simp[hd]
   |some d =>
    simp only[Option.bind_some,hd];have ht:=h d;rw[ajH] at ht
    cases hv:tmps[d]? with
    |none =>
     rw[hv] at ht;simp only[Option.getD_none] at ht
     cases ha:Env.get e d <;> rw[ha] at ht <;> simp only[ZT] at ht <;> first|rfl|(cases ht;done)
    |some v =>
     rw[hv] at ht;simp only[akk] at ht
     cases v with
     |bool b =>
      rw[FU ht];show (some b==some want)=(b==want)
      cases b <;> cases want <;> rfl
     |_ =>
      cases ha:Env.get e d <;> rw[ha] at ht <;> simp only[ZT] at ht <;> first|rfl|(cases ht;done)
def wE (P:Program)(R:Value->World->Prop):Result Next->Prop
 |.ok (.value v) w'=>R v w'
 |.ok (.enter f args) w'=>Calls P f args w' fun e w''=>∃v,e=.returned v/\R v w''
 |_=>False
def nq (X:Cx)(P:Program)(f:FuncId)(g:List AV->St->Option (AV×St)):Prop :=
 ∀args s v s' σ w (us:Array Value),g args s=some (v,s')->HR σ s w->TY σ s->WR X σ->ZU σ args us.toList ->
  wE P (fun u w'=>∃YE,ZT YE v u/\Good σ s w YE s' w') ((callFunc f us).run P w)
structure Full (X:Cx)(P:Program):Prop extends Wb X P where
 stat:∀m c,Stat.ok m c<->∃n,n<=m/\JC X n c=true/\Rg c=true
 fok:∀f fn c,X.fn f=some fn->fn.body=some c->JC X fn.ntmps c=true
 nm:∀f fn,X.fn f=some fn->(fn.name == "runtime.NumGoroutine")=false
 ext:∀f g,X.ext f=some g->nq X P f g
 mixed:P.follows .mixedOrders=true
 gb:∀i b,X.Na i=some b->b≠.gone
def pT (X:Cx)(r:Option Nat)(m:Nat)(c:Code):Prop:=∃n,n<=m/\JC X n c=true/\(r.isSome=true->Rg c=true)
theorem Hb {r:Option Nat}{n:Nat}{P:Program}{f:FuncId}{args:Array Value}{w:World}{R:Ending->World->Prop}(h:Calls P f args w R):CallsIn (FW r) n P f args w R:=by
 cases r with
 |none=>exact callsIn_wide.2 h
 |some l=>exact CallsIn.inRound l (callsIn_wide.2 h)
theorem LP {F:Fence}{n:Nat}{P:Program}{f:FuncId}{args:Array Value}{w:World}{R R':Ending->World->Prop}(h:CallsIn F n P f args w R)(hr:∀e w',R e w'->R' e w'):CallsIn F n P f args w R' :=
 ⟨h.1,fun cs LO=>let ⟨e,w',fr,r,s⟩:=h.2 cs LO;⟨e,w',fr,hr _ _ r,s⟩⟩
theorem eF {X:Cx}{P:Program}{r:Option Nat}{o:Oper}{a:Act}{KL:Act->World->Prop}{Q:Exit->Act->World->Prop}{m:Result Next}{R:Value->World->Prop}(h:wE P R m)(hn:∀v w',R v w'->KL (a.put o.dst v) w') :
  o.uponIn (FW r) 0 P a KL Q m:=by
 unfold wE at h
 split at h
 ·rw[Oper.uponIn_value];exact hn _ _ h
 ·rw[Oper.uponIn_enter];refine⟨fun hd=>(by cases hd),LP (Hb h) ?_⟩;rintro e w' ⟨v,rfl,hv⟩;exact hn _ _ hv
 ·exact h.elim
theorem QT {r:Option Nat}{P:Program}{w:World}{o:Oper}{ρ:Operand->Value}:∀f,o.about P w ρ=some f->(FW r).fn f:=fun _ _=>trivial
theorem wD {F:Fence}{n:Nat}{P:Program}{Q:Exit->Act->World->Prop}{a:Act}{w:World}{c:Code}(h:c.wpIn F n P (Exit.noGoto Q) a w):(Code.scope c).wpIn F n P Q a w:=by
 intro b k cs cB hb hr;have h0:(lone (b.atR a (.code (.scope c)::k)) cs w).fenced P F:=fenced_calm hb hr rfl;have WY:step P (lone (b.atR a (.code (.scope c)::k)) cs w)=.next (lone (b.atR a (.code c::.inScope c::k)) cs w):=step_lone_go (by simp[stepG,stepG.exec,Frame.atR]);have abE:∀a w,step P (lone (b.atR a (.inScope c::k)) cs w)=.next (lone (b.atR a k) cs w):=fun a w=>step_lone_go (by simp[stepG,stepG.exec,Frame.atR])
 obtain⟨e,a₁,w₁,hq,OZ⟩:=h b (.inScope c::k) cs cB hb hr
 cases e with
 |normal=>exact⟨.normal,a₁,w₁,hq,.head h0 WY (StepsIn.trans OZ (.one (fenced_calm hb hr rfl) (abE _ _)))⟩
 |exit id =>
  have hx:exitTo id (.inScope c::k)=exitTo id k:=by simp[exitTo]
  exact⟨.exit id,a₁,w₁,hq,fun k' hk=>.head h0 WY (OZ.1 k' (by rw[hx];exact hk)),fun UM hk=>let ⟨k₁,h1,h2⟩:=OZ.2 UM (by rw[hx];exact hk);⟨k₁,h1,.head h0 WY h2⟩⟩
 |goto l=>exact hq.elim
 |ret=>exact⟨.ret,a₁,w₁,hq,.of_steps (b:=b) (k:=k) (cs:=cs) (e:=.ret) (.one h0 WY) OZ⟩
 |panic ch=>exact⟨.panic ch,a₁,w₁,hq,.of_steps (b:=b) (k:=k) (cs:=cs) (e:=.panic ch) (.one h0 WY) OZ⟩
 |outgrown=>exact⟨.outgrown,a₁,w₁,hq,.of_steps (b:=b) (k:=k) (cs:=cs) (e:=.outgrown) (.one h0 WY) OZ⟩
def Q9 (F:Fence)(n:Nat)(P:Program)(c:Code)(Q:Exit->Act->World->Prop)(a:Act)(w:World):Prop :=
 ∀(b:Frame) (k:List Item) (cs:List Frame),b.roundOf=F.round->F.fn b.fn->F.room (cs.length+1+n) ->
  ∃e a' w',Q e a' w'/\ArrivesIn (Machine.fenced P F) P (lone (b.atR a (.code c::.inLoop c::k)) cs w) b k cs e a' w'
def eE (F:Fence)(n:Nat)(P:Program)(c:Code)(Q:Exit->Act->World->Prop)(a:Act)(w:World):Prop :=
 match c with
 |.loop b=>Q9 F n P b Q a w
 |c=>c.wpIn F n P Q a w
theorem eE.wpIn {F:Fence}{n:Nat}{P:Program}{c:Code}{Q:Exit->Act->World->Prop}{a:Act}{w:World}(h:eE F n P c Q a w):c.wpIn F n P Q a w:=by
 unfold eE at h
 split at h
 ·intro b k cs cB hb hr;obtain⟨e,a',w',hq,OZ⟩:=h b k cs cB hb hr;exact⟨e,a',w',hq,.of_steps (.one (fenced_calm hb hr rfl) stepR_loop) OZ⟩
 ·exact h
theorem zW {F:Fence}{n:Nat}{P:Program}{Q:Exit->Act->World->Prop}{a:Act}{w:World}{c:Code}(h:c.wpIn F n P (Exit.then (Q9 F n P c Q) Q) a w):Q9 F n P c Q a w:=by
 intro b k cs cB hb hr;obtain⟨e,a₁,w₁,hq,OZ⟩:=h b (.inLoop c::k) cs cB hb hr
 cases e with
 |normal =>
  obtain⟨e2,a2,w2,hq2,aeY⟩:=hq b k cs cB hb hr;exact⟨e2,a2,w2,hq2,.of_steps (StepsIn.trans OZ (.one (fenced_calm hb hr rfl) stepR_inLoop)) aeY⟩
 |exit id=>exact⟨_,a₁,w₁,hq,.pass (x:=.inLoop c) rfl (fun _ _=>.inl (by simp)) OZ⟩
 |goto l=>exact⟨_,a₁,w₁,hq,.pass (x:=.inLoop c) rfl (fun _ _=>.inl (by simp)) OZ⟩
 |ret=>exact⟨_,a₁,w₁,hq,.pass (x:=.inLoop c) rfl (fun _ _=>.inl (by simp)) OZ⟩
 |panic ch=>exact⟨_,a₁,w₁,hq,.pass (x:=.inLoop c) rfl (fun _ _=>.inl (by simp)) OZ⟩
 |outgrown=>exact⟨_,a₁,w₁,hq,.pass (x:=.inLoop c) rfl (fun _ _=>.inl (by simp)) OZ⟩
def M5 (X:Cx)(P:Program)(ex:Ex):Prop :=
 ∀c e s out e' s',ex c e s=some (out,e',s')->∀r n0 a w σ,pT X r a.tmps.size c->Inv X σ s w n0 e a->eE (FW r) 0 P c (Zu X σ s w n0 a out e' s') a w
end
end Go.Am
namespace Go.Am
open Go
section
variable [Stat]
theorem HR.congr {σ:Sg}{s t:St}{w:World}(H:HR σ s w)(h:∀i,s.look i=t.look i):HR σ t w :=
 ⟨H.lt,fun i p b hp hb=>H.Gv i p b hp (by rw[h];exact hb),fun i j p q b c hp hq hb hc he=>H.inj i j p q b c hp hq (by rw[h];exact hb) (by rw[h];exact hc) he,fun c o hc=>⟨(H.fz c o hc).1,fun ⟨i,p,b,h1,h2,h3,h4⟩=>(H.fz c o hc).2 ⟨i,p,b,h1,by rw[h];exact h2,h3,h4⟩⟩⟩
theorem Good.congr {σ YE:Sg}{s s' t:St}{w w':World}(g:Good σ s w YE s' w')(h:∀i,s'.look i=t.look i)(hn:t.next=s'.next)(hb:t.base=s'.base):Good σ s w YE t w' where
 hr:=g.hr.congr h
 ext:={ le:=g.ext.le,vy:=g.ext.vy,size:=g.ext.size,keep:=g.ext.keep,os:=g.ext.os,tape:=g.ext.tape,output:=g.ext.output,owns:=fun c hc ⟨i,p,b,h1,h2,h3,h4⟩=>g.ext.owns c hc ⟨i,p,b,h1,by rw[h];exact h2,h3,h4⟩ }
 Oc:=fun i hi=>g.Oc i (by rw[hn] at hi;exact hi)
 next:=by rw[hn];exact g.next
 dead:=fun i hi hl=>by rw[<-h];exact g.dead i hi hl
 news:=g.news
 glob:=by rw[hb];exact g.glob
theorem zK (s:St)(l:Nat)(b:Vr)(i:Nat):((s.put l b).put l .gone).look i=(s.put l .gone).look i:=by
 rw[St.Xl,St.Xl,St.Xl];by_cases h:l=i <;> simp[h]
theorem Good.abO {σ:Sg}{s:St}{w:World}(H:HR σ s w)(o:Obj):Good σ s w σ s (w.alloc o) where
 hr:=⟨fun i p h=>by have:=H.lt i p h;simp;omega,fun i p b hp hb=>by
   obtain⟨o',ho,hr⟩:=H.Gv i p b hp hb;have:=H.lt i p hp;exact⟨o',by simp only[World.alloc];rw[ajW,if_neg (by omega)];exact ho,hr⟩,H.inj,fun c o' hc=>by
   obtain⟨h1,h2⟩:=H.fz c o' hc;have YH:c<w.heap.size:=(ajd.1 h1).1;exact⟨by simp only[World.alloc];rw[ajW,if_neg (by omega)];exact h1,h2⟩⟩
 ext:=⟨Sg.le_refl _,fun _ _ h=>.inl h,by simp,fun c hc _=>by simp only[World.alloc];rw[ajW,if_neg (by omega)],fun _ _ h=>h,rfl,rfl,rfl⟩
 Oc:=fun _ _=>rfl
 next:=ajg _
 dead:=fun _ _ h=>h
 news:=fun i p h k=>by rw[k] at h;cases h
 glob:=rfl
theorem Good.abD {σ YE:Sg}{s s':St}{w w':World}(g:Good σ s w YE s' w'){r:Nat}(hr:w.heap.size<=r)(Tb:∀i p,YE i=some p->p.b≠r)(hz:YE.fz r=none)(o:Obj) :
  Good σ s w YE s' { w' with heap:=w'.heap.setIfInBounds r o } where
 hr:=⟨fun i p h=>by have:=g.hr.lt i p h;simpa using this,fun i p b hp hb=>by
   obtain⟨o',ho,hr⟩:=g.hr.Gv i p b hp hb;have:=Tb i p hp;exact⟨o',by show (w'.heap.setIfInBounds r o)[p.b]? = some o';rw[akh,if_neg (fun h=>this h.symm)];exact ho,hr⟩,g.hr.inj,fun c o' hc=>by
   obtain⟨h1,h2⟩:=g.hr.fz c o' hc;have Zv:r≠c:=fun e=>by subst e;rw[hz] at hc;cases hc
   exact⟨by show (w'.heap.setIfInBounds r o)[c]? = some o';rw[akh,if_neg Zv];exact h1,h2⟩⟩
 ext:=⟨g.ext.le,g.ext.vy,by simpa using g.ext.size,fun c hc hn=>by
   show (w'.heap.setIfInBounds r o)[c]? = _;rw[akh,if_neg (by omega)];exact g.ext.keep c hc hn,g.ext.owns,g.ext.os,g.ext.tape,g.ext.output⟩
 Oc:=g.Oc
 next:=g.next
 dead:=g.dead
 news:=g.news
 glob:=g.glob
variable {X:Cx}{P:Program}
theorem results1 (hX:Wb X P){σ:Sg}{s:St}{w:World}(H:HR σ s w){e:Env}{tmps:Array Value}(E:TI σ e tmps){r:ResultVar}{v:AV}(h:OA X e s r=some v) :
  ∃u,(match r with|.tmp t=>pure (tmps.getD t Go.undef)|.cell a t=>do loadVar t (<-asAddr (tmps.getD a Go.undef)):Sem Value).run P w=.ok u w/\ZT σ v u:=by
 cases r with
 |tmp t=>simp only[OA] at h;cases h;exact⟨_,rfl,E t⟩
 |cell a t =>
  simp only[OA] at h;have TF:=E a;obtain⟨u,h1,h2⟩:=Em (P:=P) hX H TF h
  cases ha:Env.get e a <;> rw[ha] at h <;> simp only[Vb] at h <;> try (cases h;done)
  all_goals rw[ha] at TF
  all_goals
   have hv:∃ad,tmps.getD a Go.undef=.pointer (some ad):=by
    first
     |(obtain⟨p,hp,hv⟩:=Xm TF;exact⟨_,hv⟩)
     |(obtain⟨_,_,_,_,_,_,hv,_⟩:=LU TF;exact⟨_,hv⟩)
   obtain⟨ad,hv⟩:=hv;refine⟨u,?_,h2⟩;show Sem.run P (do loadVar t (<-asAddr (tmps.getD a Go.undef))) w=_;rw[hv] at h1 ⊢;simp only[Instr.loadAt,Instr.sureAddr,Sem.run_bind,Sem.run_pure,Result.andThen_ok] at h1;simp only[asAddr,Sem.run_bind,Sem.run_pure,Result.andThen_ok];exact h1
theorem LM (hX:Wb X P){σ:Sg}{s:St}{w:World}(H:HR σ s w){e:Env}{tmps:Array Value}(E:TI σ e tmps):∀{l:List ResultVar} {vs:List AV},Xz X e s l=some vs ->
  ∃us,(l.mapM fun r=>(match r with|.tmp t=>pure (tmps.getD t Go.undef)|.cell a t=>do loadVar t (<-asAddr (tmps.getD a Go.undef)):Sem Value)).run P w=.ok us w/\ZU σ vs us
 |[],vs,h=>by simp only[Xz] at h;cases h;exact⟨[],rfl,by simp[ZU]⟩
 |r::l,vs,h=>by
  simp only[Xz] at h
  split at h
  ·rename_i v vs' h1 h2
   cases h
   obtain⟨u,g1,g2⟩:=results1 (P:=P) hX H E h1;obtain⟨us,g3,g4⟩:=LM hX H E h2;refine⟨u::us,?_,by simp only[ZU];exact⟨_,_,rfl,g2,g4⟩⟩;rw[List.mapM_cons,Sem.run_bind,g1,Result.andThen_ok,Sem.run_bind,g3,Result.andThen_ok,Sem.run_pure]
  ·cases h
theorem Ab (hX:Wb X P){σ:Sg}{s:St}{w:World}(H:HR σ s w){e:Env}{tmps:Array Value}(E:TI σ e tmps){fn:Func}{v:AV}(h:U1 X fn e s=some v) :
  ∃u,(results fn tmps).run P w=.ok u w/\ZT σ v u:=by
 unfold U1 at h;have key:∀vs,Xz X e s fn.results.toList=some vs->∃us:Array Value,(fn.results.mapM fun r=>(match r with|.tmp t=>pure (tmps.getD t Go.undef)|.cell a t=>do loadVar t (<-asAddr (tmps.getD a Go.undef)):Sem Value)).run P w=.ok us w/\ZU σ vs us.toList:=by
  intro vs TA;obtain⟨us,h1,h2⟩:=LM (P:=P) hX H E TA;exact⟨us.toArray,PH _ _ _ h1,by simpa using h2⟩
 split at h
 ·rename_i v' hv
  cases h
  obtain⟨us,h1,h2⟩:=key _ hv;simp only[ZU] at h2;obtain⟨u,y,hu,hr,rfl⟩:=h2;have:us=#[u]:=by apply Array.ext';rw[hu]
  subst this;refine⟨u,?_,hr⟩;unfold results;rw[Sem.run_bind];refine (congrArg (fun m=>Result.andThen m _) h1).trans ?_;simp
 ·rename_i vs Zv hv
  cases h
  obtain⟨us,h1,h2⟩:=key _ hv;have hl:us.size≠1:=by
   intro hs;have:=h2.length;have h3:us.toList.length=us.size:=rfl;rw[h3,hs] at this
   match vs,this with
   |[x],_=>exact Zv x rfl
  refine⟨.tuple us,?_,by simp only[ZT];exact⟨_,rfl,h2⟩⟩;unfold results;rw[Sem.run_bind];refine (congrArg (fun m=>Result.andThen m _) h1).trans ?_;simp[hl]
 ·cases h
theorem LL {σ:Sg}:∀(l:List AV) (us:List Value) (i:Nat) (e:Env) (f:Nat->Value),ZU σ l us->(∀t:Nat,t<i\/i+l.length<=t->ZT σ (Env.get e t) (f t)) ->
  ∀t:Nat,ZT σ (Env.get (Zc i l e) t) (if i<=t/\t<i+l.length then (us[t-i]?).getD Go.undef else f t)
 |[],us,i,e,f,h,he,t=>by
  simp only[Zc,List.length_nil,Nat.add_zero];rw[if_neg (by omega)];exact he t (by simp;omega)
 |v::l,us,i,e,f,h,he,t=>by
  simp only[ZU] at h;obtain⟨u,us,rfl,h1,h2⟩:=h;simp only[Zc];have:=LL l us (i+1) (Tr.set e i v) (fun t=>if t=i then u else f t) h2 (fun (t:Nat) ht=>by
   rw[Env.Tl];by_cases hti:i=t
   ·subst hti;simp only[if_pos];exact h1
   ·rw[if_neg hti,if_neg (fun h=>hti h.symm)];exact he t (by simp only[ajk];omega)) t
  simp only[ajk];by_cases c:i+1<=t/\t<i+1+l.length
  ·rw[if_pos c] at this;rw[if_pos (by omega)];rw[show t-i=(t-(i+1))+1 from by omega,ajO];exact this
  ·rw[if_neg c] at this;by_cases ht:t=i
   ·subst ht;rw[if_pos rfl] at this;rw[if_pos (by omega)]
    simpa using this
   ·rw[if_neg ht] at this;rw[if_neg (by omega)];exact this
theorem qI {σ:Sg}{l:List AV}{us:Array Value}(h:ZU σ l us.toList)(k:Nat):TI σ (Zc 0 l .nil) (us++Array.replicate k Go.undef):=by
 intro (t:Nat);have:=LL l us.toList 0 .nil (fun _=>Go.undef) h (fun t _=>by
  show ZT σ (Env.get (Tr.nil:Tr AV) t) Go.undef;simp only[Env.get,Tr.get_nil];exact RH) t
 have hl:=h.length;have hl:l.length=us.size:=hl;simp only[aji,true_and,ajr,Nat.sub_zero] at this;rw[ajH,Array.getElem?_append];by_cases c:t<l.length
 ·rw[if_pos c] at this;rw[if_pos (by omega)]
  simpa using this
 ·rw[if_neg c] at this;rw[if_neg (by omega)];rw[Array.getElem?_replicate]
  split <;> simpa using this
end
end Go.Am
namespace Go.Am
open Go
section
variable [Stat]
variable {X:Cx}{P:Program}
mutual
theorem K8 {σ:Sg}:∀{v:AV} {u:Value},still v=true->ZT σ v u->ZT σ.bare v u
 |.bool _,_,_,k|.int _ _,_,_,k|.Cr _ _,_,_,k|.str _,_,_,k|.VI,_,_,k|.ZM,_,_,k|.QP,_,_,k|.Wt,_,_,k|.Ul,_,_,k=>by simpa only[ZT] using k
 |.ptr ..,_,h,_=>by simp[still] at h
 |.sl ..,_,h,_=>by simp[still] at h
 |.map _,_,h,_=>by simp[still] at h
 |.fn f x y,u,h,k=>by
  simp only[still,adm] at h;simp only[ZT] at k ⊢;obtain⟨f',x',y',e,h1,h2,h3⟩:=k;refine⟨f',x',y',e,?_,Ue h.1.2 h2,Ue h.2 h3⟩
  cases f <;> simp only[ajn,false_and,and_false] at h
  simpa only[Tw] using h1
 |.iface t x,u,h,k=>by
  simp only[still] at h;simp only[ZT] at k ⊢;obtain⟨y,e,r⟩:=k;exact⟨y,e,K8 h r⟩
 |.agg cs,u,h,k=>by
  simp only[still] at h;simp only[ZT] at k ⊢;obtain⟨y,e,r⟩:=k;exact⟨y,e,Ue h r⟩
 |.XF cs,u,h,k=>by
  simp only[still] at h;simp only[ZT] at k ⊢;obtain⟨y,e,r⟩:=k;exact⟨y,e,Ue h r⟩
 |.fz es,u,h,k=>by
  simp only[ZT] at k ⊢;exact k
 |.fp _ _,u,h,k=>by
  simp only[ZT] at k ⊢;exact k
 |.fm _ _,u,h,k=>by
  simp only[ZT] at k ⊢;exact k
theorem Ue {σ:Sg}:∀{v:List AV} {u:List Value},ZO v=true->ZU σ v u->ZU σ.bare v u
 |[],_,_,k=>by simpa only[ZU] using k
 |a::x,u,h,k=>by
  simp only[ZO,adm] at h;simp only[ZU] at k ⊢;obtain⟨v,y,e,h1,h2⟩:=k;exact⟨v,y,e,K8 h.1 h1,Ue h.2 h2⟩
end
mutual
theorem Mb {σ τ:Sg}:∀{v:AV} {u:Value},flat v=true->ZT σ v u->ZT τ v u
 |.bool _,_,_,k|.int _ _,_,_,k|.Cr _ _,_,_,k|.str _,_,_,k|.VI,_,_,k|.ZM,_,_,k|.QP,_,_,k|.Wt,_,_,k|.Ul,_,_,k=>by simpa only[ZT] using k
 |.ptr ..,_,h,_=>by simp[flat] at h
 |.sl ..,_,h,_=>by simp[flat] at h
 |.map _,_,h,_=>by simp[flat] at h
 |.fn f x y,u,h,k=>by
  simp only[flat,adm] at h;simp only[ZT] at k ⊢;obtain⟨f',x',y',e,h1,h2,h3⟩:=k;refine⟨f',x',y',e,?_,Re h.1.2 h2,Re h.2 h3⟩
  cases f <;> simp only[ajn,false_and,and_false] at h
  simpa only[Tw] using h1
 |.iface t x,u,h,k=>by
  simp only[flat] at h;simp only[ZT] at k ⊢;obtain⟨y,e,r⟩:=k;exact⟨y,e,Mb h r⟩
 |.agg cs,u,h,k=>by
  simp only[flat] at h;simp only[ZT] at k ⊢;obtain⟨y,e,r⟩:=k;exact⟨y,e,Re h r⟩
 |.XF cs,u,h,k=>by
  simp only[flat] at h;simp only[ZT] at k ⊢;obtain⟨y,e,r⟩:=k;exact⟨y,e,Re h r⟩
 |.fz es,u,h,k=>by simp[flat] at h
 |.fp _ _,u,h,k=>by simp[flat] at h
 |.fm _ _,u,h,k=>by simp[flat] at h
theorem Re {σ τ:Sg}:∀{v:List AV} {u:List Value},Mf v=true->ZU σ v u->ZU τ v u
 |[],_,_,k=>by simpa only[ZU] using k
 |a::x,u,h,k=>by
  simp only[Mf,adm] at h;simp only[ZU] at k ⊢;obtain⟨v,y,e,h1,h2⟩:=k;exact⟨v,y,e,Mb h.1 h1,Re h.2 h2⟩
end
theorem XV {σ τ:Sg}{f:AV->Option AV}(hf:∀a b u,f a=some b->ZT σ a u->ZT τ b u):∀{l r:List AV} {us:List Value},YT f l=some r->ZU σ l us->ZU τ r us
 |[],r,us,h,k=>by simp only[YT] at h;cases h;simpa only[ZU] using k
 |x::l,r,us,h,k=>by
  simp only[YT] at h
  split at h
  ·rename_i y r' h1 h2
   cases h
   simp only[ZU] at k ⊢;obtain⟨v,z,e,k1,k2⟩:=k;exact⟨v,z,e,hf _ _ _ h1 k1,XV hf h2 k2⟩
  ·cases h
def T6 (agg:Bool)(n:Nat):Nat->List Value->List Value
 |0,_=>[]
 |k+1,l=>(match agg,l with|false,x::_=>x|_,_=>.agg (l.take n).toArray)::T6 agg n k (l.drop n)
theorem Nu {σ:Sg}{ag:Bool}{n:Nat}(hn:n≠0)(ha:ag=false->n=1):∀(k:Nat) {r:List AV} {vs:List Value},ZU σ r vs->r.length=k*n->(ag=false->r.all Zx=true) ->
  ZU σ (Xs ag n k r) (T6 ag n k vs)/\(T6 ag n k vs).flatMap (fun u=>u.cells.toList)=vs/\(∀u∈T6 ag n k vs,u.cells.size=n)/\(T6 ag n k vs).length=k
 |0,r,vs,h,hl,_=>by
  have:r=[]:=by apply ajI.1;simpa using hl
  subst this;simp only[ZU] at h;subst h;simp[Xs,T6,ZU]
 |k+1,r,vs,h,hl,Tb=>by
  have J8:=h.length;have hdl:(r.drop n).length=k*n:=by rw[List.length_drop,hl,akf];omega
  obtain⟨i1,i2,i3,i4⟩:=Nu hn ha k (h.drop n) hdl (fun e=>by
   have:=Tb e;rw[ajq] at this ⊢;exact fun x hx=>this x (List.mem_of_mem_drop hx))
  have IT:n<=r.length:=by rw[hl,akf];omega
  have ads:=h.take n;have hlen:(vs.take n).length=n:=by rw[aj2];omega
  cases ag with
  |true =>
   simp only[Xs,T6,ZU,ajL,ajk];refine⟨⟨_,_,rfl,by simp only[ZT];exact⟨_,rfl,ads⟩,i1⟩,?_,?_,by rw[i4]⟩
   ·rw[i2];simp[Value.cells]
   ·intro u hu;rcases ajo.1 hu with rfl|hu
    ·simp only[Value.cells];simpa using hlen
    ·exact i3 u hu
  |false =>
   have hn1:=ha rfl;subst hn1
   cases r with
   |nil=>simp at IT
   |cons x r =>
    simp only[ZU] at h;obtain⟨v,y,rfl,h1,h2⟩:=h;have Ub:Zx x=true:=by have:=Tb rfl;simp only[List.all_cons,adm] at this;exact this.1
    have hc:=(S3 h1 Ub).1;simp only[Xs,T6,ZU,ajL,ajk] at i1 i2 i3 ⊢;refine⟨⟨_,_,rfl,h1,i1⟩,?_,?_,by rw[i4]⟩
    ·rw[i2,hc];simp
    ·intro u hu;rcases ajo.1 hu with rfl|hu
     ·rw[hc];rfl
     ·exact i3 u hu
theorem JA {σ τ:Sg}{s:St}{w:World}(H:HR σ s w)(hz:∀b o,σ.fz b=some o->τ.fz b=some o)(ho:∀i p b o,σ i=some p->s.look i=some b->b.own=true->w.heap[p.b]? = some o->τ.fz p.b=some o) :
  ∀(d:Nat) (v v':AV) (u:Value),Yc X s d v=some v'->ZT σ v u->ZT τ.bare v' u
 |0,v,v',u,h,_=>by simp[Yc] at h
 |d+1,v,v',u,h,k=>by
  have ih:=JA H hz ho d;have hle:Sg.le σ.bare τ.bare:=⟨fun _ _ h=>by simp[Sg.bare] at h,hz⟩;have same:still v=true->ZT τ.bare v u:=fun hs=>ZT.mono hle _ _ (K8 hs k)
  cases v with
  |ptr b o =>
   simp only[Yc] at h
   split at h
   ·rename_i c e lo hi hg
    split at h
    ·rename_i c' J7
     cases h
     obtain⟨p,hp,rfl⟩:=Xm k;have hl:=St.X_ hg (by simp);obtain⟨cc,fz,h1,h2,h3,h4,_⟩:=H.cells hp hl;have NA:=ho _ _ _ _ hp hl rfl h1;obtain⟨vs,r1,r2⟩:=H.row (s:=s) (c:=c) hp (by simp[St.cells,hg]) c 0 (fun i a ha=>by simpa using ha);simp only[ZT];refine⟨p.b,p.sh,vs,cc,e,fz,rfl,NA,XV ih J7 r1,fun i u hu=>?_⟩;have:=r2 i u hu;rw[XZ h1] at this
     simpa using this
    ·cases h
   ·cases h
  |sl b o len cap Wa =>
   simp only[Yc] at h
   split at h
   ·rename_i c e lo hi hg
    split at h
    ·rename_i r ag n hr F1 hs
     split at h
     ·rename_i hc;obtain⟨rfl,hn,Sp⟩:=hc
      split at h
      ·rename_i es hes
       cases h
       obtain⟨a,k',rfl,hlen,⟨p,hp,Cu,_⟩,_⟩:=T8 k;have hl:=St.X_ hg (by simp);obtain⟨cc,fz,h1,h2,h3,h4,_⟩:=H.cells hp hl;have NA:=ho _ _ _ _ hp hl rfl h1;obtain⟨vs,r1,r2⟩:=H.row (s:=s) (c:=c) hp (by simp[St.cells,hg]) r o (fun i a ha=>RA hr ha);have vQ:=(Xc hr).1;obtain⟨q1,q2,q3,q4⟩:=Nu hn (fun e=>(Sp e).1) len r1 vQ (fun e=>(Sp e).2);have q5:=XV ih hes q1;have aao:es.length=len:=by rw[q5.length,q4]
       simp only[ZT];refine⟨a,k',T6 ag Wa len vs,by rw[aao],by omega,q5,?_⟩;by_cases gF:len=0
       ·subst gF;exact .inl rfl
       ·right
        have:=Cu (by omega);subst this;refine⟨rfl,cc,e,fz,Wa,NA,hn,q3,fun i v hv=>?_⟩;rw[q2] at hv;have:=r2 i v hv;rw[XZ h1] at this;exact this
      ·cases h
     ·cases h
    ·cases h
   ·cases h
  |map r =>
   simp only[Yc] at h
   split at h
   ·rename_i es hg
    split at h
    ·rename_i ks vs hk hv
     cases h
     obtain⟨p,hp,rfl⟩:=PK k;obtain⟨Wc,clock,g1,g2⟩:=H.map hp hg;have NA:=ho _ _ _ _ hp (St.X_ hg (by simp)) rfl g1;have key:∀(es:List (AV×AV)) (l:List MapEntry),ZL σ es l->ZU σ (es.map (·.1)) (l.map MapEntry.key)/\ZU σ (es.map (·.2)) (l.map MapEntry.val):=by
      intro es
      induction es with
      |nil=>intro l hl;simp only[ZL] at hl;subst hl;simp[ZU]
      |cons a es ihe =>
       intro l hl;obtain⟨x,y⟩:=a;simp only[ZL] at hl;obtain⟨m,r,rfl,e1,e2,e3⟩:=hl;obtain⟨j1,j2⟩:=ihe r e3;simp only[aju,ZU];exact⟨⟨_,_,rfl,e1,j1⟩,⟨_,_,rfl,e2,j2⟩⟩
     obtain⟨j1,j2⟩:=key _ _ g2;simp only[ZT];exact⟨p.b,Wc,clock,rfl,NA,XV ih hk j1,XV ih hv j2⟩
    ·cases h
   ·cases h
  |fn f x y =>
   simp only[Yc] at h
   split at h
   ·rename_i g
    split at h
    ·rename_i x' y' hx hy
     cases h
     simp only[ZT] at k ⊢;obtain⟨f',x1,y1,e,h1,h2,h3⟩:=k;simp only[Tw] at h1 ⊢;exact⟨f',x1,y1,e,h1,XV ih hx h2,XV ih hy h3⟩
    ·cases h
   ·cases h
  |iface t x =>
   simp only[Yc] at h
   split at h
   ·rename_i x' hx
    cases h
    simp only[ZT] at k ⊢;obtain⟨y,e,r⟩:=k;exact⟨y,e,ih _ _ _ hx r⟩
   ·cases h
  |agg cs =>
   simp only[Yc] at h
   split at h
   ·rename_i x' hx
    cases h
    simp only[ZT] at k ⊢;obtain⟨y,e,r⟩:=k;exact⟨y,e,XV ih hx r⟩
   ·cases h
  |XF cs =>
   simp only[Yc] at h
   split at h
   ·rename_i x' hx
    cases h
    simp only[ZT] at k ⊢;obtain⟨y,e,r⟩:=k;exact⟨y,e,XV ih hx r⟩
   ·cases h
  |_=>simp only[Yc] at h;cases h;exact same rfl
theorem AY {σ τ:Sg}{s:St}{w:World}(H:HR σ s w)(ho:∀i p b o,σ i=some p->s.look i=some b->b.own=true->w.heap[p.b]? = some o->τ.fz p.b=some o) :
  ∀(d:Nat) (v v':AV) (u:Value),Xy X s d v=some v'->ZT σ v u->ZT τ.bare v' u
 |0,v,v',u,h,_=>by simp[Xy] at h
 |d+1,v,v',u,h,k=>by
  have ih:=AY H ho d;have same:flat v=true->ZT τ.bare v u:=fun hs=>Mb hs k
  cases v with
  |ptr b o =>
   simp only[Xy] at h
   split at h
   ·rename_i c e lo hi hg
    split at h
    ·rename_i c' J7
     cases h
     obtain⟨p,hp,rfl⟩:=Xm k;have hl:=St.X_ hg (by simp);obtain⟨cc,fz,h1,h2,h3,h4,_⟩:=H.cells hp hl;have NA:=ho _ _ _ _ hp hl rfl h1;obtain⟨vs,r1,r2⟩:=H.row (s:=s) (c:=c) hp (by simp[St.cells,hg]) c 0 (fun i a ha=>by simpa using ha);simp only[ZT];refine⟨p.b,p.sh,vs,cc,e,fz,rfl,NA,XV ih J7 r1,fun i u hu=>?_⟩;have:=r2 i u hu;rw[XZ h1] at this
     simpa using this
    ·cases h
   ·cases h
  |sl b o len cap Wa =>
   simp only[Xy] at h
   split at h
   ·rename_i c e lo hi hg
    split at h
    ·rename_i r ag n hr F1 hs
     split at h
     ·rename_i hc;obtain⟨rfl,hn,Sp⟩:=hc
      split at h
      ·rename_i es hes
       cases h
       obtain⟨a,k',rfl,hlen,⟨p,hp,Cu,_⟩,_⟩:=T8 k;have hl:=St.X_ hg (by simp);obtain⟨cc,fz,h1,h2,h3,h4,_⟩:=H.cells hp hl;have NA:=ho _ _ _ _ hp hl rfl h1;obtain⟨vs,r1,r2⟩:=H.row (s:=s) (c:=c) hp (by simp[St.cells,hg]) r o (fun i a ha=>RA hr ha);have vQ:=(Xc hr).1;obtain⟨q1,q2,q3,q4⟩:=Nu hn (fun e=>(Sp e).1) len r1 vQ (fun e=>(Sp e).2);have q5:=XV ih hes q1;have aao:es.length=len:=by rw[q5.length,q4]
       simp only[ZT];refine⟨a,k',T6 ag Wa len vs,by rw[aao],by omega,q5,?_⟩;by_cases gF:len=0
       ·subst gF;exact .inl rfl
       ·right
        have:=Cu (by omega);subst this;refine⟨rfl,cc,e,fz,Wa,NA,hn,q3,fun i v hv=>?_⟩;rw[q2] at hv;have:=r2 i v hv;rw[XZ h1] at this;exact this
      ·cases h
     ·cases h
    ·cases h
   ·cases h
  |map r =>
   simp only[Xy] at h
   split at h
   ·rename_i es hg
    split at h
    ·rename_i ks vs hk hv
     cases h
     obtain⟨p,hp,rfl⟩:=PK k;obtain⟨Wc,clock,g1,g2⟩:=H.map hp hg;have NA:=ho _ _ _ _ hp (St.X_ hg (by simp)) rfl g1;have key:∀(es:List (AV×AV)) (l:List MapEntry),ZL σ es l->ZU σ (es.map (·.1)) (l.map MapEntry.key)/\ZU σ (es.map (·.2)) (l.map MapEntry.val):=by
      intro es
      induction es with
      |nil=>intro l hl;simp only[ZL] at hl;subst hl;simp[ZU]
      |cons a es ihe =>
       intro l hl;obtain⟨x,y⟩:=a;simp only[ZL] at hl;obtain⟨m,r,rfl,e1,e2,e3⟩:=hl;obtain⟨j1,j2⟩:=ihe r e3;simp only[aju,ZU];exact⟨⟨_,_,rfl,e1,j1⟩,⟨_,_,rfl,e2,j2⟩⟩
     obtain⟨j1,j2⟩:=key _ _ g2;simp only[ZT];exact⟨p.b,Wc,clock,rfl,NA,XV ih hk j1,XV ih hv j2⟩
    ·cases h
   ·cases h
  |fn f x y =>
   simp only[Xy] at h
   split at h
   ·rename_i g
    split at h
    ·rename_i x' y' hx hy
     cases h
     simp only[ZT] at k ⊢;obtain⟨f',x1,y1,e,h1,h2,h3⟩:=k;simp only[Tw] at h1 ⊢;exact⟨f',x1,y1,e,h1,XV ih hx h2,XV ih hy h3⟩
    ·cases h
   ·cases h
  |iface t x =>
   simp only[Xy] at h
   split at h
   ·rename_i x' hx
    cases h
    simp only[ZT] at k ⊢;obtain⟨y,e,r⟩:=k;exact⟨y,e,ih _ _ _ hx r⟩
   ·cases h
  |agg cs =>
   simp only[Xy] at h
   split at h
   ·rename_i x' hx
    cases h
    simp only[ZT] at k ⊢;obtain⟨y,e,r⟩:=k;exact⟨y,e,XV ih hx r⟩
   ·cases h
  |XF cs =>
   simp only[Xy] at h
   split at h
   ·rename_i x' hx
    cases h
    simp only[ZT] at k ⊢;obtain⟨y,e,r⟩:=k;exact⟨y,e,XV ih hx r⟩
   ·cases h
  |fz _=>simp[Xy] at h
  |fp _ _=>simp[Xy] at h
  |fm _ _=>simp[Xy] at h
  |_=>simp only[Xy] at h;cases h;exact same rfl
end
end Go.Am
namespace Go.Am
open Go
section
variable [Stat]
variable {X:Cx}{P:Program}
theorem LR (hX:Wb X P){F:Fence}{n:Nat}{UD σ:Sg}{s0 s:St}{w0:World}{e:Env}{fn:Func}{v:AV}{tmps:Array Value}(E:TI σ e tmps)(Hs:U1 X fn e s=some v) :
  ∀(rs:List Nat) (w:World),Good UD s0 w0 σ s w->rs.Nodup->(∀r∈rs,w0.heap.size<=r/\w.heap[r]? = some (.deferred (some []))/\(∀i p,σ i=some p->p.b≠r)/\σ.fz r=none) ->
   LeavesInM F n P fn tmps (fun en w'=>∃u YE,en=.returned u/\ZT YE v u/\Good UD s0 w0 YE s w') (rs.map fun r=>({ target:=.collected r,args:=#[] }:Deferred)) .returning w
 |[],w,g,_,_=>by
  obtain⟨u,h1,h2⟩:=Ab (P:=P) hX g.hr E Hs;exact⟨u,h1,u,σ,rfl,h2,g⟩
 |r::rs,w,g,hn,hm=>by
  obtain⟨h1,h2,h3,h4⟩:=hm r (aba ..);refine⟨by simp,.inl ⟨r,w.putObj r (.deferred none),rfl,run_takeDeferred h2,?_⟩⟩;rw[aj8] at hn;refine LR hX E Hs rs _ (g.abD h1 h3 h4 _) hn.2 fun r' UM=>?_
  obtain⟨g1,g2,g3⟩:=hm r' (aab _ UM);refine⟨g1,?_,g3⟩;show (w.heap.setIfInBounds r _)[r']? = _;rw[akh,if_neg (fun h:r=r'=>hn.1 (by rw[h];exact UM))];exact g2
theorem Sm (hX:Full X P){ex:Ex}(hE:M5 X P ex){f:FuncId}{args:List AV}{s s':St}{v:AV}(h:Po X ex f args s=some (v,s')){σ:Sg}{w:World}{us:Array Value}
  (H:HR σ s w)(F:TY σ s)(G:WR X σ)(hv:ZU σ args us.toList) :
  (callFunc f us).run P w=.ok (.enter f us) w/\Calls P f us w fun en w'=>∃u YE,en=.returned u/\ZT YE v u/\Good σ s w YE s' w':=by
 unfold Po at h
 split at h
 ·rename_i fn pU
  split at h
  ·rename_i c hb;have hf:=hX.fn f fn pU;refine⟨?_,?_⟩
   ·have yY:¬fn.name = "runtime.NumGoroutine":=by have:=hX.nm f fn pU;simpa using this
    simp[callFunc,Sem.run_bind,Result.andThen,hf,yY,hb]
   ·refine callsIn_wide.1 (callsIn_of_wp_marks (F:=FW none) (n:=0) hf hb trivial ?_);have I:Inv X σ s w w.heap.size (Zc 0 args .nil) { tmps:=us++Array.replicate (fn.ntmps-us.size) Go.undef,defers:=[] } :=
     ⟨H,F,G,qI hv _,DF.nil _ _ _,ajg _⟩
    have Ya:pT X none (us++Array.replicate (fn.ntmps-us.size) Go.undef).size c:=⟨fn.ntmps,by simp;omega,hX.fok f fn c pU hb,by simp⟩;have key:∀out e s1,ex c (Zc 0 args .nil) s=some (out,e,s1)->out=.norm\/out=.ret->U1 X fn e s1=some v->s1=s' ->
      c.wpIn (FW none) 0 P (bodyPostM (FW none) 0 P fn fun en w'=>∃u YE,en=.returned u/\ZT YE v u/\Good σ s w YE s' w') { tmps:=us++Array.replicate (fn.ntmps-us.size) Go.undef,defers:=[] } w:=by
     intro out e s1 hex NG Hs hs;subst hs;refine wpIn_mono (hE c _ _ _ _ _ hex none _ _ w σ Ya I).wpIn ?_;rintro en a' w' ⟨hx,YE,g,i',_⟩;have hl:LeavesInM (FW none) 0 P fn a'.tmps (fun en w'=>∃u YE,en=.returned u/\ZT YE v u/\Good σ s w YE s1 w') a'.defers .returning w':=by
      obtain⟨rs,FB,hn,hm⟩:=i'.df;rw[FB];exact LR hX.toWb i'.env Hs rs w' g hn hm
     rcases NG with rfl|rfl <;> cases en <;> simp only[Sl] at hx
     ·exact hl
     ·exact hl
    split at h
    ·rename_i e s1 hex
     split at h
     ·rename_i u Hs;cases h;exact key _ _ _ hex (.inl rfl) Hs rfl
     ·cases h
    ·rename_i e s1 hex
     split at h
     ·rename_i u Hs;cases h;exact key _ _ _ hex (.inr rfl) Hs rfl
     ·cases h
    ·cases h
  ·cases h
 ·cases h
def Sg.low (σ:Sg)(n:Nat)(z:Nat->Option Obj):Sg:={ m:=fun i=>if i<n then σ i else none,fz:=z }
theorem O5 {σ:Sg}{n:Nat}{z:Nat->Option Obj}{i:Nat}{p:Pl}(h:(σ.low n z) i=some p):i<n/\σ i=some p:=by
 unfold Sg.low at h;simp only at h
 split at h
 ·exact⟨‹_›,h⟩
 ·cases h
theorem wO {σ:Sg}{w:World}(G:WR X σ)(YH:∀i p,σ i=some p->p.b<w.heap.size)(hg:∀c o,σ.fz c=some o->w.heap[c]? = some o)(z:Nat->Option Obj)(hz:∀c o,σ.fz c=some o->z c=some o)(jE:∀c o,z c=some o->w.heap[c]? = some o)
  (hb:∀i b,X.Na i=some b->b≠.gone):HR (σ.low X.glob z) (Yl X) w/\TY (σ.low X.glob z) (Yl X)/\WR X (σ.low X.glob z)/\∀c,¬Rv (σ.low X.glob z) (Yl X) c:=by
 have hle:Sg.le σ.bare (σ.low X.glob z).bare:=⟨fun _ _ h=>by simp[Sg.bare] at h,hz⟩;have look:∀i b,(Yl X).look i=some b->X.Na i=some b:=by
  intro i b h;unfold St.look St.get Yl at h;simp only[Tr.get_nil] at h
  split at h
  ·cases h
  ·exact h
 have Tb:∀c,¬Rv (σ.low X.glob z) (Yl X) c:=by
  rintro c ⟨i,p,b,hp,hl,ho,_⟩;obtain⟨hi,_⟩:=O5 hp;obtain⟨n,_,TM⟩:=G i hi;rw[(TM b (look i b hl)).1] at ho;cases ho
 refine⟨⟨fun i p hp=>YH i p (O5 hp).2,fun i p b hp hl=>?_,fun i j p q b c hp hq hl D3 he=>?_,fun c o hc=>⟨jE c o hc,Tb c⟩⟩,fun i hi=>?_,fun g hgl=>?_,Tb⟩
 ·obtain⟨hi,hs⟩:=O5 hp;obtain⟨n,hn,TM⟩:=G i hi;rw[hn] at hs;cases hs;obtain⟨_,o,ho,zh⟩:=TM b (look i b hl);exact⟨o,hg _ _ ho,(zh.mono hle).mono (Sg.Uv _)⟩
 ·obtain⟨hi,hs⟩:=O5 hp;obtain⟨hj,ht⟩:=O5 hq;obtain⟨n,hn,_⟩:=G i hi;obtain⟨m,hm,_⟩:=G j hj;rw[hn] at hs;cases hs;rw[hm] at ht;cases ht;exact he
 ·show (if i<X.glob then σ i else none)=none;rw[if_neg];exact Nat.not_lt.2 hi
 ·obtain⟨n,hn,TM⟩:=G g hgl;refine⟨n,?_,fun b Un=>?_⟩
  ·show (if g<X.glob then σ g else none)=_;rw[if_pos hgl];exact hn
  ·obtain⟨h1,o,h2,h3⟩:=TM b Un;exact⟨h1,o,hz _ _ h2,h3.mono hle⟩
theorem Hj {σ UD JM Cq:Sg}{s t t':St}{w w':World}(H:HR σ s w)(g:Good UD t w JM t' w')(Tb:∀c,¬Rv UD t c)(hm:Cq.m=σ.m)(h1:∀c o,σ.fz c=some o->Cq.fz c=some o)
  (h2:∀c o,Cq.fz c=some o->σ.fz c=some o\/(w.heap.size<=c/\w'.heap[c]? = some o)):Good σ s w Cq s w':=by
 have hle:Sg.le σ Cq:=⟨fun i p hp=>by rw[hm];exact hp,h1⟩;have keep:∀c,c<w.heap.size->w'.heap[c]? = w.heap[c]? := fun c hc=>g.ext.keep c hc (Tb c)
 have own:∀c,Rv Cq s c->Rv σ s c:=fun c ⟨i,p,b,hp,hl,ho,he⟩=>⟨i,p,b,by rw[hm] at hp;exact hp,hl,ho,he⟩
 refine⟨⟨fun i p hp=>?_,fun i p b hp hl=>?_,fun i j p q b c hp hq=>?_,fun c o hc=>?_⟩,⟨hle,fun c o hc=>?_,g.ext.size,fun c hc _=>keep c hc,fun c _ ho=>own c ho,g.ext.os,g.ext.tape,g.ext.output⟩,fun i _=>by rw[hm],ajg _,fun _ _ h=>h,fun i p hp hn=>?_,rfl⟩
 ·rw[hm] at hp;exact Nat.lt_of_lt_of_le (H.lt i p hp) g.ext.size
 ·rw[hm] at hp;obtain⟨o,ho,zh⟩:=H.Gv i p b hp hl;exact⟨o,by rw[keep _ (H.lt i p hp)];exact ho,zh.mono hle⟩
 ·rw[hm] at hp hq;exact H.inj i j p q b c hp hq
 ·rcases h2 c o hc with hs|⟨Gu,hs⟩
  ·obtain⟨k1,k2⟩:=H.fz c o hs;have YH:c<w.heap.size:=(ajd.1 k1).1;exact⟨by rw[keep c YH];exact k1,fun ho=>k2 (own c ho)⟩
  ·refine⟨hs,fun ho=>?_⟩;obtain⟨i,p,b,hp,_,_,he⟩:=own c ho;have:=H.lt i p hp;omega
 ·rcases h2 c o hc with hs|⟨Gu,_⟩
  ·exact .inl hs
  ·exact .inr Gu
 ·rw[hm,hn] at hp;cases hp
theorem Aa (hX:Full X P){ex:Ex}(hE:M5 X P ex){f:FuncId}{args:List AV}{s s':St}{v:AV}(h:PA X ex f args s=some (v,s')){σ:Sg}{w:World}{us:Array Value}
  (H:HR σ s w)(F:TY σ s)(G:WR X σ)(hv:ZU σ args us.toList) :
  (callFunc f us).run P w=.ok (.enter f us) w/\Calls P f us w fun en w'=>∃u YE,en=.returned u/\ZT YE v u/\Good σ s w YE s' w':=by
 have hg:∀c o,σ.fz c=some o->w.heap[c]? = some o:=fun c o hc=>(H.fz c o hc).1
 unfold PA at h
 split at h
 ·rename_i uR Hi
  split at h
  ·rename_i v1 hq
   cases h
   unfold UN at hq
   split at hq
   ·rename_i v2 s1 Vg;unfold VF at Hi
    split at Hi
    ·rename_i WY
     cases Hi
     rw[WY] at hq;simp only[if_true] at hq;obtain⟨a1,a2,a3,a4⟩:=wO (X:=X) G H.lt hg σ.fz (fun _ _ h=>h) hg hX.gb;have Pa:ZU (σ.low X.glob σ.fz) args us.toList:=ZU.mono (show Sg.le σ.bare (σ.low X.glob σ.fz) from⟨fun _ _ h=>by simp[Sg.bare] at h,fun _ _ h=>h⟩) _ _ (Ue WY hv);obtain⟨c1,c2⟩:=Sm hX hE Vg a1 a2 a3 Pa;refine⟨c1,Calls.mono c2 ?_⟩;rintro en w' ⟨u,JM,rfl,hu,g⟩;have lq:∀b o,σ.fz b=some o->b<w.heap.size:=fun b o hb=>(ajd.1 (hg b o hb)).1
     let z:Nat->Option Obj:=fun b=>match σ.fz b with|some o=>some o|none=>if w.heap.size<=b then w'.heap[b]? else none
     have zp:∀b o,σ.fz b=some o->z b=some o:=fun b o hb=>by simp only[z,hb]
     have oO:∀b o,w.heap.size<=b->w'.heap[b]? = some o->z b=some o:=fun b o hb ho=>by
      cases hs:σ.fz b with
      |some o'=>have:=lq b o' hs;omega
      |none=>simp only[z,hs];rw[if_pos hb];exact ho
     have hz3:∀b o,z b=some o->σ.fz b=some o\/(w.heap.size<=b/\w'.heap[b]? = some o):=fun b o hb=>by
      simp only[z] at hb
      cases hs:σ.fz b with
      |some o'=>rw[hs] at hb;exact .inl hb
      |none =>
       rw[hs] at hb;simp only at hb
       split at hb
       ·exact .inr ⟨‹_›,hb⟩
       ·cases hb
     refine⟨u,{ m:=σ.m,fz:=z },rfl,?_,Hj H g a4 rfl zp hz3⟩;have:=JA (X:=X) (τ:={ m:=σ.m,fz:=z }) g.hr (fun b o hb=>?_) (fun i p b o hp hl TH ho=>?_) _ _ _ _ hq hu
     ·exact ZT.mono (Sg.Uv _) _ _ this
     ·rcases g.ext.vy b o hb with TM|TM
      ·exact zp b o TM
      ·exact oO b o TM (g.hr.fz b o hb).1
     ·refine oO _ _ (Nat.le_of_not_lt fun YH=>?_) ho;exact a4 _ (g.ext.owns _ YH ⟨i,p,b,hp,hl,TH,rfl⟩)
    ·rename_i WY;rw[if_neg WY] at hq
     split at hq
     ·rename_i Lt
      cases hq
      obtain⟨a1,a2,a3,a4⟩:=wO (X:=X) G H.lt hg (fun c=>w.heap[c]?) hg (fun _ _ h=>h) hX.gb;have Pa:ZU (σ.low X.glob fun c=>w.heap[c]?) uR us.toList:=by
       have:=XV (τ:=(σ.low X.glob fun c=>w.heap[c]?).bare) (JA (X:=X) H hg (fun i p b o _ _ _ ho=>ho) _) Hi hv;exact ZU.mono (Sg.Uv _) _ _ this
      obtain⟨c1,c2⟩:=Sm hX hE Vg a1 a2 a3 Pa;refine⟨c1,Calls.mono c2 ?_⟩;rintro en w' ⟨u,JM,rfl,hu,g⟩;exact⟨u,σ,rfl,Mb Lt hu,Hj H g a4 rfl (fun _ _ h=>h) (fun _ _ h=>.inl h)⟩
     ·obtain⟨a1,a2,a3,a4⟩:=wO (X:=X) G H.lt hg (fun c=>w.heap[c]?) hg (fun _ _ h=>h) hX.gb;have Pa:ZU (σ.low X.glob fun c=>w.heap[c]?) uR us.toList:=by
       have:=XV (τ:=(σ.low X.glob fun c=>w.heap[c]?).bare) (JA (X:=X) H hg (fun i p b o _ _ _ ho=>ho) _) Hi hv;exact ZU.mono (Sg.Uv _) _ _ this
      obtain⟨c1,c2⟩:=Sm hX hE Vg a1 a2 a3 Pa;refine⟨c1,Calls.mono c2 ?_⟩;rintro en w' ⟨u,JM,rfl,hu,g⟩;have lq:∀b o,σ.fz b=some o->b<w.heap.size:=fun b o hb=>(ajd.1 (hg b o hb)).1
      let z:Nat->Option Obj:=fun b=>match σ.fz b with|some o=>some o|none=>if w.heap.size<=b then w'.heap[b]? else none
      have zp:∀b o,σ.fz b=some o->z b=some o:=fun b o hb=>by simp only[z,hb]
      have oO:∀b o,w.heap.size<=b->w'.heap[b]? = some o->z b=some o:=fun b o hb ho=>by
       cases hs:σ.fz b with
       |some o'=>have:=lq b o' hs;omega
       |none=>simp only[z,hs];rw[if_pos hb];exact ho
      have hz3:∀b o,z b=some o->σ.fz b=some o\/(w.heap.size<=b/\w'.heap[b]? = some o):=fun b o hb=>by
       simp only[z] at hb
       cases hs:σ.fz b with
       |some o'=>rw[hs] at hb;exact .inl hb
       |none =>
        rw[hs] at hb;simp only at hb
        split at hb
        ·exact .inr ⟨‹_›,hb⟩
        ·cases hb
      refine⟨u,{ m:=σ.m,fz:=z },rfl,?_,Hj H g a4 rfl zp hz3⟩;have:=AY (X:=X) (τ:={ m:=σ.m,fz:=z }) g.hr (fun i p b o hp hl TH ho=>?_) _ _ _ _ hq hu
      ·exact ZT.mono (Sg.Uv _) _ _ this
      ·refine oO _ _ (Nat.le_of_not_lt fun YH=>?_) ho;exact a4 _ (g.ext.owns _ YH ⟨i,p,b,hp,hl,TH,rfl⟩)
   ·cases hq
  ·cases h
 ·cases h
theorem O4 (hX:Full X P){ex:Ex}(hE:M5 X P ex){f:FuncId}(MY:X.ext f=none){args:List AV}{s s':St}{v:AV}(h:UG X ex f args s=some (v,s')){σ:Sg}{w:World}{us:Array Value}
  (H:HR σ s w)(F:TY σ s)(G:WR X σ)(hv:ZU σ args us.toList) :
  (callFunc f us).run P w=.ok (.enter f us) w/\Calls P f us w fun en w'=>∃u YE,en=.returned u/\ZT YE v u/\Good σ s w YE s' w':=by
 unfold UG at h;rw[MY] at h;simp only at h
 split at h
 ·exact Aa hX hE h H F G hv
 ·exact Sm hX hE h H F G hv
theorem lj (hX:Full X P){ex:Ex}(hE:M5 X P ex)(f:FuncId):nq X P f (UG X ex f):=by
 intro args s v s' σ w us h H F G hv
 cases MY:X.ext f with
 |none =>
  obtain⟨h1,h2⟩:=O4 hX hE MY h H F G hv;rw[h1];refine Calls.mono h2 ?_;rintro en w' ⟨u,YE,rfl,h3,h4⟩;exact⟨u,rfl,YE,h3,h4⟩
 |some g =>
  unfold UG at h;rw[MY] at h;exact hX.ext f g MY args s v s' σ w us h H F G hv
theorem Hh {σ:Sg}:∀(ps:List Tmp) (as:List AV) (us:List Value) (e:Env) (tmps:Array Value),TI σ e tmps->ZU σ as us->(∀t∈ps,t<tmps.size) ->
  TI σ ((ps.zip as).foldl (fun e (t,a)=>Tr.set e t a) e) ((ps.zip us).foldl (fun tmps (t,a)=>tmps.setIfInBounds t a) tmps)/\((ps.zip us).foldl (fun tmps (t,a)=>tmps.setIfInBounds t a) tmps).size=tmps.size
 |[],as,us,e,tmps,h,_,_=>⟨h,rfl⟩
 |p::ps,[],us,e,tmps,h,hv,_=>by
  simp only[ZU] at hv;subst hv;exact⟨h,rfl⟩
 |p::ps,a::as,us,e,tmps,h,hv,hp=>by
  simp only[ZU] at hv;obtain⟨u,us,rfl,h1,h2⟩:=hv;simp only[List.zip_cons_cons,List.foldl_cons];have:=Hh ps as us (Tr.set e p a) (tmps.setIfInBounds p u) (h.put (hp p (aba ..)) h1) h2 (fun t ht=>by simpa using hp t (aab _ ht));exact⟨this.1,by simpa using this.2⟩
theorem lh (ps:Array Tmp)(us tmps:Array Value):(ps.zip us).foldl (fun tmps (t,a)=>tmps.setIfInBounds t a) tmps=(ps.toList.zip us.toList).foldl (fun tmps (t,a)=>tmps.setIfInBounds t a) tmps:=by
 rw[<-Array.foldl_toList,Array.toList_zip]
theorem Hg {σ:Sg}{s:St}{w:World}(H:HR σ s w){l:Nat}{p:Pl}(hp:σ l=some p){st:Nat}{pe:Option Code}{env:Env}{ps:List Tmp}{as bo:Code}(hg:s.get l=some (.loop st pe env ps as bo))
  {r:Loop}(hr:w.heap[p.b]? = some (.loop r))(st':Nat)(pe':Option Code) :
  Good σ s w σ (s.put l (.loop st' pe' env ps as bo)) (w.putObj p.b (.loop { r with state:=Td st',pending:=pe' })):=by
 have hl:s.look l=some (.loop st pe env ps as bo):=St.X_ hg (by simp);obtain⟨o,ho,zh⟩:=H.Gv l p _ hp hl;rw[hr] at ho;cases ho;have YH:=H.lt l p hp;simp only[BR] at zh;obtain⟨_,_,h3⟩:=zh;refine Good.put H hp hl rfl (by simp) (by simp[World.putObj]) (fun c hc=>World.putObj_heap_other hc) (World.putObj_heap_same YH) ?_ rfl rfl rfl;show BR σ p (.loop st' pe' env ps as bo) _;unfold BR;exact⟨rfl,rfl,h3⟩
theorem LQ {σ:Sg}{s:St}{w:World}(H:HR σ s w){l:Nat}{p:Pl}(hp:σ l=some p){st:Nat}{pe:Option Code}{env:Env}{ps:List Tmp}{as bo:Code}(hg:s.get l=some (.loop st pe env ps as bo)) :
  ∃r:Loop,w.heap[p.b]? = some (.loop r)/\BR σ p (.loop st pe env ps as bo) (.loop r):=by
 have hl:s.look l=some (.loop st pe env ps as bo):=St.X_ hg (by simp);obtain⟨o,ho,zh⟩:=H.Gv l p _ hp hl
 cases o <;> simp only[BR] at zh
 exact⟨_,ho,zh⟩
theorem Hf {l:Nat}{o:Out}{e:Env}{q:List Tmp}{a b:Code}{s s':St}{v:AV}(h:Oz l o e q a b s=some (v,s')) :
  ∃j:Option Code,v=.bool j.isNone/\s'=s.put l (.loop (if j.isNone then 0 else 2) j e q a b)/\(match o with|.norm=>j=none|.exit i=>j=some (.exit i)|.ret=>j=some .ret):=by
 cases o <;> simp only[Oz] at h <;> cases h
 ·exact⟨none,rfl,rfl,rfl⟩
 ·exact⟨some (.exit _),rfl,rfl,rfl⟩
 ·exact⟨some .ret,rfl,rfl,rfl⟩
theorem lg (hX:Full X P){ex:Ex}(hE:M5 X P ex){l:Nat}{args:List AV}{s s':St}{v:AV}(h:HW ex l args s=some (v,s')){σ:Sg}{w:World}{us:Array Value}{p:Pl}(hp:σ l=some p)
  (H:HR σ s w)(F:TY σ s)(G:WR X σ)(hv:ZU σ args us.toList){ro:Option Nat} :
  ∃f tmps assign body,(Instr.yield p.b us).run P w=.ok (.round p.b f tmps assign body) w /\
   RoundIn (FW ro) 0 P p.b f tmps assign body w fun en w'=>∃u YE,en=.returned u/\ZT YE v u/\Good σ s w YE s' w':=by
 unfold HW at h
 split at h
 ·rename_i pe env params assign body hg;obtain⟨r,hr,zh⟩:=LQ H hp hg;simp only[BR] at zh;obtain⟨b1,b2,b3,b4,b5,b6,b7,b8,b9⟩:=zh
  split at h
  ·rename_i hlen;have Wh:us.size=r.params.size:=by
    have h1:=hv.length;have h2:us.toList.length=us.size:=rfl;have h3:r.params.toList.length=r.params.size:=rfl;rw[<-h2,<-h3,<-h1,hlen,b4]
   refine⟨_,_,_,_,run_yield hr Wh,?_⟩;rw[lh,b4,b5,b6];obtain⟨e1,e2⟩:=Hh params args us.toList env r.tmps b3 hv b9;refine roundIn_of_wpIn trivial ?_;have I:Inv X σ s w w.heap.size ((params.zip args).foldl (fun e (t,a)=>Tr.set e t a) env) { tmps:=(params.zip us.toList).foldl (fun tmps (t,a)=>tmps.setIfInBounds t a) r.tmps,defers:=[] } :=
    ⟨H,F,G,e1,DF.nil _ _ _,ajg _⟩
   have cok:∀c,Stat.ok r.tmps.size c->∀m,m=r.tmps.size->pT X (some p.b) m c:=by
    intro c hc m hm;subst hm;obtain⟨n,h1,h2,h3⟩:=(hX.stat _ _).1 hc;exact⟨n,h1,h2,fun _=>h3⟩
   simp only at h
   split at h
   ·rename_i nU s1 ahF
    split at h
    ·rename_i p1 JB q1 a1 c1 su
     split at h
     ·rename_i o2 oR s2 ahG
      split at h
      ·rename_i st3 p3 en3 q3 a3 c3 hg2;have B6:=(hE _ _ _ _ _ _ ahF (some p.b) _ _ w σ (cok assign b7 _ e2) I).wpIn;refine wpIn_mono B6 ?_;rintro en a1' w1 ⟨hx,JM,g1,i1,Sq⟩
       cases en <;> simp only[Sl] at hx
       have uO:=g1.ext.le.p _ _ hp;obtain⟨r1,aeJ,qH⟩:=LQ g1.hr uO su;have WY:r1.state=.ready:=by simp only[BR] at qH;exact qH.1
       have gp:=Hg g1.hr uO su aeJ 1 p1;have hw:({ r1 with state:=Td 1,pending:=p1 }:Loop)={ r1 with state:=.busy }:=by
        simp only[BR] at qH;rw[<-qH.2.1];rfl
       rw[hw] at gp;refine⟨_,run_beginRound aeJ WY,?_⟩;have g2:=g1.trans gp;have I2:Inv X JM (s1.put l (.loop 1 p1 JB q1 a1 c1)) (w1.putObj p.b (.loop { r1 with state:=.busy })) w.heap.size nU a1' :=
        ⟨gp.hr,gp.fresh i1.fresh,i1.glob,i1.env,i1.df.good gp,by simpa[World.putObj] using i1.n0⟩
       have bB:=(hE _ _ _ _ _ _ ahG (some p.b) _ _ _ JM (cok body b8 _ (Sq.trans e2)) I2).wpIn;refine wpIn_mono bB ?_;rintro uu a2' w2 ⟨Cs,Cq,g3,i2,_⟩;obtain⟨j,rfl,rfl,hj⟩:=Hf h;have r9:=g3.ext.le.p _ _ uO;obtain⟨r2,aeK,ai2⟩:=LQ g3.hr r9 hg2;have fin:∀j',j=j'->∃v w',(Instr.endRound p.b j').run P w2=.ok v w'/\∃u YE,(Ending.returned v)=.returned u/\ZT YE (.bool j.isNone) u/\Good σ s w YE (s2.put l (.loop (if j.isNone then 0 else 2) j en3 q3 a3 c3)) w':=by
        intro j' yh;subst yh;have gp2:=Hg g3.hr r9 hg2 aeK (if j.isNone then 0 else 2) j;refine⟨_,_,run_endRound j aeK,_,Cq,rfl,by simp only[ZT],?_⟩;have abE:Td (if j.isNone then 0 else 2)=(if j.isNone then LoopState.ready else .done):=by cases j <;> rfl
        rw[abE] at gp2;exact (g2.trans g3).trans gp2
       cases o2 <;> cases uu <;> simp only[Sl] at Cs
       ·exact fin none hj
       ·subst Cs;exact fin _ hj
       ·exact fin _ hj
      ·cases h
     ·cases h
    ·cases h
   ·cases h
  ·cases h
 ·cases h
end
end Go.Am
namespace Go.Am
open Go
section
variable [Stat]
variable {X:Cx}{P:Program}
theorem RU {ρ:Operand->Value}{f:Operand}{args:Array Operand}{FH:Array TypeId}{ty:TypeId}{fn:Fn}{x y:Array Value}{w:World}(h:ρ f=.func fn x y) :
  (resolve ρ { callee:=.value f,args,argTypes:=FH } ty).run P w=.ok { target:=.fn fn y,args:=x++args.map ρ } w:=by
 simp[resolve,h,Deferred.ofValue]
theorem M4 (hX:Full X P){ex:Ex}(hE:M5 X P ex){r:Option Nat}{o:Oper}{e:Env}{s s':St}{v:AV}{a:Act}{σ:Sg}{w:World}{n0:Nat}(I:Inv X σ s w n0 e a)(h:YK X ex e o.op s=some (v,s'))
  {KL:Act->World->Prop}{Q:Exit->Act->World->Prop}(hn:∀u w' YE,ZT YE v u->Good σ s w YE s' w'->KL (a.put o.dst u) w'):o.wpIn (FW r) 0 P a w KL Q:=by
 refine⟨QT,?_⟩;rw[Oper.semAt_eq _ _ _ (fun c hc=>by rw[hc] at h;simp[YK] at h),T1]
 cases hc:OM o.op with
 |false =>
  obtain⟨YE,nx,u,w',h1,h2,h3,h4⟩:=FJ (P:=P) hX.toWb I.glob I.hr (I.fresh _ (ajg _)) I.env hc h;rw[h1];rcases h2 with rfl|⟨rfl,rfl⟩
  ·rw[Oper.uponIn_value];exact hn _ _ _ h3 h4
  ·rw[Oper.uponIn_skip];exact hn _ _ _ h3 h4
 |true =>
  obtain⟨dst,op,type,pos,after,guard⟩:=o;simp only at h hc hn ⊢
  cases op <;> simp only[OM] at hc <;> try (cases hc;done)
  rename_i c;obtain⟨callee,args,FH⟩:=c
  cases callee <;> simp only at hc <;> try (cases hc;done)
  rename_i f;simp only[YK] at h
  split at h
  ·rename_i fv vs hf TA;have SA:=Uy I.glob I.env hf;have bC:=RD I.glob I.env TA;unfold Ij at h
   split at h
   ·rename_i g first cap
    simp only[ZT] at SA;obtain⟨f',x',y',hfv,EC,hx,hy⟩:=SA;simp only[Tw] at EC;subst EC;have TF:ZU σ (first++vs++cap) ((x'++args.map (JK a.tmps))++y').toList:=by
     simp only[Array.toList_append];exact (hx.append (by simpa using bC)).append hy
    have:=lj hX hE g _ _ _ _ _ w _ h I.hr I.fresh I.glob TF;have X':(execOp (JK a.tmps) { dst:=dst,op:=.call { callee:=.value f,args:=args,argTypes:=FH },type:=type,pos:=pos,after:=after,guard:=guard }).run P w=(callFunc g ((x'++args.map (JK a.tmps))++y')).run P w:=by
     simp only[execOp,Sem.run_bind,RU hfv,Result.andThen_ok,invoke]
    rw[X'];exact eF (X:=X) this fun u w' ⟨YE,h1,h2⟩=>hn u w' YE h1 h2
   ·rename_i l first cap
    simp only[ZT] at SA;obtain⟨f',x',y',hfv,EC,hx,hy⟩:=SA;simp only[Tw] at EC;obtain⟨p,hp,rfl⟩:=EC;have TF:ZU σ (first++vs) (x'++args.map (JK a.tmps)).toList:=by
     simp only[Array.toList_append];exact hx.append (by simpa using bC)
    obtain⟨fn,tmps,assign,body,h1,h2⟩:=lg hX hE h hp I.hr I.fresh I.glob TF (ro:=r);have X':(execOp (JK a.tmps) { dst:=dst,op:=.call { callee:=.value f,args:=args,argTypes:=FH },type:=type,pos:=pos,after:=after,guard:=guard }).run P w=.ok (.round p.b fn tmps assign body) w:=by
     simp only[execOp,Sem.run_bind,RU hfv,Result.andThen_ok,invoke];exact h1
    rw[X',Oper.uponIn_round];refine⟨fun hd=>(by cases hd),RoundIn.mono h2 ?_⟩;rintro en w' ⟨u,YE,rfl,h3,h4⟩;exact hn u w' YE h3 h4
   ·cases h
  ·cases h
theorem Nn (hX:Full X P){ex:Ex}(hE:M5 X P ex){r:Option Nat}{ops:Array Oper}{Q:Exit->Act->World->Prop}{out:Env×St}{n0:Nat} :
  ∀(k i:Nat) (e:Env) (s:St) (a:Act) (w:World) (σ:Sg),i+k=ops.size->Me X ex ops (ops.toList.drop i) e s=some out->(∀o∈ops.toList,KK a.tmps.size o.dst)->Inv X σ s w n0 e a ->
   (∀a' w',SI X σ s w n0 a out.1 out.2 a' w'->Q .normal a' w')->wpOpsIn (FW r) 0 P ops Q (List.range' i k) a w
 |0,i,e,s,a,w,σ,hk,h,hd,I,hq=>by
  rw[List.drop_of_length_le (by simp;omega)] at h;simp only[Me] at h
  cases h
  exact hq _ _ (SI.refl I)
 |k+1,i,e,s,a,w,σ,hk,h,hd,I,hq=>by
  have hi:i<ops.size:=by omega
  have hl:ops.toList.drop i=ops[i]::ops.toList.drop (i+1):=by
   rw[abc (by simpa using hi)];simp
  rw[hl] at h;rw[List.range'_succ];simp only[wpOpsIn,ajN hi];have hdi:=hd ops[i] (by simp);simp only[Me] at h;rw[FE I.env]
  split at h
  ·rename_i hw;rw[if_pos hw]
   split at h
   ·rename_i v s1 zk;refine M4 hX hE I zk fun u w' YE hv g=>?_
    have hA:=I.put g hdi hv;obtain⟨τ,gτ,Iτ,Wh⟩:=hA;exact Nn hX hE k (i+1) _ _ _ _ τ (by omega) h (fun o ho=>by rw[Wh];exact hd o ho) Iτ fun a' w'' hA'=>hq _ _ (hA'.trans gτ Wh)
   ·cases h
  ·rename_i hw;rw[if_neg hw];refine⟨QT,?_⟩;obtain⟨τ,gτ,Iτ,Wh⟩:=I.put (Good.refl I.hr) hdi (RH (σ:=σ));exact Nn hX hE k (i+1) _ _ _ _ τ (by omega) h (fun o ho=>by rw[Wh];exact hd o ho) Iτ fun a' w'' hA'=>hq _ _ (hA'.trans gτ Wh)
def DH (X:Cx)(P:Program):Prop :=
 ∀ex,M5 X P ex->∀(r:Option Nat) (ops:Array Oper) (e e':Env) (s s':St) (a:Act) (w:World) (σ:Sg) (n0 t:Nat) (Q:Exit->Act->World->Prop),
  PY X ex ops e s=some (e',s')->dc X ops=true->(∀o∈ops.toList,KK a.tmps.size o.dst)->Inv X σ s w n0 e a->(∀a' w',SI X σ s w n0 a e' s' a' w'->Q .normal a' w') ->
  wpOpsIn (FW r) 0 P ops Q (Region.linearise .any ops t) a w
theorem jP {X:Cx}{σ:Sg}{s:St}{w:World}{e:Env}{a:Act}{n0:Nat}(I:Inv X σ s w n0 e a)(fn:FuncId)(ps:Array Tmp)(assign body:Code)(ha:Stat.ok a.tmps.size assign)(hb:Stat.ok a.tmps.size body)(hp:∀t∈ps.toList,t<a.tmps.size) :
  Good σ s w (σ.add s.next ⟨w.heap.size+1,0,0⟩) (s.new (.loop 0 none e ps.toList assign body)) ((w.alloc (.deferred (some []))).alloc (.loop { state:=.ready,pending:=none,fn,tmps:=a.tmps,params:=ps,assign,body,defers:=w.heap.size })):=by
 have g0:=Good.abO I.hr (.deferred (some []));have hf:=I.fresh s.next (ajg _);have g1:=Good.new g0.hr hf (.loop 0 none e ps.toList assign body) (by simp) (.loop { state:=.ready,pending:=none,fn,tmps:=a.tmps,params:=ps,assign,body,defers:=w.heap.size }) 0 (by
  unfold BR;exact⟨rfl,rfl,I.env.mono (Sg.NH hf),rfl,rfl,rfl,ha,hb,hp⟩)
 have:(w.alloc (.deferred (some []))).heap.size=w.heap.size+1:=by simp
 rw[this] at g1;exact g0.trans g1
theorem FR {p:Option Code}{e e':Env}{s s':St}{out:Out}(h:Md p e s=some (out,e',s')):e'=e/\s'=s/\((p=none/\out=.norm)\/(∃i,p=some (.exit i)/\out=.exit i)\/(p=some .ret/\out=.ret)):=by
 unfold Md at h
 split at h <;> cases h
 ·exact⟨rfl,rfl,.inl ⟨rfl,rfl⟩⟩
 ·exact⟨rfl,rfl,.inr (.inl ⟨_,rfl,rfl⟩)⟩
 ·exact⟨rfl,rfl,.inr (.inr ⟨rfl,rfl⟩)⟩
theorem JT (hX:Full X P){ex:Ex}(hE:M5 X P ex){gop:Operand}{ps:Array Tmp}{assign body:Code}{e e':Env}{s s':St}{out:Out}(h:Xj X ex (.rangeFunc gop ps assign body) e s=some (out,e',s'))
  {a:Act}{σ:Sg}{w:World}{n0:Nat}(I:Inv X σ s w n0 e a)(Ya:pT X none a.tmps.size (.rangeFunc gop ps assign body)) :
  (Code.rangeFunc gop ps assign body).wpIn (FW none) 0 P (Zu X σ s w n0 a out e' s') a w:=by
 obtain⟨n,hn,Ya,_⟩:=Ya;simp only[JC,adm,ajq,decide_eq_true_eq] at Ya;obtain⟨⟨⟨⟨k1,k2⟩,k3⟩,k4⟩,k5⟩:=Ya;have ha:Stat.ok a.tmps.size assign:=(hX.stat _ _).2 ⟨n,hn,k2,k4⟩;have hb:Stat.ok a.tmps.size body:=(hX.stat _ _).2 ⟨n,hn,k3,k5⟩;simp only[Xj] at h
 split at h
 ·rename_i g first cap hf
  split at h
  ·rename_i MY;rw[akd] at MY
   split at h
   ·rename_i rv s1 Vg
    split at h
    ·rename_i st p e1 q1 a1 b1 su
     split at h
     ·cases h
     ·rename_i WY;obtain⟨rfl,rfl,NG⟩:=FR h;have SA:=Uy I.glob I.env hf;simp only[ZT] at SA;obtain⟨f',x',y',hfv,EC,hx,hy⟩:=SA;simp only[Tw] at EC;subst EC;refine wpIn_rangeFunc fun fn _=>?_
      have gl:=jP I fn ps assign body ha hb (fun t ht=>Nat.lt_of_lt_of_le (k1 t ht) hn);have aio:a.eval gop=.func (.func g) x' y':=by rw[T1];exact hfv
      have hle:=gl.ext.le;have ab6:ZT (σ.add s.next ⟨w.heap.size+1,0,0⟩) (.fn (.yield s.next) [] []) (.func (.yield (w.heap.size+1)) #[] #[]):=by
       simp only[ZT];exact⟨_,_,_,rfl,by simp only[Tw];exact⟨_,Sg.Yx _ _ _,rfl⟩,by simp[ZU],by simp[ZU]⟩
      have TF:ZU (σ.add s.next ⟨w.heap.size+1,0,0⟩) (first++[.fn (.yield s.next) [] []]++cap) ((x'++#[Value.func (.yield (w.heap.size+1)) #[] #[]])++y').toList:=by
       simp only[Array.toList_append];exact ((ZU.mono hle _ _ hx).append (Lh ab6)).append (ZU.mono hle _ _ hy)
      obtain⟨c1,c2⟩:=O4 hX hE MY Vg gl.hr (gl.fresh I.fresh) (I.glob.mono hle) TF;refine⟨w.heap.size+1,[{ target:=.collected w.heap.size,args:=#[] }],_,_,_,g,(x'++#[Value.func (.yield (w.heap.size+1)) #[] #[]])++y',(w.alloc (.deferred (some []))).alloc (.loop { state:=.ready,pending:=none,fn,tmps:=a.tmps,params:=ps,assign,body,defers:=w.heap.size }),run_enterLoop_outer fn a.tmps ps assign body,RU aio,fun _ _=>trivial,?_,fun hd=>(by cases hd),?_⟩
      ·have hm:Array.map a.eval #[Operand.const (Value.func (.yield (w.heap.size+1)) #[] #[])]=#[Value.func (.yield (w.heap.size+1)) #[] #[]]:=by simp[Act.eval]
       simp only[invoke];rw[hm];exact c1
      ·refine LP (Hb c2) ?_;rintro en w' ⟨u,YE,rfl,_,g2⟩;have uO:=g2.ext.le.p _ _ (Sg.Yx σ s.next ⟨w.heap.size+1,0,0⟩);obtain⟨r1,B6,qH⟩:=LQ g2.hr uO su;have bZ:=qH;simp only[BR] at bZ;obtain⟨Sq,afE,_⟩:=bZ;have dG:r1.state≠.busy:=by
        rw[Sq];unfold Td
        split <;> simp_all
       have gp:=Hg g2.hr uO su B6 3 p;have hw:({ r1 with state:=Td 3,pending:=p }:Loop)={ r1 with state:=.exhausted }:=by
        rw[<-afE];rfl
       rw[hw] at gp;have gd:=Good.drop gp.hr (b:=s.next) (b0:=.loop 3 p e1 q1 a1 b1) (by rw[St.Xl,if_pos rfl]);have g3:=(gl.trans (g2.trans gp)).trans gd;have g4:Good σ s w YE (s1.put s.next .gone) _:=g3.congr (zK _ _ _) rfl rfl;have hD0:DF n0 (σ.add s.next ⟨w.heap.size+1,0,0⟩) ((w.alloc (.deferred (some []))).alloc (.loop { state:=.ready,pending:=none,fn,tmps:=a.tmps,params:=ps,assign,body,defers:=w.heap.size })) ([{ target:=.collected w.heap.size,args:=#[] }]++a.defers):=by
        obtain⟨rs,FB,BL,hm⟩:=I.df.good gl;obtain⟨rs0,afF,aip,jz⟩:=I.df;refine⟨w.heap.size::rs0,by simp[afF],aj8.2 ⟨fun Sd=>?_,aip⟩,fun r' UM=>?_⟩
        ·have:=(ajd.1 (jz _ Sd).2.1).1;omega
        ·rcases ajo.1 UM with rfl|UM
         ·refine⟨I.n0,?_,fun i q hq=>?_,?_⟩
          ·simp only[World.alloc];rw[ajW,if_neg (by simp)];simp
          ·by_cases hi:i=s.next
           ·subst hi;rw[Sg.Yx] at hq;cases hq;simp
           ·rw[Sg.WQ _ _ hi] at hq;have:=I.hr.lt i q hq;omega
          ·show σ.fz w.heap.size=none
           cases hz:σ.fz w.heap.size with
           |none=>rfl
           |some o =>
            have:=(ajd.1 (I.hr.fz _ o hz).1).1;omega
         ·have heq:rs=rs0:=by
           have:=FB.symm.trans afF;exact List.map_inj_right (by intro x y hxy;simpa using hxy) |>.1 this
          subst heq;exact hm r' UM
       have I':Inv X YE (s1.put s.next .gone) (w'.putObj (w.heap.size+1) (.loop { r1 with state:=.exhausted })) n0 e' { a with defers:=[{ target:=.collected w.heap.size,args:=#[] }]++a.defers } :=
        ⟨g4.hr,g4.fresh I.fresh,I.glob.mono g4.ext.le,I.env.mono g4.ext.le,((hD0.good g2).good gp).good gd,aka I.n0 g4.ext.size⟩
       have hA:SI X σ s w n0 a e' (s1.put s.next .gone) { a with defers:=[{ target:=.collected w.heap.size,args:=#[] }]++a.defers } (w'.putObj (w.heap.size+1) (.loop { r1 with state:=.exhausted })):=⟨YE,g4,I',rfl⟩;refine⟨p,w'.putObj (w.heap.size+1) (.loop { r1 with state:=.exhausted }),(run_endLoop B6 dG).trans (congrArg (fun x=>Result.ok x _) afE),?_⟩;rcases NG with⟨rfl,rfl⟩|⟨i,rfl,rfl⟩|⟨rfl,rfl⟩
       ·exact⟨trivial,hA⟩
       ·exact wpIn_exit ⟨rfl,hA⟩
       ·exact wpIn_ret ⟨trivial,hA⟩
    ·cases h
   ·cases h
  ·cases h
 ·cases h
end
end Go.Am
