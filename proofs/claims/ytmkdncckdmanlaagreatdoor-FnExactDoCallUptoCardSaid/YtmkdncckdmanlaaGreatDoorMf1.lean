import Derived.Below
import Derived.Calls
import Derived.ChangeSame
import Derived.ChangeShapes
import Derived.DataReads
import Derived.Deep.AppendSrc
import Derived.Deep.Draws
import Derived.Deep.MidRow
import Derived.Deep.Upon
import Derived.KernelRfl
import Derived.Laws.AppendOwn
import Derived.Laws.BytesString
import Derived.Laws.Entries
import Derived.Laws.IdiomCopy
import Derived.Laws.IdiomStrings
import Derived.Laws.NewBlocks
import Derived.Laws.Strings
import Derived.Laws.StructEq
import Derived.Laws.Tables
import Derived.Lay
import Derived.Lib.Bytealg
import Derived.Lib.Join
import Derived.Lib.SliceRun
import Derived.Orders
import Derived.Sort.Grow
import Derived.Sort.Row
import GoSem.Core.Region
import GoSem.Core.View
set_option linter.unusedVariables false
set_option linter.unusedSimpArgs false
set_option autoImplicit true
set_option relaxedAutoImplicit true
namespace Mf
open Go
theorem jA:type_of% @Option.bind_some:=@Option.bind_some
theorem jB:type_of% @Nat.le_refl:=@Nat.le_refl
theorem jC:type_of% @Bool.and_eq_true:=@Bool.and_eq_true
theorem jD:type_of% @Option.some.injEq:=@Option.some.injEq
theorem jE:type_of% @List.getElem_mem:=@List.getElem_mem
theorem jF:type_of% @List.mem_cons_self:=@List.mem_cons_self
theorem jG:type_of% @List.mem_cons_of_mem:=@List.mem_cons_of_mem
theorem jH:type_of% @List.length_cons:=@List.length_cons
theorem jI:type_of% @decide_eq_true_eq:=@decide_eq_true_eq
theorem jJ:type_of% @Nat.zero_add:=@Nat.zero_add
theorem jK:type_of% @Bool.not_true:=@Bool.not_true
theorem jL:type_of% @if_pos:=@if_pos
theorem jM:type_of% @if_neg:=@if_neg
theorem jN:type_of% @Option.some.inj:=@Option.some.inj
theorem jO:type_of% @List.nil_append:=@List.nil_append
theorem jP:type_of% @List.length_append:=@List.length_append
theorem jQ:type_of% @List.cons_append:=@List.cons_append
theorem jR:type_of% @Nat.mul_le_mul_right:=@Nat.mul_le_mul_right
theorem jS:type_of% @List.map_cons:=@List.map_cons
theorem jT:type_of% @Option.map_some:=@Option.map_some
theorem jU:type_of% @Nat.le_trans:=@Nat.le_trans
theorem jV:type_of% @Prod.mk.injEq:=@Prod.mk.injEq
theorem jW:type_of% @List.mem_append_left:=@List.mem_append_left
theorem jX:type_of% @Nat.lt_of_lt_of_le:=@Nat.lt_of_lt_of_le
theorem jY:type_of% @Nat.add_mul:=@Nat.add_mul
theorem jZ:type_of% @decide_eq_true:=@decide_eq_true
theorem kA:type_of% @List.getElem_range:=@List.getElem_range
theorem kB:type_of% @List.mem_append_right:=@List.mem_append_right
theorem kC:type_of% @List.length_set:=@List.length_set
theorem kD:type_of% @List.length_nil:=@List.length_nil
theorem kE:type_of% @Nat.zero_le:=@Nat.zero_le
theorem kF:type_of% @Nat.add_zero:=@Nat.add_zero
theorem kG:type_of% @Nat.lt_or_ge:=@Nat.lt_or_ge
theorem kH:type_of% @Nat.add_assoc:=@Nat.add_assoc
theorem kI:type_of% @List.foldl_cons:=@List.foldl_cons
theorem kJ:type_of% @List.length_range:=@List.length_range
theorem kK:type_of% @List.length_take:=@List.length_take
theorem kL:type_of% @List.eq_nil_of_length_eq_zero:=@List.eq_nil_of_length_eq_zero
theorem kM:type_of% @List.set_set:=@List.set_set
theorem kN:type_of% @Nat.eq_zero_or_pos:=@Nat.eq_zero_or_pos
theorem kO:type_of% @List.append_assoc:=@List.append_assoc
theorem kP:type_of% @List.length_map:=@List.length_map
theorem kQ:type_of% @Bool.not_false:=@Bool.not_false
theorem kR:type_of% @List.getElem_map:=@List.getElem_map
theorem kS:type_of% @List.mem_map:=@List.mem_map
theorem kT:type_of% @List.getD_eq_getElem?_getD:=@List.getD_eq_getElem?_getD
theorem kU:type_of% @Array.getD_eq_getD_getElem?:=@Array.getD_eq_getD_getElem?
theorem kV:type_of% @List.getElem?_eq_getElem:=@List.getElem?_eq_getElem
theorem kW:type_of% @List.getElem_append_left:=@List.getElem_append_left
theorem kX:type_of% @List.getElem_append_right:=@List.getElem_append_right
theorem kY:type_of% @Int.toNat_natCast:=@Int.toNat_natCast
theorem kZ:type_of% @List.drop_eq_getElem_cons:=@List.drop_eq_getElem_cons
theorem qA:type_of% @decide_eq_false:=@decide_eq_false
theorem qB:type_of% @List.map_nil:=@List.map_nil
theorem qC:type_of% @List.append_nil:=@List.append_nil
inductive Ow | sh | top | deep
 deriving DecidableEq
inductive Ty where
 |int (k:IntKind) | bool | str | unit
 |pair (a b:Ty)
 |sl (e:Ty)
 |arr (n:Nat) (e:Ty)
 deriving DecidableEq
@[reducible] def Ty.El:Ty→Type
 |.int _=>Int | .bool=>Bool | .str=>List UInt8 | .unit=>Unit
 |.pair a b=>a.El×b.El
 |.sl e=>List e.El
 |.arr _ e=>List e.El
def Ty.zero:(t:Ty)→t.El
 |.int _=>(0:Int) | .bool=>false | .str=>([]:List UInt8) | .unit=>()
 |.pair a b=>(a.zero,b.zero)
 |.sl _=>[]
 |.arr n e=>List.replicate n e.zero
def Ty.size:Ty→Nat
 |.int _ | .bool | .str | .sl _=>1
 |.unit=>0
 |.pair a b=>a.size+b.size
 |.arr n e=>n*e.size
def Ty.pure:Ty→Bool
 |.int _ | .bool | .str | .unit=>true
 |.sl _=>false
 |.pair a b=>a.pure&&b.pure
 |.arr _ e=>e.pure
def Ty.isAgg:Ty→Bool
 |.pair _ _ | .unit | .arr _ _=>true
 |_=>false
def Ty.Ye7:Ty→Bool
 |.int _ | .bool | .str | .unit=>true
 |.sl e=>e.pure
 |.pair a b=>a.Ye7&&b.Ye7
 |.arr _ e=>e.Ye7
def Ow.elem:Ow→Ow | .sh=>.sh | .top=>.sh | .deep=>.deep
inductive Stp | f1 | f2 | el (i:Nat)
abbrev Path:=List Stp
inductive TV where
 |cl (o:Ow) (t:Ty) (x:t.El)
 |pr (a b:TV)
 |nl
 |loc (r:Nat) (p:Path)
 |seg (r:Nat) (p:Path)
 |sub (r:Nat) (p:Path) (lo n:Nat)
 |pt (t:Ty) (x:t.El)
 |op (v:TV)
 |clo (f:FuncId) (c:TV)
 |tup (l:TV)
 |kb (b:Bool)
 |gd (t:Nat) (want:Bool) (v:TV)
 |dead (n:Nat)
 |rw(o:Ow) (e:Ty) (xs:List e.El) (i:Nat) (v:TV)
inductive Kind | reg | mem
 deriving DecidableEq
structure Root where
 k:Kind
 tv:TV
def lk.{u} {α:Type u} (i:Nat):List (Nat×α)→Option α
 |[]=>none
 |(j,x)::l=>match Nat.beq i j with | true=>some x | false=>lk i l
structure St where
 tm:List (Nat×TV)
 rt:List (Nat×Option Root)
def St.root (S:St) (r:Nat):Option Root:=match lk r S.rt with | some (some R)=>some R | _=>none
inductive Chk | Ycc (p:Path) (f n:Nat) | row (p:Path)
inductive RD (α:Type) where
 |ret (a:α)
 |fail
 |ck (r:Nat) (c:Chk) (f:Bool→RD α)
 |tm (i:Nat) (f:TV→RD α)
 |rt (r:Nat) (f:Root→RD α)
 |rt? (r:Nat) (f:Bool→RD α)
def RD.bind {α β:Type}:RD α→(α→RD β)→RD β
 |.ret a,g=>g a
 |.fail,_=>.fail
 |.ck r c f,g=>.ck r c fun v=>(f v).bind g
 |.tm i f,g=>.tm i fun v=>(f v).bind g
 |.rt r f,g=>.rt r fun v=>(f v).bind g
 |.rt? r f,g=>.rt? r fun v=>(f v).bind g
def TV.get:TV→Path→Option TV
 |tv,[]=>some tv
 |.pr a _,.f1::p=>a.get p
 |.pr _ b,.f2::p=>b.get p
 |.cl o (.pair a _) x,.f1::p=>(TV.cl o a x.1).get p
 |.cl o (.pair _ b) x,.f2::p=>(TV.cl o b x.2).get p
 |.cl o (.sl e) xs,.el i::p=>(TV.cl o.elem e (xs.getD i e.zero)).get p
 |.cl o (.arr _ e) xs,.el i::p=>(TV.cl o e (xs.getD i e.zero)).get p
 |.rw o e xs i v,.el j::p=>match Nat.decEq j i with
  |isTrue _=>v.get p
  |isFalse _=>(TV.cl o.elem e (xs.getD j e.zero)).get p
 |_,_=>none
def Yj8 (t:Ty) (o:Ow):Ow:=match t.pure with | true=>.deep | false=>o
def TV.own:TV→TV
 |.cl o t x=>.cl (Yj8 t o) t x
 |v=>v
def Yal:TV→TV→TV
 |.cl o t x,.cl o' u y=>match Yj8 t o,Yj8 u o' with
  |.deep,.deep=>.cl .deep (.pair t u) (x,y)
  |.sh,.sh=>.cl .sh (.pair t u) (x,y)
  |.top,.top=>.cl .top (.pair t u) (x,y)
  |.sh,.deep=>match u.pure with | true=>.cl .sh (.pair t u) (x,y) | false=>.pr (.cl o t x) (.cl o' u y)
  |.deep,.sh=>match t.pure with | true=>.cl .sh (.pair t u) (x,y) | false=>.pr (.cl o t x) (.cl o' u y)
  |.top,.deep=>match u.pure with | true=>.cl .top (.pair t u) (x,y) | false=>.pr (.cl o t x) (.cl o' u y)
  |.deep,.top=>match t.pure with | true=>.cl .top (.pair t u) (x,y) | false=>.pr (.cl o t x) (.cl o' u y)
  |_,_=>.pr (.cl o t x) (.cl o' u y)
 |a,b=>.pr a b
def TV.Yij (o:Ow) (t:Ty):TV→Option t.El
 |.cl o' u x=>match decEq u t with
  |isTrue h=>match u.pure,decEq o' o with
   |true,_=>some (h▸x)
   |false,isTrue _=>some (h▸x)
   |false,isFalse _=>none
  |isFalse _=>none
 |_=>none
def TV.cln:TV→Bool
 |.cl _ _ _=>true
 |.dead _=>true
 |.rw _ _ _ _ _=>true
 |.pr a b=>a.cln&&b.cln
 |_=>false
def TV.opn:TV→Bool
 |.dead _=>true
 |.rw _ _ _ _ _=>true
 |.pr a b=>a.opn || b.opn
 |_=>false
def Ybs (o:Ow) (e:Ty) (xs:List e.El) (i:Nat) (v:TV):Option TV:=match v.Yij o.elem e with
 |some y=>some (.cl o (.sl e) (xs.set i y))
 |none=>match v.opn&&v.cln with
  |true=>some (.rw o e xs i v)
  |false=>none
def TV.set:TV→Path→TV→Option TV
 |_,[],n=>some n
 |.pr a b,.f1::p,n=>match a.set p n with | some a'=>some (Yal a' b) | none=>none
 |.pr a b,.f2::p,n=>match b.set p n with | some b'=>some (Yal a b') | none=>none
 |.cl o (.pair a b) x,.f1::p,n=>match (TV.cl o a x.1).set p n with
  |some a'=>some (Yal a' (.cl o b x.2)) | none=>none
 |.cl o (.pair a b) x,.f2::p,n=>match (TV.cl o b x.2).set p n with
  |some b'=>some (Yal (.cl o a x.1) b') | none=>none
 |.cl .sh (.sl _) _,.el _::_,_=>none
 |.cl o (.sl e) xs,.el i::p,n=>match (TV.cl o.elem e (xs.getD i e.zero)).set p n with
  |some tv=>Ybs o e xs i tv
  |none=>none
 |.rw .sh _ _ _ _,.el _::_,_=>none
 |.rw o e xs i v,.el j::p,n=>match Nat.decEq j i with
  |isTrue _=>match v.set p n with
   |some tv=>Ybs o e xs i tv
   |none=>none
  |isFalse _=>none
 |.cl o (.arr m e) xs,.el i::p,n=>match (TV.cl o e (xs.getD i e.zero)).set p n with
  |some tv=>match tv.Yij o e with | some y=>some (.cl o (.arr m e) (xs.set i y)) | none=>none
  |none=>none
 |_,_,_=>none
def TV.Ym2:TV→Bool
 |.rw _ _ _ _ _=>true
 |.pr a b=>a.Ym2 || b.Ym2
 |_=>false
def TV.Ymw:TV→Path→Option (Bool×TV)
 |tv,[]=>some (true,tv)
 |.pr a _,.f1::p=>a.Ymw p
 |.pr _ b,.f2::p=>b.Ymw p
 |.rw _ _ _ i v,.el j::p=>match v.Ymw p with
  |some (c,u)=>some (Nat.beq j i&&c,u)
  |none=>none
 |_,_=>none
def TV.Yh4:TV→Path→TV→Option (Bool×TV)
 |_,[],n=>some (true,n)
 |.pr a b,.f1::p,n=>match a.Yh4 p n with | some (c,a')=>some (c,Yal a' b) | none=>none
 |.pr a b,.f2::p,n=>match b.Yh4 p n with | some (c,b')=>some (c,Yal a b') | none=>none
 |.rw .sh _ _ _ _,.el _::_,_=>none
 |.rw o e xs i v,.el j::p,n=>match v.Yh4 p n with
  |some (c,tv)=>match Ybs o e xs i tv with | some tv'=>some (Nat.beq j i&&c,tv') | none=>none
  |none=>none
 |_,_,_=>none
def Yap (r:Nat) (p:Path) (o:Ow):(t:Ty)→t.El→TV
 |.pair a b,x=>match (Ty.pair a b).pure with
  |true=>.cl .sh (.pair a b) x
  |false=>match o with
   |.sh=>.cl .sh (.pair a b) x
   |_=>.pr (Yap r (p++[.f1]) o a x.1) (Yap r (p++[.f2]) o b x.2)
 |.sl e,x=>match o with | .sh=>.cl .sh (.sl e) x | _=>.seg r p
 |.arr n e,x=>match e.pure with
  |true=>.cl .sh (.arr n e) x
  |false=>match o with
   |.sh=>.cl .sh (.arr n e) x
   |_=>.dead (n*e.size)
 |t,x=>.cl .sh t x
def TV.mir (r:Nat) (p:Path):TV→TV
 |.pr a b=>.pr (a.mir r (p++[.f1])) (b.mir r (p++[.f2]))
 |.cl o t x=>Yap r p o t x
 |.op _=>.dead 1
 |.rw _ _ _ _ _=>.dead 1
 |tv=>tv
def TV.size:TV→Nat
 |.cl _ t _=>t.size
 |.pr a b=>a.size+b.size
 |.dead n=>n
 |_=>1
inductive Lay | at | un | pair (a b:Lay) | arr (n:Nat) (e:Lay) | dead (n:Nat)
 deriving DecidableEq
def Ty.lay:Ty→Lay
 |.int _ | .bool | .str | .sl _=>.at
 |.unit=>.un
 |.pair a b=>.pair a.lay b.lay
 |.arr n e=>.arr n e.lay
def TV.lay:TV→Lay
 |.cl _ t _=>t.lay
 |.pr a b=>.pair a.lay b.lay
 |.dead 1=>.at
 |.dead n=>.dead n
 |_=>.at
def TV.Ycc:TV→Nat→Option Nat
 |.pr _ _,0=>some 0
 |.pr a b,n+1=>match b.Ycc n with | some k=>some (a.size+k) | none=>none
 |.cl _ (.pair _ _) _,0=>some 0
 |.cl o (.pair a b) x,n+1=>match (TV.cl o b x.2).Ycc n with | some k=>some (a.size+k) | none=>none
 |_,_=>none
def TV.row:TV→TV
 |.rw o e xs _ _=>.cl o (.sl e) xs
 |v=>v
def Chk.run:Chk→TV→Bool
 |.Ycc p f n,v=>match v.get p with
  |some u=>match u.Ycc f with | some a=>Nat.beq a n | none=>false
  |none=>false
 |.row p,v=>match v.get p with
  |some (.cl .top (.sl _) _)=>true
  |some (.cl .deep (.sl _) _)=>true
  |some (.rw _ _ _ _ _)=>true
  |_=>false
def RD.run {α:Type} (S:St):RD α→Option α
 |.ret a=>some a
 |.fail=>none
 |.ck r c f=>match S.root r with | some R=>(f (c.run R.tv)).run S | none=>none
 |.tm i f=>match lk i S.tm with | some v=>(f v).run S | none=>none
 |.rt r f=>match S.root r with | some R=>(f R).run S | none=>none
 |.rt? r f=>match S.root r with | some _=>(f true).run S | none=>(f false).run S
def RD.of {α:Type}:Option α→RD α
 |some a=>.ret a
 |none=>.fail
def Yai:Nat→Path
 |0=>[.f1]
 |n+1=>.f2::Yai n
def Path.pre:Path→Path→Bool
 |[],_=>true
 |.f1::p,.f1::q=>Path.pre p q
 |.f2::p,.f2::q=>Path.pre p q
 |.el _::p,.el _::q=>Path.pre p q
 |_,_=>false
def Path.flat:Path→Bool
 |[]=>true
 |.el _::_=>false
 |_::p=>Path.flat p
def Path.far:Path→Path→Bool
 |[],q=>!Path.flat q
 |.f1::p,.f1::q=>Path.far p q
 |.f2::p,.f2::q=>Path.far p q
 |.el _::p,.el _::q=>Path.far p q
 |_,_=>false
def TV.live:TV→Bool
 |.pr a b=>a.live&&b.live
 |.dead _=>false
 |.rw _ _ _ _ _=>false
 |_=>true
def TV.kill (r:Nat) (p:Option Path):TV→TV
 |.pr a b=>.pr (a.kill r p) (b.kill r p)
 |.loc r' q=>match Nat.beq r r'&&(match p with | some p=>Path.far p q | none=>true) with | true=>.dead 1 | false=>.loc r' q
 |.seg r' q=>match Nat.beq r r'&&(match p with | some p=>Path.pre p q | none=>true) with | true=>.dead 1 | false=>.seg r' q
 |.sub r' q lo n=>match Nat.beq r r'&&(match p with | some p=>Path.pre p q | none=>true) with | true=>.dead 1 | false=>.sub r' q lo n
 |.clo f c=>match (c.kill r p).live with | true=>.clo f c | false=>.dead 1
 |.tup l=>.tup (l.kill r p)
 |.gd t w v=>.gd t w (v.kill r p)
 |v=>v
abbrev Ks:=List (Nat×Option Path)
def Yx (ks:Ks) (v:TV):TV:=match ks with
 |[]=>v
 |(r,p)::ks=>Yx ks (v.kill r p)
def Yrv (ks:Ks):Option Root→Option Root
 |some R=>some {R with tv:=Yx ks R.tv }
 |none=>none
structure Patch where
 tm:List (Nat×TV)
 rt:List (Nat×Option Root)
 ks:Ks
def St.ap (S:St) (p:Patch):St:=match p.ks with
 |[]=>{tm:=p.tm++S.tm,rt:=p.rt++S.rt }
 |ks=>{tm:=p.tm++S.tm.map fun x=>(x.1,Yx ks x.2),rt:=(p.rt++S.rt).map fun x=>(x.1,Yrv ks x.2) }
inductive TD | int (k:IntKind) | bool | str | sl (e:TypeId) | arr (n:Nat) (e:TypeId) | st (offs:List Nat) | ptr (e:TypeId) | other
structure Yfa where
 d:TD
 ty:Ty
 bytes:Nat
abbrev Tb:=List (Nat×Yfa)
section
variable (tb:Tb)
def Ycg (t:TypeId):RD Yfa:=RD.of (lk t tb)
abbrev Gd:=List (Nat×Bool)
def Gd.has:Gd→Nat→Bool→Bool
 |[],_,_=>false
 |(t,true)::g,u,true=>Nat.beq t u || Gd.has g u true
 |(t,false)::g,u,false=>Nat.beq t u || Gd.has g u false
 |_::g,u,w=>Gd.has g u w
def opv (g:Gd):Operand→RD TV
 |.tmp t=>.tm t fun v=>match v with
  |.gd t' w v'=>match Gd.has g t' w with
   |true=>match v' with
    |.dead _=>.fail
    |v'=>.ret v'
   |false=>.fail
  |.dead _=>.fail
  |.kb b=>.ret (.cl .sh .bool b)
  |v=>.ret v
 |.const (.int k n)=>.ret (.cl .sh (.int k) n)
 |.const (.bool b)=>.ret (.cl .sh .bool b)
 |.const (.string s)=>.ret (.cl .sh .str s.data.toList)
 |.const (.slice none 0 0)=>.ret .nl
 |.func f=>.ret (.clo f (.cl .sh .unit ()))
 |_=>.fail
def Yh5 (r:Nat) (p:Path):RD TV:=.rt r fun R=>RD.of (R.tv.get p)
inductive Els where
 |mk (e:Ty) (xs:List e.El) (o:Ow)
def els:TV→RD Els
 |.cl _ (.sl e) xs=>.ret (.mk e xs .sh)
 |.seg r p=>(Yh5 r p).bind fun v=>match v with
  |.cl o (.sl e) xs=>.ret (.mk e xs o)
  |_=>.fail
 |.sub r p lo n=>(Yh5 r p).bind fun v=>match v with
  |.cl o (.sl e) xs=>.ret (.mk e ((xs.drop lo).take n) o)
  |_=>.fail
 |_=>.fail
def lenOf:TV→RD Nat
 |.cl _ .str xs=>.ret xs.length
 |.nl=>.ret 0
 |.sub _ _ _ n=>.ret n
 |v=>(els v).bind fun | .mk _ xs _=>.ret xs.length
def sB (b:Bool):TV:=.cl .sh .bool b
def sI (k:IntKind) (n:Int):TV:=.cl .sh (.int k) n
def leB:List UInt8→List UInt8→Bool
 |_,[]=>false
 |[],_::_=>true
 |a::x,b::y=>a<b || (a == b&&leB x y)
def Yvm (op:BinOp) (k:IntKind) (a b:Int):RD (Option Bool×TV):=
 match op with
 |.add=>.ret (none,sI k (k.wrap (a+b)))
 |.sub=>.ret (none,sI k (k.wrap (a-b)))
 |.mul=>.ret (none,sI k (k.wrap (a*b)))
 |.quo=>.ret (some (!(b == 0)),sI k (k.wrap (a.tdiv b)))
 |.rem=>.ret (some (!(b == 0)),sI k (a.tmod b))
 |.eql=>.ret (none,sB (a == b))
 |.neq=>.ret (none,sB (a != b))
 |.lss=>.ret (none,sB (decide (a<b)))
 |.leq=>.ret (none,sB (decide (a≤b)))
 |.gtr=>.ret (none,sB (decide (a>b)))
 |.geq=>.ret (none,sB (decide (a≥b)))
 |_=>.fail
def Yvn (op:BinOp) (a b:List UInt8):RD (Option Bool×TV):=
 match op with
 |.add=>.ret (some (decide (a.length+b.length≤2147483648)),.cl .sh .str (a++b))
 |.eql=>.ret (none,sB (a == b))
 |.neq=>.ret (none,sB (!(a == b)))
 |.lss=>.ret (none,sB (leB a b))
 |.leq=>.ret (none,sB (leB a b || a == b))
 |.gtr=>.ret (none,sB (!(leB a b || a == b)))
 |.geq=>.ret (none,sB (!leB a b))
 |_=>.fail
def inB (n:Int) (len:Nat):Bool:=decide (0≤n)&&decide (n<(len:Int))
def bin (op:BinOp):TV→TV→RD (Option Bool×TV)
 |.cl _ (.int kx) a,.cl _ (.int ky) b=>match op with
  |.shl=>.ret (some (decide (0≤b)),sI kx (kx.wrap (a*2 ^ (min b.toNat kx.bits))))
  |.shr=>.ret (some (decide (0≤b)),sI kx (a.fdiv (2 ^ (min b.toNat kx.bits))))
  |_=>match decEq kx ky with
   |isTrue _=>Yvm op kx a b
   |isFalse _=>.fail
 |.cl _ .str a,.cl _ .str b=>Yvn op a b
 |.cl _ .bool a,.cl _ .bool b=>match op with
  |.eql=>.ret (none,sB (a == b))
  |.neq=>.ret (none,sB (!(a == b)))
  |_=>.fail
 |_,_=>.fail
def Yua:Ty→Bool
 |.int _ | .bool | .str=>true
 |_=>false
def Yiw:Ty→Bool
 |.unit=>true
 |.pair a b=>Yua a&&Yiw b
 |_=>false
def eqI (a b:Int):Bool:=a == b
def Ywr (a b:Bool):Bool:=a == b
def Yvv (a b:List UInt8):Bool:=a == b
def eqV:(t t':Ty)→t.El→t'.El→Bool
 |.int _,.int _,x,y=>eqI x y
 |.bool,.bool,x,y=>Ywr x y
 |.str,.str,x,y=>Yvv x y
 |.unit,.unit,_,_=>true
 |.pair a b,.pair a' b',x,y=>eqV a a' x.1 y.1&&eqV b b' x.2 y.2
 |_,_,_,_=>false
def Yuo (op:BinOp) (e:Bool):RD (Option Bool×TV):=
 match op with
 |.eql=>.ret (none,sB e)
 |.neq=>.ret (none,sB (!e))
 |_=>.fail
def slb (lo hi:Option Int) (len:Nat):Bool×Nat×Nat:=
 match lo,hi with
 |none,none=>(true,0,len)
 |some l,none=>(decide (0≤l)&&decide (l≤(len:Int)),l.toNat,len)
 |none,some h=>(decide (0≤h)&&decide (h≤(len:Int)),0,h.toNat)
 |some l,some h=>(decide (0≤h)&&decide (h≤(len:Int))&&(decide (0≤l)&&decide (l≤h)),l.toNat,h.toNat)
def Yjl (g:Gd):Option Operand→RD (Option Int)
 |none=>.ret none
 |some x=>(opv g x).bind fun v=>match v with | .cl _ (.int _) n=>.ret (some n) | _=>.fail
def Ykw (r:Nat) (p:Path) (ty:Ty):RD (Option Bool×TV):=(Yh5 r p).bind fun tv=>match decEq tv.lay ty.lay,tv.live with
 |isTrue _,true=>.ret (none,tv.mir r p)
 |_,_=>.fail
def pv (g:Gd) (o:Oper):RD (Option Bool×TV):=
 match o.op with
 |.move x=>(opv g x).bind fun v=>.ret (none,v)
 |.pick c a b=>match c with
  |.tmp u=>.tm u fun vc=>match vc with
   |.kb true=>(opv ((u,true)::g) a).bind fun v=>.ret (none,v)
   |.kb false=>(opv ((u,false)::g) b).bind fun v=>.ret (none,v)
   |_=>(opv g (.tmp u)).bind fun vc=>match vc with
    |.cl _ .bool t=>(opv ((u,true)::g) a).bind fun va=>(opv ((u,false)::g) b).bind fun vb=>match va,vb with
     |.cl _ .bool x,.cl _ .bool y=>.ret (none,sB (cond t x y))
     |.cl _ (.int k) x,.cl _ (.int k') y=>match decEq k' k with
      |isTrue _=>.ret (none,sI k (cond t x y))
      |isFalse _=>.fail
     |_,_=>.fail
    |_=>.fail
  |_=>.fail
 |.load t x=>(opv g x).bind fun v=>(Ycg tb t).bind fun i=>match v with
  |.loc r p=>match i.ty with
   |.sl _=>.ck r (.row p) fun b=>match b with
    |true=>.ret (none,.seg r p)
    |false=>Ykw r p i.ty
   |_=>Ykw r p i.ty
  |.pt u y=>match decEq u.lay i.ty.lay with
   |isTrue _=>.ret (none,.cl .sh u y)
   |isFalse _=>.fail
  |_=>.fail
 |.fieldAddr s x f=>(opv g x).bind fun v=>(Ycg tb s).bind fun i=>match i.d with
  |.st offs=>match v with
   |.loc r p=>match offs[f]? with
    |some n=>.ck r (.Ycc p f n) fun b=>match b with
     |true=>.ret (none,.loc r (p++Yai f))
     |false=>.fail
    |none=>.fail
   |.pt u y=>match (TV.cl .sh u y).Ycc f,offs[f]?,(TV.cl .sh u y).get (Yai f) with
    |some a,some b,some (.cl _ u' y')=>match Nat.beq a b with
     |true=>.ret (none,.pt u' y')
     |false=>.fail
    |_,_,_=>.fail
   |_=>.fail
  |_=>.fail
 |.field t x f=>(opv g x).bind fun v=>(Ycg tb t).bind fun i=>match i.d with
  |.st offs=>match decEq v.lay i.ty.lay with
   |isTrue _=>match v.Ycc f,offs[f]?,v.get (Yai f) with
    |some a,some b,some u=>match Nat.beq a b with
     |true=>.ret (none,u)
     |false=>.fail
    |_,_,_=>.fail
   |isFalse _=>.fail
  |_=>.fail
 |.indexAddr t x i=>(opv g x).bind fun v=>(opv g i).bind fun vi=>(Ycg tb t).bind fun ti=>match vi with
  |.cl _ (.int _) n=>match ti.d with
   |.sl _=>match v with
    |.seg r p=>(Yh5 r p).bind fun c=>match c.row with
     |.cl _ (.sl e) xs=>match decEq (Ty.sl e) ti.ty with
      |isTrue _=>.ret (some (inB n xs.length),.loc r (p++[.el n.toNat]))
      |isFalse _=>.fail
     |_=>.fail
    |.sub r p lo m=>(Yh5 r p).bind fun c=>match c with
     |.cl _ (.sl e) _=>match decEq (Ty.sl e) ti.ty with
      |isTrue _=>.ret (some (inB n m),.loc r (p++[.el (lo+n.toNat)]))
      |isFalse _=>.fail
     |_=>.fail
    |.cl _ (.sl e) xs=>match decEq (Ty.sl e) ti.ty with
     |isTrue _=>.ret (some (inB n xs.length),.pt e (xs.getD n.toNat e.zero))
     |isFalse _=>.fail
    |_=>.fail
   |.arr m _=>match v with
    |.loc r p=>(Yh5 r p).bind fun c=>match c with
     |.cl _ (.arr m' e) _=>match decEq (Ty.arr m' e) ti.ty with
      |isTrue _=>.ret (some (inB n m),.loc r (p++[.el n.toNat]))
      |isFalse _=>.fail
     |_=>.fail
    |.pt (.arr m' e) xs=>match decEq (Ty.arr m' e) ti.ty with
     |isTrue _=>.ret (some (inB n m),.pt e (xs.getD n.toNat e.zero))
     |isFalse _=>.fail
    |_=>.fail
   |_=>.fail
  |_=>.fail
 |.index t x i=>(opv g x).bind fun v=>(opv g i).bind fun vi=>(Ycg tb t).bind fun ti=>match ti.d,v,vi with
  |.str,.cl _ .str l,.cl _ (.int _) n=>.ret (some (inB n l.length),sI .u8 ((l.getD n.toNat 0).toNat:Int))
  |.arr _ _,.cl _ (.arr m e) l,.cl _ (.int _) n=>match decEq (Ty.arr m e) ti.ty with
   |isTrue _=>match e with
    |.int k=>.ret (some (inB n m),sI k (l.getD n.toNat (Ty.int k).zero))
    |.bool=>.ret (some (inB n m),sB (l.getD n.toNat Ty.bool.zero))
    |_=>.fail
   |isFalse _=>.fail
  |_,_,_=>.fail
 |.binOp op t x y _=>(opv g x).bind fun a=>(opv g y).bind fun b=>match a with
  |.cl _ .bool _=>(Ycg tb t).bind fun i=>match i.d with
   |.bool=>bin op a b
   |_=>.fail
  |.cl _ (.pair p q) xa=>(Ycg tb t).bind fun i=>match i.d,b with
   |.st _,.cl _ ty xb=>match decEq (Ty.pair p q) i.ty,decEq ty i.ty,Yiw i.ty&&Nat.beq i.bytes 0 with
    |isTrue _,isTrue _,true=>Yuo op (eqV (.pair p q) ty xa xb)
    |_,_,_=>.fail
   |_,_=>.fail
  |_=>bin op a b
 |.unOp op _ x=>(opv g x).bind fun v=>match op,v with
  |.not,.cl _ .bool b=>.ret (none,sB (!b))
  |.neg,.cl _ (.int k) n=>.ret (none,sI k (k.wrap (0-n)))
  |_,_=>.fail
 |.nilCheck x=>(opv g x).bind fun v=>match v with
  |.loc _ _ | .pt _ _ | .clo _ _=>.ret (none,v)
  |_=>.fail
 |.extract x i=>(opv g x).bind fun v=>match v with
  |.tup l=>match l.get (Yai i) with | some u=>.ret (none,u) | none=>.fail
  |_=>.fail
 |.slice t x lo hi mx=>(opv g x).bind fun v=>(Ycg tb t).bind fun ti=>match mx with
  |some (.const (.int _ 0))=>match hi with
   |some (.const (.int _ 0))=>match lo,ti.d with
    |none,.sl _=>(lenOf v).bind fun _=>match v with
     |.cl _ .str _=>.fail
     |_=>.ret (none,.nl)
    |_,_=>.fail
   |_=>.fail
  |some _=>.fail
  |none=>(Yjl g lo).bind fun l=>(Yjl g hi).bind fun h=>match ti.d,v with
   |.str,.cl _ .str s=>match slb l h s.length with
    |(b,l,h)=>.ret (some b,.cl .sh .str ((s.take h).drop l))
   |.sl _,.cl _ (.sl e) xs=>match decEq (Ty.sl e) ti.ty with
    |isTrue _=>match slb l h xs.length with
     |(b,l,h)=>.ret (some b,.cl .sh (.sl e) ((xs.take h).drop l))
    |isFalse _=>.fail
   |.sl _,.seg r p=>(els (.seg r p)).bind fun
    |.mk e xs _=>match decEq (Ty.sl e) ti.ty with
     |isTrue _=>match slb l h xs.length with
      |(b,l,h)=>.ret (some b,.sub r p l (h-l))
     |isFalse _=>.fail
   |.sl _,.sub r p lo n=>(els (.sub r p lo n)).bind fun
    |.mk e _ _=>match decEq (Ty.sl e) ti.ty with
     |isTrue _=>match slb l h n with
      |(b,l,h)=>.ret (some b,.sub r p (lo+l) (h-l))
     |isFalse _=>.fail
   |_,_=>.fail
 |.convert src dst x=>(opv g x).bind fun v=>(Ycg tb src).bind fun sd=>(Ycg tb dst).bind fun d=>match d.d,v with
  |.int k,.cl _ (.int _) n=>.ret (none,sI k (k.wrap n))
  |.str,.cl _ .str s=>match sd.d with
   |.str=>.ret (none,.cl .sh .str s)
   |_=>.fail
  |.str,v=>match sd.d with
   |.sl _=>match sd.ty with
    |.sl (.int .u8)=>(els v).bind fun
     |.mk (.int .u8) xs _=>.ret (none,.cl .sh .str (xs.map fun n=>UInt8.ofNat n.toNat))
     |_=>.fail
    |_=>.fail
   |_=>.fail
  |_,_=>.fail
 |.makeFunc (.func f) first cap=>match first.toList with
  |[]=>(caps g cap.toList).bind fun c=>.ret (none,.clo f c)
  |_=>.fail
 |.call {callee:=.builtin .len,args,argTypes }=>match args.toList,argTypes.toList with
  |[x],t::_=>(opv g x).bind fun v=>(Ycg tb t).bind fun i=>match i.d,v with
   |.str,.cl _ .str xs=>.ret (none,sI .i64 ((xs.length:Nat):Int))
   |.str,_=>.fail
   |.sl _,.cl _ .str _=>.fail
   |.sl _,v=>(lenOf v).bind fun n=>.ret (none,sI .i64 (n:Int))
   |_,_=>.fail
  |_,_=>.fail
 |.call {callee:=.builtin .min,args,.. }=>match args.toList with
  |[x,y]=>(opv g x).bind fun a=>(opv g y).bind fun b=>match a,b with
   |.cl _ (.int k) x,.cl _ (.int _) y=>.ret (none,sI k (cond (decide (y<x)) y x))
   |_,_=>.fail
  |_=>.fail
 |.call {callee:=.builtin .max,args,.. }=>match args.toList with
  |[x,y]=>(opv g x).bind fun a=>(opv g y).bind fun b=>match a,b with
   |.cl _ (.int k) x,.cl _ (.int _) y=>.ret (none,sI k (cond (decide (y>x)) y x))
   |_,_=>.fail
  |_=>.fail
 |_=>.fail
 where
 caps (g:Gd):List Operand→RD TV
  |[]=>.ret (.cl .sh .unit ())
  |x::l=>(opv g x).bind fun v=>match v with
   |.loc r p=>(caps g l).bind fun c=>.ret (.pr (.loc r p) c)
   |.pt t y=>(caps g l).bind fun c=>.ret (.pr (.pt t y) c)
   |_=>.fail
structure Hint where
 fz:List Nat
 tz:List Nat
 az:List Nat
 q:Nat
def Yay (n:Nat):List Nat→Bool
 |[]=>false
 |m::l=>Nat.beq n m || Yay n l
def Hint.q1 (h:Hint):Nat:=match h.q with | 1=>1 | 3=>3 | _=>0
def Hint.qAt (h:Hint) (r:Nat):Nat:=match Yay r h.az with | true=>2 | false=>h.q1
def Yv7 (h:Hint) (d:Nat) (e:Ty):Ow:=match (Yay d h.tz || Nat.beq h.q 1)&&!e.pure with | true=>.top | false=>.deep
def Yr4 (q:Nat) (e:Ty):TV:=match q with
 |2=>.nl
 |1=>match e.pure with | true=>.cl .deep (.sl e) ([]:List e.El) | false=>.cl .top (.sl e) ([]:List e.El)
 |3=>.cl .sh (.sl e) ([]:List e.El)
 |_=>.cl .deep (.sl e) ([]:List e.El)
structure Yp where
 rt:List (Nat×Option Root)
 ks:Ks
def Yp.none:Yp:=⟨[],[]⟩
def Ynp (K:Yp) (r:Nat) (p:Path) (R:Root) (c:TV):RD (TV×Yp):=match R.tv.set p (.dead 1) with
 |some tv=>.ret (c,⟨(r,some ⟨R.k,tv⟩)::K.rt,(r,some p)::K.ks⟩)
 |none=>.fail
def takeC (K:Yp) (r:Nat) (p:Path) (R:Root) (c:TV):RD (TV×Yp):=match p,R.k with
 |[],.reg=>.ret (c,⟨(r,none)::K.rt,(r,none)::K.ks⟩)
 |p,_=>Ynp K r p R c
def Yhz (K:Yp) (r:Nat) (p:Path) (R:Root):RD (TV×Yp):=
 match R.tv.get p with
  |some (.cl o (.sl e) x)=>match o with
   |.sh=>.fail
   |_=>takeC K r p R (.cl o (.sl e) x)
  |_=>.fail
def Ybt (K:Yp) (r:Nat) (p:Path):RD (TV×Yp):=
 match lk r K.rt with
 |some (some R)=>match Path.flat p with
  |true=>Yhz K r p R
  |false=>.fail
 |some none=>.fail
 |none=>.rt r fun R=>Yhz K r p R
def Ymr (lo n:Nat):TV→Option TV
 |.cl o (.sl e) xs=>some (.cl o (.sl e) ((xs.drop lo).take n))
 |_=>none
def Ya4 (q np:Nat) (K:Yp):Ty→TV→RD (TV×Yp)
 |_,.cl o t x=>.ret (.cl o t x,K)
 |.sl e,.nl=>.ret (Yr4 q e,K)
 |.pair t u,.pr a b=>(Ya4 q np K t a).bind fun(a',K)=>(Ya4 q np K u b).bind fun(b',K)=>.ret (Yal a' b',K)
 |_,.seg r p=>match Nat.blt r np with
  |true=>.ret (.seg r p,K)
  |false=>Ybt K r p
 |_,.sub r p lo n=>(Ybt K r p).bind fun(v,k)=>match Ymr lo n v with | some v=>.ret (v,k) | none=>.fail
 |_,.loc r p=>.ret (.loc r p,K)
 |_,.pt t x=>.ret (.pt t x,K)
 |_,.clo f c=>.ret (.clo f c,K)
 |_,_=>.fail
def share:Ty→TV→RD TV
 |_,.cl _ t x=>.ret (.cl .sh t x)
 |.sl e,.nl=>.ret (.cl .sh (.sl e) ([]:List e.El))
 |.pair t u,.pr a b=>(share t a).bind fun a'=>(share u b).bind fun b'=>match a',b' with
  |.cl _ t x,.cl _ u y=>.ret (.cl .sh (.pair t u) (x,y))
  |_,_=>.fail
 |_,.seg r p=>(els (.seg r p)).bind fun | .mk e xs _=>.ret (.cl .sh (.sl e) xs)
 |_,.sub r p lo n=>(els (.sub r p lo n)).bind fun | .mk e xs _=>.ret (.cl .sh (.sl e) xs)
 |_,_=>.fail
def Yhd:TV→RD TV
 |.cl _ t x=>.ret (.cl .sh t x)
 |.pr a b=>(Yhd a).bind fun a'=>(Yhd b).bind fun b'=>match a',b' with
  |.cl _ t x,.cl _ u y=>.ret (.cl .sh (.pair t u) (x,y))
  |_,_=>.fail
 |_=>.fail
def Yju:TV→RD TV
 |.pt t x=>.ret (.pt t x)
 |.loc r p=>(Yh5 r p).bind fun c=>(Yhd c).bind fun v=>match v with | .cl _ t x=>.ret (.pt t x) | _=>.fail
 |_=>.fail
def Yeu:TV→RD TV
 |.cl o t x=>.ret (.cl o t x)
 |.pr a b=>(Yju a).bind fun a'=>(Yeu b).bind fun b'=>.ret (.pr a' b')
 |_=>.fail
inductive Md | sh | mu | mv
def argTy (t:TypeId):Ty:=match lk t tb with | some i=>i.ty | none=>.unit
def Ydx (two:Bool):Path→Option Path
 |[.f1]=>match two with | true=>none | false=>some []
 |[.f2]=>match two with | true=>some [] | false=>none
 |x::p=>match Ydx two p with | some q=>some (x::q) | none=>none
 |[]=>none
def Ya7:TV→Option (Nat×Path)
 |.seg r p=>some (r,p)
 |.pr a b=>match Ya7 a with
  |some (r,p)=>match Ydx false p with | some q=>some (r,q) | none=>none
  |none=>match Ya7 b with
   |some (r,p)=>match Ydx true p with | some q=>some (r,q) | none=>none
   |none=>none
 |_=>none
def Path.eqf:Path→Path→Bool
 |[],[]=>true
 |.f1::p,.f1::q=>Path.eqf p q
 |.f2::p,.f2::q=>Path.eqf p q
 |_,_=>false
def TV.Ygc:TV→Bool
 |.cl o t _=>match o with | .sh=>true | _=>t.pure
 |.pr a b=>a.Ygc&&b.Ygc
 |_=>false
def isRow:TV→Bool
 |.cl o (.sl _) _=>match o with | .sh=>false | _=>true
 |_=>false
def TV.fst:TV→Option TV
 |.pr a _=>some a
 |.cl o (.pair t _) x=>some (.cl o t x.1)
 |_=>none
def TV.snd:TV→Option TV
 |.pr _ b=>some b
 |.cl o (.pair _ u) x=>some (.cl o u x.2)
 |_=>none
def Ycv (r:Nat):Path→TV→TV→Option TV
 |p,.seg r' q,c=>match Nat.beq r' r&&(Path.eqf q p&&isRow c) with | true=>some c | false=>none
 |_,.cl o t x,c=>match c.Ygc,decEq c.lay t.lay with | true,isTrue _=>some (.cl o t x) | _,_=>none
 |p,.pr a b,c=>match c.fst,c.snd with
  |some c1,some c2=>match Ycv r (p++[.f1]) a c1,Ycv r (p++[.f2]) b c2 with
   |some x,some y=>some (Yal x y)
   |_,_=>none
  |_,_=>none
 |_,_,_=>none
def Yc1:TV→TV→TV→Option TV
 |.seg _ _,c,o=>match c,o with
  |.cl _ (.sl e) _,.cl o' (.sl e') ys=>match decEq e' e,isRow (.cl o' (.sl e') ys) with
   |isTrue _,true=>some (.cl o' (.sl e') ys)
   |_,_=>none
  |.cl _ (.sl _) _,.dead 1=>some (.dead 1)
  |_,_=>none
 |.cl _ _ _,c,o=>match decEq o.lay c.lay with | isTrue _=>some c | isFalse _=>none
 |.pr a b,c,o=>match c.fst,c.snd,o.fst,o.snd with
  |some c1,some c2,some o1,some o2=>match Yc1 a c1 o1,Yc1 b c2 o2 with
   |some x,some y=>some (Yal x y)
   |_,_=>none
  |_,_,_,_=>none
 |_,_,_=>none
abbrev Ks':=List (Nat×Option Path)
def Yhe:TV→Ks'
 |.seg r p=>[(r,some (p++[.el 0]))]
 |.pr a b=>Yhe a++Yhe b
 |_=>[]
def Yfb:TV→TV→Ks'
 |.seg r p,.dead _=>[(r,some p)]
 |.pr a b,o=>match o.fst,o.snd with
  |some o1,some o2=>Yfb a o1++Yfb b o2
  |_,_=>[]
 |_,_=>[]
def Yfr:Ty→TV→Option TV
 |_,.cl _ t x=>match t.pure with | true=>some (.cl .deep t x) | false=>none
 |.sl e,.nl=>some (.cl .deep (.sl e) ([]:List e.El))
 |.pair t u,.pr a b=>match Yfr t a,Yfr u b with
  |some (.cl _ t' x),some (.cl _ u' y)=>some (.cl .deep (.pair t' u') (x,y))
  |_,_=>none
 |_,_=>none
def Yb7 (t:TypeId):TV→RD TV
 |.cl o t x=>.ret (.cl o t x)
 |.nl=>match argTy tb t with | .sl e=>.ret (.cl .deep (.sl e) ([]:List e.El)) | _=>.fail
 |.loc r p=>(Yh5 r p).bind fun c=>.ret (.op c)
 |.seg r p=>(Yh5 r p).bind fun c=>match isRow c with | true=>.ret c | false=>.fail
 |.pr a b=>match Ya7 (.pr a b) with
  |some (r,p)=>(Yh5 r p).bind fun c=>RD.of (Ycv r p (.pr a b) c)
  |none=>RD.of (Yfr (argTy tb t) (.pr a b))
 |_=>.fail
def Yhh (K:Yp) (t:TypeId):Md→TV→RD (TV×Yp)
 |.sh,.loc r p=>(Yju (.loc r p)).bind fun v=>.ret (v,K)
 |.sh,.pt u x=>.ret (.pt u x,K)
 |.sh,.clo f c=>(Yeu c).bind fun c'=>.ret (.clo f c',K)
 |.sh,v=>(share (argTy tb t) v).bind fun v=>.ret (v,K)
 |.mu,v=>(Yb7 tb t v).bind fun v=>.ret (v,K)
 |.mv,_=>.fail
def Yfh (K:Yp):List TypeId→List Md→List TV→RD (List TV×Yp)
 |_,[],[]=>.ret ([],K)
 |t::ts,m::ms,v::vs=>(Yhh tb K t m v).bind fun(c,K)=>(Yfh K ts ms vs).bind fun(cs,K)=>.ret (c::cs,K)
 |[],m::ms,v::vs=>(Yhh tb K 0 m v).bind fun(c,K)=>(Yfh K [] ms vs).bind fun(cs,K)=>.ret (c::cs,K)
 |_,_,_=>.fail
def Yeo:TV→Option (Nat×Path)
 |.loc r p=>match Path.flat p with | true=>some (r,p) | false=>none
 |.seg r p=>some (r,p)
 |.pr a b=>match Ya7 (.pr a b) with
  |some (r,p)=>match Path.flat p with | true=>some (r,p) | false=>none
  |none=>none
 |_=>none
def TV.Ycw:TV→Bool
 |.cl _ _ _ | .nl=>false
 |.pr a b=>a.Ycw || b.Ycw
 |_=>true
def Yau:List Md→List TV→List TV
 |.mu::ms,v::vs=>match v.Ycw with | true=>v::Yau ms vs | false=>Yau ms vs
 |_::ms,_::vs=>Yau ms vs
 |_,_=>[]
def Yc8:List Md→List TV→List TV→Option TV
 |.mu::ms,v::vs,o::os=>match v.Ycw with | true=>some o | false=>Yc8 ms vs os
 |.mu::_,_::_,[]=>none
 |_::ms,_::vs,os=>Yc8 ms vs os
 |_,_,_=>none
def TV.roots:TV→List Nat
 |.pr a b=>a.roots++b.roots
 |.loc r _=>[r]
 |.seg r _=>[r]
 |.sub r _ _ _=>[r]
 |.clo _ c=>c.roots
 |.tup l=>l.roots
 |.gd _ _ v=>v.roots
 |_=>[]
def Yef:List Md→List TV→List Nat
 |.sh::ms,v::vs=>v.roots++Yef ms vs
 |_::ms,_::vs=>Yef ms vs
 |_,_=>[]
def Ygn:List Md→List TV→List TV
 |.sh::ms,v::vs=>v::Ygn ms vs
 |_::ms,_::vs=>Ygn ms vs
 |_,_=>[]
def Yo2 (rt:List (Nat×Option Root)) (l:List Nat):Bool:=l.all fun r=>match lk r rt with | some _=>false | none=>true
def Yn0 (K:Yp) (ms:List Md) (vs:List TV):Bool:=match Yau ms vs with
 |[]=>Yo2 K.rt (Yef ms vs)
 |[v]=>match Yeo v with
  |some (r,_)=>Yo2 K.rt (Yef ms vs)&&(Yo2 K.rt [r]&&!Yay r (Yef ms vs))
  |none=>false
 |_=>false
def TV.shut:TV→Bool
 |.cl _ _ _ | .nl | .pt _ _=>true
 |.pr a b=>a.shut&&b.shut
 |.op v=>v.shut
 |.clo _ c=>c.shut
 |_=>false
abbrev Bk:=List (Nat×Option Root)×Ks
def Yhi (v old o:TV):Option (TV×Ks):=match v,o with
 |.loc r p,.op c=>some (c,[(r,some p)])
 |.loc _ _,_=>none
 |v,o=>match Yc1 v old o with | some n=>some (n,Yhe v++Yfb v o) | none=>none
def back (K:Yp) (ms:List Md) (vs os:List TV):RD Bk:=match Yau ms vs with
 |[]=>.ret (K.rt,K.ks)
 |v::_=>match Yeo v,Yc8 ms vs os with
  |some (r,p),some o=>.rt r fun R=>match R.tv.get p with
   |some old=>match Yhi v old o with
    |some (n,ks)=>match decEq n.lay old.lay with
     |isTrue _=>match R.tv.set p n with
      |some tv=>.ret ((r,some ⟨R.k,tv⟩)::K.rt,ks++K.ks)
      |none=>.fail
     |isFalse _=>.fail
    |none=>.fail
   |none=>.fail
  |_,_=>.fail
structure Out where
 res:List TV
 outs:List TV
structure FS where
 modes:List Md
 F:List TV→∀ R:Type,(Out→Option R)→Option R
abbrev Gam:=FuncId→Option FS
def nsh (o:Ow) (t:Ty):Bool:=match o with | .sh=>t.pure | .top=>t.Ye7 | .deep=>true
def TV.noSh:TV→Bool
 |.cl o t _=>nsh o t
 |.pr a b=>a.noSh&&b.noSh
 |.op v=>v.noSh
 |.dead _=>true
 |_=>false
def TV.Ybm:TV→Bool
 |.cl _ _ _ | .pt _ _ | .nl=>true
 |.pr a b=>a.Ybm&&b.Ybm
 |.clo _ c=>c.Ybm
 |_=>false
def Ysm (d:Nat) (p:Path):TV→TV
 |.op _=>.loc d []
 |v=>v.mir d p
def Y8:TV→Option Root
 |.op v=>some ⟨.mem,v⟩
 |.cl o t x=>match t.pure,o with
  |true,_=>none
  |false,.sh=>none
  |false,o=>some ⟨.reg,.cl o t x⟩
 |.pr a b=>some ⟨.reg,.pr a b⟩
 |_=>none
def TV.Yna:TV→Bool
 |.pr a b=>a.Yna&&b.Yna
 |.op _=>false
 |_=>true
def chain:List TV→TV
 |[]=>.cl .sh .unit ()
 |v::l=>.pr v (chain l)
def Ya9 (np:Nat) (d:Option Nat) (R:List (Nat×Option Root)) (ks:Ks):List TV→RD Patch
 |[]=>.ret ⟨match d with | some d=>[(d,.tup (chain []))] | none=>[],R,ks⟩
 |[c]=>match d with
  |none=>.ret ⟨[],R,ks⟩
  |some d=>match Y8 c with
   |none=>.ret ⟨[(d,c.mir d [])],R,ks⟩
   |some rt=>match Nat.blt d np with
    |true=>.fail
    |false=>.rt? d fun b=>.ret ⟨[(d,Ysm d [] c)],(d,some rt)::R,match b with | true=>(d,none)::ks | false=>ks⟩
 |cs=>match d with
  |none=>.ret ⟨[],R,ks⟩
  |some d=>match Nat.blt d np || !cs.all TV.Yna with
   |true=>.fail
   |false=>.rt? d fun b=>.ret ⟨[(d,.tup ((chain cs).mir d []))],(d,some ⟨.reg,chain cs⟩)::R,match b with | true=>(d,none)::ks | false=>ks⟩
inductive Ycn where
 |step (chk:Option Bool) (p:Patch)
 |call (c:Option (Bool×Nat×Bool)) (f:FuncId) (cs:List TV) (post:Out→RD Patch)
def Yao (np d:Nat) (v:TV) (rt:Root) (k:Yp):RD Patch:=match Nat.blt d np with
 |true=>.fail
 |false=>.rt? d fun b=>.ret ⟨[(d,v)],(d,some rt)::k.rt,match b with | true=>(d,none)::k.ks | false=>k.ks⟩
def Yql (g:Gd):List Operand→RD (List TV)
 |[]=>.ret []
 |o::os=>(opv g o).bind fun v=>(Yql g os).bind fun vs=>.ret (v::vs)
def Y7:Ty→Nat→Ty
 |.pair a _,0=>a
 |.pair _ b,n+1=>Y7 b n
 |_,_=>.unit
def Yed:Ty→TV
 |.sl _=>.nl
 |.pair a b=>match (Ty.pair a b).pure with
  |true=>.cl .sh (.pair a b) (a.zero,b.zero)
  |false=>.pr (Yed a) (Yed b)
 |t=>.cl .sh t t.zero
def Ylg (h:Hint) (d:Nat) (t:Ty):TV:=match Yay d h.az with
 |true=>Yed t
 |false=>.cl .deep t t.zero
def partAt (i:Nat):List (Nat×Operand)→Option Operand
 |[]=>none
 |(j,x)::l=>match Nat.beq i j with | true=>some x | false=>partAt i l
def Ypk:TV→TV→TV
 |.cl _ t x,.cl _ u y=>.cl .sh (.pair t u) (x,y)
 |a,b=>.pr a b
def Ye3 (n:Nat):List (Nat×Operand)→Bool
 |[]=>true
 |(i,_)::l=>Nat.blt i n&&(match partAt i l with | some _=>false | none=>true)&&Ye3 n l
def TV.Yuc:TV→Bool
 |.tup _=>false
 |_=>true
def Yil (g:Gd) (parts:List (Nat×Operand)):Nat→Nat→List Nat→Ty→RD TV
 |i,k,o::os,.pair a b=>match Nat.beq o k with
  |true=>(match partAt i parts with | some x=>opv g x | none=>.ret (Yed a)).bind fun v=>match Nat.beq v.size a.size&&v.Yuc with
   |true=>(Yil g parts (i+1) (k+a.size) os b).bind fun w=>.ret (Ypk v w)
   |false=>.fail
  |false=>.fail
 |_,_,[],.unit=>.ret (.cl .sh .unit ())
 |_,_,_,_=>.fail
def Yim (h:Hint) (g:Gd) (np:Nat) (e:Ty):Yp→Nat→List (Nat×Operand)→RD (List e.El×Bool×Yp)
 |K,_,[]=>.ret ([],true,K)
 |K,i,(j,x)::ps=>match Nat.beq i j with
  |true=>(opv g x).bind fun v=>(Ya4 h.q1 np K e v).bind fun(c,K)=>match c with
   |.cl o t y=>match decEq t e with
    |isTrue e=>(Yim h g np _ K (i+1) ps).bind fun(l,b,K)=>
     .ret ((e▸y)::l,(match Yj8 t o with | .deep=>true | _=>false)&&b,K)
    |isFalse _=>.fail
   |_=>.fail
  |false=>.fail
def Yjw (np:Nat):TV→RD (Els×Yp)
 |.nl=>.fail
 |.seg r p=>(els (.seg r p)).bind fun
  |.mk e xs o=>match e.pure,o with
   |true,_=>.ret (.mk e xs .deep,.none)
   |false,.deep=>match Nat.blt r np with
    |true=>.fail
    |false=>(Ybt .none r p).bind fun(_,k)=>.ret (.mk e xs .deep,k)
   |false,_=>.ret (.mk e xs .sh,.none)
 |.cl _ .str s=>.ret (.mk (.int .u8) (s.map fun b=>(b.toNat:Int)) .deep,.none)
 |v=>(els v).bind fun | .mk e xs o=>match e.pure,o with
  |true,_=>.ret (.mk e xs .deep,.none)
  |false,.deep=>.fail
  |false,_=>.ret (.mk e xs .sh,.none)
def Ylp (K:Yp) (e:Ty):TV→RD (List e.El×Ow×Yp)
 |.nl=>.ret ([],.deep,K)
 |.seg r p=>(Ybt K r p).bind fun(v,k)=>match v with
  |.cl o (.sl e') xs=>match decEq e' e with
   |isTrue h=>.ret (h▸xs,o,k)
   |isFalse _=>.fail
  |_=>.fail
 |_=>.fail
def splice {α:Type} (xs:List α) (lo:Nat) (ys:List α):List α:=xs.take lo++ys++xs.drop (lo+ys.length)
def unchain:TV→List TV
 |.pr a b=>a::unchain b
 |_=>[]
def ovR (d:Option Nat) (v:TV) (r lo:Nat) (n:Option Nat) (R:Root) (f:(e:Ty)→(n:Nat)→Option (List e.El)):RD Ycn:=match R.k,R.tv with
 |.reg,.cl ow (.sl e) xs=>match ow,e.pure,f e (n.getD xs.length) with
  |.sh,_,_=>.fail
  |_,true,some ys=>.ret (.step none ⟨match d with | some d=>[(d,v)] | none=>[],[(r,some ⟨.reg,.cl ow (.sl e) (splice xs lo ys)⟩)],[]⟩)
  |_,_,_=>.fail
 |_,_=>.fail
def over (d:Option Nat) (v:TV) (vs:TV) (f:(e:Ty)→(n:Nat)→Option (List e.El)):RD Ycn:=match vs with
 |.seg r []=>.rt r fun R=>ovR d v r 0 none R f
 |.sub r [] lo n=>.rt r fun R=>ovR d v r lo (some n) R f
 |_=>.fail
def Yht (cd:Option (Bool×Nat×Bool)) (g:Gd) (o:Oper):RD Ycn:=(pv tb g o).bind fun(b,v)=>match cd with
 |none=>.ret (.step b ⟨match o.dst with | some d=>[(d,v)] | none=>[],[],[]⟩)
 |some (c,t,w)=>match v with
  |.tup _=>.fail
  |.dead _=>.fail
  |v=>.ret (.step (match b with | some b=>some (cond c b true) | none=>none) ⟨match o.dst with | some d=>[(d,.gd t w v)] | none=>[],[],[]⟩)
def Yjk (r:Nat) (p:Path) (ks:Ks):TV→Ks
 |.cl _ t _=>match t.pure with | true=>ks | false=>(r,some p)::ks
 |_=>(r,some p)::ks
def Ypq (r:Nat) (p:Path) (c:TV) (k:Yp) (R:Root) (old:TV):RD Ycn:=
 match decEq old.lay c.lay with
 |isTrue _=>match R.tv.set p c with
  |some tv=>.ret (.step none ⟨[],(r,some ⟨R.k,tv⟩)::k.rt,Yjk r p k.ks old⟩)
  |none=>.fail
 |isFalse _=>.fail
def put (r:Nat) (p:Path) (c:TV) (k:Yp) (R:Root):RD Ycn:=
 match R.tv.get p with
 |some old=>match R.k with
  |.reg=>match Path.flat p with
   |true=>.fail
   |false=>Ypq r p c k R old
  |.mem=>Ypq r p c k R old
 |none=>.fail
def Ytr (r:Nat) (p:Path) (c:TV) (k:Yp) (R:Root):RD Ycn:=match R.tv.Ym2 with
 |true=>match R.tv.Ymw p,R.tv.Yh4 p c with
  |some (b,old),some (_,tv)=>match decEq old.lay c.lay with
   |isTrue _=>.ret (.step (some b) ⟨[],(r,some ⟨R.k,tv⟩)::k.rt,Yjk r p k.ks old⟩)
   |isFalse _=>.fail
  |_,_=>.fail
 |false=>put r p c k R
def Yfy (np d:Nat) (v:TV):RD Ycn:=match v with
 |.seg r []=>match Nat.beq r d || Nat.blt r np || Nat.blt d np with
  |true=>.ret (.step none ⟨[(d,.seg r [])],[],[]⟩)
  |false=>.rt r fun R=>match R.k,R.tv.Ym2 with
   |.reg,false=>(Yao np d (.seg d []) R ⟨[(r,none)],[(r,none)]⟩).bind fun p=>.ret (.step none p)
   |_,_=>.ret (.step none ⟨[(d,.seg r [])],[],[]⟩)
 |.sub r [] lo n=>match Nat.blt r np || Nat.blt d np with
  |true=>.ret (.step none ⟨[(d,.sub r [] lo n)],[],[]⟩)
  |false=>.rt r fun R=>match R.k,R.tv with
   |.reg,.cl .deep (.sl e) xs=>nar r lo n .deep e xs
   |.reg,.cl .top (.sl e) xs=>nar r lo n .top e xs
   |_,_=>.ret (.step none ⟨[(d,.sub r [] lo n)],[],[]⟩)
 |v=>.ret (.step none ⟨[(d,v)],[],[]⟩)
 where
 nar (r lo n:Nat) (o:Ow) (e:Ty) (xs:List e.El):RD Ycn:=
  (Yao np d (.seg d []) ⟨.reg,.cl o (.sl e) ((xs.drop lo).take n)⟩ ⟨[(r,none)],[(r,none)]⟩).bind fun p=>.ret (.step none p)
def TV.Ys8:TV→Option ((t:Ty)×t.El)
 |.cl o t y=>match Yj8 t o with
  |.sh=>some ⟨t,y⟩
  |.top=>none
  |.deep=>match t.pure with | true=>some ⟨t,y⟩ | false=>none
 |_=>none
def Yvp (h:Hint) (np d:Nat) (t:Ty) (v:TV):RD Ycn:=match Yay d h.fz&&!Nat.blt d np,v.Ys8 with
 |true,some ⟨t,y⟩=>.rt? d fun b=>.ret (.step none ⟨[(d,.pt t y)],[(d,none)],match b with | true=>[(d,none)] | false=>[]⟩)
 |_,_=>(Ya4 h.q1 np .none t v).bind fun(c,k)=>(Yao np d (.loc d []) ⟨.mem,c⟩ k).bind fun p=>.ret (.step none p)
def doR (h:Hint) (np:Nat) (g:Gd) (o:Oper):RD Ycn:=
 match o.op with
 |.assign x=>match o.dst with
  |some d=>match x with
   |.const (.slice none 0 0)=>(Ycg tb o.type).bind fun i=>match i.ty with
    |.sl e=>(Yao np d (.seg d []) ⟨.reg,.cl (Yv7 h d e) (.sl e) ([]:List e.El)⟩ .none).bind fun p=>.ret (.step none p)
    |_=>.fail
   |.const (.pointer none)=>.ret (.step none ⟨[(d,.dead 1)],[],[]⟩)
   |x=>(opv g x).bind fun v=>Yfy np d v
  |none=>.fail
 |.alloc t=>match o.dst with
  |some d=>(Ycg tb t).bind fun i=>(Yao np d (.loc d []) ⟨.mem,Ylg h d i.ty⟩ .none).bind fun p=>.ret (.step none p)
  |none=>.fail
 |.box t x=>match o.dst with
  |some d=>(opv g x).bind fun v=>Yvp h np d (argTy tb t) v
  |none=>.fail
 |.build t parts=>match o.dst with
  |some d=>(Ycg tb t).bind fun i=>match i.d with
   |.st offs=>match Ye3 offs.length parts.toList with
    |true=>(Yil g parts.toList 0 0 offs i.ty).bind fun v=>.ret (.step none ⟨[(d,v)],[],[]⟩)
    |false=>.fail
   |_=>.fail
  |none=>.fail
 |.buildSlice t n parts=>match o.dst with
  |some d=>(Ycg tb t).bind fun i=>match i.ty with
   |.sl e=>match Nat.beq n parts.toList.length,Nat.ble (n*e.size) 16777216 with
    |true,true=>(Yim h g np e .none 0 parts.toList).bind fun(l,b,k)=>
     (Yao np d (.seg d []) ⟨.reg,.cl (match b with | true=>.deep | false=>.top) (.sl e) l⟩ k).bind fun p=>.ret (.step none p)
    |_,_=>.fail
   |_=>.fail
  |none=>.fail
 |.makeSlice t l c=>match o.dst with
  |some d=>(opv g l).bind fun vl=>(opv g c).bind fun vc=>(Ycg tb t).bind fun i=>match vl,vc,i.ty with
   |.cl _ (.int _) n,.cl _ (.int _) m,.sl e=>
    (Yao np d (.seg d []) ⟨.reg,.cl .deep (.sl e) (List.replicate n.toNat e.zero)⟩ .none).bind fun p=>
     .ret (.step (some (decide (0≤n)&&(decide (n≤m)&&decide (m≤2147483648)))) p)
   |_,_,_=>.fail
  |none=>.fail
 |.store t a x=>(opv g a).bind fun va=>(opv g x).bind fun vx=>match va with
  |.loc r p=>(Ycg tb t).bind fun ti=>(Ya4 (h.qAt r) np .none ti.ty vx).bind fun(c,k)=>match decEq c.lay ti.ty.lay,c.live,o.dst with
   |isTrue _,true,none=>match lk r k.rt with
    |some (some R)=>match (Yx k.ks (.loc r p)).live with
     |true=>Ytr r p c.own k R
     |false=>.fail
    |some none=>.fail
    |none=>.rt r fun R=>Ytr r p c.own k R
   |_,_,_=>.fail
  |_=>.fail
 |.convert src dst x=>match o.dst with
  |some d=>(opv g x).bind fun v=>(Ycg tb src).bind fun sd=>(Ycg tb dst).bind fun td=>match sd.d,v,td.ty with
   |.str,.cl _ .str s,.sl (.int .u8)=>
    (Yao np d (.seg d []) ⟨.reg,.cl .deep (.sl (.int .u8)) (s.map fun b=>(b.toNat:Int))⟩ .none).bind fun p=>.ret (.step none p)
   |_,_,_=>Yht tb none g o
  |none=>.fail
 |.call {callee:=.builtin .append,args,argTypes }=>match o.dst with
  |some d=>match args.toList,argTypes.toList with
   |[s,x],[ts,tx]=>(Ycg tb ts).bind fun i=>(Ycg tb tx).bind fun ix=>match i.ty,(match ix.d with | .sl _=>true | .str=>true | _=>false) with
    |.sl e,true=>(opv g s).bind fun vs=>(opv g x).bind fun vx=>(Yjw np vx).bind fun(y,k')=>(Ylp k' e vs).bind fun(xs,ow,k)=>
     match y with
     |.mk e' ys oy=>match decEq e' e with
      |isTrue h=>
       (Yao np d (.seg d []) ⟨.reg,.cl (match ow,oy with | .deep,.deep=>.deep | _,_=>.top) (.sl e) (xs++(h▸ys))⟩ k).bind fun p=>
        .ret (.step (some (decide ((xs++(h▸ys:List e.El)).length≤2147483648))) p)
      |isFalse _=>.fail
    |_,_=>.fail
   |_,_=>.fail
  |none=>.fail
 |.call {callee:=.builtin .copy,args,argTypes }=>match args.toList,argTypes.toList with
  |[s,x],t::_=>(Ycg tb t).bind fun i=>(opv g s).bind fun vs=>(opv g x).bind fun vx=>(Yjw 1000000 vx).bind fun(y,_)=>match y with
   |.mk e' ys _=>match decEq (Ty.sl e') i.ty with
    |isTrue _=>(lenOf vs).bind fun n=>over o.dst (sI .i64 ((min ys.length n:Nat):Int)) vs fun e n=>match decEq e' e with
     |isTrue h=>some ((h▸ys:List e.El).take n)
     |isFalse _=>none
    |isFalse _=>.fail
  |_,_=>.fail
 |.call {callee:=.builtin .clear,args,argTypes }=>match args.toList,argTypes.toList with
  |[s],t::_=>(Ycg tb t).bind fun i=>(opv g s).bind fun vs=>over o.dst (.tup (.cl .sh .unit ())) vs fun e n=>match decEq (Ty.sl e) i.ty with
   |isTrue _=>some (List.replicate n e.zero)
   |isFalse _=>none
  |_,_=>.fail
 |_=>Yht tb none g o
def Ypb (np:Nat) (Mo:FuncId→Option (List Md)) (cd:Option (Bool×Nat×Bool)) (g:Gd) (o:Oper) (f:Operand) (args:List Operand) (argTypes:List TypeId):RD Ycn:=
 (opv g f).bind fun vf=>match vf with
 |.clo f c=>(Yql g args).bind fun vs=>match Mo f with
  |some ms=>(Yfh tb .none argTypes ms (vs++unchain c)).bind fun(cs,k)=>match Yn0 k ms (vs++unchain c)&&cs.all TV.shut with
   |false=>.fail
   |true=>.ret (.call cd f cs fun out=>match (Ygn ms (vs++unchain c)).all TV.Ybm || (out.res.all TV.noSh&&out.outs.all TV.noSh) with
    |true=>(back k ms (vs++unchain c) out.outs).bind fun B=>Ya9 np o.dst B.1 B.2 out.res
    |false=>.fail)
  |none=>.fail
 |_=>.fail
end
inductive Ex | nm | ex (id:Nat) | rt
inductive Hi | no | fr (l:Nat) | two (a b:Hi) | one (a:Hi)
def Hi.l:Hi→Hi | .two x _=>x | _=>.no
def Hi.r:Hi→Hi | .two _ x=>x | _=>.no
def Hi.i:Hi→Hi | .one x=>x | _=>.no
abbrev Lam:=Nat→Option (St→∀ R:Type,(Ex→St→Option R)→Option R)
def TV.only (l:List Nat):TV→TV
 |.pr a b=>.pr (a.only l) (b.only l)
 |.loc r q=>match Yay r l with | true=>.loc r q | false=>.dead 1
 |.seg r q=>match Yay r l with | true=>.seg r q | false=>.dead 1
 |.sub r q lo n=>match Yay r l with | true=>.sub r q lo n | false=>.dead 1
 |.clo f c=>match (c.only l).live with | true=>.clo f c | false=>.dead 1
 |.tup v=>.tup (v.only l)
 |.gd t w v=>.gd t w (v.only l)
 |v=>v
def Yfm (S:St) (b:List Nat):List Nat→List (Nat×TV)
 |[]=>[]
 |i::l=>match lk i S.tm with | some v=>(i,v.only b)::Yfm S b l | none=>Yfm S b l
def Yb6 (S:St) (b:List Nat):List Nat→List (Nat×Option Root)
 |[]=>[]
 |i::l=>match S.root i with | some R=>(i,some {R with tv:=R.tv.only b })::Yb6 S b l | none=>Yb6 S b l
def St.keep (S:St) (a b:List Nat):St:=⟨Yfm S b a,Yb6 S b b⟩
def Ydf (i:Nat):List TV→List (Nat×TV)
 |[]=>[]
 |.op _::l=>(i,.loc i [])::Ydf (i+1) l
 |v::l=>(i,v.mir i [])::Ydf (i+1) l
def Ydy (i:Nat):List TV→List (Nat×Option Root)
 |[]=>[]
 |v::l=>match Y8 v with
  |some rt=>(i,some rt)::Ydy (i+1) l
  |none=>Ydy (i+1) l
def Yh (cs:List TV):St:=⟨Ydf 0 cs,Ydy 0 cs⟩
def Yva (tb:Tb):ResultVar→RD TV
 |.tmp i=>opv [] (.tmp i)
 |.cell i ct=>(opv [] (.tmp i)).bind fun v=>match v with
  |.loc _ _=>(pv tb [] ⟨none,.load ct (.tmp i),0,"",#[],none⟩).bind fun(_,v)=>match v with
   |.dead _=>.fail
   |v=>.ret v
  |_=>.fail
def Ysl (tb:Tb) (hn:Hint) (np:Nat) (t:TypeId) (K:Yp):TV→RD (TV×Yp)
 |.loc q []=>match lk q K.rt,Nat.ble np q with
  |none,true=>.rt q fun R=>match R.k with
   |.mem=>.ret (.op R.tv,⟨(q,none)::K.rt,(q,none)::K.ks⟩)
   |.reg=>.fail
  |_,_=>.fail
 |.pt t x=>.ret (.pt t x,K)
 |v=>Ya4 hn.q1 0 K (argTy tb t) v
def Yg1 (tb:Tb) (hn:Hint) (np:Nat):List TypeId→List ResultVar→Yp→RD (List TV×Yp)
 |t::ts,r::rs,K=>(Yva tb r).bind fun v=>(Ysl tb hn np t K v).bind fun(c,K)=>(Yg1 tb hn np ts rs K).bind fun(cs,K)=>.ret (c::cs,K)
 |[],[],K=>.ret ([],K)
 |_,_,_=>.fail
def Root.out (R:Root):TV:=match R.k with | .mem=>.op R.tv | .reg=>R.tv
def Yp.rd (K:Yp) (r:Nat):RD Root:=match lk r K.rt with
 |some (some R)=>.ret R
 |some .none=>.fail
 |.none=>.rt r .ret
def Ydw (K:Yp):Nat→List Md→RD (List TV)
 |_,[]=>.ret []
 |i,.mu::ms=>(K.rd i).bind fun R=>(Ydw K (i+1) ms).bind fun l=>.ret (R.out::l)
 |i,_::ms=>Ydw K (i+1) ms
def Yvz (tb:Tb) (hn:Hint) (ts:List TypeId) (rs:List ResultVar) (ms:List Md):RD Out:=
 (Yg1 tb hn ms.length ts rs .none).bind fun(vs,K)=>(Ydw K 0 ms).bind fun os=>match vs.all TV.shut&&os.all TV.shut with
  |true=>.ret ⟨vs,os⟩
  |false=>.fail
def fin (tb:Tb) (hn:Hint) (fn:Func) (ms:List Md) (S:St):Option Out:=(Yvz tb hn fn.resultTypes.toList fn.results.toList ms).run S
def Ytd (tb:Tb) (hn:Hint) (fn:Func) (ms:List Md) (e:Ex) (S:St):Option Out:=match e with
 |.ex _=>none
 |_=>fin tb hn fn ms S
inductive PS | f1 | f2 | el
@[reducible] def PS.Els:List PS→Type
 |[]=>Unit
 |.el::p=>Nat×PS.Els p
 |_::p=>PS.Els p
def PS.mk:(p:List PS)→PS.Els p→Path
 |[],_=>[]
 |.el::p,x=>.el x.1::PS.mk p x.2
 |.f1::p,x=>.f1::PS.mk p x
 |.f2::p,x=>.f2::PS.mk p x
def PS.rd:(p:List PS)→Path→Option (PS.Els p)
 |[],[]=>some ()
 |.el::p,.el i::q=>match PS.rd p q with | some x=>some (i,x) | none=>none
 |.f1::p,.f1::q=>PS.rd p q
 |.f2::p,.f2::q=>PS.rd p q
 |_,_=>none
inductive PT where
 |cl (o:Ow) (t:Ty)
 |pr (a b:PT)
 |nl
 |loc (r:Nat) (p:List PS)
 |seg (r:Nat) (p:List PS)
 |sub (r:Nat) (p:List PS)
 |pt (t:Ty)
 |op (a:PT)
 |clo (f:FuncId) (c:PT)
 |tup (l:PT)
 |kb (b:Bool)
@[reducible] def PT.El:PT→Type
 |.cl _ t=>t.El
 |.pr a b=>a.El×b.El
 |.nl | .kb _=>Unit
 |.loc _ p | .seg _ p=>PS.Els p
 |.sub _ p=>PS.Els p×Nat×Nat
 |.pt t=>t.El
 |.op a=>a.El
 |.clo _ c=>c.El
 |.tup l=>l.El
def PT.mk:(p:PT)→p.El→TV
 |.cl o t,x=>.cl o t x
 |.pr a b,x=>.pr (a.mk x.1) (b.mk x.2)
 |.nl,_=>.nl
 |.kb b,_=>.kb b
 |.loc r p,x=>.loc r (PS.mk p x)
 |.seg r p,x=>.seg r (PS.mk p x)
 |.sub r p,x=>.sub r (PS.mk p x.1) x.2.1 x.2.2
 |.pt t,x=>.pt t x
 |.op a,x=>.op (a.mk x)
 |.clo f c,x=>.clo f (c.mk x)
 |.tup l,x=>.tup (l.mk x)
def PT.rd:(p:PT)→TV→Option p.El
 |.cl o t,.cl o' u x=>match decEq o' o,decEq u t with
  |isTrue _,isTrue h=>some (h▸x)
  |_,_=>none
 |.pr a b,.pr v w=>match a.rd v,b.rd w with
  |some x,some y=>some (x,y)
  |_,_=>none
 |.nl,.nl=>some ()
 |.kb b,.kb c=>match b,c with | true,true | false,false=>some () | _,_=>none
 |.loc r p,.loc r' q=>match Nat.beq r r' with | true=>PS.rd p q | false=>none
 |.seg r p,.seg r' q=>match Nat.beq r r' with | true=>PS.rd p q | false=>none
 |.sub r p,.sub r' q lo n=>match Nat.beq r r' with
  |true=>match PS.rd p q with | some x=>some (x,lo,n) | none=>none
  |false=>none
 |.pt t,.pt u x=>match decEq u t with
  |isTrue h=>some (h▸x)
  |isFalse _=>none
 |.op a,.op v=>a.rd v
 |.clo f c,.clo g v=>match Nat.beq f g with | true=>c.rd v | false=>none
 |.tup l,.tup v=>l.rd v
 |_,_=>none
@[reducible] def PT.Els:List PT→Type
 |[]=>Unit
 |p::l=>p.El×PT.Els l
def PT.mks:(l:List PT)→PT.Els l→List TV
 |[],_=>[]
 |p::l,x=>p.mk x.1::PT.mks l x.2
def PT.rds:(l:List PT)→List TV→Option (PT.Els l)
 |[],[]=>some ()
 |p::l,v::vs=>match p.rd v with
  |some x=>match PT.rds l vs with | some y=>some (x,y) | none=>none
  |none=>none
 |_,_=>none
@[reducible] def Ynr:List (Nat×PT)→Type
 |[]=>Unit
 |(_,p)::l=>p.El×Ynr l
def Yt4:(l:List (Nat×PT))→Ynr l→List (Nat×TV)
 |[],_=>[]
 |(i,p)::l,x=>(i,p.mk x.1)::Yt4 l x.2
def Yt5 (S:St):(l:List (Nat×PT))→Option (Ynr l)
 |[]=>some ()
 |(i,p)::l=>match lk i S.tm with
  |some v=>match p.rd v with
   |some x=>match Yt5 S l with | some y=>some (x,y) | none=>none
   |none=>none
  |none=>none
@[reducible] def Ynj:List (Nat×Kind×PT)→Type
 |[]=>Unit
 |(_,_,p)::l=>p.El×Ynj l
def Ytz:(l:List (Nat×Kind×PT))→Ynj l→List (Nat×Option Root)
 |[],_=>[]
 |(i,k,p)::l,x=>(i,some ⟨k,p.mk x.1⟩)::Ytz l x.2
def Yt0 (S:St):(l:List (Nat×Kind×PT))→Option (Ynj l)
 |[]=>some ()
 |(i,k,p)::l=>match S.root i with
  |some R=>match decEq R.k k,p.rd R.tv with
   |isTrue _,some x=>match Yt0 S l with | some y=>some (x,y) | none=>none
   |_,_=>none
  |none=>none
structure SP where
 tm:List (Nat×PT)
 rt:List (Nat×Kind×PT)
@[reducible] def SP.El (s:SP):Type:=Ynr s.tm×Ynj s.rt
def SP.mk' (s:SP) (x:s.El):St:=⟨Yt4 s.tm x.1,Ytz s.rt x.2⟩
def SP.rd (s:SP) (S:St):Option s.El:=match Yt5 S s.tm with
 |some x=>match Yt0 S s.rt with | some y=>some (x,y) | none=>none
 |none=>none
def sel {α β:Type} {γ:Type} (o:α⊕β) (f:α→γ) (g:β→γ):γ:=match o with
 |.inl a=>f a
 |.inr b=>g b
def Ycx {ρ:Type} (ms:List Md) (pts:List PT) (f:PT.Els pts→Option ρ) (out:ρ→Out):FS:=
 ⟨ms,fun cs R k=>match PT.rds pts cs with
  |some x=>(f x).bind fun t=>k (out t)
  |none=>none⟩
def FS.or (a b:FS) (pts:List PT):FS:=⟨a.modes,fun cs R k=>match PT.rds pts cs with
 |some _=>a.F cs R k
 |none=>b.F cs R k⟩
def mkG (l:List (Nat×FS)):Gam:=fun i=>lk i l
abbrev Yqz (ρ:Type):=ρ→∀ R:Type,(Ex→St→Option R)→Option R
def mkL (l:List (Nat×(St→∀ R:Type,(Ex→St→Option R)→Option R))):Lam:=fun i=>lk i l
def iter {σ ρ:Type} (f:σ→Option (σ⊕ρ)):Nat→σ→Option ρ
 |0,_=>none
 |n+1,s=>(f s).bind fun o=>match o with
  |.inl s'=>iter f n s'
  |.inr r=>some r
open Classical in
noncomputable def Yan {σ ρ:Type} (f:σ→Option (σ⊕ρ)) (s:σ):Option ρ:=
 if h:∃ r n,iter f n s=some r then some h.choose else none
abbrev KL:=List Nat×List Nat
def kLp (a:KL) (x:List (Nat×KL)) (r:KL) (e:Ex) (S:St):Option (St⊕(Ex×St)):=match e with
 |.nm=>some (.inl (S.keep a.1 a.2))
 |.ex i=>match lk i x with | some l=>some (.inr (.ex i,S.keep l.1 l.2)) | none=>none
 |.rt=>some (.inr (.rt,S.keep r.1 r.2))
abbrev w64 (x:Int):Int:=IntKind.i64.wrap x
def Yar:Code→List Nat→Code
 |c,[]=>c
 |.seq a _,0::p=>Yar a p
 |.seq _ b,_::p=>Yar b p
 |.cond _ a _,0::p=>Yar a p
 |.cond _ _ b,_::p=>Yar b p
 |.block _ b,_::p=>Yar b p
 |.loop b,_::p=>Yar b p
 |c,_=>c
def Yag (f:Func):Code:=f.body.getD .skip
theorem Ymp {α β:Type} (f:α→β) (b:Bool) (x y:Option α):(cond b x y).map f=cond b (x.map f) (y.map f):=by cases b<;>rfl
theorem bind_map {α β γ:Type} (f:α→β) (b:Option γ) (x:γ→Option α):(b.bind x).map f=b.bind (fun t=>(x t).map f):=by cases b<;>rfl
theorem Yt1 {α β γ δ:Type} (f:α→β) (o:γ⊕δ) (x:γ→Option α) (y:δ→Option α):(sel o x y).map f=sel o (fun t=>(x t).map f) (fun t=>(y t).map f):=by cases o<;>rfl
abbrev Yd:=Nat→Prop
def Dis (F G:Yd):Prop:=∀ b,F b→¬ G b
def Ye (F G:Yd):Prop:=∀ b,F b→G b
theorem Dis.symm (h:Dis F G):Dis G F:=fun b hg hf=>h b hf hg
theorem Dis.sub (h:Dis F G) (hf:Ye F' F) (hg:Ye G' G):Dis F' G':=fun b x y=>h b (hf b x) (hg b y)
abbrev noB:Yd:=fun _=>False
inductive Src | mem (b off:Nat) | reg (cs:List Value) (off:Nat)
def Src.cell (w:World):Src→Nat→Option Value
 |.mem b off,i=>w.cell? ⟨b,off+i,none⟩
 |.reg cs off,i=>cs[off+i]?
def Src.sh:Src→Nat→Src
 |.mem b off,n=>.mem b (off+n)
 |.reg cs off,n=>.reg cs (off+n)
theorem Src.Yk (w:World) (s:Src) (n i:Nat):(s.sh n).cell w i=s.cell w (n+i):=by
 cases s<;>simp[Src.sh,Src.cell,kH]
theorem Src.Ydb (s:Src):s.sh 0=s:=by cases s<;>simp[Src.sh]
theorem Src.Ygo (s:Src) (a b:Nat):(s.sh a).sh b=s.sh (a+b):=by cases s<;>simp[Src.sh,kH]
def Room (w:World) (b off n:Nat):Prop:=∀ i,i<n→(w.cell? ⟨b,off+i,none⟩).isSome=true∧w.frozen? ⟨b,off+i,none⟩=false
def Rep (w:World) (M:Yd):(t:Ty)→Ow→t.El→Src→Yd→Prop
 |.int k,_,x,s,_=>s.cell w 0=some (.int k x)
 |.bool,_,x,s,_=>s.cell w 0=some (.bool x)
 |.str,_,x,s,_=>∃ z:ByteArray,s.cell w 0=some (.string z)∧z.data.toList=x
 |.unit,_,_,_,_=>True
 |.pair a b,o,x,s,F=>∃ F1 F2,Rep w M a o x.1 s F1∧Rep w M b o x.2 (s.sh a.size) F2∧Ye F1 F∧Ye F2 F∧Dis F1 F2
 |.sl e,o,xs,s,F=>∃ A c,s.cell w 0=some (.slice A xs.length c)∧xs.length≤c∧
   (match o with
   |.sh=>xs≠[]→∃ b off,A=some ⟨b,off,none⟩∧¬ M b∧b<w.heap.size∧
     ∀ i (h:i<xs.length),Rep w M e .sh (xs[i]'h) (.mem b (off+i*e.size)) noB
   |o=>c≠0→∃ b off,∃ Fs:Nat→Yd,A=some ⟨b,off,none⟩∧F b∧Room w b off (c*e.size)∧
     (∀ i (h:i<xs.length),Rep w M e o.elem (xs[i]'h) (.mem b (off+i*e.size)) (Fs i)∧Ye (Fs i) F∧¬ Fs i b)∧
     (∀ i j,i<j→j<xs.length→Dis (Fs i) (Fs j)))
 |.arr n e,o,xs,s,F=>xs.length=n∧∃ Fs:Nat→Yd,
   (∀ i (h:i<xs.length),Rep w M e o (xs[i]'h) (s.sh (i*e.size)) (Fs i)∧Ye (Fs i) F)∧(∀ i j,i<j→j<xs.length→Dis (Fs i) (Fs j))
def Same (w w':World) (b:Nat):Prop:=w'.heap[b]? = w.heap[b]?
theorem Same.cell (h:Same w w' b) (i:Nat):w'.cell? ⟨b,i,none⟩=w.cell? ⟨b,i,none⟩:=by
 unfold Same at h;simp[World.cell?,h]
theorem Same.frozen (h:Same w w' b) (i:Nat):w'.frozen? ⟨b,i,none⟩=w.frozen? ⟨b,i,none⟩:=by
 unfold Same at h;simp[World.frozen?,h]
theorem Same.refl (w:World) (b:Nat):Same w w b:=rfl
theorem Same.trans (h:Same w w' b) (h':Same w' w'' b):Same w w'' b:=by unfold Same at *;rw[h',h]
theorem Rep.sub (h:Rep w M t o x s F) (hs:Ye F G):Rep w M t o x s G:=by
 cases t with
 |int k=>exact h
 |bool=>exact h
 |str=>exact h
 |unit=>trivial
 |pair a b=>
  obtain⟨F1,F2,h1,h2,h3,h4,h5⟩:=h
  exact⟨F1,F2,h1,h2,fun b x=>hs b (h3 b x),fun b x=>hs b (h4 b x),h5⟩
 |sl e=>
  obtain⟨A,c,h1,h2,h3⟩:=h;refine⟨A,c,h1,h2,?_⟩
  cases o with
  |sh=>exact h3
  |top=>
   intro hc;obtain⟨b,off,Fs,e1,e2,e3,e4,e5⟩:=h3 hc
   exact⟨b,off,Fs,e1,hs _ e2,e3,fun i hi=>⟨(e4 i hi).1,fun b x=>hs b ((e4 i hi).2.1 b x),(e4 i hi).2.2⟩,e5⟩
  |deep=>
   intro hc;obtain⟨b,off,Fs,e1,e2,e3,e4,e5⟩:=h3 hc
   exact⟨b,off,Fs,e1,hs _ e2,e3,fun i hi=>⟨(e4 i hi).1,fun b x=>hs b ((e4 i hi).2.1 b x),(e4 i hi).2.2⟩,e5⟩
 |arr n e=>
  obtain⟨h1,Fs,h2,h3⟩:=h;exact⟨h1,Fs,fun i hi=>⟨(h2 i hi).1,fun b x=>hs b ((h2 i hi).2 b x)⟩,h3⟩
structure Goes (w w':World) (M M' F:Yd):Prop where
 size:w.heap.size≤w'.heap.size
 own:∀ b,F b→Same w w' b
 st:∀ b,¬ M b→b<w.heap.size→Same w w' b∧¬ M' b
theorem Goes.mono (h:Goes w w' M M' F) (hs:Ye F' F):Goes w w' M M' F':=
 ⟨h.size,fun b x=>h.own b (hs b x),h.st⟩
theorem Rep.go:∀ {t:Ty} {o:Ow} {x:t.El} {s:Src} {F:Yd},Rep w M t o x s F→Goes w w' M M' F→
  (∀ i,i<t.size→s.cell w' i=s.cell w i)→Rep w' M' t o x s F:=by
 intro t
 induction t with
 |int k=>intro o x s F h g hc;have:=hc 0 (by simp[Ty.size]);simp only[Rep] at *;rw[this];exact h
 |bool=>intro o x s F h g hc;have:=hc 0 (by simp[Ty.size]);simp only[Rep] at *;rw[this];exact h
 |str=>intro o x s F h g hc;have:=hc 0 (by simp[Ty.size]);simp only[Rep] at *;rw[this];exact h
 |unit=>intro o x s F h g hc;trivial
 |pair a b iha ihb=>
  intro o x s F h g hc;obtain⟨F1,F2,h1,h2,h3,h4,h5⟩:=h
  refine⟨F1,F2,iha h1 (g.mono h3) (fun i hi=>hc i (by simp[Ty.size];omega)),ihb h2 (g.mono h4) (fun i hi=>?_),h3,h4,h5⟩
  rw[Src.Yk,Src.Yk];exact hc _ (by simp[Ty.size];omega)
 |sl e ih=>
  intro o x s F h g hc;obtain⟨A,c,h1,h2,h3⟩:=h
  have own:∀ o:Ow,(c≠0→∃ b off,∃ Fs:Nat→Yd,A=some ⟨b,off,none⟩∧F b∧Room w b off (c*e.size)∧
     (∀ i (h:i<x.length),Rep w M e o.elem (x[i]'h) (.mem b (off+i*e.size)) (Fs i)∧Ye (Fs i) F∧¬ Fs i b)∧
     (∀ i j,i<j→j<x.length→Dis (Fs i) (Fs j)))→(c≠0→∃ b off,∃ Fs:Nat→Yd,A=some ⟨b,off,none⟩∧F b∧Room w' b off (c*e.size)∧
     (∀ i (h:i<x.length),Rep w' M' e o.elem (x[i]'h) (.mem b (off+i*e.size)) (Fs i)∧Ye (Fs i) F∧¬ Fs i b)∧
     (∀ i j,i<j→j<x.length→Dis (Fs i) (Fs j))):=by
   intro o h3 hcc;obtain⟨b,off,Fs,e1,e2,e3,e4,e5⟩:=h3 hcc;have hb:=g.own b e2;refine⟨b,off,Fs,e1,e2,fun i hi=>?_,fun i hi=>⟨ih (e4 i hi).1 (g.mono (e4 i hi).2.1) (fun j _=>?_),(e4 i hi).2⟩,e5⟩
   ·rw[hb.cell,hb.frozen];exact e3 i hi
   ·simp only[Src.cell];exact hb.cell _
  refine⟨A,c,by rw[hc 0 (by simp[Ty.size])];exact h1,h2,?_⟩
  cases o with
  |sh=>
   intro hne;obtain⟨b,off,e1,e2,e3,e4⟩:=h3 hne;have hb:=g.st b e2 e3
   exact⟨b,off,e1,hb.2,jX e3 g.size,fun i hi=>ih (e4 i hi) (g.mono (fun _ x=>x.elim)) (fun j _=>by simp only[Src.cell];exact hb.1.cell _)⟩
  |top=>exact own .top h3
  |deep=>exact own .deep h3
 |arr n e ih=>
  intro o x s F h g hc;obtain⟨h1,Fs,h2,h3⟩:=h;refine⟨h1,Fs,fun i hi=>⟨ih (h2 i hi).1 (g.mono (h2 i hi).2) (fun j hj=>?_),(h2 i hi).2⟩,h3⟩;rw[Src.Yk,Src.Yk];refine hc _ ?_;simp only[Ty.size]
  calc i*e.size+j<i*e.size+e.size:=by omega
   _=(i+1)*e.size:=by rw[jY];omega
   _≤n*e.size:=jR _ (by omega)
theorem Rep.pure:∀ {t:Ty} {o o':Ow} {x:t.El} {s s':Src} {F:Yd},t.pure=true→Rep w M t o x s F→
  (∀ i,i<t.size→s'.cell w' i=s.cell w i)→Rep w' M' t o' x s' noB:=by
 intro t
 induction t with
 |int k=>intro o o' x s s' F hp h hc;have:=hc 0 (by simp[Ty.size]);simp only[Rep] at *;rw[this];exact h
 |bool=>intro o o' x s s' F hp h hc;have:=hc 0 (by simp[Ty.size]);simp only[Rep] at *;rw[this];exact h
 |str=>intro o o' x s s' F hp h hc;have:=hc 0 (by simp[Ty.size]);simp only[Rep] at *;rw[this];exact h
 |unit=>intro o o' x s s' F hp h hc;trivial
 |pair a b iha ihb=>
  intro o o' x s s' F hp h hc;simp only[Ty.pure,jC] at hp;obtain⟨F1,F2,h1,h2,h3,h4,h5⟩:=h
  refine⟨noB,noB,iha hp.1 h1 (fun i hi=>hc i (by simp[Ty.size];omega)),ihb hp.2 h2 (fun i hi=>?_),fun _ x=>x.elim,fun _ x=>x.elim,fun _ x=>x.elim⟩
  rw[Src.Yk,Src.Yk];exact hc _ (by simp[Ty.size];omega)
 |sl e ih=>intro o o' x s s' F hp;simp[Ty.pure] at hp
 |arr n e ih=>
  intro o o' x s s' F hp h hc;obtain⟨h1,Fs,h2,h3⟩:=h;refine⟨h1,fun _=>noB,fun i hi=>⟨ih hp (h2 i hi).1 (fun j hj=>?_),fun _ x=>x.elim⟩,fun _ _ _ _ _ x=>x.elim⟩;rw[Src.Yk,Src.Yk];refine hc _ ?_;simp only[Ty.size]
  calc i*e.size+j<i*e.size+e.size:=by omega
   _=(i+1)*e.size:=by rw[jY];omega
   _≤n*e.size:=jR _ (by omega)
theorem Rep.cells:∀ {t:Ty} {o:Ow} {x:t.El} {s:Src} {F:Yd},Rep w M t o x s F→
  ∀ i,i<t.size→∃ v,s.cell w i=some v∧v.oneCell'=true:=by
 intro t
 induction t with
 |int k=>intro o x s F h i hi;have:i=0:=by simp[Ty.size] at hi;exact hi
         subst this;exact⟨_,h,rfl⟩
 |bool=>intro o x s F h i hi;have:i=0:=by simp[Ty.size] at hi;exact hi
        subst this;exact⟨_,h,rfl⟩
 |str=>intro o x s F h i hi;have:i=0:=by simp[Ty.size] at hi;exact hi
       subst this;obtain⟨z,h,_⟩:=h;exact⟨_,h,rfl⟩
 |unit=>intro o x s F h i hi;simp[Ty.size] at hi
 |pair a b iha ihb=>
  intro o x s F h i hi;obtain⟨F1,F2,h1,h2,_⟩:=h
  by_cases hlt:i<a.size
  ·exact iha h1 i hlt
  ·obtain⟨v,hv,h1⟩:=ihb h2 (i-a.size) (by simp[Ty.size] at hi;omega)
   rw[Src.Yk] at hv
   exact⟨v,by rw[show a.size+(i-a.size)=i by omega] at hv;exact hv,h1⟩
 |sl e ih=>intro o x s F h i hi;have:i=0:=by simp[Ty.size] at hi;exact hi
           subst this;obtain⟨A,c,h,_⟩:=h;exact⟨_,h,rfl⟩
 |arr n e ih=>
  intro o x s F h i hi;obtain⟨h1,Fs,h2,_⟩:=h;simp only[Ty.size] at hi
  have hs:0<e.size:=by
   rcases kN e.size with h0 | h0
   ·rw[h0] at hi;omega
   ·exact h0
  have hq:i / e.size<n:=(Nat.div_lt_iff_lt_mul hs).2 hi
  obtain⟨v,hv,h3⟩:=ih (h2 (i / e.size) (by omega)).1 (i % e.size) (Nat.mod_lt _ hs)
  rw[Src.Yk,Nat.mul_comm,Nat.div_add_mod] at hv;exact⟨v,hv,h3⟩
def nav (w:World):TV→Src→Path→Option Src
 |_,s,[]=>some s
 |.pr a _,s,.f1::p=>nav w a s p
 |.pr a b,s,.f2::p=>nav w b (s.sh a.size) p
 |.cl o (.pair a _) x,s,.f1::p=>nav w (.cl o a x.1) s p
 |.cl o (.pair a b) x,s,.f2::p=>nav w (.cl o b x.2) (s.sh a.size) p
 |.cl o (.sl e) xs,s,.el i::p=>if i<xs.length then(match s.cell w 0 with
   |some (.slice (some ⟨b,off,none⟩) _ _)=>nav w (.cl o.elem e (xs.getD i e.zero)) (.mem b (off+i*e.size)) p
   |_=>none) else none
 |.cl o (.arr n e) xs,s,.el i::p=>if i<n then nav w (.cl o e (xs.getD i e.zero)) (s.sh (i*e.size)) p else none
 |.rw o e xs i v,s,.el j::p=>if j<xs.length then(match s.cell w 0 with
   |some (.slice (some ⟨b,off,none⟩) _ _)=>match Nat.decEq j i with
    |isTrue _=>nav w v (.mem b (off+j*e.size)) p
    |isFalse _=>nav w (.cl o.elem e (xs.getD j e.zero)) (.mem b (off+j*e.size)) p
   |_=>none) else none
 |_,_,_=>none
theorem Yf (w:World) (tv:TV) (s:Src):nav w tv s []=some s:=by cases tv<;>rfl
theorem TV.get_nil (tv:TV):tv.get []=some tv:=by cases tv<;>rfl
theorem TV.set_nil (tv n:TV):tv.set [] n=some n:=by cases tv<;>rfl
def Ya (w:World) (M:Yd) (Lf:TV→Value→Prop):TV→Src→Yd→Prop
 |.cl o t x,s,F=>Rep w M t o x s F
 |.pr a b,s,F=>∃ F1 F2,Ya w M Lf a s F1∧Ya w M Lf b (s.sh a.size) F2∧Ye F1 F∧Ye F2 F∧Dis F1 F2
 |.dead _,_,_=>True
 |.rw o e xs i v,s,F=>o≠.sh∧v.size=e.size∧i<xs.length∧∃ b off c,s.cell w 0=some (.slice (some ⟨b,off,none⟩) xs.length c)∧xs.length≤c∧∃ Fs:Nat→Yd,F b∧Room w b off (c*e.size)∧
   (∀ j (h:j<xs.length),(j=i∨Rep w M e o.elem (xs[j]'h) (.mem b (off+j*e.size)) (Fs j))∧Ye (Fs j) F∧¬ Fs j b)∧
   (∀ j k,j≠k→j<xs.length→k<xs.length→Dis (Fs j) (Fs k))∧Ya w M (fun _ _=>False) v (.mem b (off+i*e.size)) (Fs i)
 |v,s,_=>∃ u,s.cell w 0=some u∧Lf v u
def Lay.size:Lay→Nat
 |.at=>1 | .un=>0 | .pair a b=>a.size+b.size | .arr n e=>n*e.size | .dead n=>n
theorem Ty.lay_size:∀ t:Ty,t.lay.size=t.size
 |.int _ | .bool | .str | .sl _=>rfl
 |.unit=>rfl
 |.pair a b=>by simp[Ty.lay,Lay.size,Ty.size,Ty.lay_size a,Ty.lay_size b]
 |.arr n e=>by simp[Ty.lay,Lay.size,Ty.size,Ty.lay_size e]
theorem TV.lay_size:∀ v:TV,v.lay.size=v.size:=by
 intro v
 induction v with
 |cl o t x=>exact Ty.lay_size t
 |pr a b iha ihb=>simp[TV.lay,Lay.size,TV.size,iha,ihb]
 |dead n=>unfold TV.lay;split<;>simp_all [Lay.size,TV.size]
 |_=>rfl
theorem TV.Yak {a b:TV} (h:a.lay=b.lay):a.size=b.size:=by rw[←TV.lay_size,←TV.lay_size,h]
section
variable {w w':World} {M M':Yd} {Lf Lf':TV→Value→Prop}
theorem Ya.sub:∀ {tv:TV} {s:Src} {F G:Yd},Ya w M Lf tv s F→Ye F G→Ya w M Lf tv s G:=by
 intro tv s F G h hs
 cases tv with
 |cl o t x=>exact Rep.sub h hs
 |pr a b=>obtain⟨F1,F2,h1,h2,h3,h4,h5⟩:=h;exact⟨F1,F2,h1,h2,fun b x=>hs b (h3 b x),fun b x=>hs b (h4 b x),h5⟩
 |dead n=>trivial
 |rw o e xs i v=>
  obtain⟨h1,h2,h3,b,off,c,h4,h5,Fs,h6,h7,h8,h9,h10⟩:=h
  exact⟨h1,h2,h3,b,off,c,h4,h5,Fs,hs _ h6,h7,fun j hj=>⟨(h8 j hj).1,fun x y=>hs x ((h8 j hj).2.1 x y),(h8 j hj).2.2⟩,h9,h10⟩
 |_=>exact h
theorem Ya.go:∀ {tv:TV} {Lf Lf':TV→Value→Prop} {s:Src} {F:Yd},Ya w M Lf tv s F→Goes w w' M M' F→(∀ i,i<tv.size→s.cell w' i=s.cell w i)→
  (∀ v u,Lf v u→Lf' v u)→Ya w' M' Lf' tv s F:=by
 intro tv
 induction tv with
 |cl o t x=>intro Lf Lf' s F h g hc hl;exact Rep.go h g hc
 |pr a b iha ihb=>
  intro Lf Lf' s F h g hc hl;obtain⟨F1,F2,h1,h2,h3,h4,h5⟩:=h
  refine⟨F1,F2,iha h1 (g.mono h3) (fun i hi=>hc i (by simp[TV.size];omega)) hl,ihb h2 (g.mono h4) (fun i hi=>?_) hl,h3,h4,h5⟩
  rw[Src.Yk,Src.Yk];exact hc _ (by simp[TV.size];omega)
 |dead n=>intro Lf Lf' s F h g hc hl;trivial
 |rw o e xs i v ih=>
  intro Lf Lf' s F h g hc hl;obtain⟨h1,h2,h3,b,off,c,h4,h5,Fs,h6,h7,h8,h9,h10⟩:=h;have hb:=g.own b h6
  refine⟨h1,h2,h3,b,off,c,by rw[hc 0 (by simp[TV.size])];exact h4,h5,Fs,h6,fun j hj=>by rw[hb.cell,hb.frozen];exact h7 j hj,fun j hj=>⟨(h8 j hj).1.imp id fun h=>?_,(h8 j hj).2⟩,h9,?_⟩
  ·exact Rep.go h (g.mono (h8 j hj).2.1) (fun k _=>by simp only[Src.cell];exact hb.cell _)
  ·exact ih h10 (g.mono (h8 i h3).2.1) (fun k _=>by simp only[Src.cell];exact hb.cell _) (fun _ _ x=>x)
 |_=>intro Lf Lf' s F h g hc hl;obtain⟨u,h1,h2⟩:=h;exact⟨u,by rw[hc 0 (by simp[TV.size])];exact h1,hl _ _ h2⟩
theorem Ymn {o:Ow} {t:Ty} {tv:TV} {y:t.El} {s:Src} {F:Yd} (h:tv.Yij o t=some y) (hr:Ya w M Lf tv s F):Rep w M t o y s F:=by
 cases tv with
 |cl o' u x=>
  simp only[TV.Yij] at h
  split at h
  ·rename_i hh _;subst hh
   split at h
   ·rename_i hp;cases h;exact(Rep.pure hp hr (fun _ _=>rfl)).sub (fun _ x=>x.elim)
   ·rename_i hh2 _ _;subst hh2;cases h;exact hr
   ·cases h
  ·cases h
 |_=>simp[TV.Yij] at h
theorem Yav {o:Ow} {t:Ty} {tv:TV} {y:t.El} (h:tv.Yij o t=some y):∃ o',∃ x:t.El,tv=.cl o' t x∧x=y:=by
 cases tv with
 |cl o' u x=>
  simp only[TV.Yij] at h
  split at h
  ·rename_i hh _;subst hh
   split at h
   ·cases h;exact⟨_,_,rfl,rfl⟩
   ·cases h;exact⟨_,_,rfl,rfl⟩
   ·cases h
  ·cases h
 |_=>simp[TV.Yij] at h
theorem Yg7:∀ (p:Path) {o o':Ow} {t:Ty} {x:t.El} {s:Src},nav w (.cl o t x) s p=nav w (.cl o' t x) s p:=by
 intro p
 induction p with
 |nil=>intros;rfl
 |cons a p ih=>
  intro o o' t x s
  cases t<;>cases a<;>simp only[nav]<;>first | rfl | exact ih | (split<;>first | rfl | (split<;>first | rfl | exact ih) | exact ih)
theorem Y2 (a b:TV):Yal a b=.pr a b∨∃ o t x o' u y p,a=.cl o t x∧b=.cl o' u y∧Yal a b=.cl p (.pair t u) (x,y)∧
  (t.pure=true∨o=p)∧(u.pure=true∨o'=p):=by
 cases a with
 |cl o t x=>
  cases b with
  |cl o' u y=>
   simp only[Yal,Yj8]
   cases ht:t.pure<;>cases hu:u.pure<;>cases o<;>cases o'<;>
    first | exact .inl rfl | exact .inr ⟨_,_,_,_,_,_,_,rfl,rfl,rfl,by simp[ht],by simp[hu]⟩
  |_=>exact .inl rfl
 |_=>exact .inl rfl
theorem Yeq (h:Ya w M Lf (.pr a b) s F):Ya w M Lf (Yal a b) s F:=by
 rcases Y2 a b with e | ⟨o,t,x,o',u,y,p,rfl,rfl,e,h1,h2⟩
 ·rw[e];exact h
 ·rw[e]
  obtain⟨F1,F2,r1,r2,s1,s2,d⟩:=h;refine⟨F1,F2,?_,?_,s1,s2,d⟩
  ·rcases h1 with hp | rfl
   ·exact(Rep.pure hp r1 (fun _ _=>rfl)).sub (fun _ x=>x.elim)
   ·exact r1
  ·rcases h2 with hp | rfl
   ·exact(Rep.pure hp r2 (fun _ _=>rfl)).sub (fun _ x=>x.elim)
   ·exact r2
theorem Yep (a b:TV):(Yal a b).lay=.pair a.lay b.lay:=by
 rcases Y2 a b with e | ⟨o,t,x,o',u,y,p,rfl,rfl,e,_⟩<;>rw[e]<;>rfl
theorem Ydp (a b:TV) (s:Src) (p:Path):nav w (Yal a b) s (.f1::p)=nav w a s p:=by
 rcases Y2 a b with e | ⟨o,t,x,o',u,y,q,rfl,rfl,e,_⟩
 ·rw[e];rfl
 ·rw[e];exact Yg7 p
theorem Ydq (a b:TV) (s:Src) (p:Path):nav w (Yal a b) s (.f2::p)=nav w b (s.sh a.size) p:=by
 rcases Y2 a b with e | ⟨o,t,x,o',u,y,q,rfl,rfl,e,_⟩
 ·rw[e];rfl
 ·rw[e];exact Yg7 p
theorem Ym {α:Type} (l:List α) (i:Nat) (d:α) (h:i<l.length):l.getD i d=l[i]'h:=by simp[kT,h]
theorem Rep.elem {e:Ty} {o:Ow} {xs:List e.El} {s:Src} {F:Yd} (h:Rep w M (.sl e) o xs s F) {i:Nat} (hi:i<xs.length) {b off l c:Nat}
  (hc:s.cell w 0=some (.slice (some ⟨b,off,none⟩) l c)):∃ G,Ye G F∧Rep w M e o.elem (xs[i]'hi) (.mem b (off+i*e.size)) G∧
   ((o=.sh∧¬ M b∧b<w.heap.size)∨(o≠.sh∧F b∧¬ G b)):=by
 obtain⟨A,c',e1,e2,e3⟩:=h;rw[e1] at hc;simp only[jD,Value.slice.injEq] at hc;obtain⟨rfl,_,rfl⟩:=hc
 have own:(c'≠0→∃ b' off',∃ Fs:Nat→Yd,(some ⟨b,off,none⟩:Option Addr)=some ⟨b',off',none⟩∧F b'∧Room w b' off' (c'*e.size)∧
   (∀ i (h:i<xs.length),Rep w M e o.elem (xs[i]'h) (.mem b' (off'+i*e.size)) (Fs i)∧Ye (Fs i) F∧¬ Fs i b')∧(∀ i j,i<j→j<xs.length→Dis (Fs i) (Fs j)))→
   o≠.sh→∃ G,Ye G F∧Rep w M e o.elem (xs[i]'hi) (.mem b (off+i*e.size)) G∧((o=.sh∧¬ M b∧b<w.heap.size)∨(o≠.sh∧F b∧¬ G b)):=by
  intro e3 ho
  obtain⟨b',off',Fs,q1,q2,q3,q4,q5⟩:=e3 (by omega)
  simp only[jD,Addr.mk.injEq,and_true] at q1;obtain⟨rfl,rfl⟩:=q1;exact⟨Fs i,(q4 i hi).2.1,(q4 i hi).1,.inr ⟨ho,q2,(q4 i hi).2.2⟩⟩
 cases o with
 |sh=>
  obtain⟨b',off',q1,q2,q3,q4⟩:=e3 (by intro h0;subst h0;simp at hi)
  simp only[jD,Addr.mk.injEq,and_true] at q1;obtain⟨rfl,rfl⟩:=q1
  exact⟨noB,fun _ x=>x.elim,q4 i hi,.inl ⟨rfl,q2,q3⟩⟩
 |top=>exact own e3 (by simp)
 |deep=>exact own e3 (by simp)
theorem Yaw {n i sz:Nat} (h:i<n):i*sz+sz≤n*sz:=by
 calc i*sz+sz=(i+1)*sz:=by rw[jY];omega
  _≤n*sz:=jR _ (by omega)
theorem Yh8 (h:j=i):Nat.decEq j i=isTrue h:=Subsingleton.elim _ _
theorem Yln (h:¬ j=i):Nat.decEq j i=isFalse h:=Subsingleton.elim _ _
theorem Ycs {o:Ow} {e:Ty} {xs:List e.El} {i j:Nat} {v:TV} {p:Path} :
  (TV.rw o e xs i v).get (.el j::p)=if j=i then v.get p else(TV.cl o.elem e (xs.getD j e.zero)).get p:=by
 by_cases h:j=i
 ·rw[jL h];simp only[TV.get,Yh8 h]
 ·rw[jM h];simp only[TV.get,Yln h]
theorem Ye2 {o:Ow} {e:Ty} {xs:List e.El} {i j:Nat} {v:TV} {p:Path} {s:Src} {b off l c:Nat} (hc:s.cell w 0=some (.slice (some ⟨b,off,none⟩) l c)) (hj:j<xs.length) :
  nav w (.rw o e xs i v) s (.el j::p)=if j=i then nav w v (.mem b (off+j*e.size)) p else nav w (.cl o.elem e (xs.getD j e.zero)) (.mem b (off+j*e.size)) p:=by
 by_cases h:j=i
 ·rw[jL h];simp only[nav,jL hj,hc,Yh8 h]
 ·rw[jM h];simp only[nav,jL hj,hc,Yln h]
theorem Yfq {o:Ow} {e:Ty} {xs:List e.El} {i j:Nat} {v:TV} {p:Path} {s s':Src} {b off l c:Nat} (hc:s.cell w 0=some (.slice (some ⟨b,off,none⟩) l c)) (h:nav w (.rw o e xs i v) s (.el j::p)=some s') :
  j<xs.length∧(if j=i then nav w v (.mem b (off+j*e.size)) p else nav w (.cl o.elem e (xs.getD j e.zero)) (.mem b (off+j*e.size)) p)=some s':=by
 by_cases hj:j<xs.length
 ·rw[Ye2 hc hj] at h;exact⟨hj,h⟩
 ·simp[nav,hj] at h
theorem Ya.up (h:Ya w M (fun _ _=>False) tv s F):Ya w M Lf tv s F:=
 h.go ⟨jB _,fun _ _=>rfl,fun b hb _=>⟨rfl,hb⟩⟩ (fun _ _=>rfl) (fun _ _ x=>x.elim)
theorem Ya.down:∀ {tv:TV} {s:Src} {F:Yd},tv.cln=true→Ya w M Lf tv s F→Ya w M (fun _ _=>False) tv s F:=by
 intro tv
 induction tv with
 |cl o t x=>intro s F _ h;exact h
 |pr a b iha ihb=>
  intro s F hc h;simp only[TV.cln,jC] at hc;obtain⟨F1,F2,h1,h2,h3⟩:=h
  exact⟨F1,F2,iha hc.1 h1,ihb hc.2 h2,h3⟩
 |dead n=>intro s F _ _;trivial
 |rw o e xs i v ih=>intro s F _ h;exact h
 |_=>intro s F hc _;cases hc
theorem Yaj (h:Ybs o e xs i v=some tv') :
  (∃ y,v.Yij o.elem e=some y∧tv'=.cl o (.sl e) (xs.set i y))∨(v.opn=true∧v.cln=true∧tv'=.rw o e xs i v):=by
 unfold Ybs at h
 split at h
 ·rename_i y hy;cases h;exact .inl ⟨y,hy,rfl⟩
 ·split at h
  ·rename_i hh;rw[jC] at hh;cases h;exact .inr ⟨hh.1,hh.2,rfl⟩
  ·cases h
theorem Yjs {o:Ow} {e:Ty} {xs:List e.El} {i:Nat} {p:Path} {n tv':TV} (h:(TV.cl o (.sl e) xs).set (.el i::p) n=some tv') :
  o≠.sh∧∃ tve,(TV.cl o.elem e (xs.getD i e.zero)).set p n=some tve∧Ybs o e xs i tve=some tv':=by
 cases o with
 |sh=>simp[TV.set] at h
 |top=>
  simp only[TV.set] at h
  split at h
  ·rename_i tve h1;exact⟨by simp,tve,h1,h⟩
  ·cases h
 |deep=>
  simp only[TV.set] at h
  split at h
  ·rename_i tve h1;exact⟨by simp,tve,h1,h⟩
  ·cases h
theorem Yjr {o:Ow} {e:Ty} {xs:List e.El} {i j:Nat} {v:TV} {p:Path} {n tv':TV} (h:(TV.rw o e xs i v).set (.el j::p) n=some tv') :
  o≠.sh∧j=i∧∃ tve,v.set p n=some tve∧Ybs o e xs i tve=some tv':=by
 cases o with
 |sh=>simp[TV.set] at h
 |top=>
  simp only[TV.set] at h
  split at h
  ·rename_i hji _
   split at h
   ·rename_i tve h1;exact⟨by simp,hji,tve,h1,h⟩
   ·cases h
  ·cases h
 |deep=>
  simp only[TV.set] at h
  split at h
  ·rename_i hji _
   split at h
   ·rename_i tve h1;exact⟨by simp,hji,tve,h1,h⟩
   ·cases h
  ·cases h
theorem focus:∀ (p:Path) {tv:TV} {s:Src} {F:Yd} {s':Src} {u:TV},Ya w M Lf tv s F→nav w tv s p=some s'→tv.get p=some u→
  ∃ F',Ye F' F∧Ya w M Lf u s' F':=by
 intro p
 induction p with
 |nil=>
  intro tv s F s' u h hn hg;rw[Yf,jD] at hn;rw[TV.get_nil,jD] at hg;subst hn hg
  exact⟨F,fun _ x=>x,h⟩
 |cons a p ih=>
  intro tv s F s' u h hn hg
  cases tv with
  |pr x y=>
   obtain⟨F1,F2,h1,h2,b1,b2,d⟩:=h
   cases a with
   |f1=>simp only[nav] at hn;simp only[TV.get] at hg;obtain⟨G,g1,g2⟩:=ih h1 hn hg;exact⟨G,fun b x=>b1 b (g1 b x),g2⟩
   |f2=>simp only[nav] at hn;simp only[TV.get] at hg;obtain⟨G,g1,g2⟩:=ih h2 hn hg;exact⟨G,fun b x=>b2 b (g1 b x),g2⟩
   |el i=>simp[nav] at hn
  |cl o t x=>
   cases t with
   |pair ta tb=>
    obtain⟨F1,F2,h1,h2,b1,b2,d⟩:=h
    cases a with
    |f1=>simp only[nav] at hn;simp only[TV.get] at hg;obtain⟨G,g1,g2⟩:=ih (tv:=.cl o ta x.1) h1 hn hg;exact⟨G,fun b x=>b1 b (g1 b x),g2⟩
    |f2=>simp only[nav] at hn;simp only[TV.get] at hg;obtain⟨G,g1,g2⟩:=ih (tv:=.cl o tb x.2) h2 hn hg;exact⟨G,fun b x=>b2 b (g1 b x),g2⟩
    |el i=>simp[nav] at hn
   |sl e=>
    cases a with
    |f1=>simp[nav] at hn
    |f2=>simp[nav] at hn
    |el i=>
     simp only[nav] at hn
     split at hn
     ·rename_i hi
      split at hn
      ·rename_i b off l c hcell
       simp only[TV.get] at hg;rw[Ym _ _ _ hi] at hn hg;obtain⟨G,g1,g2,_⟩:=Rep.elem h hi hcell;obtain⟨G',g3,g4⟩:=ih (tv:=.cl o.elem e (x[i]'hi)) g2 hn hg;exact⟨G',fun b x=>g1 b (g3 b x),g4⟩
      ·cases hn
     ·cases hn
   |arr m e=>
    cases a with
    |f1=>simp[nav] at hn
    |f2=>simp[nav] at hn
    |el i=>
     simp only[nav] at hn
     split at hn
     ·rename_i hi
      simp only[TV.get] at hg;obtain⟨hl,Fs,q1,q2⟩:=h
      have hi':i<x.length:=by omega
      rw[Ym _ _ _ hi'] at hn hg;obtain⟨G',g3,g4⟩:=ih (tv:=.cl o e (x[i]'hi')) (q1 i hi').1 hn hg;exact⟨G',fun b x=>(q1 i hi').2 b (g3 b x),g4⟩
     ·cases hn
   |int k=>cases a<;>simp[nav] at hn
   |bool=>cases a<;>simp[nav] at hn
   |str=>cases a<;>simp[nav] at hn
   |unit=>cases a<;>simp[nav] at hn
  |nl=>cases a<;>simp[nav] at hn
  |loc r q=>cases a<;>simp[nav] at hn
  |seg r q=>cases a<;>simp[nav] at hn
  |sub r q lo m=>cases a<;>simp[nav] at hn
  |pt t x=>cases a<;>simp[nav] at hn
  |op v=>cases a<;>simp[nav] at hn
  |clo f c=>cases a<;>simp[nav] at hn
  |tup l=>cases a<;>simp[nav] at hn
  |kb b=>cases a<;>simp[nav] at hn
  |gd t b v=>cases a<;>simp[nav] at hn
  |dead m=>cases a<;>simp[nav] at hn
  |rw o e xs i v=>
   cases a with
   |f1=>simp[nav] at hn
   |f2=>simp[nav] at hn
   |el j=>
    obtain⟨h1,h2,h3,b,off,c,h4,h5,Fs,h6,h7,h8,h9,h10⟩:=h;obtain⟨hj,hn⟩:=Yfq h4 hn;rw[Ycs] at hg
    by_cases hji:j=i
    ·subst hji
     rw[jL rfl] at hn hg;obtain⟨G',g3,g4⟩:=ih (h10.up) hn hg;exact⟨G',fun b x=>(h8 j hj).2.1 b (g3 b x),g4⟩
    ·rw[jM hji] at hn hg
     rw[Ym _ _ _ hj] at hn hg;obtain⟨G',g3,g4⟩:=ih (tv:=.cl o.elem e (xs[j]'hj)) ((h8 j hj).1.resolve_left hji) hn hg;exact⟨G',fun b x=>(h8 j hj).2.1 b (g3 b x),g4⟩
def TV.gr (v:TV) (p:Path):Option TV:=(v.get p).map TV.row
theorem Yct (v:TV):v.gr []=some v.row:=by rw[TV.gr,TV.get_nil];rfl
theorem Yso (v:TV):v.row.size=v.size:=by cases v<;>rfl
theorem Yee {v:TV} {p:Path} {o:Ow} {t:Ty} {x:t.El} (h:v.get p=some (.cl o t x)):v.gr p=some (.cl o t x):=by rw[TV.gr,h];rfl
theorem Ymy:∀ (q:Path) {o:Ow} {t:Ty} {x:t.El} {u:TV},(TV.cl o t x).get q=some u→∃ o' t',∃ x':t'.El,u=.cl o' t' x':=by
 intro q
 induction q with
 |nil=>intro o t x u h;rw[TV.get_nil] at h;cases h;exact⟨_,_,_,rfl⟩
 |cons a p ih=>
  intro o t x u h
  cases t<;>cases a<;>simp only[TV.get] at h<;>first | exact ih h | cases h
theorem Yhq (q:Path):(TV.cl o t x).gr q=(TV.cl o t x).get q:=by
 unfold TV.gr
 cases h:(TV.cl o t x).get q with
 |none=>rfl
 |some u=>obtain⟨o',t',x',rfl⟩:=Ymy q h;rfl
theorem Yrq {o:Ow} {e:Ty} {xs:List e.El} {i j:Nat} {v:TV} {p:Path} :
  (TV.rw o e xs i v).gr (.el j::p)=if j=i then v.gr p else(TV.cl o.elem e (xs.getD j e.zero)).gr p:=by
 unfold TV.gr
 rw[Ycs];split<;>rfl
theorem Ybk:∀ (q:Path) {tv:TV} {s:Src} {F:Yd} {s1:Src},Ya w M Lf tv s F→Goes w w' M M' F→(∀ i,i<tv.size→s.cell w' i=s.cell w i)→
  nav w tv s q=some s1→nav w' tv s q=some s1∧∀ o e xs,tv.gr q=some (.cl o (.sl e) xs)→s1.cell w' 0=s1.cell w 0:=by
 intro q
 induction q with
 |nil=>
  intro tv s F s1 h g hc hn;rw[Yf,jD] at hn;subst hn;refine⟨Yf _ _ _,fun o e xs hg=>?_⟩;rw[Yct,jD] at hg;have:=Yso tv;rw[hg] at this
  exact hc 0 (by rw[←this];simp[TV.size,Ty.size])
 |cons a p ih=>
  intro tv s F s1 h g hc hn
  cases tv with
  |pr x y=>
   obtain⟨F1,F2,h1,h2,b1,b2,d⟩:=h
   cases a with
   |f1=>simp only[nav] at hn;exact ih h1 (g.mono b1) (fun i hi=>hc i (by simp[TV.size];omega)) hn
   |f2=>
    simp only[nav] at hn
    exact ih h2 (g.mono b2) (fun i hi=>by rw[Src.Yk,Src.Yk];exact hc _ (by simp[TV.size];omega)) hn
   |el i=>simp[nav] at hn
  |cl o t x=>
   cases t with
   |pair ta tb=>
    obtain⟨F1,F2,h1,h2,b1,b2,d⟩:=h
    cases a with
    |f1=>simp only[nav] at hn;exact ih (tv:=.cl o ta x.1) h1 (g.mono b1) (fun i hi=>hc i (by simp[TV.size,Ty.size] at hi ⊢;omega)) hn
    |f2=>
     simp only[nav] at hn
     exact ih (tv:=.cl o tb x.2) h2 (g.mono b2) (fun i hi=>by rw[Src.Yk,Src.Yk];exact hc _ (by simp[TV.size,Ty.size] at hi ⊢;omega)) hn
    |el i=>simp[nav] at hn
   |sl e=>
    cases a with
    |f1=>simp[nav] at hn
    |f2=>simp[nav] at hn
    |el i=>
     have h0:=hc 0 (by simp[TV.size,Ty.size])
     simp only[nav] at hn ⊢
     split at hn
     ·rename_i hi
      rw[jL hi,h0]
      split at hn
      ·rename_i b off l c hcell
       simp only[TV.gr,TV.get];rw[Ym _ _ _ hi] at hn ⊢;obtain⟨G,g1,g2,g3⟩:=Rep.elem h hi hcell;refine ih (tv:=.cl o.elem e (x[i]'hi)) g2 (g.mono g1) (fun j hj=>?_) hn;simp only[Src.cell];rcases g3 with ⟨_,hm,hb⟩ | ⟨_,hf,_⟩
       ·exact(g.st b hm hb).1.cell _
       ·exact(g.own b hf).cell _
      ·cases hn
     ·cases hn
   |arr m e=>
    cases a with
    |f1=>simp[nav] at hn
    |f2=>simp[nav] at hn
    |el i=>
     simp only[nav] at hn ⊢
     split at hn
     ·rename_i hi
      rw[jL hi];simp only[TV.gr,TV.get];obtain⟨hl,Fs,q1,q2⟩:=h
      have hi':i<x.length:=by omega
      rw[Ym _ _ _ hi'] at hn ⊢;refine ih (tv:=.cl o e (x[i]'hi')) (q1 i hi').1 (g.mono (q1 i hi').2) (fun j hj=>?_) hn;rw[Src.Yk,Src.Yk];refine hc _ ?_;have:=Yaw (sz:=e.size) hi;simp only[TV.size,Ty.size] at hj ⊢;omega
     ·cases hn
   |int k=>cases a<;>simp[nav] at hn
   |bool=>cases a<;>simp[nav] at hn
   |str=>cases a<;>simp[nav] at hn
   |unit=>cases a<;>simp[nav] at hn
  |nl=>cases a<;>simp[nav] at hn
  |loc r q=>cases a<;>simp[nav] at hn
  |seg r q=>cases a<;>simp[nav] at hn
  |sub r q lo m=>cases a<;>simp[nav] at hn
  |pt t x=>cases a<;>simp[nav] at hn
  |op v=>cases a<;>simp[nav] at hn
  |clo f c=>cases a<;>simp[nav] at hn
  |tup l=>cases a<;>simp[nav] at hn
  |kb b=>cases a<;>simp[nav] at hn
  |gd t b v=>cases a<;>simp[nav] at hn
  |dead m=>cases a<;>simp[nav] at hn
  |rw o e xs i v=>
   cases a with
   |f1=>simp[nav] at hn
   |f2=>simp[nav] at hn
   |el j=>
    obtain⟨h1,h2,h3,b,off,c,h4,h5,Fs,h6,h7,h8,h9,h10⟩:=h;obtain⟨hj,hn⟩:=Yfq h4 hn
    have h4':s.cell w' 0=some (.slice (some ⟨b,off,none⟩) xs.length c):=by rw[hc 0 (by simp[TV.size])];exact h4
    rw[Ye2 h4' hj,Yrq];have hb:=g.own b h6
    by_cases hji:j=i
    ·subst hji
     rw[jL rfl] at hn ⊢;rw[jL rfl]
     exact ih h10.up (g.mono (h8 j hj).2.1) (fun k _=>by simp only[Src.cell];exact hb.cell _) hn
    ·rw[jM hji] at hn ⊢
     rw[jM hji];rw[Ym _ _ _ hj] at hn ⊢
     exact ih (tv:=.cl o.elem e (xs[j]'hj)) ((h8 j hj).1.resolve_left hji) (g.mono (h8 j hj).2.1) (fun k _=>by simp only[Src.cell];exact hb.cell _) hn
theorem Yod:∀ (q:Path) {o o':Ow} {t:Ty} {x:t.El} {o1:Ow} {e:Ty} {xs:List e.El},(TV.cl o t x).get q=some (.cl o1 (.sl e) xs)→
  ∃ o2,(TV.cl o' t x).get q=some (.cl o2 (.sl e) xs):=by
 intro q
 induction q with
 |nil=>
  intro o o' t x o1 e xs h;rw[TV.get_nil] at h;simp only[jD,TV.cl.injEq] at h;obtain⟨_,rfl,h⟩:=h
  exact⟨o',by rw[TV.get_nil];rw[eq_of_heq h]⟩
 |cons a p ih=>
  intro o o' t x o1 e xs h
  cases t<;>cases a<;>simp only[TV.get] at h ⊢<;>first | exact ih h | cases h
theorem Ym0 (q:Path) {o o':Ow} {t:Ty} {x:t.El} {o1:Ow} {e:Ty} {xs:List e.El} (h:(TV.cl o t x).gr q=some (.cl o1 (.sl e) xs)):∃ o2,(TV.cl o' t x).gr q=some (.cl o2 (.sl e) xs):=by
 rw[Yhq] at h ⊢;exact Yod q h
theorem Yi4 {a b:TV} {q:Path} {o:Ow} {e:Ty} {xs:List e.El} (h:a.gr q=some (.cl o (.sl e) xs)):∃ o',(Yal a b).gr (.f1::q)=some (.cl o' (.sl e) xs):=by
 rcases Y2 a b with eq | ⟨o1,t,x,o',u,y,p,rfl,rfl,eq,_⟩
 ·rw[eq];exact⟨o,h⟩
 ·rw[eq];exact Ym0 q h
theorem Yi5 {a b:TV} {q:Path} {o:Ow} {e:Ty} {xs:List e.El} (h:b.gr q=some (.cl o (.sl e) xs)):∃ o',(Yal a b).gr (.f2::q)=some (.cl o' (.sl e) xs):=by
 rcases Y2 a b with eq | ⟨o1,t,x,o',u,y,p,rfl,rfl,eq,_⟩
 ·rw[eq];exact⟨o,h⟩
 ·rw[eq];exact Ym0 q h
def Kp (w w':World) (s':Src) (n b:Nat):Prop:=
 match s' with
 |.mem b0 off0=>if b=b0 then(∀ i,(i<off0∨off0+n≤i)→w'.cell? ⟨b,i,none⟩=w.cell? ⟨b,i,none⟩)∧
   (∀ i,w'.frozen? ⟨b,i,none⟩=w.frozen? ⟨b,i,none⟩)∧(∀ i,(w.cell? ⟨b,i,none⟩).isSome=true→(w'.cell? ⟨b,i,none⟩).isSome=true)
  else Same w w' b
 |.reg _ _=>Same w w' b
theorem Kp.room (h:Kp w w' s' n b) (hr:Room w b off k):Room w' b off k:=by
 cases s' with
 |mem b0 off0=>
  simp only[Kp] at h
  split at h
  ·intro i hi;have:=hr i hi;exact⟨h.2.2 _ this.1,by rw[h.2.1];exact this.2⟩
  ·intro i hi;rw[Same.cell h,Same.frozen h];exact hr i hi
 |reg cs o=>intro i hi;rw[Same.cell h,Same.frozen h];exact hr i hi
theorem Kp.same (h:Kp w w' (.mem b0 off0) n b) (hne:b≠b0):Same w w' b:=by
 simp only[Kp,jM hne] at h;exact h
theorem Kp.out (h:Kp w w' (.mem b0 off0) n b0) (hi:i<off0∨off0+n≤i):w'.cell? ⟨b0,i,none⟩=w.cell? ⟨b0,i,none⟩:=by
 simp only[Kp,if_true] at h;exact h.1 i hi
def Yj4 (s s':Src) (n m:Nat) (Fr:Yd):Prop:=
 (∃ k,s'=s.sh k∧k+n≤m)∨(∃ b0 off0,s'=.mem b0 off0∧Fr b0)
structure Yfx (w w':World) (M M':Yd) (s s':Src) (n:Nat) (Fr:Yd):Prop where
 size:w.heap.size≤w'.heap.size
 own:∀ b,Fr b→Kp w w' s' n b
 src:∀ bs offs,s=.mem bs offs→Kp w w' s' n bs
 st:∀ b,¬ M b→b<w.heap.size→Same w w' b∧¬ M' b
theorem Src.Yat {s:Src} {k b off:Nat} (h:s.sh k=.mem b off):∃ o,s=.mem b o∧off=o+k:=by
 cases s with
 |mem b' o=>simp[Src.sh] at h;exact⟨o,by rw[h.1],h.2.symm⟩
 |reg cs o=>simp[Src.sh] at h
theorem Yfx.goes {s s':Src} {n m:Nat} {Fr F2:Yd} (u:Yfx w w' M M' s s' n Fr) (hsub:Ye F2 Fr)
  (hs:∀ bs offs,s=.mem bs offs→¬ F2 bs) (F1:Yd) (hl:Yj4 s s' n m F1) (hd:Dis F1 F2) (hs1:∀ bs offs,s=.mem bs offs→¬ F1 bs)
  {sz k:Nat} (hk:∀ j,s'=s.sh j→j+n≤m→j+n≤k∨k+sz≤j):Goes w w' M M' F2∧∀ i,i<sz→(s.sh k).cell w' i=(s.sh k).cell w i:=by
 refine⟨⟨u.size,fun b hb=>?_,u.st⟩,fun i hi=>?_⟩
 ·have hkp:=u.own b (hsub b hb)
  cases hs':s' with
  |reg cs o=>rw[hs'] at hkp;exact hkp
  |mem b0 off0=>
   rw[hs'] at hkp;refine hkp.same ?_;rintro rfl;rcases hl with ⟨j,e,_⟩ | ⟨b1,o1,e,hf⟩
   ·rw[hs'] at e
    obtain⟨o,e1,_⟩:=Src.Yat e.symm;exact hs _ _ e1 hb
   ·rw[hs'] at e;cases e;exact hd _ hf hb
 ·rw[Src.Yk,Src.Yk]
  cases hse:s with
  |reg cs o=>rfl
  |mem bs offs=>
   have hkp:=u.src bs offs hse;simp only[Src.cell]
   cases hs':s' with
   |reg cs o=>rw[hs'] at hkp;exact Same.cell hkp _
   |mem b0 off0=>
    rw[hs'] at hkp
    by_cases hb:bs=b0
    ·subst hb
     rcases hl with ⟨j,e,hj⟩ | ⟨b1,o1,e,hf⟩
     ·have hk':=hk j e hj
      rw[hs',hse] at e;simp only[Src.sh,Src.mem.injEq,true_and] at e;subst e;refine hkp.out ?_;rcases hk' with hk | hk
      ·right;omega
      ·left;omega
     ·rw[hs'] at e;cases e;exact absurd hf (hs1 _ _ hse)
    ·exact Same.cell (hkp.same hb) _
def Slk (w w':World) (old new:Option TV) (s1:Src):Prop:=
 ∀ o e (xs:List e.El),old=some (.cl o (.sl e) xs)→s1.cell w' 0=s1.cell w 0∧∃ o',∃ xs':List e.El,new=some (.cl o' (.sl e) xs')∧xs'.length=xs.length
def Ynw (w w':World) (tv tv':TV) (s:Src) (p:Path):Prop:=
 ∀ q s1,nav w tv s q=some s1→(¬ ∃ t,q=p++t)→nav w' tv' s q=some s1∧Slk w w' (tv.gr q) (tv'.gr q) s1
theorem Yge (a b:TV):(Yal a b).opn=(a.opn || b.opn):=by
 rcases Y2 a b with e | ⟨o,t,x,o',u,y,p,rfl,rfl,e,_⟩<;>rw[e]<;>rfl
theorem Ysn {o:Ow} {e:Ty} {x:List e.El} {i:Nat} {T u:TV} {s:Src} {F:Yd} {b off c':Nat} {Fs:Nat→Yd} {p:Path} {s':Src} {old n tve tv':TV}
  (hnsh:o≠.sh) (hi:i<x.length) (e1:s.cell w 0=some (.slice (some ⟨b,off,none⟩) x.length c')) (e2:x.length≤c') (hs:∀ bs offs,s=.mem bs offs→¬ F bs)
  (q2:F b) (q3:Room w b off (c'*e.size)) (q4:∀ j (h:j<x.length),(j=i∨Rep w M e o.elem (x[j]'h) (.mem b (off+j*e.size)) (Fs j))∧Ye (Fs j) F∧¬ Fs j b)
  (hdis:∀ j k,j≠k→j<x.length→k<x.length→Dis (Fs j) (Fs k)) (husz:u.size=e.size) (hTl:T.lay=.at)
  (hnav:∀ a q s1,nav w T s (a::q)=some s1→∃ k,a=.el k∧k<x.length∧(if k=i then nav w u (.mem b (off+k*e.size)) q else nav w (.cl o.elem e (x.getD k e.zero)) (.mem b (off+k*e.size)) q)=some s1)
  (hget:∀ k q,T.gr (.el k::q)=if k=i then u.gr q else(TV.cl o.elem e (x.getD k e.zero)).gr q) (hrw:T.row=.cl o (.sl e) x)
  (hset:Ybs o e x i tve=some tv')
  (IH:∃ Fo Fr,Ye Fo (Fs i)∧Ye Fr (Fs i)∧Dis Fo Fr∧Ya w M Lf old s' Fo∧Yj4 (.mem b (off+i*e.size)) s' old.size u.size Fr∧tve.lay=u.lay∧
   ∀ w' M' Lf' Fn,Yfx w w' M M' (.mem b (off+i*e.size)) s' old.size Fr→Ya w' M' Lf' n s' Fn→Dis Fn Fr→(∀ bs offs,Src.mem b (off+i*e.size)=.mem bs offs→¬ Fn bs)→(∀ v u,Lf v u→Lf' v u)→
    Ya w' M' Lf' tve (.mem b (off+i*e.size)) (fun b=>Fr b∨Fn b)∧nav w' tve (.mem b (off+i*e.size)) p=some s'∧Ynw w w' u tve (.mem b (off+i*e.size)) p) :
  ∃ Fo Fr,Ye Fo F∧Ye Fr F∧Dis Fo Fr∧Ya w M Lf old s' Fo∧Yj4 s s' old.size T.size Fr∧tv'.lay=T.lay∧
   ∀ w' M' Lf' Fn,Yfx w w' M M' s s' old.size Fr→Ya w' M' Lf' n s' Fn→Dis Fn Fr→(∀ bs offs,s=.mem bs offs→¬ Fn bs)→(∀ v u,Lf v u→Lf' v u)→
    Ya w' M' Lf' tv' s (fun b=>Fr b∨Fn b)∧nav w' tv' s (.el i::p)=some s'∧Ynw w w' T tv' s (.el i::p):=by
 obtain⟨Fo,Fr,o1,o2,o3,o4,o5,o6,o7⟩:=IH
 have hloc:∃ b0 off0,s'=.mem b0 off0∧(b0=b∨Fr b0):=by
  rcases o5 with ⟨k,eq,hk⟩ | ⟨b0,off0,eq,hf⟩
  ·exact⟨b,_,eq,.inl rfl⟩
  ·exact⟨b0,off0,eq,.inr hf⟩
 have hsub:∀ j,j<x.length→Ye (Fs j) F:=fun j hj=>(q4 j hj).2.1;have hnb:∀ j,j<x.length→¬ Fs j b:=fun j hj=>(q4 j hj).2.2;refine⟨Fo,fun c=>c=b∨Fr c∨∃ j,j≠i∧j<x.length∧Fs j c,fun c hc=>hsub i hi c (o1 c hc),?_,?_,o4,?_,?_,?_⟩
 ·rintro c (rfl | hc | ⟨j,hj,hjl,hc⟩)
  ·exact q2
  ·exact hsub i hi c (o2 c hc)
  ·exact hsub j hjl c hc
 ·rintro c hc (rfl | hc' | ⟨j,hj,hjl,hc'⟩)
  ·exact hnb i hi (o1 _ hc)
  ·exact o3 c hc hc'
  ·exact hdis i j (Ne.symm hj) hi hjl c (o1 c hc) hc'
 ·obtain⟨b0,off0,eq,hb⟩:=hloc
  exact .inr ⟨b0,off0,eq,hb.elim .inl (fun x=>.inr (.inl x))⟩
 ·rw[hTl];rcases Yaj hset with ⟨y,_,rfl⟩ | ⟨_,_,rfl⟩<;>rfl
 ·intro w' M' Lf' Fn u' hr hd hb hl
  have ub:Kp w w' s' old.size b:=u'.own b (.inl rfl)
  obtain⟨r1,r2,rr⟩:=o7 w' M' Lf' Fn ⟨u'.size,fun c hc=>u'.own c (.inr (.inl hc)),fun bs offs eq=>by cases eq;exact ub,u'.st⟩ hr
   (fun c hc hc'=>hd c hc (.inr (.inl hc'))) (fun bs offs eq hc=>by cases eq;exact hd _ hc (.inl rfl)) hl
  obtain⟨b0,off0,hs'0,hb0⟩:=hloc
  have hne0:∀ bs offs,s=.mem bs offs→bs≠b0:=by
   rintro bs offs eq rfl;refine hs bs offs eq ?_;rcases hb0 with rfl | hf
   ·exact q2
   ·exact hsub i hi _ (o2 _ hf)
  have hhead:s.cell w' 0=s.cell w 0:=by
   cases hse:s with
   |reg cs o=>rfl
   |mem bs offs=>
    have:=u'.src bs offs hse;rw[hs'0] at this;simp only[Src.cell];exact Same.cell (this.same (hne0 bs offs hse)) _
  have e1':s.cell w' 0=some (.slice (some ⟨b,off,none⟩) x.length c'):=by rw[hhead];exact e1
  have hother:∀ k (hk:k<x.length),k≠i→Goes w w' M M' (Fs k)∧∀ j,j<e.size→(Src.mem b (off+k*e.size)).cell w' j=(Src.mem b (off+k*e.size)).cell w j:=by
   intro k hk hki;refine⟨⟨u'.size,fun c hc=>?_,u'.st⟩,fun j hj=>?_⟩
   ·have hkp:=u'.own c (.inr (.inr ⟨k,hki,hk,hc⟩))
    rw[hs'0] at hkp;refine hkp.same ?_;rintro rfl;rcases hb0 with rfl | hf
    ·exact hnb k hk hc
    ·exact hdis i k (Ne.symm hki) hi hk _ (o2 _ hf) hc
   ·simp only[Src.cell]
    rw[hs'0] at ub;rcases hb0 with rfl | hf
    ·rcases o5 with ⟨kk,eq,hkk⟩ | ⟨b1,off1,eq,hf⟩
     ·rw[hs'0] at eq
      simp only[Src.sh,Src.mem.injEq,true_and] at eq;subst eq;refine ub.out ?_;rw[husz] at hkk;rcases kG k i with hlt | hge
      ·left;have:=Yaw (sz:=e.size) hlt;omega
      ·right;have:=Yaw (sz:=e.size) (show i<k by omega);omega
     ·rw[hs'0] at eq;cases eq;exact absurd (o2 _ hf) (hnb i hi)
    ·exact Same.cell (ub.same (by rintro rfl;exact hnb i hi (o2 _ hf))) _
  have hoth:∀ k (hk:k<x.length),k≠i→Rep w' M' e o.elem (x[k]'hk) (.mem b (off+k*e.size)) (Fs k):=fun k hk hki=>
   Rep.go ((q4 k hk).1.resolve_left hki) (hother k hk hki).1 (hother k hk hki).2
  have hlen:∀ y,(x.set i y).length=x.length:=fun y=>by simp
  obtain⟨Fs',hFs⟩:∃ Fs':Nat→Yd,Fs'=fun k c=>if k=i then(Fr c∨Fn c) else Fs k c:=⟨_,rfl⟩
  have fi:Fs' i=fun c=>Fr c∨Fn c:=by rw[hFs];simp
  have fo:∀ k,k≠i→Fs' k=Fs k:=fun k h=>by rw[hFs];simp[h]
  have hsub':∀ k,k<x.length→Ye (Fs' k) (fun c=>(c=b∨Fr c∨∃ j,j≠i∧j<x.length∧Fs j c)∨Fn c):=by
   intro k hk c hc
   by_cases hki:k=i
   ·subst hki;rw[fi] at hc;exact hc.elim (fun z=>.inl (.inr (.inl z))) .inr
   ·rw[fo k hki] at hc;exact .inl (.inr (.inr ⟨k,hki,hk,hc⟩))
  have hnb':∀ k,k<x.length→¬ Fs' k b:=by
   intro k hk hc
   by_cases hki:k=i
   ·subst hki;rw[fi] at hc
    rcases hc with hc | hc
    ·exact hnb k hi (o2 _ hc)
    ·exact hd _ hc (.inl rfl)
   ·rw[fo k hki] at hc;exact hnb k hk hc
  have hdi:∀ l,l≠i→l<x.length→Dis (Fs' i) (Fs' l):=by
   intro l hli hl' c hc hc';rw[fi] at hc;rw[fo l hli] at hc';rcases hc with hc | hc
   ·exact hdis i l (Ne.symm hli) hi hl' c (o2 _ hc) hc'
   ·exact hd c hc (.inr (.inr ⟨l,hli,hl',hc'⟩))
  have hdis':∀ k l,k≠l→k<x.length→l<x.length→Dis (Fs' k) (Fs' l):=by
   intro k l hkl hk hl'
   by_cases hki:k=i
   ·subst hki;exact hdi l (Ne.symm hkl) hl'
   ·by_cases hli:l=i
    ·subst hli;exact(hdi k hki hk).symm
    ·rw[fo k hki,fo l hli];exact hdis k l hkl hk hl'
  have hrow:Ya w' M' Lf' tv' s (fun c=>(c=b∨Fr c∨∃ j,j≠i∧j<x.length∧Fs j c)∨Fn c):=by
   rcases Yaj hset with ⟨y,hs2,rfl⟩ | ⟨h1,h2,rfl⟩
   ·have r1':=Ymn hs2 r1
    have body:c'≠0→∃ b' off',∃ Fs':Nat→Yd,(some ⟨b,off,none⟩:Option Addr)=some ⟨b',off',none⟩∧
      ((b'=b∨Fr b'∨∃ j,j≠i∧j<x.length∧Fs j b')∨Fn b')∧Room w' b' off' (c'*e.size)∧
      (∀ k (h:k<(x.set i y).length),Rep w' M' e o.elem ((x.set i y)[k]'h) (.mem b' (off'+k*e.size)) (Fs' k)∧
       Ye (Fs' k) (fun c=>(c=b∨Fr c∨∃ j,j≠i∧j<x.length∧Fs j c)∨Fn c)∧¬ Fs' k b')∧
      (∀ k l,k<l→l<(x.set i y).length→Dis (Fs' k) (Fs' l)):=by
     intro _
     refine⟨b,off,Fs',rfl,.inl (.inl rfl),ub.room q3,?_,fun k l hkl hl'=>hdis' k l (by omega) (by rw[hlen] at hl';omega) (by rw[hlen] at hl';omega)⟩
     intro k hk;rw[hlen] at hk;refine⟨?_,hsub' k hk,hnb' k hk⟩
     by_cases hki:k=i
     ·subst hki
      simp only[List.getElem_set_self];rw[fi];exact r1'
     ·rw[List.getElem_set_ne (Ne.symm hki),fo k hki]
      exact hoth k hk hki
    refine⟨some ⟨b,off,none⟩,c',by rw[hlen];exact e1',by rw[hlen];exact e2,?_⟩
    cases o with
    |sh=>exact absurd rfl hnsh
    |top=>exact body
    |deep=>exact body
   ·refine⟨hnsh,by rw[TV.Yak o6];exact husz,hi,b,off,c',e1',e2,Fs',.inl (.inl rfl),ub.room q3,fun k hk=>⟨?_,hsub' k hk,hnb' k hk⟩,hdis',?_⟩
    ·by_cases hki:k=i
     ·exact .inl hki
     ·right;rw[fo k hki];exact hoth k hk hki
    ·rw[fi];exact r1.down h2
  have hnav':∀ k q,k<x.length→nav w' tv' s (.el k::q)=if k=i then nav w' tve (.mem b (off+i*e.size)) q else nav w' (.cl o.elem e (x.getD k e.zero)) (.mem b (off+k*e.size)) q:=by
   intro k q hk;rcases Yaj hset with ⟨y,hs2,rfl⟩ | ⟨h1,h2,rfl⟩
   ·simp only[nav,hlen,hk,if_true,e1']
    obtain⟨o',x',rfl,rfl⟩:=Yav hs2
    by_cases hki:k=i
    ·subst hki
     rw[jL rfl,show(x.set k x').getD k e.zero=x' by simp[kT,hk]]
     exact Yg7 q
    ·rw[jM hki,show(x.set i x').getD k e.zero=x.getD k e.zero by rw[Ym _ _ _ (by simpa using hk),Ym _ _ _ hk,List.getElem_set_ne (Ne.symm hki)]]
   ·rw[Ye2 e1' hk]
    by_cases hki:k=i
    ·subst hki;simp only[if_true]
    ·rw[jM hki,jM hki]
  have hget':∀ k q o1 e1 xs,k<x.length→(if k=i then tve.gr q else(TV.cl o.elem e (x.getD k e.zero)).gr q)=some (.cl o1 (.sl e1) xs)→∃ o2,tv'.gr (.el k::q)=some (.cl o2 (.sl e1) xs):=by
   intro k q o1 e1 xs hk hg;rcases Yaj hset with ⟨y,hs2,rfl⟩ | ⟨h1,h2,rfl⟩
   ·obtain⟨o',x',rfl,rfl⟩:=Yav hs2
    show ∃ o2,((TV.cl o.elem e ((x.set i x').getD k e.zero)).get q).map TV.row=_
    by_cases hki:k=i
    ·subst hki
     rw[jL rfl] at hg
     rw[show(x.set k x').getD k e.zero=x' by simp[kT,hk]]
     exact Ym0 q hg
    ·rw[jM hki] at hg
     rw[show(x.set i x').getD k e.zero=x.getD k e.zero by rw[Ym _ _ _ (by simpa using hk),Ym _ _ _ hk,List.getElem_set_ne (Ne.symm hki)]]
     exact⟨o1,hg⟩
   ·rw[Yrq];exact⟨o1,hg⟩
  refine⟨hrow,by rw[hnav' i p hi,jL rfl];exact r2,?_⟩
  intro q s1 hq hne
  cases q with
  |nil=>
   rw[Yf,jD] at hq;subst hq;refine⟨Yf _ _ _,fun o1 e1' xs hg=>?_⟩;rw[Yct,hrw] at hg;cases hg;refine⟨hhead,?_⟩;rcases Yaj hset with ⟨y,hs2,rfl⟩ | ⟨h1,h2,rfl⟩
   ·exact⟨o,x.set i y,rfl,hlen y⟩
   ·exact⟨o,x,rfl,rfl⟩
  |cons a q=>
   obtain⟨k,rfl,hk,hq⟩:=hnav a q s1 hq;rw[hnav' k q hk,hget k q]
   by_cases hki:k=i
   ·subst hki
    rw[jL rfl] at hq;rw[jL rfl,jL rfl]
    obtain⟨n1,n2⟩:=rr q s1 hq (fun⟨t,ht⟩=>hne ⟨t,by rw[ht];rfl⟩)
    refine⟨n1,fun o1 e2 xs hg=>?_⟩;obtain⟨c1,o3',xs',c2,c3⟩:=n2 o1 e2 xs hg
    obtain⟨o4',c4⟩:=hget' k q o3' e2 xs' hk (by rw[jL rfl];exact c2)
    exact⟨c1,o4',xs',c4,c3⟩
   ·rw[jM hki] at hq
    rw[jM hki,jM hki];rw[Ym _ _ _ hk] at hq ⊢;have ho:=hother k hk hki;obtain⟨n1,n2⟩:=Ybk (Lf:=Lf) q (tv:=.cl o.elem e (x[k]'hk)) ((q4 k hk).1.resolve_left hki) ho.1 ho.2 hq;refine⟨n1,fun o1 e2 xs hg=>?_⟩
    obtain⟨o4',c4⟩:=hget' k q o1 e2 xs hk (by rw[jM hki,Ym _ _ _ hk];exact hg)
    exact⟨n2 o1 e2 xs hg,o4',xs,c4,rfl⟩
theorem upd:∀ (p:Path) {tv:TV} {s:Src} {F:Yd} {s':Src} {old n tv':TV},Ya w M Lf tv s F→(∀ bs offs,s=.mem bs offs→¬ F bs)→
  nav w tv s p=some s'→tv.get p=some old→tv.set p n=some tv'→n.lay=old.lay→
  ∃ Fo Fr,Ye Fo F∧Ye Fr F∧Dis Fo Fr∧Ya w M Lf old s' Fo∧Yj4 s s' old.size tv.size Fr∧tv'.lay=tv.lay∧
   ∀ w' M' Lf' Fn,Yfx w w' M M' s s' old.size Fr→Ya w' M' Lf' n s' Fn→Dis Fn Fr→(∀ bs offs,s=.mem bs offs→¬ Fn bs)→(∀ v u,Lf v u→Lf' v u)→
    Ya w' M' Lf' tv' s (fun b=>Fr b∨Fn b)∧nav w' tv' s p=some s'∧Ynw w w' tv tv' s p:=by
 intro p
 induction p with
 |nil=>
  intro tv s F s' old n tv' h hs hn hg hset hlay;rw[Yf,jD] at hn;rw[TV.get_nil,jD] at hg;rw[TV.set_nil,jD] at hset;subst hn hg hset
  exact⟨F,noB,fun _ x=>x,fun _ x=>x.elim,fun _ _ x=>x.elim,h,Or.inl ⟨0,(Src.Ydb s).symm,by omega⟩,hlay,fun w' M' Lf' Fn u hr hd hb hl=>⟨hr.sub (fun b x=>Or.inr x),Yf _ _ _,fun q s1 _ hne=>absurd ⟨q,rfl⟩ hne⟩⟩
 |cons a p ih=>
  have pairCase:∀ {x y:TV} {s:Src} {F F1 F2:Yd},Ya w M Lf x s F1→Ya w M Lf y (s.sh x.size) F2→Ye F1 F→Ye F2 F→Dis F1 F2→(∀ bs offs,s=.mem bs offs→¬ F bs)→
    (∀ {s':Src} {old n x':TV},nav w x s p=some s'→x.get p=some old→x.set p n=some x'→n.lay=old.lay→
     ∃ Fo Fr,Ye Fo F∧Ye Fr F∧Dis Fo Fr∧Ya w M Lf old s' Fo∧Yj4 s s' old.size (x.size+y.size) Fr∧(Yal x' y).lay=.pair x.lay y.lay∧
      ∀ w' M' Lf' Fn,Yfx w w' M M' s s' old.size Fr→Ya w' M' Lf' n s' Fn→Dis Fn Fr→(∀ bs offs,s=.mem bs offs→¬ Fn bs)→(∀ v u,Lf v u→Lf' v u)→
       Ya w' M' Lf' (Yal x' y) s (fun b=>Fr b∨Fn b)∧nav w' (Yal x' y) s (.f1::p)=some s'∧
       (∀ q s1,nav w x s q=some s1→(¬ ∃ t,q=p++t)→nav w' (Yal x' y) s (.f1::q)=some s1∧Slk w w' (x.gr q) ((Yal x' y).gr (.f1::q)) s1)∧
       (∀ q s1,nav w y (s.sh x.size) q=some s1→nav w' (Yal x' y) s (.f2::q)=some s1∧Slk w w' (y.gr q) ((Yal x' y).gr (.f2::q)) s1))∧
    (∀ {s':Src} {old n y':TV},nav w y (s.sh x.size) p=some s'→y.get p=some old→y.set p n=some y'→n.lay=old.lay→
     ∃ Fo Fr,Ye Fo F∧Ye Fr F∧Dis Fo Fr∧Ya w M Lf old s' Fo∧Yj4 s s' old.size (x.size+y.size) Fr∧(Yal x y').lay=.pair x.lay y.lay∧
      ∀ w' M' Lf' Fn,Yfx w w' M M' s s' old.size Fr→Ya w' M' Lf' n s' Fn→Dis Fn Fr→(∀ bs offs,s=.mem bs offs→¬ Fn bs)→(∀ v u,Lf v u→Lf' v u)→
       Ya w' M' Lf' (Yal x y') s (fun b=>Fr b∨Fn b)∧nav w' (Yal x y') s (.f2::p)=some s'∧
       (∀ q s1,nav w y (s.sh x.size) q=some s1→(¬ ∃ t,q=p++t)→nav w' (Yal x y') s (.f2::q)=some s1∧Slk w w' (y.gr q) ((Yal x y').gr (.f2::q)) s1)∧
       (∀ q s1,nav w x s q=some s1→nav w' (Yal x y') s (.f1::q)=some s1∧Slk w w' (x.gr q) ((Yal x y').gr (.f1::q)) s1)):=by
   intro x y s F F1 F2 h1 h2 b1 b2 d hs;have hs1:∀ bs offs,s=.mem bs offs→¬ F1 bs:=fun bs offs e x=>hs bs offs e (b1 _ x);have hs2:∀ bs offs,s=.mem bs offs→¬ F2 bs:=fun bs offs e x=>hs bs offs e (b2 _ x);refine⟨?_,?_⟩
   ·intro s' old n x' hn hg hset hlay
    obtain⟨Fo,Fr,o1,o2,o3,o4,o5,o6,o7⟩:=ih h1 hs1 hn hg hset hlay
    refine⟨Fo,fun b=>Fr b∨F2 b,fun b x=>b1 b (o1 b x),fun b x=>x.elim (fun x=>b1 b (o2 b x)) (b2 b),fun b x y=>y.elim (o3 b x) (fun y=>d b (o1 b x) y),o4,?_,by rw[Yep,o6],?_⟩
    ·rcases o5 with ⟨k,e,hk⟩ | ⟨b0,off0,e,hf⟩
     ·exact .inl ⟨k,e,by omega⟩
     ·exact .inr ⟨b0,off0,e,.inl hf⟩
    ·intro w' M' Lf' Fn u hr hd hb hl
     obtain⟨r1,r2,rr⟩:=o7 w' M' Lf' Fn ⟨u.size,fun b x=>u.own b (.inl x),u.src,u.st⟩ hr (fun b x y=>hd b x (.inl y)) hb hl;have hsz:x'.size=x.size:=TV.Yak o6;have gg:=u.goes (m:=x.size) (F2:=F2) (fun b x=>.inr x) hs2 Fr o5 (fun b x y=>d b (o2 b x) y) (fun bs offs e x=>hs1 bs offs e (o2 _ x)) (sz:=y.size) (k:=x.size) (fun j e hj=>.inl hj);have r3:Ya w' M' Lf' y (s.sh x.size) F2:=Ya.go h2 gg.1 gg.2 hl
     refine⟨Yeq ⟨fun b=>Fr b∨Fn b,F2,r1,by rw[hsz];exact r3,fun b x=>x.elim (fun x=>.inl (.inl x)) .inr,fun b x=>.inl (.inr x),fun b x y=>x.elim (fun x=>d b (o2 b x) y) (fun x=>hd b x (.inr y))⟩,by rw[Ydp];exact r2,?_,?_⟩
     ·intro q s1 hq hne
      obtain⟨n1,n2⟩:=rr q s1 hq hne
      refine⟨by rw[Ydp];exact n1,fun o e xs hg=>?_⟩
      obtain⟨c1,o',xs',c2,c3⟩:=n2 o e xs hg;obtain⟨o2,c4⟩:=Yi4 (b:=y) c2;exact⟨c1,o2,xs',c4,c3⟩
     ·intro q s1 hq
      obtain⟨n1,n2⟩:=Ybk q h2 gg.1 gg.2 hq
      refine⟨by rw[Ydq,hsz];exact n1,fun o e xs hg=>?_⟩
      obtain⟨o2,c4⟩:=Yi5 (a:=x') hg;exact⟨n2 o e xs hg,o2,xs,c4,rfl⟩
   ·intro s' old n y' hn hg hset hlay
    have hs2':∀ bs offs,s.sh x.size=.mem bs offs→¬ F2 bs:=fun bs offs e=>by obtain⟨o,e1,_⟩:=Src.Yat e;exact hs2 _ _ e1
    obtain⟨Fo,Fr,o1,o2,o3,o4,o5,o6,o7⟩:=ih h2 hs2' hn hg hset hlay
    have ol:Yj4 s s' old.size (x.size+y.size) Fr:=by
     rcases o5 with ⟨k,e,hk⟩ | ⟨b0,off0,e,hf⟩
     ·exact .inl ⟨x.size+k,by rw[e,Src.Ygo],by omega⟩
     ·exact .inr ⟨b0,off0,e,hf⟩
    refine⟨Fo,fun b=>Fr b∨F1 b,fun b x=>b2 b (o1 b x),fun b x=>x.elim (fun x=>b2 b (o2 b x)) (b1 b),fun b x y=>y.elim (o3 b x) (fun y=>d b y (o1 b x)),o4,?_,by rw[Yep,o6],?_⟩
    ·rcases ol with ⟨k,e,hk⟩ | ⟨b0,off0,e,hf⟩
     ·exact .inl ⟨k,e,hk⟩
     ·exact .inr ⟨b0,off0,e,.inl hf⟩
    ·intro w' M' Lf' Fn u hr hd hb hl
     have hsrc:∀ bs offs,s.sh x.size=.mem bs offs→Kp w w' s' old.size bs:=fun bs offs e=>by obtain⟨o,e1,_⟩:=Src.Yat e;exact u.src _ _ e1
     obtain⟨r1,r2,rr⟩:=o7 w' M' Lf' Fn ⟨u.size,fun b x=>u.own b (.inl x),hsrc,u.st⟩ hr (fun b x y=>hd b x (.inl y)) (fun bs offs e=>by obtain⟨o,e1,_⟩:=Src.Yat e;exact hb _ _ e1) hl
     have gg:=u.goes (F2:=F1) (fun b x=>.inr x) hs1 Fr ol (fun b x y=>d b y (o2 b x)) (fun bs offs e x=>hs2 bs offs e (o2 _ x)) (sz:=x.size) (k:=0) (by
       intro j e hj
       right
       rcases o5 with ⟨k,e',hk⟩ | ⟨b0,off0,e',hf⟩
       ·rw[e',Src.Ygo] at e
        cases s<;>simp[Src.sh] at e<;>omega
       ·rw[e'] at e
        obtain⟨o,e1,_⟩:=Src.Yat e.symm
        exact absurd (o2 _ hf) (hs2 _ _ e1))
     rw[Src.Ydb] at gg;have r3:Ya w' M' Lf' x s F1:=Ya.go h1 gg.1 gg.2 hl
     refine⟨Yeq ⟨F1,fun b=>Fr b∨Fn b,r3,r1,fun b x=>.inl (.inr x),fun b x=>x.elim (fun x=>.inl (.inl x)) .inr,fun b x y=>y.elim (fun y=>d b x (o2 b y)) (fun y=>hd b y (.inr x))⟩,by rw[Ydq];exact r2,?_,?_⟩
     ·intro q s1 hq hne
      obtain⟨n1,n2⟩:=rr q s1 hq hne
      refine⟨by rw[Ydq];exact n1,fun o e xs hg=>?_⟩
      obtain⟨c1,o',xs',c2,c3⟩:=n2 o e xs hg;obtain⟨o2,c4⟩:=Yi5 (a:=x) c2;exact⟨c1,o2,xs',c4,c3⟩
     ·intro q s1 hq
      obtain⟨n1,n2⟩:=Ybk q h1 gg.1 gg.2 hq
      refine⟨by rw[Ydp];exact n1,fun o e xs hg=>?_⟩
      obtain⟨o2,c4⟩:=Yi4 (b:=y') hg;exact⟨n2 o e xs hg,o2,xs,c4,rfl⟩
  intro tv s F s' old n tv' h hs hn hg hset hlay
  cases tv with
  |pr x y=>
   obtain⟨F1,F2,h1,h2,b1,b2,d⟩:=h;have pc:=pairCase h1 h2 b1 b2 d hs
   cases a with
   |f1=>
    simp only[nav] at hn;simp only[TV.get] at hg;simp only[TV.set] at hset
    split at hset
    ·rename_i x' hx;cases hset
     obtain⟨Fo,Fr,o1,o2,o3,o4,o5,o6,o7⟩:=pc.1 hn hg hx hlay;refine⟨Fo,Fr,o1,o2,o3,o4,o5,o6,fun w' M' Lf' Fn u hr hd hb hl=>?_⟩;obtain⟨r1,r2,r3,r4⟩:=o7 w' M' Lf' Fn u hr hd hb hl;refine⟨r1,r2,fun q s1 hq hne=>?_⟩
     cases q with
     |nil=>rw[Yf] at hq;cases hq;exact⟨Yf _ _ _,fun o e xs hg=>by rw[Yct] at hg;cases hg⟩
     |cons c q=>
      cases c with
      |f1=>simp only[nav] at hq;exact r3 q s1 hq (fun⟨t,ht⟩=>hne ⟨t,by rw[ht];rfl⟩)
      |f2=>simp only[nav] at hq;exact r4 q s1 hq
      |el i=>simp[nav] at hq
    ·cases hset
   |f2=>
    simp only[nav] at hn;simp only[TV.get] at hg;simp only[TV.set] at hset
    split at hset
    ·rename_i x' hx;cases hset
     obtain⟨Fo,Fr,o1,o2,o3,o4,o5,o6,o7⟩:=pc.2 hn hg hx hlay;refine⟨Fo,Fr,o1,o2,o3,o4,o5,o6,fun w' M' Lf' Fn u hr hd hb hl=>?_⟩;obtain⟨r1,r2,r3,r4⟩:=o7 w' M' Lf' Fn u hr hd hb hl;refine⟨r1,r2,fun q s1 hq hne=>?_⟩
     cases q with
     |nil=>rw[Yf] at hq;cases hq;exact⟨Yf _ _ _,fun o e xs hg=>by rw[Yct] at hg;cases hg⟩
     |cons c q=>
      cases c with
      |f1=>simp only[nav] at hq;exact r4 q s1 hq
      |f2=>simp only[nav] at hq;exact r3 q s1 hq (fun⟨t,ht⟩=>hne ⟨t,by rw[ht];rfl⟩)
      |el i=>simp[nav] at hq
    ·cases hset
   |el i=>simp[nav] at hn
  |cl o t x=>
   cases t with
   |pair ta tb=>
    obtain⟨F1,F2,h1,h2,b1,b2,d⟩:=h;have pc:=pairCase (x:=.cl o ta x.1) (y:=.cl o tb x.2) h1 h2 b1 b2 d hs
    cases a with
    |f1=>
     simp only[nav] at hn;simp only[TV.get] at hg;simp only[TV.set] at hset
     split at hset
     ·rename_i x' hx;cases hset
      obtain⟨Fo,Fr,o1,o2,o3,o4,o5,o6,o7⟩:=pc.1 hn hg hx hlay;refine⟨Fo,Fr,o1,o2,o3,o4,o5,o6,fun w' M' Lf' Fn u hr hd hb hl=>?_⟩;obtain⟨r1,r2,r3,r4⟩:=o7 w' M' Lf' Fn u hr hd hb hl;refine⟨r1,r2,fun q s1 hq hne=>?_⟩
      cases q with
      |nil=>rw[Yf] at hq;cases hq;exact⟨Yf _ _ _,fun o e xs hg=>by rw[Yct] at hg;cases hg⟩
      |cons c q=>
       cases c with
       |f1=>simp only[nav] at hq;exact r3 q s1 hq (fun⟨t,ht⟩=>hne ⟨t,by rw[ht];rfl⟩)
       |f2=>simp only[nav] at hq;exact r4 q s1 hq
       |el i=>simp[nav] at hq
     ·cases hset
    |f2=>
     simp only[nav] at hn;simp only[TV.get] at hg;simp only[TV.set] at hset
     split at hset
     ·rename_i x' hx;cases hset
      obtain⟨Fo,Fr,o1,o2,o3,o4,o5,o6,o7⟩:=pc.2 hn hg hx hlay;refine⟨Fo,Fr,o1,o2,o3,o4,o5,o6,fun w' M' Lf' Fn u hr hd hb hl=>?_⟩;obtain⟨r1,r2,r3,r4⟩:=o7 w' M' Lf' Fn u hr hd hb hl;refine⟨r1,r2,fun q s1 hq hne=>?_⟩
      cases q with
      |nil=>rw[Yf] at hq;cases hq;exact⟨Yf _ _ _,fun o e xs hg=>by rw[Yct] at hg;cases hg⟩
      |cons c q=>
       cases c with
       |f1=>simp only[nav] at hq;exact r4 q s1 hq
       |f2=>simp only[nav] at hq;exact r3 q s1 hq (fun⟨t,ht⟩=>hne ⟨t,by rw[ht];rfl⟩)
       |el i=>simp[nav] at hq
     ·cases hset
    |el i=>simp[nav] at hn
   |sl e=>
    cases a with
    |f1=>simp[nav] at hn
    |f2=>simp[nav] at hn
    |el i=>
     obtain⟨hnsh,tve,hs1,hs2⟩:=Yjs hset;simp only[nav] at hn
     split at hn
     ·rename_i hi
      split at hn
      ·rename_i b off l c hcell
       have hgd:x.getD i e.zero=x[i]'hi:=by simp[kT,hi]
       obtain⟨A,c',e1,e2,e3⟩:=h
       have hA:A=some ⟨b,off,none⟩∧c'=c:=by
        rw[e1] at hcell;simp only[jD,Value.slice.injEq] at hcell;exact⟨hcell.1,hcell.2.2⟩
       obtain⟨rfl,rfl⟩:=hA
       have e3':c'≠0→∃ b' off',∃ Fs:Nat→Yd,(some ⟨b,off,none⟩:Option Addr)=some ⟨b',off',none⟩∧F b'∧Room w b' off' (c'*e.size)∧
        (∀ i (h:i<x.length),Rep w M e o.elem (x[i]'h) (.mem b' (off'+i*e.size)) (Fs i)∧Ye (Fs i) F∧¬ Fs i b')∧(∀ i j,i<j→j<x.length→Dis (Fs i) (Fs j)):=by
        cases o with
        |sh=>exact absurd rfl hnsh
        |top=>exact e3
        |deep=>exact e3
       obtain⟨b',off',Fs,q1,q2,q3,q4,q5⟩:=e3' (by omega)
       simp only[jD,Addr.mk.injEq,and_true] at q1;obtain⟨rfl,rfl⟩:=q1
       have hdis:∀ j k,j≠k→j<x.length→k<x.length→Dis (Fs j) (Fs k):=by
        intro j k hne hj hk;rcases kG j k with hlt | hge
        ·exact q5 j k hlt hk
        ·exact(q5 k j (by omega) hj).symm
       have hg':(TV.cl o.elem e (x.getD i e.zero)).get p=some old:=by
        cases o<;>first | exact absurd rfl hnsh | (simp only[TV.get] at hg;exact hg)
       have IH:=ih (tv:=.cl o.elem e (x[i]'hi)) (s:=.mem b (off+i*e.size)) (q4 i hi).1 (fun bs offs eq hb=>by cases eq;exact(q4 i hi).2.2 hb) (by rw[hgd] at hn;exact hn) (by rw[hgd] at hg';exact hg') (by rw[hgd] at hs1;exact hs1) hlay
       refine Ysn (T:=.cl o (.sl e) x) (u:=.cl o.elem e (x[i]'hi)) hnsh hi e1 e2 hs q2 q3 (fun j hj=>⟨.inr (q4 j hj).1,(q4 j hj).2⟩) hdis rfl rfl ?_ ?_ rfl hs2 IH
       ·intro a q s1 hq
        cases a with
        |f1=>simp[nav] at hq
        |f2=>simp[nav] at hq
        |el k=>
         simp only[nav] at hq
         split at hq
         ·rename_i hk
          rw[e1] at hq;refine⟨k,rfl,hk,?_⟩
          by_cases hki:k=i
          ·subst hki;rw[jL rfl,←hgd];exact hq
          ·rw[jM hki];exact hq
         ·cases hq
       ·intro k q
        show((TV.cl o.elem e (x.getD k e.zero)).get q).map TV.row=_
        by_cases hki:k=i
        ·subst hki;rw[jL rfl,hgd];rfl
        ·rw[jM hki];rfl
      ·cases hn
     ·cases hn
   |arr m e=>
    cases a with
    |f1=>simp[nav] at hn
    |f2=>simp[nav] at hn
    |el i=>
     simp only[nav] at hn
     split at hn
     ·rename_i hi
      obtain⟨hlen,Fs,q4,q5⟩:=h
      have hi':i<x.length:=by omega
      have hgd:x.getD i e.zero=x[i]'hi':=by simp[kT,hi']
      have hdis:∀ j k,j≠k→j<x.length→k<x.length→Dis (Fs j) (Fs k):=by
       intro j k hne hj hk;rcases kG j k with hlt | hge
       ·exact q5 j k hlt hk
       ·exact(q5 k j (by omega) hj).symm
      have hg':(TV.cl o e (x.getD i e.zero)).get p=some old:=by simp only[TV.get] at hg;exact hg
      have hset':∃ tve y,(TV.cl o e (x.getD i e.zero)).set p n=some tve∧tve.Yij o e=some y∧tv'=.cl o (.arr m e) (x.set i y):=by
       simp only[TV.set] at hset
       split at hset
       ·rename_i tve h1
        split at hset
        ·rename_i y h2;cases hset;exact⟨tve,y,h1,h2,rfl⟩
        ·cases hset
       ·cases hset
      obtain⟨tve,y,hs1,hs2,rfl⟩:=hset';rw[hgd] at hn hg' hs1
      have hsrc:∀ (k:Nat) (G:Yd),Ye G F→∀ bs offs,s.sh k=.mem bs offs→¬ G bs:=fun k G hG bs offs eq hb=>by
       obtain⟨o',e1,_⟩:=Src.Yat eq;exact hs _ _ e1 (hG _ hb)
      obtain⟨Fo,Fr,o1,o2,o3,o4,o5,o6,o7⟩:=ih (tv:=.cl o e (x[i]'hi')) (q4 i hi').1 (hsrc _ _ (q4 i hi').2) hn hg' hs1 hlay
      have hle:∀ k,k<x.length→k*e.size+e.size≤m*e.size:=fun k hk=>by
       calc k*e.size+e.size=(k+1)*e.size:=by rw[jY];omega
        _≤m*e.size:=jR _ (by omega)
      have ol:Yj4 s s' old.size (m*e.size) Fr:=by
       rcases o5 with ⟨k,eq,hk⟩ | ⟨b0,off0,eq,hf⟩
       ·simp only[TV.size] at hk
        have:=hle i hi'
        exact .inl ⟨i*e.size+k,by rw[eq,Src.Ygo],by omega⟩
       ·exact .inr ⟨b0,off0,eq,hf⟩
      refine⟨Fo,fun c=>Fr c∨∃ j,j≠i∧j<x.length∧Fs j c,fun c hc=>(q4 i hi').2 c (o1 c hc),?_,?_,o4,?_,rfl,?_⟩
      ·rintro c (hc | ⟨j,hj,hjl,hc⟩)
       ·exact(q4 i hi').2 c (o2 c hc)
       ·exact(q4 j hjl).2 c hc
      ·rintro c hc (hc' | ⟨j,hj,hjl,hc'⟩)
       ·exact o3 c hc hc'
       ·exact hdis i j (Ne.symm hj) hi' hjl c (o1 c hc) hc'
      ·rcases ol with ⟨k,eq,hk⟩ | ⟨b0,off0,eq,hf⟩
       ·exact .inl ⟨k,eq,hk⟩
       ·exact .inr ⟨b0,off0,eq,.inl hf⟩
      ·intro w' M' Lf' Fn u hr hd hb hl
       obtain⟨r1,r2,rr⟩:=o7 w' M' Lf' Fn ⟨u.size,fun c hc=>u.own c (.inl hc),fun bs offs eq=>by obtain⟨o',e1,_⟩:=Src.Yat eq;exact u.src _ _ e1,u.st⟩ hr
        (fun c hc hc'=>hd c hc (.inl hc')) (fun bs offs eq=>by obtain⟨o',e1,_⟩:=Src.Yat eq;exact hb _ _ e1) hl
       have r1':=Ymn hs2 r1
       have hl2:(x.set i y).length=x.length:=by simp
       have hother:∀ k (hk:k<x.length),k≠i→Goes w w' M M' (Fs k)∧∀ j,j<e.size→(s.sh (k*e.size)).cell w' j=(s.sh (k*e.size)).cell w j:=by
        intro k hk hki
        refine u.goes (F2:=Fs k) (fun c hc=>.inr ⟨k,hki,hk,hc⟩) (fun bs offs eq hb=>hs bs offs eq ((q4 k hk).2 _ hb)) Fr ol (fun c hc hc'=>hdis i k (Ne.symm hki) hi' hk c (o2 c hc) hc')
         (fun bs offs eq hc=>hs bs offs eq ((q4 i hi').2 _ (o2 _ hc))) (sz:=e.size) (k:=k*e.size) ?_
        intro j eq hj;rcases o5 with ⟨kk,eq',hkk⟩ | ⟨b0,off0,eq',hf⟩
        ·rw[eq',Src.Ygo] at eq
         have:j=i*e.size+kk:=by cases s<;>simp[Src.sh] at eq<;>omega
         subst this;simp only[TV.size] at hkk;rcases kG k i with hlt | hge
         ·right;have:=Yaw (sz:=e.size) hlt;omega
         ·left;have:=Yaw (sz:=e.size) (show i<k by omega);omega
        ·rw[eq'] at eq
         obtain⟨o',e1,_⟩:=Src.Yat eq.symm;exact absurd ((q4 i hi').2 _ (o2 _ hf)) (hs _ _ e1)
       refine⟨⟨by rw[hl2];exact hlen,fun k c=>if k=i then(Fr c∨Fn c) else Fs k c,?_,?_⟩,?_,?_⟩
       ·intro k hk
        rw[hl2] at hk
        by_cases hki:k=i
        ·subst hki
         refine⟨by simp only[if_true,List.getElem_set_self];exact r1',fun c hc=>?_⟩
         simp only[if_true] at hc;exact hc.elim (fun z=>.inl (.inl z)) .inr
        ·refine⟨?_,fun c hc=>?_⟩
         ·simp only[jM hki]
          rw[List.getElem_set_ne (Ne.symm hki)];exact Rep.go (q4 k hk).1 (hother k hk hki).1 (hother k hk hki).2
         ·simp only[jM hki] at hc;exact .inl (.inr ⟨k,hki,hk,hc⟩)
       ·intro k l hkl hl' c hc hc'
        rw[hl2] at hl'
        by_cases hki:k=i
        ·have hli:l≠i:=by omega
         simp only[jL hki] at hc;simp only[jM hli] at hc';rcases hc with hc | hc
         ·exact hdis i l (by omega) hi' hl' c (o2 _ hc) hc'
         ·exact hd c hc (.inr ⟨l,hli,hl',hc'⟩)
        ·simp only[jM hki] at hc
         by_cases hli:l=i
         ·simp only[jL hli] at hc'
          rcases hc' with hc' | hc'
          ·exact hdis k i hki (by omega) hi' c hc (o2 _ hc')
          ·exact hd c hc' (.inr ⟨k,hki,by omega,hc⟩)
         ·simp only[jM hli] at hc'
          exact hdis k l (by omega) (by omega) hl' c hc hc'
       ·simp only[nav,hi,if_true]
        have:(x.set i y).getD i e.zero=y:=by simp[kT,hi']
        rw[this];obtain⟨o',x',rfl,rfl⟩:=Yav hs2;rw[Yg7 p (o:=o) (o':=o')];exact r2
       ·intro q s1 hq hne
        cases q with
        |nil=>
         rw[Yf,jD] at hq;subst hq
         exact⟨Yf _ _ _,fun o1 e1' xs hg=>by rw[Yct] at hg;cases hg⟩
        |cons a q=>
         cases a with
         |f1=>simp[nav] at hq
         |f2=>simp[nav] at hq
         |el k=>
          simp only[nav] at hq ⊢
          split at hq
          ·rename_i hk
           rw[jL hk]
           have hk':k<x.length:=by omega
           simp only[TV.gr,TV.get]
           by_cases hki:k=i
           ·subst hki
            have hy:(x.set k y).getD k e.zero=y:=by simp[kT,hk']
            rw[hy];rw[Ym _ _ _ hk'] at hq ⊢
            obtain⟨n1,n2⟩:=rr q s1 hq (fun⟨t,ht⟩=>hne ⟨t,by rw[ht];rfl⟩)
            obtain⟨o',x',rfl,rfl⟩:=Yav hs2
            refine⟨by rw[Yg7 q (o:=o) (o':=o')];exact n1,fun o1 e2 xs hg=>?_⟩
            obtain⟨c1,o3',xs',c2,c3⟩:=n2 o1 e2 xs hg;obtain⟨o4',c4⟩:=Ym0 (o':=o) q c2;exact⟨c1,o4',xs',c4,c3⟩
           ·have hy:(x.set i y).getD k e.zero=x[k]'hk':=by rw[Ym _ _ _ (by simpa using hk'),List.getElem_set_ne (Ne.symm hki)]
            rw[hy];rw[Ym _ _ _ hk'] at hq ⊢;have ho:=hother k hk' hki;obtain⟨n1,n2⟩:=Ybk (Lf:=Lf) q (tv:=.cl o e (x[k]'hk')) (q4 k hk').1 ho.1 ho.2 hq;exact⟨n1,fun o1 e2 xs hg=>⟨n2 o1 e2 xs hg,o1,xs,hg,rfl⟩⟩
          ·cases hq
     ·cases hn
   |int k=>cases a<;>simp[nav] at hn
   |bool=>cases a<;>simp[nav] at hn
   |str=>cases a<;>simp[nav] at hn
   |unit=>cases a<;>simp[nav] at hn
  |nl=>cases a<;>simp[nav] at hn
  |loc r q=>cases a<;>simp[nav] at hn
  |seg r q=>cases a<;>simp[nav] at hn
  |sub r q lo m=>cases a<;>simp[nav] at hn
  |pt t x=>cases a<;>simp[nav] at hn
  |op v=>cases a<;>simp[nav] at hn
  |clo f c=>cases a<;>simp[nav] at hn
  |tup l=>cases a<;>simp[nav] at hn
  |kb b=>cases a<;>simp[nav] at hn
  |gd t b v=>cases a<;>simp[nav] at hn
  |dead m=>cases a<;>simp[nav] at hn
  |rw o e x i v=>
   cases a with
   |f1=>simp[nav] at hn
   |f2=>simp[nav] at hn
   |el j=>
    obtain⟨hnsh,rfl,tve,hs1,hs2⟩:=Yjr hset;obtain⟨_,h2,h3,b,off,c,h4,h5,Fs,h6,h7,h8,h9,h10⟩:=h;obtain⟨hj,hn⟩:=Yfq h4 hn;rw[Ycs,jL rfl] at hg;rw[jL rfl] at hn
    have IH:=ih (tv:=v) (s:=.mem b (off+j*e.size)) h10.up (fun bs offs eq hb=>by cases eq;exact(h8 j hj).2.2 hb) hn hg hs1 hlay
    refine Ysn (T:=.rw o e x j v) (u:=v) hnsh hj h4 h5 hs h6 h7 h8 h9 h2 rfl ?_ ?_ rfl hs2 IH
    ·intro a q s1 hq
     cases a with
     |f1=>simp[nav] at hq
     |f2=>simp[nav] at hq
     |el k=>obtain⟨hk,hq⟩:=Yfq h4 hq;exact⟨k,rfl,hk,hq⟩
    ·intro k q;exact Yrq
end
section
abbrev Yc:=Nat→Option Root
structure W0 where
 w:World
 M:Yd
 K:Nat→Nat→Prop
 X:Yd
 P:Nat→Option Src
 nt:Nat
structure Cx where
 L:Nat→Src
 F:Nat→Yd
def Tot (C:Cx) (r:Nat) (R:Root):Yd:=fun b=>C.F r b∨(R.k=.mem∧∃ off,C.L r=.mem b off)
def Mt (Z:W0) (C:Cx) (ρ:Yc) (G:Yd):Yd:=fun b=>(∃ r R,ρ r=some R∧Tot C r R b)∨G b∨Z.X b
def Pl (Z:W0) (r:Nat) (k:Kind) (s:Src):Prop:=(∀ s',Z.P r=some s'→s=s')∧(k=.mem→Z.P r=none→∀ b off,s=.mem b off→∀ i,¬ Z.K b i)
structure Str (Z:W0) (Lf:TV→Value→Prop) (C:Cx) (G:Yd) (ρ:Yc) (w:World):Prop where
 rep:∀ r R,ρ r=some R→Ya w (Mt Z C ρ G) Lf R.tv (C.L r) (C.F r)
 reg:∀ r R,ρ r=some R→R.k=.reg→∃ cs,C.L r=.reg cs 0
 mem:∀ r R,ρ r=some R→R.k=.mem→∃ b off,C.L r=.mem b off∧¬ C.F r b∧b<w.heap.size∧Room w b off R.tv.size∧(∀ i,i<R.tv.size→¬ Z.K b (off+i))∧¬ Z.X b∧(Z.M b∨Z.w.heap.size≤b)
 bnd:∀ r R b,ρ r=some R→C.F r b→b<w.heap.size∧(∀ i,¬ Z.K b i)∧¬ Z.X b∧(Z.M b∨Z.w.heap.size≤b)
 gbnd:∀ b,G b→b<w.heap.size∧(∀ i,¬ Z.K b i)∧¬ Z.X b∧(Z.M b∨Z.w.heap.size≤b)
 dis:∀ r r' R R',r≠r'→ρ r=some R→ρ r'=some R'→Dis (Tot C r R) (Tot C r' R')
 gdis:∀ r R,ρ r=some R→Dis (Tot C r R) G
 plc:∀ r R,ρ r=some R→Pl Z r R.k (C.L r)
 sz:Z.w.heap.size≤w.heap.size
 old:∀ b,b<Z.w.heap.size→¬ Z.M b→Same Z.w w b
 kp:∀ b i,Z.K b i→w.cell? ⟨b,i,none⟩=Z.w.cell? ⟨b,i,none⟩
 kf:∀ b i j,Z.K b i→w.frozen? ⟨b,j,none⟩=Z.w.frozen? ⟨b,j,none⟩
 xb:∀ b,Z.X b→b<Z.w.heap.size
 kb:∀ b i,Z.K b i→b<Z.w.heap.size
 os:w.os=Z.w.os
 tape:w.tape=Z.w.tape
 output:w.output=Z.w.output
structure Dd where
 l:Nat→Path→Prop
 s:Nat→Path→Prop
def Dd.none:Dd:=⟨fun _ _=>False,fun _ _=>False⟩
def Dd.or (a b:Dd):Dd:=⟨fun r p=>a.l r p∨b.l r p,fun r p=>a.s r p∨b.s r p⟩
structure Gs (w w':World) (M M':Yd) (ρ ρ':Yc) (L L':Nat→Src) (D:Dd):Prop where
 size:w.heap.size≤w'.heap.size
 st:∀ b,¬ M b→b<w.heap.size→Same w w' b∧¬ M' b
 rl:∀ r q R b off,¬ D.l r q→ρ r=some R→nav w R.tv (L r) q=some (.mem b off)→∃ R',ρ' r=some R'∧nav w' R'.tv (L' r) q=some (.mem b off)
 rs:∀ r q R s,¬ D.s r q→ρ r=some R→nav w R.tv (L r) q=some s→∀ o e,∀ xs:List e.El,R.tv.gr q=some (.cl o (.sl e) xs)→
  ∃ R',ρ' r=some R'∧nav w' R'.tv (L' r) q=some s∧s.cell w' 0=s.cell w 0∧∃ o',∃ xs':List e.El,R'.tv.gr q=some (.cl o' (.sl e) xs')∧xs'.length=xs.length
theorem Gs.refl (w:World) (M:Yd) (ρ:Yc) (L:Nat→Src):Gs w w M M ρ ρ L L Dd.none where
 size:=jB _
 st:=fun b h _=>⟨rfl,h⟩
 rl:=fun r q R b off _ h1 h2=>⟨R,h1,h2⟩
 rs:=fun r q R s _ h1 h2 o e xs h3=>⟨R,h1,h2,rfl,o,xs,h3,rfl⟩
theorem Gs.trans (h:Gs w w1 M M1 ρ ρ1 L L1 D) (g:Gs w1 w2 M1 M2 ρ1 ρ2 L1 L2 D') :
  Gs w w2 M M2 ρ ρ2 L L2 (D.or D') where
 size:=jU h.size g.size
 st:=fun b hm hb=>by
  obtain⟨h1,h2⟩:=h.st b hm hb;obtain⟨g1,g2⟩:=g.st b h2 (jX hb h.size);exact⟨h1.trans g1,g2⟩
 rl:=fun r q R b off hd h1 h2=>by
  obtain⟨R',a1,a2⟩:=h.rl r q R b off (fun x=>hd (.inl x)) h1 h2;exact g.rl r q R' b off (fun x=>hd (.inr x)) a1 a2
 rs:=fun r q R s hd h1 h2 o e xs h3=>by
  obtain⟨R',a1,a2,a3,o',xs',a4,a5⟩:=h.rs r q R s (fun x=>hd (.inl x)) h1 h2 o e xs h3;obtain⟨R'',b1,b2,b3,o'',xs'',b4,b5⟩:=g.rs r q R' s (fun x=>hd (.inr x)) a1 a2 o' e xs' a4
  exact⟨R'',b1,b2,by rw[b3,a3],o'',xs'',b4,by rw[b5,a5]⟩
theorem Gs.mono (h:Gs w w' M M' ρ ρ' L L' D) (hl:∀ r p,D.l r p→D'.l r p) (hs:∀ r p,D.s r p→D'.s r p):Gs w w' M M' ρ ρ' L L' D' where
 size:=h.size
 st:=h.st
 rl:=fun r q R b off hd=>h.rl r q R b off (fun x=>hd (hl _ _ x))
 rs:=fun r q R s hd=>h.rs r q R s (fun x=>hd (hs _ _ x))
variable {Z:W0} {Lf:TV→Value→Prop} {C:Cx} {G:Yd} {ρ:Yc} {w:World}
theorem Yi3 (h:Ye M' M):Goes w w M M' F:=⟨jB _,fun _ _=>rfl,fun b hb _=>⟨rfl,fun x=>hb (h b x)⟩⟩
theorem Ya.mono (h:Ya w M Lf tv s F) (hm:Ye M' M):Ya w M' Lf tv s F:=
 h.go (Yi3 hm) (fun _ _=>rfl) (fun _ _ x=>x)
theorem Str.weak (I:Str Z Lf C G ρ w) (hr:∀ r R,ρ' r=some R→ρ r=some R)
  (hg:∀ b,G' b→G b∨∃ r R,ρ r=some R∧ρ' r=none∧C.F r b) :
  Str Z Lf C G' ρ' w∧Ye (Mt Z C ρ' G') (Mt Z C ρ G):=by
 have hm:Ye (Mt Z C ρ' G') (Mt Z C ρ G):=by
  rintro b (⟨r,R,h1,h2⟩ | h | h)
  ·exact .inl ⟨r,R,hr _ _ h1,h2⟩
  ·rcases hg b h with h | ⟨r,R,h1,h2,h3⟩
   ·exact .inr (.inl h)
   ·exact .inl ⟨r,R,h1,.inl h3⟩
  ·exact .inr (.inr h)
 refine⟨⟨fun r R h=>(I.rep r R (hr _ _ h)).mono hm,fun r R h=>I.reg r R (hr _ _ h),fun r R h=>I.mem r R (hr _ _ h),fun r R b h=>I.bnd r R b (hr _ _ h),?_,?_,?_,
  fun r R h=>I.plc r R (hr _ _ h),I.sz,I.old,I.kp,I.kf,I.xb,I.kb,I.os,I.tape,I.output⟩,hm⟩
 ·intro b h
  rcases hg b h with h | ⟨r,R,h1,h2,h3⟩
  ·exact I.gbnd b h
  ·exact I.bnd r R b h1 h3
 ·intro r r' R R' hne h h';exact I.dis r r' R R' hne (hr _ _ h) (hr _ _ h')
 ·intro r R h b hb hg'
  rcases hg b hg' with hh | ⟨r',R',h1,h2,h3⟩
  ·exact I.gdis r R (hr _ _ h) b hb hh
  ·have hne:r≠r':=by rintro rfl;rw[h2] at h;cases h
   exact I.dis r r' R R' hne (hr _ _ h) h1 b hb (.inl h3)
theorem Str.Yci (I:Str Z Lf C G ρ w) (hm:Ye (Mt Z C ρ' G') (Mt Z C ρ G)) (D:Dd)
  (hl:∀ r R p,ρ r=some R→¬ D.l r p→ρ' r=some R) (hs:∀ r R p,ρ r=some R→¬ D.s r p→ρ' r=some R) :
  Gs w w (Mt Z C ρ G) (Mt Z C ρ' G') ρ ρ' C.L C.L D where
 size:=jB _
 st:=fun b h _=>⟨rfl,fun x=>h (hm b x)⟩
 rl:=fun r q R b off hd h1 h2=>⟨R,hl r R q h1 hd,h2⟩
 rs:=fun r q R s hd h1 h2 o e xs h3=>⟨R,hs r R q h1 hd,h2,rfl,o,xs,h3,rfl⟩
theorem Str.hand (I:Str Z Lf C G ρ w) (hsz:w.heap.size≤w'.heap.size) (hs:∀ b,b<w.heap.size→¬ G b→Same w w' b)
  (hG:∀ b,G' b→G b∨(w.heap.size≤b∧b<w'.heap.size))
  (hos:w'.os=w.os) (htape:w'.tape=w.tape) (hout:w'.output=w.output) :
  Str Z Lf C G' ρ w'∧Gs w w' (Mt Z C ρ G) (Mt Z C ρ G') ρ ρ C.L C.L Dd.none:=by
 have hst:∀ b,¬ Mt Z C ρ G b→b<w.heap.size→Same w w' b∧¬ Mt Z C ρ G' b:=by
  intro b hm hb;refine⟨hs b hb (fun x=>hm (.inr (.inl x))),?_⟩;rintro(h | h | h)
  ·exact hm (.inl h)
  ·rcases hG b h with h | h
   ·exact hm (.inr (.inl h))
   ·omega
  ·exact hm (.inr (.inr h))
 have hown:∀ r R,ρ r=some R→∀ b,Tot C r R b→b<w.heap.size∧Same w w' b:=by
  intro r R h b hb
  have hlt:b<w.heap.size:=by
   rcases hb with hb | ⟨hk,off,e⟩
   ·exact(I.bnd r R b h hb).1
   ·obtain⟨b',off',e',_,h3,_⟩:=I.mem r R h hk
    rw[e] at e';cases e';exact h3
  exact⟨hlt,hs b hlt (I.gdis r R h b hb)⟩
 have hcell:∀ r R,ρ r=some R→∀ i,(C.L r).cell w' i=(C.L r).cell w i:=by
  intro r R h i
  cases hk:R.k with
  |reg=>obtain⟨cs,e⟩:=I.reg r R h hk;rw[e];rfl
  |mem=>
   obtain⟨b,off,e,_⟩:=I.mem r R h hk;rw[e];exact Same.cell (hown r R h b (.inr ⟨hk,off,e⟩)).2 _
 have hgo:∀ r R,ρ r=some R→Goes w w' (Mt Z C ρ G) (Mt Z C ρ G') (C.F r):=fun r R h=>
  ⟨hsz,fun b hb=>(hown r R h b (.inl hb)).2,hst⟩
 have hgb:∀ b,G' b→b<w'.heap.size∧(∀ i,¬ Z.K b i)∧¬ Z.X b∧(Z.M b∨Z.w.heap.size≤b):=by
  intro b hb;rcases hG b hb with h | ⟨h1,h2⟩
  ·have:=I.gbnd b h;exact⟨by omega,this.2⟩
  ·refine⟨h2,fun i hk=>?_,fun hx=>?_,.inr (jU I.sz h1)⟩
   ·have:=I.kb b i hk;have:=I.sz;omega
   ·have:=I.xb b hx;have:=I.sz;omega
 refine⟨⟨?_,I.reg,?_,?_,hgb,I.dis,?_,I.plc,jU I.sz hsz,?_,?_,?_,I.xb,I.kb,by rw[hos,I.os],by rw[htape,I.tape],by rw[hout,I.output]⟩,⟨hsz,hst,?_,?_⟩⟩
 ·intro r R h
  exact(I.rep r R h).go (hgo r R h) (fun i _=>hcell r R h i) (fun _ _ x=>x)
 ·intro r R h hk
  obtain⟨b,off,e,h1,h2,h3,h4⟩:=I.mem r R h hk;have hb:=(hown r R h b (.inr ⟨hk,off,e⟩)).2
  exact⟨b,off,e,h1,by omega,fun i hi=>by rw[hb.cell,hb.frozen];exact h3 i hi,h4⟩
 ·intro r R b h hb;have:=I.bnd r R b h hb;exact⟨by omega,this.2⟩
 ·intro r R h b hb hg
  rcases hG b hg with hg | hg
  ·exact I.gdis r R h b hb hg
  ·have:=(hown r R h b hb).1;omega
 ·intro b hb hm
  refine(I.old b hb hm).trans (hs b (jX hb I.sz) (fun hg=>?_));rcases(I.gbnd b hg).2.2.2 with h | h
  ·exact hm h
  ·omega
 ·intro b i hk
  rw[←I.kp b i hk];exact Same.cell (hs b (jX (I.kb b i hk) I.sz) (fun hg=>(I.gbnd b hg).2.1 i hk)) _
 ·intro b i j hk
  rw[←I.kf b i j hk];exact Same.frozen (hs b (jX (I.kb b i hk) I.sz) (fun hg=>(I.gbnd b hg).2.1 i hk)) _
 ·intro r q R b off _ h1 h2
  exact⟨R,h1,(Ybk q (I.rep r R h1) (hgo r R h1) (fun i _=>hcell r R h1 i) h2).1⟩
 ·intro r q R s _ h1 h2 o e xs h3
  obtain⟨n1,n2⟩:=Ybk q (I.rep r R h1) (hgo r R h1) (fun i _=>hcell r R h1 i) h2;exact⟨R,h1,n1,n2 o e xs h3,o,xs,h3,rfl⟩
def Yc.set (ρ:Yc) (r:Nat) (R:Option Root):Yc:=fun i=>if i=r then R else ρ i
theorem Yc.Yo (ρ:Yc) (r:Nat) (R:Option Root):ρ.set r R r=R:=by simp[Yc.set]
theorem Yc.Yn (ρ:Yc) (R:Option Root) (h:i≠r):ρ.set r R i=ρ i:=by simp[Yc.set,h]
def Cx.Ydj (C:Cx) (r:Nat) (F:Yd):Cx:=⟨C.L,fun i=>if i=r then F else C.F i⟩
def Cx.set (C:Cx) (r:Nat) (s:Src) (F:Yd):Cx:=⟨fun i=>if i=r then s else C.L i,fun i=>if i=r then F else C.F i⟩
theorem Str.new (I:Str Z Lf C G ρ w) {d:Nat} {R:Root} {s:Src} {Fn G':Yd} (hd:ρ d=none) (hp:Z.P d=none)
  (hr:Ya w (Mt Z C ρ G) Lf R.tv s Fn) (hF:Ye Fn G) (hG:Ye G' G)
  (hGF:Dis G' Fn)
  (hk:(R.k=.reg∧∃ cs,s=.reg cs 0)∨(R.k=.mem∧∃ b off,s=.mem b off∧G b∧¬ Fn b∧¬ G' b∧Room w b off R.tv.size)) :
  Str Z Lf (C.set d s Fn) G' (ρ.set d (some R)) w∧Gs w w (Mt Z C ρ G) (Mt Z (C.set d s Fn) (ρ.set d (some R)) G') ρ (ρ.set d (some R)) C.L (C.set d s Fn).L Dd.none:=by
 have hCd:(C.set d s Fn).L d=s∧(C.set d s Fn).F d=Fn:=by simp[Cx.set]
 have hCo:∀ r,r≠d→(C.set d s Fn).L r=C.L r∧(C.set d s Fn).F r=C.F r:=fun r h=>by simp[Cx.set,h]
 have hto:∀ r R',r≠d→Tot (C.set d s Fn) r R'=Tot C r R':=fun r R' h=>by unfold Tot;rw[(hCo r h).1,(hCo r h).2]
 have htd:Ye (Tot (C.set d s Fn) d R) G:=by
  rintro b (hb | ⟨hk',off,e⟩)
  ·rw[hCd.2] at hb;exact hF b hb
  ·rw[hCd.1] at e
   rcases hk with ⟨_,cs,e'⟩ | ⟨_,b',off',e',hg,_⟩
   ·rw[e] at e';cases e'
   ·rw[e] at e';cases e';exact hg
 have htd':Dis (Tot (C.set d s Fn) d R) G':=by
  rintro b (hb | ⟨hk',off,e⟩) hg'
  ·rw[hCd.2] at hb;exact hGF b hg' hb
  ·rw[hCd.1] at e
   rcases hk with ⟨_,cs,e'⟩ | ⟨_,b',off',e',hg,_,h,_⟩
   ·rw[e] at e';cases e'
   ·rw[e] at e';cases e';exact h hg'
 have hro:∀ r R',r≠d→ρ.set d (some R) r=some R'→ρ r=some R':=fun r R' h e=>by rw[Yc.Yn _ _ h] at e;exact e
 have hne:∀ r R',ρ r=some R'→r≠d:=fun r R' h e=>by rw[e,hd] at h;cases h
 have hm:Ye (Mt Z (C.set d s Fn) (ρ.set d (some R)) G') (Mt Z C ρ G):=by
  rintro b (⟨r,R',h1,h2⟩ | h | h)
  ·by_cases e:r=d
   ·subst e;rw[Yc.Yo] at h1;cases h1;exact .inr (.inl (htd b h2))
   ·rw[hto r R' e] at h2;exact .inl ⟨r,R',hro r R' e h1,h2⟩
  ·exact .inr (.inl (hG b h))
  ·exact .inr (.inr h)
 refine⟨⟨?_,?_,?_,?_,fun b h=>I.gbnd b (hG b h),?_,?_,?_,I.sz,I.old,I.kp,I.kf,I.xb,I.kb,I.os,I.tape,I.output⟩,⟨jB _,fun b h _=>⟨rfl,fun x=>h (hm b x)⟩,?_,?_⟩⟩
 ·intro r R' h
  by_cases e:r=d
  ·subst e;rw[Yc.Yo] at h;cases h;rw[hCd.1,hCd.2];exact hr.mono hm
  ·rw[(hCo r e).1,(hCo r e).2];exact(I.rep r R' (hro r R' e h)).mono hm
 ·intro r R' h hk'
  by_cases e:r=d
  ·subst e;rw[Yc.Yo] at h;cases h;rw[hCd.1]
   rcases hk with ⟨_,h⟩ | ⟨h,_⟩
   ·exact h
   ·rw[h] at hk';cases hk'
  ·rw[(hCo r e).1];exact I.reg r R' (hro r R' e h) hk'
 ·intro r R' h hk'
  by_cases e:r=d
  ·subst e;rw[Yc.Yo] at h;cases h;rw[hCd.1,hCd.2]
   rcases hk with ⟨h,_⟩ | ⟨_,b,off,e,hg,hf,_,hroom⟩
   ·rw[h] at hk';cases hk'
   ·obtain⟨g1,g2,g3⟩:=I.gbnd b hg
    exact⟨b,off,e,hf,g1,hroom,fun i _=>g2 _,g3⟩
  ·rw[(hCo r e).1,(hCo r e).2];exact I.mem r R' (hro r R' e h) hk'
 ·intro r R' b h hb
  by_cases e:r=d
  ·subst e;rw[hCd.2] at hb;exact I.gbnd b (hF b hb)
  ·rw[(hCo r e).2] at hb;exact I.bnd r R' b (hro r R' e h) hb
 ·intro r r' R1 R2 hrr h1 h2
  by_cases e:r=d
  ·subst e
   rw[Yc.Yo] at h1;cases h1;have e':r'≠r:=fun x=>hrr x.symm;rw[hto r' R2 e'];exact fun b x y=>I.gdis r' R2 (hro r' R2 e' h2) b y (htd b x)
  ·rw[hto r R1 e]
   by_cases e':r'=d
   ·subst e';rw[Yc.Yo] at h2;cases h2
    exact fun b x y=>I.gdis r R1 (hro r R1 e h1) b x (htd b y)
   ·rw[hto r' R2 e'];exact I.dis r r' R1 R2 hrr (hro r R1 e h1) (hro r' R2 e' h2)
 ·intro r R' h
  by_cases e:r=d
  ·subst e;rw[Yc.Yo] at h;cases h;exact htd'
  ·rw[hto r R' e];exact fun b x y=>I.gdis r R' (hro r R' e h) b x (hG b y)
 ·intro r R' h
  by_cases e:r=d
  ·subst e;rw[Yc.Yo] at h;cases h
   refine⟨(fun s' h'=>by rw[hp] at h';cases h'),fun hk' _ b off hL=>?_⟩
   rw[hCd.1] at hL;rcases hk with ⟨h,_⟩ | ⟨_,b',off',e,hg,_⟩
   ·rw[h] at hk';cases hk'
   ·rw[e] at hL;cases hL;exact(I.gbnd _ hg).2.1
  ·rw[(hCo r e).1];exact I.plc r R' (hro r R' e h)
 ·intro r q R' b off _ h1 h2
  have e:=hne r R' h1
  exact⟨R',by rw[Yc.Yn _ _ e];exact h1,by rw[(hCo r e).1];exact h2⟩
 ·intro r q R' s' _ h1 h2 o e xs h3
  have e':=hne r R' h1
  exact⟨R',by rw[Yc.Yn _ _ e'];exact h1,by rw[(hCo r e').1];exact h2,rfl,o,xs,h3,rfl⟩
def Ygu (n n':TV):Prop:=n'=n∨∃ o o' t,∃ x:t.El,n=.cl o t x∧n'=.cl o' t x
theorem Ygu.refl (n:TV):Ygu n n:=.inl rfl
theorem Ygu.trans (h:Ygu a b) (g:Ygu b c):Ygu a c:=by
 rcases h with rfl | ⟨o,o',t,x,rfl,rfl⟩
 ·exact g
 ·rcases g with rfl | ⟨p,p',u,y,e,rfl⟩
  ·exact .inr ⟨o,o',t,x,rfl,rfl⟩
  ·cases e;exact .inr ⟨o,p',t,x,rfl,rfl⟩
theorem Ydn:∀ (q:Path) {o o':Ow} {t:Ty} {x:t.El} {u:TV},(TV.cl o t x).get q=some u→∃ u',(TV.cl o' t x).get q=some u'∧Ygu u u':=by
 intro q
 induction q with
 |nil=>intro o o' t x u h;rw[TV.get_nil] at h;cases h;exact⟨_,TV.get_nil _,.inr ⟨_,_,_,_,rfl,rfl⟩⟩
 |cons a p ih=>
  intro o o' t x u h
  cases t<;>cases a<;>simp only[TV.get] at h ⊢<;>first | exact ih h | cases h
theorem Yi0 {a b u:TV} {q:Path} (h:a.get q=some u):∃ u',(Yal a b).get (.f1::q)=some u'∧Ygu u u':=by
 rcases Y2 a b with eq | ⟨o1,t,x,o',y,z,p,rfl,rfl,eq,_⟩
 ·rw[eq];exact⟨u,h,.refl _⟩
 ·rw[eq];exact Ydn q h
theorem Yi1 {a b u:TV} {q:Path} (h:b.get q=some u):∃ u',(Yal a b).get (.f2::q)=some u'∧Ygu u u':=by
 rcases Y2 a b with eq | ⟨o1,t,x,o',y,z,p,rfl,rfl,eq,_⟩
 ·rw[eq];exact⟨u,h,.refl _⟩
 ·rw[eq];exact Ydn q h
theorem Yga (h:Ygu n n') (w:World) (s:Src) (p:Path):nav w n' s p=nav w n s p:=by
 rcases h with rfl | ⟨o,o',t,x,rfl,rfl⟩
 ·rfl
 ·exact Yg7 p
theorem Y4:∀ (p:Path) {tv u:TV} {s s':Src} (t:Path),nav w tv s p=some s'→tv.get p=some u→nav w tv s (p++t)=nav w u s' t∧tv.get (p++t)=u.get t:=by
 intro p
 induction p with
 |nil=>intro tv u s s' t hn hg;rw[Yf] at hn;rw[TV.get_nil] at hg;cases hn;cases hg;exact⟨rfl,rfl⟩
 |cons a p ih=>
  intro tv u s s' t hn hg
  cases tv with
  |pr x y=>
   cases a with
   |f1=>simp only[nav,TV.get,jQ] at *;exact ih t hn hg
   |f2=>simp only[nav,TV.get,jQ] at *;exact ih t hn hg
   |el i=>simp[nav] at hn
  |cl o ty x=>
   cases ty with
   |pair c d=>
    cases a with
    |f1=>simp only[nav,TV.get,jQ] at *;exact ih t hn hg
    |f2=>simp only[nav,TV.get,jQ] at *;exact ih t hn hg
    |el i=>simp[nav] at hn
   |sl e=>
    cases a with
    |el i=>
     simp only[nav,TV.get,jQ] at *
     split at hn
     ·rename_i hi
      split at hn
      ·rename_i b off l c hc
       rw[jL hi];exact ih t hn hg
      ·cases hn
     ·cases hn
    |f1=>simp[nav] at hn
    |f2=>simp[nav] at hn
   |arr n e=>
    cases a with
    |el i=>
     simp only[nav,TV.get,jQ] at *
     split at hn
     ·rename_i hi
      rw[jL hi];exact ih t hn hg
     ·cases hn
    |f1=>simp[nav] at hn
    |f2=>simp[nav] at hn
   |_=>cases a<;>simp[nav] at hn
  |rw o e xs i v=>
   cases a with
   |f1=>simp[nav] at hn
   |f2=>simp[nav] at hn
   |el j=>
    simp only[nav,jQ] at *
    split at hn
    ·rename_i hj
     split at hn
     ·rename_i b off l c hc
      rw[jL hj,Ycs];rw[Ycs] at hg
      by_cases hji:j=i
      ·simp only[Yh8 hji] at hn ⊢
       rw[jL hji] at hg ⊢;exact ih t hn hg
      ·simp only[Yln hji] at hn ⊢
       rw[jM hji] at hg ⊢;exact ih t hn hg
     ·cases hn
    ·cases hn
  |_=>cases a<;>simp[nav] at hn
theorem Ylz (p:Path) (t:Path) (hn:nav w tv s p=some s') (hg:tv.get p=some u):tv.gr (p++t)=u.gr t:=by
 unfold TV.gr;rw[(Y4 p t hn hg).2]
theorem Yph {n n':TV} (h:Ygu n n') {p:Path} {o:Ow} {e:Ty} {xs:List e.El} (hg:n.gr p=some (.cl o (.sl e) xs)):∃ o',n'.gr p=some (.cl o' (.sl e) xs):=by
 rcases h with rfl | ⟨o1,o2,t,x,rfl,rfl⟩
 ·exact⟨o,hg⟩
 ·exact Ym0 p hg
theorem Ypt:∀ (p:Path) {tv:TV} {s:Src} {F:Yd} {s':Src} {n tv':TV},Ya w M Lf tv s F→nav w tv s p=some s'→tv.set p n=some tv'→
  ∃ n',tv'.get p=some n'∧Ygu n n':=by
 intro p
 induction p with
 |nil=>intro tv s F s' n tv' _ _ h;rw[TV.set_nil] at h;cases h;exact⟨n,TV.get_nil _,.refl _⟩
 |cons a p ih=>
  intro tv s F s' n tv' hr hn hs
  cases tv with
  |pr x y=>
   obtain⟨F1,F2,h1,h2,_⟩:=hr
   cases a with
   |f1=>
    simp only[nav] at hn;simp only[TV.set] at hs
    split at hs
    ·rename_i a' ha;cases hs
     obtain⟨n',g1,g2⟩:=ih h1 hn ha;obtain⟨u',q1,q2⟩:=Yi0 (b:=y) g1;exact⟨u',q1,g2.trans q2⟩
    ·cases hs
   |f2=>
    simp only[nav] at hn;simp only[TV.set] at hs
    split at hs
    ·rename_i a' ha;cases hs
     obtain⟨n',g1,g2⟩:=ih h2 hn ha;obtain⟨u',q1,q2⟩:=Yi1 (a:=x) g1;exact⟨u',q1,g2.trans q2⟩
    ·cases hs
   |el i=>simp[nav] at hn
  |cl o ty x=>
   cases ty with
   |pair c d=>
    obtain⟨F1,F2,h1,h2,_⟩:=hr
    cases a with
    |f1=>
     simp only[nav] at hn;simp only[TV.set] at hs
     split at hs
     ·rename_i a' ha;cases hs
      obtain⟨n',g1,g2⟩:=ih (tv:=.cl o c x.1) h1 hn ha;obtain⟨u',q1,q2⟩:=Yi0 (b:=.cl o d x.2) g1;exact⟨u',q1,g2.trans q2⟩
     ·cases hs
    |f2=>
     simp only[nav] at hn;simp only[TV.set] at hs
     split at hs
     ·rename_i a' ha;cases hs
      obtain⟨n',g1,g2⟩:=ih (tv:=.cl o d x.2) h2 hn ha;obtain⟨u',q1,q2⟩:=Yi1 (a:=.cl o c x.1) g1;exact⟨u',q1,g2.trans q2⟩
     ·cases hs
    |el i=>simp[nav] at hn
   |sl e=>
    cases a with
    |el i=>
     simp only[nav] at hn
     split at hn
     ·rename_i hi
      split at hn
      ·rename_i b off l c hc
       obtain⟨G',g1,g2,g3⟩:=Rep.elem hr hi hc;have hgd:x.getD i e.zero=x[i]'hi:=Ym _ _ _ hi
       have key:∀ tve y,(TV.cl o.elem e (x.getD i e.zero)).set p n=some tve→tve.Yij o.elem e=some y→tv'=.cl o (.sl e) (x.set i y)→∃ n',tv'.get (.el i::p)=some n'∧Ygu n n':=by
        intro tve y h1 h2 e3;subst e3;rw[hgd] at h1 hn;obtain⟨n',q1,q2⟩:=ih (tv:=.cl o.elem e (x[i]'hi)) g2 hn h1;obtain⟨o',z,rfl,rfl⟩:=Yav h2;obtain⟨u',r1,r2⟩:=Ydn (o':=o.elem) p q1;refine⟨u',?_,q2.trans r2⟩;simp only[TV.get]
        rw[Ym _ _ _ (by simpa using hi)]
        simpa using r1
       obtain⟨_,tve,h1,h2⟩:=Yjs hs;rcases Yaj h2 with ⟨y,h2',rfl⟩ | ⟨_,_,rfl⟩
       ·exact key tve y h1 h2' rfl
       ·rw[hgd] at h1 hn
        obtain⟨n',q1,q2⟩:=ih (tv:=.cl o.elem e (x[i]'hi)) g2 hn h1
        exact⟨n',by rw[Ycs,jL rfl];exact q1,q2⟩
      ·cases hn
     ·cases hn
    |f1=>simp[nav] at hn
    |f2=>simp[nav] at hn
   |arr m e=>
    cases a with
    |el i=>
     obtain⟨hlen,Fs,h2,h3⟩:=hr;simp only[nav] at hn
     split at hn
     ·rename_i hi
      have hi':i<x.length:=by omega
      have hgd:x.getD i e.zero=x[i]'hi':=Ym _ _ _ hi';simp only[TV.set] at hs
      split at hs
      ·rename_i tve h1
       split at hs
       ·rename_i y h4;cases hs
        rw[hgd] at h1 hn;obtain⟨n',q1,q2⟩:=ih (tv:=.cl o e (x[i]'hi')) (h2 i hi').1 hn h1;obtain⟨o',z,rfl,rfl⟩:=Yav h4;obtain⟨u',r1,r2⟩:=Ydn (o':=o) p q1;refine⟨u',?_,q2.trans r2⟩;simp only[TV.get]
        rw[Ym _ _ _ (by simpa using hi')]
        simpa using r1
       ·cases hs
      ·cases hs
     ·cases hn
    |f1=>simp[nav] at hn
    |f2=>simp[nav] at hn
   |_=>cases a<;>simp[nav] at hn
  |rw o e xs i v=>
   cases a with
   |f1=>simp[nav] at hn
   |f2=>simp[nav] at hn
   |el j=>
    obtain⟨_,rfl,tve,h1,h2⟩:=Yjr hs;obtain⟨_,_,_,b,off,c,h4,_,Fs,_,_,h8,_,h10⟩:=hr;obtain⟨hj,hn⟩:=Yfq h4 hn;rw[jL rfl] at hn;obtain⟨n',q1,q2⟩:=ih (h10.up) hn h1;rcases Yaj h2 with ⟨y,h2',rfl⟩ | ⟨_,_,rfl⟩
    ·obtain⟨o',z,rfl,rfl⟩:=Yav h2'
     obtain⟨u',r1,r2⟩:=Ydn (o':=o.elem) p q1;refine⟨u',?_,q2.trans r2⟩;simp only[TV.get]
     rw[Ym _ _ _ (by simpa using hj)]
     simpa using r1
    ·exact⟨n',by rw[Ycs,jL rfl];exact q1,q2⟩
  |_=>cases a<;>simp[nav] at hn
def Wr (w w':World) (s':Src) (n:Nat):Prop:=w'.heap.size=w.heap.size∧∀ b,Kp w w' s' n b
theorem Str.put (I:Str Z Lf C G ρ w) {r:Nat} {R:Root} {p:Path} {s':Src} {old:TV} (hR:ρ r=some R) (hn:nav w R.tv (C.L r) p=some s') (hg:R.tv.get p=some old)
  {n tv':TV} (hset:R.tv.set p n=some tv') (hlay:n.lay=old.lay) :
  ∃ Fo Fr,Ye Fo (C.F r)∧Ye Fr (C.F r)∧Dis Fo Fr∧Ya w (Mt Z C ρ G) Lf old s' Fo∧Yj4 (C.L r) s' old.size R.tv.size Fr∧tv'.lay=R.tv.lay∧
   ∀ w' Fn G' (D:Dd),Wr w w' s' old.size→
    Ya w' (Mt Z C ρ G) Lf n s' Fn→Ye Fn (fun b=>G b∨Fo b)→
    (∀ b,G' b→(G b∨Fo b)∧¬ Fn b)→w'.os=w.os→w'.tape=w.tape→w'.output=w.output→
    (∀ t b off,¬ D.l r (p++t)→nav w old s' t=some (.mem b off)→nav w' n s' t=some (.mem b off))→
    (∀ t s1,¬ D.s r (p++t)→nav w old s' t=some s1→∀ o e,∀ xs:List e.El,old.gr t=some (.cl o (.sl e) xs)→
     nav w' n s' t=some s1∧s1.cell w' 0=s1.cell w 0∧∃ o',∃ xs':List e.El,n.gr t=some (.cl o' (.sl e) xs')∧xs'.length=xs.length)→
    Str Z Lf (C.Ydj r (fun b=>Fr b∨Fn b)) G' (ρ.set r (some ⟨R.k,tv'⟩)) w'∧
    Gs w w' (Mt Z C ρ G) (Mt Z (C.Ydj r (fun b=>Fr b∨Fn b)) (ρ.set r (some ⟨R.k,tv'⟩)) G') ρ (ρ.set r (some ⟨R.k,tv'⟩)) C.L C.L D:=by
 have hs:∀ bs offs,C.L r=.mem bs offs→R.k=.mem∧¬ C.F r bs:=by
  intro bs offs e
  cases hk:R.k with
  |reg=>obtain⟨cs,e'⟩:=I.reg r R hR hk;rw[e] at e';cases e'
  |mem=>obtain⟨b,off,e',h,_⟩:=I.mem r R hR hk;rw[e] at e';cases e';exact⟨rfl,h⟩
 obtain⟨Fo,Fr,b1,b2,d1,ro,hl,hly,hc⟩:=upd p (I.rep r R hR) (fun bs offs e=>(hs bs offs e).2) hn hg hset hlay;refine⟨Fo,Fr,b1,b2,d1,ro,hl,hly,fun w' Fn G' D hw hrn hFn hG' hos htape hout hdl hds=>?_⟩
 have hblk:∀ b0 off0,s'=.mem b0 off0→Tot C r R b0:=by
  intro b0 off0 e;rcases hl with ⟨k,e',_⟩ | ⟨b1,o1,e',hf⟩
  ·rw[e] at e';obtain⟨o,e1,_⟩:=Src.Yat e'.symm
   exact .inr ⟨(hs _ _ e1).1,o,e1⟩
  ·rw[e] at e';cases e';exact .inl (b2 _ hf)
 have hsame:∀ b,¬ Tot C r R b→Same w w' b:=by
  intro b hb
  cases e:s' with
  |reg cs o=>have:=hw.2 b;rw[e] at this;exact this
  |mem b0 off0=>
   have:=hw.2 b;rw[e] at this;refine this.same ?_;rintro rfl;exact hb (hblk _ _ e)
 have hM0:Ye (Tot C r R) (Mt Z C ρ G):=fun b h=>.inl ⟨r,R,hR,h⟩;generalize hC':C.Ydj r (fun b=>Fr b∨Fn b)=C';generalize hρ':ρ.set r (some ⟨R.k,tv'⟩)=ρ'
 have cL:C'.L=C.L:=by rw[←hC'];rfl
 have cFr:C'.F r=fun b=>Fr b∨Fn b:=by rw[←hC'];simp[Cx.Ydj]
 have cFo:∀ i,i≠r→C'.F i=C.F i:=fun i h=>by rw[←hC'];simp[Cx.Ydj,h]
 have rr:ρ' r=some ⟨R.k,tv'⟩:=by rw[←hρ',Yc.Yo]
 have ro':∀ i,i≠r→ρ' i=ρ i:=fun i h=>by rw[←hρ',Yc.Yn _ _ h]
 have tot:∀ i,i≠r→∀ R',Tot C' i R'=Tot C i R':=fun i h R'=>by unfold Tot;rw[cFo i h,cL]
 have totr:∀ b,Tot C' r ⟨R.k,tv'⟩ b→Tot C r R b∨G b:=by
  rintro b (h | h)
  ·rw[cFr] at h
   rcases h with h | h
   ·exact .inl (.inl (b2 b h))
   ·rcases hFn b h with h | h
    ·exact .inr h
    ·exact .inl (.inl (b1 b h))
  ·rw[cL] at h;exact .inl (.inr h)
 have hm:Ye (Mt Z C' ρ' G') (Mt Z C ρ G):=by
  rintro b (⟨i,R',h1,h2⟩ | h | h)
  ·by_cases e:i=r
   ·subst e;rw[rr] at h1;cases h1
    rcases totr b h2 with h | h
    ·exact hM0 b h
    ·exact .inr (.inl h)
   ·rw[ro' i e] at h1;rw[tot i e] at h2;exact .inl ⟨i,R',h1,h2⟩
  ·rcases(hG' b h).1 with h | h
   ·exact .inr (.inl h)
   ·exact hM0 b (.inl (b1 b h))
  ·exact .inr (.inr h)
 have hst:∀ b,¬ Mt Z C ρ G b→b<w.heap.size→Same w w' b∧¬ Mt Z C' ρ' G' b:=fun b h _=>⟨hsame b (fun x=>h (hM0 b x)),fun x=>h (hm b x)⟩
 have hgo:∀ F,Dis (Tot C r R) F→Goes w w' (Mt Z C ρ G) (Mt Z C' ρ' G') F:=fun F hd=>⟨by rw[hw.1];exact jB _,fun b hb=>hsame b (fun x=>hd b x hb),hst⟩
 have hcellO:∀ i R',i≠r→ρ i=some R'→∀ j,(C.L i).cell w' j=(C.L i).cell w j:=by
  intro i R' hi h j
  cases hk:R'.k with
  |reg=>obtain⟨cs,e⟩:=I.reg i R' h hk;rw[e];rfl
  |mem=>
   obtain⟨b,off,e,_⟩:=I.mem i R' h hk;rw[e];exact Same.cell (hsame b (fun x=>I.dis r i R R' (fun y=>hi y.symm) hR h b x (.inr ⟨hk,off,e⟩))) _
 have hu:Yfx w w' (Mt Z C ρ G) (Mt Z C' ρ' G') (C.L r) s' old.size Fr:=⟨by rw[hw.1];exact jB _,fun b _=>hw.2 b,fun bs _ _=>hw.2 bs,hst⟩
 have hFnFr:Dis Fn Fr:=by
  intro b h1 h2;rcases hFn b h1 with h | h
  ·exact I.gdis r R hR b (.inl (b2 b h2)) h
  ·exact d1 b h h2
 have hFnL:∀ bs offs,C.L r=.mem bs offs→¬ Fn bs:=by
  intro bs offs e h;rcases hFn bs h with h | h
  ·exact I.gdis r R hR bs (.inr ⟨(hs _ _ e).1,offs,e⟩) h
  ·exact(hs _ _ e).2 (b1 _ h)
 obtain⟨u1,u2,u3⟩:=hc w' (Mt Z C' ρ' G') Lf Fn hu (hrn.mono hm) hFnFr hFnL (fun _ _ x=>x);obtain⟨n',hg',hoe⟩:=Ypt p (I.rep r R hR) hn hset;have hGb:∀ b,G b∨Fo b→b<w.heap.size∧(∀ i,¬ Z.K b i)∧¬ Z.X b∧(Z.M b∨Z.w.heap.size≤b):=fun b h=>h.elim (I.gbnd b) (fun h=>I.bnd r R b hR (b1 b h))
 have htotb:∀ b,Tot C r R b→Z.M b∨Z.w.heap.size≤b:=by
  rintro b (h | ⟨hk,off,e⟩)
  ·exact(I.bnd r R b hR h).2.2.2
  ·obtain⟨b',off',e',_,_,_,_,_,h⟩:=I.mem r R hR hk
   rw[e] at e';cases e';exact h
 refine⟨⟨?_,?_,?_,?_,?_,?_,?_,?_,by rw[hw.1];exact I.sz,?_,?_,?_,I.xb,I.kb,by rw[hos,I.os],by rw[htape,I.tape],by rw[hout,I.output]⟩,⟨by rw[hw.1];exact jB _,hst,?_,?_⟩⟩
 ·intro i R' h
  by_cases e:i=r
  ·subst e;rw[rr] at h;cases h;rw[cFr,cL];exact u1
  ·rw[ro' i e] at h;rw[cFo i e,cL]
   exact(I.rep i R' h).go (hgo _ (fun b x y=>I.dis r i R R' (fun z=>e z.symm) hR h b x (.inl y))) (fun j _=>hcellO i R' e h j) (fun _ _ x=>x)
 ·intro i R' h hk
  rw[cL]
  by_cases e:i=r
  ·subst e;rw[rr] at h;cases h;exact I.reg i R hR hk
  ·rw[ro' i e] at h;exact I.reg i R' h hk
 ·intro i R' h hk
  rw[cL]
  by_cases e:i=r
  ·subst e;rw[rr] at h;cases h
   obtain⟨b,off,e,h1,h2,h3,h4,h5⟩:=I.mem i R hR hk;have hsz:tv'.size=R.tv.size:=TV.Yak hly
   refine⟨b,off,e,?_,by rw[hw.1];exact h2,?_,fun j hj=>h4 j (by simpa [hsz] using hj),h5⟩
   ·rw[cFr];rintro(x | x)
    ·exact h1 (b2 _ x)
    ·exact hFnL b off e x
   ·simp only[hsz];exact(hw.2 b).room h3
  ·rw[ro' i e] at h
   obtain⟨b,off,e',h1,h2,h3,h4⟩:=I.mem i R' h hk;have hb:=hsame b (fun x=>I.dis r i R R' (fun z=>e z.symm) hR h b x (.inr ⟨hk,off,e'⟩))
   exact⟨b,off,e',by rw[cFo i e];exact h1,by rw[hw.1];exact h2,fun j hj=>by rw[hb.cell,hb.frozen];exact h3 j hj,h4⟩
 ·intro i R' b h hb
  rw[hw.1]
  by_cases e:i=r
  ·subst e;rw[cFr] at hb
   rcases hb with hb | hb
   ·exact I.bnd i R b hR (b2 b hb)
   ·exact hGb b (hFn b hb)
  ·rw[ro' i e] at h;rw[cFo i e] at hb;exact I.bnd i R' b h hb
 ·intro b hb;rw[hw.1];exact hGb b (hG' b hb).1
 ·intro i j R1 R2 hne h1 h2
  have one:∀ j R2,j≠r→ρ j=some R2→Dis (Tot C' r ⟨R.k,tv'⟩) (Tot C j R2):=by
   intro j R2 hj h b x y;rcases totr b x with x | x
   ·exact I.dis r j R R2 (fun z=>hj z.symm) hR h b x y
   ·exact I.gdis j R2 h b y x
  by_cases e:i=r
  ·subst e;rw[rr] at h1;cases h1
   have hj:j≠i:=fun z=>hne z.symm;rw[ro' j hj] at h2;rw[tot j hj];exact one j R2 hj h2
  ·rw[ro' i e] at h1;rw[tot i e]
   by_cases e':j=r
   ·subst e';rw[rr] at h2;cases h2;exact(one i R1 e h1).symm
   ·rw[ro' j e'] at h2;rw[tot j e'];exact I.dis i j R1 R2 hne h1 h2
 ·intro i R' h b x y
  obtain⟨y1,y2⟩:=hG' b y
  by_cases e:i=r
  ·subst e;rw[rr] at h;cases h
   rcases x with x | ⟨hk,off,x⟩
   ·rw[cFr] at x
    rcases x with x | x
    ·rcases y1 with y1 | y1
     ·exact I.gdis i R hR b (.inl (b2 b x)) y1
     ·exact d1 b y1 x
    ·exact y2 x
   ·rw[cL] at x
    rcases y1 with y1 | y1
    ·exact I.gdis i R hR b (.inr ⟨hk,off,x⟩) y1
    ·exact(hs _ _ x).2 (b1 _ y1)
  ·rw[ro' i e] at h;rw[tot i e] at x
   rcases y1 with y1 | y1
   ·exact I.gdis i R' h b x y1
   ·exact I.dis r i R R' (fun z=>e z.symm) hR h b (.inl (b1 b y1)) x
 ·intro i R' h
  rw[cL]
  by_cases e:i=r
  ·subst e;rw[rr] at h;cases h;exact I.plc i R hR
  ·rw[ro' i e] at h;exact I.plc i R' h
 ·intro b hb hm'
  refine(I.old b hb hm').trans (hsame b (fun x=>?_));rcases htotb b x with h | h
  ·exact hm' h
  ·omega
 ·intro b i hk
  rw[←I.kp b i hk]
  cases e:s' with
  |reg cs o=>have:=hw.2 b;rw[e] at this;exact Same.cell this _
  |mem b0 off0=>
   have hkp:=hw.2 b;rw[e] at hkp
   by_cases hb:b=b0
   ·subst hb
    refine hkp.out ?_;rcases hl with ⟨k,e',hkn⟩ | ⟨b1',o1,e',hf⟩
    ·rw[e] at e';obtain⟨o,e1,e2⟩:=Src.Yat e'.symm
     obtain⟨b',off',e3,_,_,_,h4,_⟩:=I.mem r R hR (hs _ _ e1).1;rw[e1] at e3;cases e3;rcases kG i off0 with h | h
     ·exact .inl h
     ·rcases kG i (off0+old.size) with h' | h'
      ·exact absurd hk (by rw[show i=o+(i-o) by omega];exact h4 (i-o) (by omega))
      ·exact .inr h'
    ·rw[e] at e';cases e';exact absurd hk ((I.bnd r R _ hR (b2 _ hf)).2.1 i)
   ·exact Same.cell (hkp.same hb) _
 ·intro b i j hk
  rw[←I.kf b i j hk];have hkp:=hw.2 b
  cases e:s' with
  |reg cs o=>rw[e] at hkp;exact Same.frozen hkp _
  |mem b0 off0=>
   rw[e] at hkp
   by_cases hb:b=b0
   ·subst hb;simp only[Kp,if_true] at hkp;exact hkp.2.1 j
   ·exact Same.frozen (hkp.same hb) _
 ·intro i q R' b off hd h1 h2
  by_cases e:i=r
  ·subst e;rw[hR] at h1;cases h1
   refine⟨_,rr,?_⟩
   by_cases hq:∃ t,q=p++t
   ·obtain⟨t,rfl⟩:=hq
    rw[(Y4 p t u2 hg').1,Yga hoe];rw[(Y4 p t hn hg).1] at h2;exact hdl t b off hd h2
   ·exact(u3 q _ h2 hq).1
  ·refine⟨R',by rw[ro' i e];exact h1,?_⟩
   exact(Ybk q (I.rep i R' h1) (hgo _ (fun b x y=>I.dis r i R R' (fun z=>e z.symm) hR h1 b x (.inl y))) (fun j _=>hcellO i R' e h1 j) h2).1
 ·intro i q R' s1 hd h1 h2 o ty xs h3
  by_cases e:i=r
  ·subst e;rw[hR] at h1;cases h1
   refine⟨_,rr,?_⟩
   by_cases hq:∃ t,q=p++t
   ·obtain⟨t,rfl⟩:=hq
    rw[(Y4 p t u2 hg').1,Ylz p t u2 hg',Yga hoe];rw[(Y4 p t hn hg).1] at h2;rw[Ylz p t hn hg] at h3;obtain⟨k1,k2,o',xs',k3,k4⟩:=hds t s1 hd h2 o ty xs h3;obtain⟨o2,k5⟩:=Yph hoe k3;exact⟨k1,k2,o2,xs',k5,k4⟩
   ·obtain⟨k1,k2⟩:=u3 q _ h2 hq
    obtain⟨k3,o',xs',k4,k5⟩:=k2 o ty xs h3;exact⟨k1,k3,o',xs',k4,k5⟩
  ·refine⟨R',by rw[ro' i e];exact h1,?_⟩
   obtain⟨n1,n2⟩:=Ybk q (I.rep i R' h1) (hgo _ (fun b x y=>I.dis r i R R' (fun z=>e z.symm) hR h1 b x (.inl y))) (fun j _=>hcellO i R' e h1 j) h2;exact⟨n1,n2 o ty xs h3,o,xs,h3,rfl⟩
end
def Ydt (w:World) (M:Yd) (L:Nat→Src) (ρ:Yc):TV→Value→Prop
 |.nl,u=>∃ A,u=.slice A 0 0
 |.loc r p,u=>∃ R b off,ρ r=some R∧nav w R.tv (L r) p=some (.mem b off)∧u=.pointer (some ⟨b,off,none⟩)
 |.seg r p,u=>∃ R s o e,∃ xs:List e.El,ρ r=some R∧nav w R.tv (L r) p=some s∧R.tv.gr p=some (.cl o (.sl e) xs)∧s.cell w 0=some u∧∃ A n c,u=.slice A n c
 |.sub r p lo n,u=>∃ R s o e,∃ xs:List e.El,∃ A len c A' c',ρ r=some R∧nav w R.tv (L r) p=some s∧R.tv.gr p=some (.cl o (.sl e) xs)∧
   s.cell w 0=some (.slice A len c)∧u=.slice A' n c'∧lo+n≤xs.length∧n≤c'∧lo+c'≤c∧(c'≠0→A'=A.map (fun ad=>ad.add (lo*e.size)))
 |.pt t x,u=>∃ b off,u=.pointer (some ⟨b,off,none⟩)∧¬ M b∧b<w.heap.size∧Rep w M t .sh x (.mem b off) noB
 |_,_=>False
def Ycl (w:World) (M:Yd) (L:Nat→Src) (ρ:Yc):TV→List Value→Prop
 |.pr a b,v::vs=>Ydt w M L ρ a v∧Ycl w M L ρ b vs
 |.cl _ .unit _,[]=>True
 |_,_=>False
def Yi (w:World) (M:Yd) (L:Nat→Src) (ρ:Yc):TV→Value→Prop
 |.clo f c,u=>∃ caps:Array Value,u=.func (.func f) #[] caps∧Ycl w M L ρ c caps.toList
 |v,u=>Ydt w M L ρ v u
def TV.isAgg:TV→Bool
 |.cl _ t _=>t.isAgg
 |.pr _ _=>true
 |_=>false
def Yb (w:World) (M:Yd) (L:Nat→Src) (ρ:Yc) (v:TV) (u:Value):Prop:=
 Ya w M (Yi w M L ρ) v (.reg u.cells.toList 0) noB∧u.cells.size=v.size∧(v.isAgg=true↔∃ cs,u=.agg cs)
def Yfw (w:World) (M:Yd) (L:Nat→Src) (ρ:Yc):TV→List Value→Prop
 |.pr a b,v::vs=>(a=.dead a.size∨Yb w M L ρ a v)∧Yfw w M L ρ b vs
 |.cl _ .unit _,[]=>True
 |_,_=>False
def Yfv (w:World) (M:Yd) (L:Nat→Src) (ρ:Yc) (a:Act):TV→Value→Prop
 |.tup l,u=>∃ vs:Array Value,u=.tuple vs∧Yfw w M L ρ l vs.toList
 |.gd t b v,u=>(a.tmps.getD t undef=.bool b→v=.dead 1∨Yb w M L ρ v u)∧(a.tmps.getD t undef≠.bool b→u=undef)
 |.kb b,u=>u=.bool b
 |.dead _,_=>True
 |v,u=>Yb w M L ρ v u
def Yz (D:Dd):TV→Prop
 |.pr a b=>Yz D a∧Yz D b
 |.loc r q=>¬ D.l r q
 |.seg r q=>¬ D.s r q
 |.sub r q _ _=>¬ D.s r q
 |.clo _ c=>Yz D c
 |_=>True
def Kd (P:TV→Prop):TV→TV→Prop
 |.pr a b,v'=>∃ a' b',v'=.pr a' b'∧Kd P a a'∧Kd P b b'
 |.tup l,v'=>∃ l',v'=.tup l'∧Kd P l l'
 |.gd t w v,v'=>∃ u,v'=.gd t w u∧Kd P v u
 |.cl o t x,v'=>v'=.cl o t x
 |.dead n,v'=>v'=.dead n
 |.kb b,v'=>v'=.kb b
 |.op v,v'=>v'=.op v
 |.rw o e xs i v,v'=>v'=.rw o e xs i v
 |v,v'=>(v'=v∧P v)∨v'=.dead 1
theorem Kd.size:∀ {v v':TV},Kd P v v'→v'.size=v.size:=by
 intro v
 induction v with
 |pr a b iha ihb=>rintro v' ⟨a',b',rfl,h1,h2⟩;simp[TV.size,iha h1,ihb h2]
 |tup l ih=>rintro v' ⟨l',rfl,h⟩;rfl
 |gd t w v ih=>rintro v' ⟨u,rfl,h⟩;rfl
 |cl o t x=>intro v' h;rw[show v'=_ from h]
 |dead n=>intro v' h;rw[show v'=_ from h]
 |kb b=>intro v' h;rw[show v'=_ from h]
 |op v=>intro v' h;rw[show v'=_ from h]
 |rw o e xs i v=>intro v' h;rw[show v'=_ from h]
 |_=>rintro v' (⟨rfl,_⟩ | rfl)<;>rfl
theorem Kd.trans:∀ {v v' v'':TV},Kd P v v'→Kd Q v' v''→Kd (fun x=>P x∧Q x) v v'':=by
 intro v
 induction v with
 |pr a b iha ihb=>rintro v' v'' ⟨a',b',rfl,h1,h2⟩ ⟨a'',b'',rfl,g1,g2⟩;exact⟨_,_,rfl,iha h1 g1,ihb h2 g2⟩
 |tup l ih=>rintro v' v'' ⟨l',rfl,h⟩ ⟨l'',rfl,g⟩;exact⟨_,rfl,ih h g⟩
 |gd t w v ih=>rintro v' v'' ⟨l',rfl,h⟩ ⟨l'',rfl,g⟩;exact⟨_,rfl,ih h g⟩
 |cl o t x=>intro v' v'' h g;cases (show v'=_ from h);exact g
 |dead n=>intro v' v'' h g;cases (show v'=_ from h);exact g
 |kb n=>intro v' v'' h g;cases (show v'=_ from h);exact g
 |op n=>intro v' v'' h g;cases (show v'=_ from h);exact g
 |rw o e xs i v=>intro v' v'' h g;cases (show v'=_ from h);exact g
 |_=>
  rintro v' v'' (⟨rfl,h⟩ | rfl) g
  ·rcases g with ⟨rfl,g⟩ | rfl
   ·exact .inl ⟨rfl,h,g⟩
   ·exact .inr rfl
  ·exact .inr g
theorem Kd.mono (hpq:∀ v,P v→Q v):∀ {v v':TV},Kd P v v'→Kd Q v v':=by
 intro v
 induction v with
 |pr a b iha ihb=>rintro v' ⟨a',b',rfl,h1,h2⟩;exact⟨_,_,rfl,iha h1,ihb h2⟩
 |tup l ih=>rintro v' ⟨l',rfl,h⟩;exact⟨_,rfl,ih h⟩
 |gd t w v ih=>rintro v' ⟨l',rfl,h⟩;exact⟨_,rfl,ih h⟩
 |cl o t x=>intro v' h;exact h
 |dead n=>intro v' h;exact h
 |kb n=>intro v' h;exact h
 |op n=>intro v' h;exact h
 |rw o e xs i v=>intro v' h;exact h
 |_=>
  rintro v' (⟨rfl,h⟩ | rfl)
  ·exact .inl ⟨rfl,hpq _ h⟩
  ·exact .inr rfl
theorem Kd.refl (hp:∀ v,P v):∀ (v:TV),Kd P v v:=by
 intro v
 induction v with
 |pr a b iha ihb=>exact⟨_,_,rfl,iha,ihb⟩
 |tup l ih=>exact⟨_,rfl,ih⟩
 |gd t w v ih=>exact⟨_,rfl,ih⟩
 |cl o t x=>rfl
 |dead n=>rfl
 |kb n=>rfl
 |op n=>rfl
 |rw o e xs i v=>rfl
 |_=>exact .inl ⟨rfl,hp _⟩
def dd1 (r:Nat) (p:Option Path):Dd:=
 ⟨fun r' q=>r=r'∧(match p with | some p=>Path.far p q | none=>true)=true,fun r' q=>r=r'∧(match p with | some p=>Path.pre p q | none=>true)=true⟩
theorem Yew:(Nat.beq a b&&c)=true↔(a=b∧c=true):=by simp[Nat.beq_eq]
theorem Yqb (r:Nat) (p:Option Path):∀ (v:TV),(v.kill r p).live=true→Yz (dd1 r p) v:=by
 intro v
 induction v with
 |pr a b iha ihb=>intro h;simp only[TV.kill,TV.live,jC] at h;exact⟨iha h.1,ihb h.2⟩
 |loc r' q=>
  intro h;simp only[TV.kill] at h
  split at h
  ·simp[TV.live] at h
  ·rename_i hh;rintro⟨e1,e2⟩;exact Bool.noConfusion (hh.symm.trans (Yew.2 ⟨e1,e2⟩))
 |seg r' q=>
  intro h;simp only[TV.kill] at h
  split at h
  ·simp[TV.live] at h
  ·rename_i hh;rintro⟨e1,e2⟩;exact Bool.noConfusion (hh.symm.trans (Yew.2 ⟨e1,e2⟩))
 |sub r' q lo n=>
  intro h;simp only[TV.kill] at h
  split at h
  ·simp[TV.live] at h
  ·rename_i hh;rintro⟨e1,e2⟩;exact Bool.noConfusion (hh.symm.trans (Yew.2 ⟨e1,e2⟩))
 |clo f c ih=>
  intro h;simp only[TV.kill] at h
  split at h
  ·rename_i hh;exact ih hh
  ·simp[TV.live] at h
 |_=>intro h;trivial
theorem Yte (r:Nat) (p:Option Path):∀ (v:TV),Kd (Yz (dd1 r p)) v (v.kill r p):=by
 intro v
 induction v with
 |pr a b iha ihb=>exact⟨_,_,rfl,iha,ihb⟩
 |tup l ih=>exact⟨_,rfl,ih⟩
 |gd t w v ih=>exact⟨_,rfl,ih⟩
 |loc r' q=>
  simp only[TV.kill]
  split
  ·exact .inr rfl
  ·rename_i hh;exact .inl ⟨rfl,fun⟨e1,e2⟩=>Bool.noConfusion (hh.symm.trans (Yew.2 ⟨e1,e2⟩))⟩
 |seg r' q=>
  simp only[TV.kill]
  split
  ·exact .inr rfl
  ·rename_i hh;exact .inl ⟨rfl,fun⟨e1,e2⟩=>Bool.noConfusion (hh.symm.trans (Yew.2 ⟨e1,e2⟩))⟩
 |sub r' q lo n=>
  simp only[TV.kill]
  split
  ·exact .inr rfl
  ·rename_i hh;exact .inl ⟨rfl,fun⟨e1,e2⟩=>Bool.noConfusion (hh.symm.trans (Yew.2 ⟨e1,e2⟩))⟩
 |clo f c ih=>
  simp only[TV.kill]
  split
  ·rename_i hh;exact .inl ⟨rfl,Yqb r p c hh⟩
  ·exact .inr rfl
 |cl o t x=>rfl
 |dead n=>rfl
 |kb n=>rfl
 |op n=>rfl
 |rw o e xs i v=>rfl
 |nl=>exact .inl ⟨rfl,trivial⟩
 |pt t x=>exact .inl ⟨rfl,trivial⟩
def ddK (ks:Ks):Dd:=⟨fun r q=>∃ k∈ks,(dd1 k.1 k.2).l r q,fun r q=>∃ k∈ks,(dd1 k.1 k.2).s r q⟩
theorem Yz.mono (hl:∀ r q,D'.l r q→D.l r q) (hs:∀ r q,D'.s r q→D.s r q):∀ v:TV,Yz D v→Yz D' v:=by
 intro v
 induction v with
 |pr a b iha ihb=>exact fun h=>⟨iha h.1,ihb h.2⟩
 |loc r q=>exact fun h x=>h (hl _ _ x)
 |seg r q=>exact fun h x=>h (hs _ _ x)
 |sub r q lo n=>exact fun h x=>h (hs _ _ x)
 |clo f c ih=>exact ih
 |_=>exact fun _=>trivial
theorem Yz.cons:∀ v:TV,Yz (dd1 k.1 k.2) v→Yz (ddK ks) v→Yz (ddK (k::ks)) v:=by
 intro v
 induction v with
 |pr a b iha ihb=>exact fun h g=>⟨iha h.1 g.1,ihb h.2 g.2⟩
 |loc r q=>rintro h g ⟨k',hk,e⟩;cases hk with | head=>exact h e | tail _ hk=>exact g ⟨k',hk,e⟩
 |seg r q=>rintro h g ⟨k',hk,e⟩;cases hk with | head=>exact h e | tail _ hk=>exact g ⟨k',hk,e⟩
 |sub r q lo n=>rintro h g ⟨k',hk,e⟩;cases hk with | head=>exact h e | tail _ hk=>exact g ⟨k',hk,e⟩
 |clo f c ih=>exact ih
 |_=>exact fun _ _=>trivial
theorem Yz.none:∀ v:TV,Yz (ddK []) v:=by
 intro v
 induction v with
 |pr a b iha ihb=>exact⟨iha,ihb⟩
 |loc r q=>rintro⟨k,hk,_⟩;cases hk
 |seg r q=>rintro⟨k,hk,_⟩;cases hk
 |sub r q lo n=>rintro⟨k,hk,_⟩;cases hk
 |clo f c ih=>exact ih
 |_=>trivial
theorem Ya0:∀ (ks:Ks) (v:TV),Kd (Yz (ddK ks)) v (Yx ks v)
 |[],v=>Kd.refl Yz.none v
 |k::ks,v=>by
  simp only[Yx];exact(Kd.trans (Yte k.1 k.2 v) (Ya0 ks _)).mono (fun x h=>Yz.cons x h.1 h.2)
theorem Kd.nav (w:World):∀ (p:Path) {v v':TV} {s s':Src},Kd P v v'→nav w v s p=some s'→nav w v' s p=some s':=by
 intro p
 induction p with
 |nil=>intro v v' s s' _ h;rw[Yf] at h ⊢;exact h
 |cons a p ih=>
  intro v v' s s' hk h
  cases v with
  |pr x y=>
   obtain⟨a',b',rfl,h1,h2⟩:=hk
   cases a with
   |f1=>simp only[Mf.nav] at h ⊢;exact ih h1 h
   |f2=>simp only[Mf.nav] at h ⊢;rw[h1.size];exact ih h2 h
   |el i=>simp[Mf.nav] at h
  |cl o t x=>cases (show v'=_ from hk);exact h
  |rw o e xs i v=>cases (show v'=_ from hk);exact h
  |_=>cases a<;>simp[Mf.nav] at h
theorem Kd.get:∀ (p:Path) {v v':TV} {o:Ow} {t:Ty} {x:t.El},Kd P v v'→v.get p=some (.cl o t x)→v'.get p=some (.cl o t x):=by
 intro p
 induction p with
 |nil=>intro v v' o t x hk h;rw[TV.get_nil] at h ⊢;cases h;rw[show v'=_ from hk]
 |cons a p ih=>
  intro v v' o t x hk h
  cases v with
  |pr c d=>
   obtain⟨a',b',rfl,h1,h2⟩:=hk
   cases a<;>simp only[TV.get] at h ⊢<;>first | exact ih h1 h | exact ih h2 h | cases h
  |cl o' t' x'=>cases (show v'=_ from hk);exact h
  |rw o e xs i v=>cases (show v'=_ from hk);exact h
  |_=>cases a<;>simp[TV.get] at h
theorem Kd.gr:∀ (p:Path) {v v':TV} {o:Ow} {t:Ty} {x:t.El},Kd P v v'→v.gr p=some (.cl o t x)→v'.gr p=some (.cl o t x):=by
 intro p
 induction p with
 |nil=>
  intro v v' o t x hk h;rw[Yct] at h ⊢
  cases v with
  |cl o' t' x'=>cases (show v'=_ from hk);exact h
  |rw o' e xs i u=>cases (show v'=_ from hk);exact h
  |_=>cases h
 |cons a p ih=>
  intro v v' o t x hk h
  cases v with
  |pr c d=>
   obtain⟨a',b',rfl,h1,h2⟩:=hk
   cases a with
   |f1=>exact ih h1 h
   |f2=>exact ih h2 h
   |el i=>cases h
  |cl o' t' x'=>cases (show v'=_ from hk);exact h
  |rw o' e xs i v=>cases (show v'=_ from hk);exact h
  |_=>cases a<;>cases h
section
variable {w w':World} {M M':Yd} {L L':Nat→Src} {ρ ρ':Yc} {D:Dd}
theorem Ydt.go (g:Gs w w' M M' ρ ρ' L L' D) (hv:Yz D v) (h:Ydt w M L ρ v u):Ydt w' M' L' ρ' v u:=by
 cases v with
 |nl=>exact h
 |loc r p=>
  obtain⟨R,b,off,h1,h2,h3⟩:=h;obtain⟨R',g1,g2⟩:=g.rl r p R b off hv h1 h2
  exact⟨R',b,off,g1,g2,h3⟩
 |seg r p=>
  obtain⟨R,s,o,e,xs,h1,h2,h3,h4,h5⟩:=h;obtain⟨R',g1,g2,g3,o',xs',g4,g5⟩:=g.rs r p R s hv h1 h2 o e xs h3
  exact⟨R',s,o',e,xs',g1,g2,g4,by rw[g3];exact h4,h5⟩
 |sub r p lo n=>
  obtain⟨R,s,o,e,xs,A,len,c,A',c',h1,h2,h3,h4,h5,h6,h7,h8,h9⟩:=h;obtain⟨R',g1,g2,g3,o',xs',g4,g5⟩:=g.rs r p R s hv h1 h2 o e xs h3
  exact⟨R',s,o',e,xs',A,len,c,A',c',g1,g2,g4,by rw[g3];exact h4,h5,by rw[g5];exact h6,h7,h8,h9⟩
 |pt t x=>
  obtain⟨b,off,h1,h2,h3,h4⟩:=h;have hs:=g.st b h2 h3
  exact⟨b,off,h1,hs.2,jX h3 g.size,h4.go ⟨g.size,fun _ x=>x.elim,g.st⟩ (fun i _=>by simp only[Src.cell];exact hs.1.cell _)⟩
 |_=>exact h.elim
theorem Ycl.go (g:Gs w w' M M' ρ ρ' L L' D):∀ {v:TV} {us:List Value},Yz D v→Ycl w M L ρ v us→Ycl w' M' L' ρ' v us:=by
 intro v
 induction v with
 |pr a b iha ihb=>
  intro us hv h
  cases us with
  |nil=>exact h.elim
  |cons u us=>exact⟨h.1.go g hv.1,ihb hv.2 h.2⟩
 |cl o t x=>intro us hv h;cases t<;>cases us<;>first | exact h.elim | trivial
 |_=>intro us hv h;exact h.elim
theorem Yi.go (g:Gs w w' M M' ρ ρ' L L' D) (hv:Yz D v) (h:Yi w M L ρ v u):Yi w' M' L' ρ' v u:=by
 cases v with
 |clo f c=>obtain⟨caps,h1,h2⟩:=h;exact⟨caps,h1,h2.go g hv⟩
 |_=>exact Ydt.go (u:=u) g hv h
def TV.Yi9:TV→Bool
 |.nl | .loc _ _ | .seg _ _ | .sub _ _ _ _ | .pt _ _ | .clo _ _=>true
 |_=>false
theorem Yi.Yi9 (h:Yi w M L ρ v u):v.Yi9=true:=by
 cases v<;>first | rfl | exact h.elim
theorem Ya.kd (hn:∀ v u,Lf v u→v.Yi9=true) (hl:∀ v u,P v→Lf v u→Lf' v u):∀ {tv tv':TV} {s:Src} {F:Yd},Ya w M Lf tv s F→Kd P tv tv'→Ya w M Lf' tv' s F:=by
 intro tv
 induction tv with
 |pr a b iha ihb=>
  rintro tv' s F ⟨F1,F2,h1,h2,h3⟩ ⟨a',b',rfl,k1,k2⟩
  exact⟨F1,F2,iha h1 k1,by rw[k1.size];exact ihb h2 k2,h3⟩
 |cl o t x=>intro tv' s F h k;cases (show tv'=_ from k);exact h
 |dead n=>intro tv' s F h k;cases (show tv'=_ from k);trivial
 |tup l=>rintro tv' s F ⟨u,h1,h2⟩ _;cases hn _ _ h2
 |gd t w v=>rintro tv' s F ⟨u,h1,h2⟩ _;cases hn _ _ h2
 |kb b=>rintro tv' s F ⟨u,h1,h2⟩ _;cases hn _ _ h2
 |op b=>rintro tv' s F ⟨u,h1,h2⟩ _;cases hn _ _ h2
 |rw o e xs i v=>intro tv' s F h k;cases (show tv'=_ from k);exact h
 |_=>
  rintro tv' s F ⟨u,h1,h2⟩ (⟨rfl,hp⟩ | rfl)
  ·exact⟨u,h1,hl _ _ hp h2⟩
  ·trivial
theorem Kd.isAgg:∀ {v v':TV},Kd P v v'→v'=.dead 1∨v'.isAgg=v.isAgg:=by
 intro v v' h
 cases v with
 |pr a b=>obtain⟨_,_,rfl,_⟩:=h;exact .inr rfl
 |tup l=>obtain⟨_,rfl,_⟩:=h;exact .inr rfl
 |gd t w v=>obtain⟨_,rfl,_⟩:=h;exact .inr rfl
 |cl o t x=>exact .inr (by rw[show v'=_ from h])
 |dead n=>exact .inr (by rw[show v'=_ from h])
 |kb b=>exact .inr (by rw[show v'=_ from h])
 |op v=>exact .inr (by rw[show v'=_ from h])
 |rw o e xs i v=>exact .inr (by rw[show v'=_ from h])
 |_=>rcases h with ⟨rfl,_⟩ | rfl<;>first | exact .inr rfl | exact .inl rfl
theorem Yb.go (g:Gs w w' M M' ρ ρ' L L' D) (hk:Kd (Yz D) v v') (h:Yb w M L ρ v u):v'=.dead 1∨Yb w' M' L' ρ' v' u:=by
 obtain⟨h1,h2,h3⟩:=h;rcases hk.isAgg with e | e
 ·exact .inl e
 ·refine .inr ⟨?_,by rw[hk.size];exact h2,by rw[e];exact h3⟩
  have h1':Ya w' M' (Yi w M L ρ) v (.reg u.cells.toList 0) noB:=h1.go ⟨g.size,fun _ x=>x.elim,g.st⟩ (fun _ _=>rfl) (fun _ _ x=>x);exact h1'.kd (fun v u h=>h.Yi9) (fun v u hp hl=>hl.go g hp) hk
theorem Yfw.go (g:Gs w w' M M' ρ ρ' L L' D):∀ {v v':TV} {us:List Value},Kd (Yz D) v v'→Yfw w M L ρ v us→Yfw w' M' L' ρ' v' us:=by
 intro v
 induction v with
 |pr a b iha ihb=>
  rintro v' us ⟨a',b',rfl,k1,k2⟩ h
  cases us with
  |nil=>exact h.elim
  |cons u us=>
   refine⟨?_,ihb k2 h.2⟩;rcases h.1 with e | h1
   ·rw[e] at k1;left;rw[show a'=_ from k1];rfl
   ·rcases h1.go g k1 with e | h1
    ·left;rw[e];rfl
    ·exact .inr h1
 |cl o t x=>
  intro v' us k h;cases (show v'=_ from k)
  cases t<;>cases us<;>first | exact h.elim | trivial
 |_=>intro v' us k h;exact h.elim
theorem Yfv.go (g:Gs w w' M M' ρ ρ' L L' D) (hk:Kd (Yz D) v v') (h:Yfv w M L ρ a v u)
  (ht:∀ t b x,v=.gd t b x→a'.tmps.getD t undef=a.tmps.getD t undef):Yfv w' M' L' ρ' a' v' u:=by
 have plain:∀ v v':TV,Kd (Yz D) v v'→Yb w M L ρ v u→(v'=.dead 1∨Yb w' M' L' ρ' v' u):=fun v v' hk h=>h.go g hk
 cases v with
 |tup l=>obtain⟨l',rfl,k⟩:=hk;obtain⟨vs,h1,h2⟩:=h;exact⟨vs,h1,h2.go g k⟩
 |gd t b x=>
  obtain⟨x',rfl,k⟩:=hk;have ht:=ht t b x rfl
  refine⟨fun hc=>?_,fun hc=>h.2 (by rw[←ht];exact hc)⟩
  rcases h.1 (by rw[←ht];exact hc) with e | h1
  ·rw[e] at k;exact .inl k
  ·exact h1.go g k
 |kb b=>cases (show v'=_ from hk);exact h
 |dead n=>cases (show v'=_ from hk);trivial
 |op x=>exact absurd h.1.choose_spec.2 (fun x=>x.elim)
 |rw o e xs i x=>cases (show v'=_ from hk);rcases plain _ _ hk h with e | e<;>first | exact e | cases e
 |pr x y=>obtain⟨_,_,rfl,_⟩:=id hk;rcases plain _ _ hk h with e | e<;>first | exact e | cases e
 |cl o t x=>cases (show v'=_ from hk);rcases plain _ _ hk h with e | e<;>first | exact e | cases e
 |_=>rcases id hk with ⟨rfl,_⟩ | rfl<;>first | trivial | (rcases plain _ _ hk h with e | e<;>first | exact e | cases e)
end
structure Inv (Z:W0) (S:St) (C:Cx) (a:Act) (w:World):Prop where
 str:Str Z (Yi w (Mt Z C S.root noB) C.L S.root) C noB S.root w
 tm:∀ i v,lk i S.tm=some v→Yfv w (Mt Z C S.root noB) C.L S.root a v (a.tmps.getD i undef)
 df:a.defers=[]
 ts:a.tmps.size=Z.nt
theorem Str.lf (I:Str Z Lf C G ρ w) (h:∀ v u,Lf v u→Lf' v u):Str Z Lf' C G ρ w:=
 {I with rep:=fun r R hr=>(I.rep r R hr).go (Yi3 (fun _ x=>x)) (fun _ _=>rfl) h }
def Root.kill (ks:Ks) (R:Root):Root:={R with tv:=Yx ks R.tv }
theorem Yle (Z:W0) (C:Cx) (G:Yd) (ρ:Yc) (ks:Ks):Mt Z C (fun r=>(ρ r).map (Root.kill ks)) G=Mt Z C ρ G:=by
 funext b
 unfold Mt
 congr 1
 apply propext
 constructor
 ·rintro⟨r,R,h1,h2⟩
  dsimp only at h1
  cases h:ρ r with
  |none=>rw[h] at h1;cases h1
  |some R0=>rw[h] at h1;cases h1;exact⟨r,R0,h,h2⟩
 ·rintro⟨r,R,h1,h2⟩
  exact⟨r,R.kill ks,by dsimp only;rw[h1];rfl,h2⟩
theorem Str.kill (I:Str Z Lf C G ρ w) (ks:Ks)
  (hn:∀ v u,Lf v u→v.Yi9=true) (hl:∀ v u,Yz (ddK ks) v→Lf v u→Lf' v u):Str Z Lf' C G (fun r=>(ρ r).map (Root.kill ks)) w:=by
 have key:∀ {r R},(ρ r).map (Root.kill ks)=some R→∃ R0,ρ r=some R0∧R=R0.kill ks:=by
  intro r R h
  cases h0:ρ r with
  |none=>rw[h0] at h;cases h
  |some R0=>rw[h0] at h;cases h;exact⟨R0,rfl,rfl⟩
 refine⟨?_,?_,?_,?_,I.gbnd,?_,?_,?_,I.sz,I.old,I.kp,I.kf,I.xb,I.kb,I.os,I.tape,I.output⟩
 ·intro r R h
  obtain⟨R0,h0,rfl⟩:=key h;rw[Yle];exact(I.rep r R0 h0).kd hn hl (Ya0 ks R0.tv)
 ·intro r R h hk;obtain⟨R0,h0,rfl⟩:=key h;exact I.reg r R0 h0 hk
 ·intro r R h hk;obtain⟨R0,h0,rfl⟩:=key h
  have hs:(R0.kill ks).tv.size=R0.tv.size:=(Ya0 ks R0.tv).size;rw[hs];exact I.mem r R0 h0 hk
 ·intro r R b h hb;obtain⟨R0,h0,rfl⟩:=key h;exact I.bnd r R0 b h0 hb
 ·intro r r' R R' hne h h';obtain⟨R0,h0,rfl⟩:=key h;obtain⟨R0',h0',rfl⟩:=key h';exact I.dis r r' R0 R0' hne h0 h0'
 ·intro r R h;obtain⟨R0,h0,rfl⟩:=key h;exact I.gdis r R0 h0
 ·intro r R h;obtain⟨R0,h0,rfl⟩:=key h;exact I.plc r R0 h0
theorem Gs.kill (g:Gs w w' M M' ρ ρ' L L' D) (ks:Ks):Gs w w' M M' ρ (fun r=>(ρ' r).map (Root.kill ks)) L L' D where
 size:=g.size
 st:=g.st
 rl:=fun r q R b off hd h1 h2=>by
  obtain⟨R',g1,g2⟩:=g.rl r q R b off hd h1 h2
  exact⟨R'.kill ks,by simp only[g1];rfl,Kd.nav w' q (Ya0 ks R'.tv) g2⟩
 rs:=fun r q R s hd h1 h2 o e xs h3=>by
  obtain⟨R',g1,g2,g3,o',xs',g4,g5⟩:=g.rs r q R s hd h1 h2 o e xs h3
  exact⟨R'.kill ks,by simp only[g1];rfl,Kd.nav w' q (Ya0 ks R'.tv) g2,g3,o',xs',Kd.gr q (Ya0 ks R'.tv) g4,g5⟩
theorem Inv.step {Z:W0} {S S':St} {C C':Cx} {a a':Act} {w w':World} {ρ':Yc} {D:Dd} {ks:Ks} {Q:TV→Value→Prop}
  (I:Inv Z S C a w)
  (J:Str Z (fun v u=>Yi w (Mt Z C S.root noB) C.L S.root v u∨Q v u) C' noB ρ' w')
  (g:Gs w w' (Mt Z C S.root noB) (Mt Z C' ρ' noB) S.root ρ' C.L C'.L D)
  (hQ:∀ v u,Q v u→Yz (ddK ks) v→Yi w' (Mt Z C' S'.root noB) C'.L S'.root v u) (hQn:∀ v u,Q v u→v.Yi9=true)
  (hrt:S'.root=fun r=>(ρ' r).map (Root.kill ks))
  (hcl:∀ r q R,S.root r=some R→D.l r q→(ddK ks).l r q) (hcs:∀ r q R,S.root r=some R→D.s r q→(ddK ks).s r q)
  (hdf:a'.defers=[]) (hts:a'.tmps.size=Z.nt)
  (htm:∀ i v',lk i S'.tm=some v'→(∃ v,lk i S.tm=some v∧v'=Yx ks v∧a'.tmps.getD i undef=a.tmps.getD i undef∧
    ∀ t b x,v=.gd t b x→a'.tmps.getD t undef=a.tmps.getD t undef)∨
   Yfv w' (Mt Z C' S'.root noB) C'.L S'.root a' v' (a'.tmps.getD i undef)) :
  Inv Z S' C' a' w':=by
 have hM:Mt Z C' S'.root noB=Mt Z C' ρ' noB:=by rw[hrt,Yle]
 have g':Gs w w' (Mt Z C S.root noB) (Mt Z C' S'.root noB) S.root S'.root C.L C'.L (ddK ks):=by
  have g1:=g.kill ks;rw[←hrt] at g1;rw[hM];exact⟨g1.size,g1.st,fun r q R b off hd h1=>g1.rl r q R b off (fun x=>hd (hcl r q R h1 x)) h1,fun r q R s hd h1=>g1.rs r q R s (fun x=>hd (hcs r q R h1 x)) h1⟩
 refine⟨?_,?_,hdf,hts⟩
 ·have:=J.kill (Lf':=Yi w' (Mt Z C' S'.root noB) C'.L S'.root) ks (fun v u h=>h.elim (fun h=>h.Yi9) (hQn v u)) (fun v u ha h=>h.elim (fun h=>h.go g' ha) (fun h=>hQ v u h ha))
  rw[←hrt] at this;exact this
 ·intro i v' h
  rcases htm i v' h with ⟨v,h1,rfl,h3,h4⟩ | h
  ·rw[h3];exact(I.tm i v h1).go g' (Ya0 ks v) h4
  ·exact h
def Yy:Ty→List Value
 |.int k=>[.int k 0]
 |.bool=>[.bool false]
 |.str=>[.string ⟨#[]⟩]
 |.unit=>[]
 |.pair a b=>Yy a++Yy b
 |.sl _=>[.slice none 0 0]
 |.arr n e=>(List.replicate n (Yy e)).flatten
def DOk (P:Program):TD→Ty→TypeDesc→Prop
 |.int k,t,d=>d=.int k∧t=.int k
 |.bool,t,d=>d=.bool∧t=.bool
 |.str,t,d=>d=.string∧t=.str
 |.sl e,t,d=>d=.slice e∧∃ te i,t=.sl te∧P.info? e=some i∧i.size=te.size∧(∃ z,i.zero=some z∧z.cells.toList=Yy te)∧(∀ k,te=.int k→P.underlying e=some (.int k))∧i.bytes≤4096
 |.arr n e,t,d=>d=.array n e∧∃ te i,t=.arr n te∧P.info? e=some i∧i.size=te.size∧(∃ de,P.underlying e=some de∧(te.isAgg=true↔de.isRow=true))
 |.st offs,t,d=>∃ fs:Array Field,d=.struct fs∧(t.isAgg=true)∧(fs.map (·.offset)).toList=offs∧
   ∀ i f,fs[i]? = some f→∃ j de,P.info? f.type=some j∧j.size≠0∧j.size=(Y7 t i).size∧P.underlying f.type=some de∧((Y7 t i).isAgg=true↔de.isRow=true)
 |.ptr e,t,d=>False
 |.other,t,d=>False
structure TOk (P:Program) (t:TypeId) (i:Yfa):Prop where
 d:∃ d,P.underlying t=some d∧DOk P i.d i.ty d∧(i.ty.isAgg=true↔d.isRow=true)
 i:∃ j,P.info? t=some j∧j.size=i.ty.size∧∃ z,j.zero=some z∧z.cells.toList=Yy i.ty
def Yv0 (P:Program) (a:Ty) (k:Nat) (f:Field):Bool:=(!(f.name == "_"))&&(Nat.beq f.offset k&&match P.underlying f.type,a with
 |some (.int l),.int m=>decide (l=m)
 |some .bool,.bool=>true
 |some .string,.str=>true
 |_,_=>false)
def Yia (P:Program):Ty→Nat→List Field→Bool
 |.unit,_,[]=>true
 |.pair a r,k,f::fs=>Yv0 P a k f&&Yia P r (k+1) fs
 |_,_,_=>false
def EqB (P:Program) (t:TypeId) (i:Yfa):Bool:=match i.d,Yiw i.ty&&Nat.beq i.bytes 0 with
 |.st _,true=>(!P.stoodInHeld t)&&((!P.eqGuardType P.depth t)&&Yia P i.ty 0 (P.fieldsOf t).toList)
 |_,_=>true
structure Yaf (P:Program) (tb:Tb):Prop where
 row:∀ t i,lk t tb=some i→TOk P t i
 eq:∀ t i,lk t tb=some i→EqB P t i=true
instance (P:Program) (tb:Tb):CoeFun (Yaf P tb) (fun _=>∀ t i,lk t tb=some i→TOk P t i):=⟨Yaf.row⟩
section
variable {w:World} {M:Yd} {L:Nat→Src} {ρ:Yc}
def TV.plain:TV→Bool
 |.tup _ | .gd _ _ _ | .kb _ | .dead _ | .op _ | .rw _ _ _ _ _=>false
 |_=>true
def VOk (w:World) (M:Yd) (L:Nat→Src) (ρ:Yc):TV→Value→Prop
 |.tup l,u=>∃ vs:Array Value,u=.tuple vs∧Yfw w M L ρ l vs.toList
 |.gd _ _ _,_=>False
 |.kb _,_=>False
 |.dead _,_=>False
 |.op _,_=>False
 |v,u=>Yb w M L ρ v u
theorem VOk.tm (h:VOk w M L ρ v u) (a:Act):Yfv w M L ρ a v u:=by
 cases v<;>first | exact h | exact h.elim
theorem Ydi {u:Value} (h:¬ ∃ cs,u=.agg cs):u.cells=#[u]:=by cases u<;>first | rfl | exact absurd ⟨_,rfl⟩ h
theorem Yb.one {v:TV} {u:Value} (h:Yb w M L ρ v u) (ha:v.isAgg=false):u.cells=#[u]:=by
 refine Ydi (fun hh=>?_);rw[h.2.2.2 hh] at ha;cases ha
theorem Yb.cell0 (h:Yb w M L ρ v u) (ha:v.isAgg=false):(Src.reg u.cells.toList 0).cell w 0=some u:=by rw[h.one ha];rfl
theorem Yb.int {o:Ow} {k:IntKind} {n:Int} {u:Value} (h:Yb w M L ρ (.cl o (.int k) n) u):u=.int k n:=by
 have h1:=h.cell0 rfl;have h2:(Src.reg u.cells.toList 0).cell w 0=some (.int k n):=h.1;rw[h1] at h2;exact jN h2
theorem Yb.bool {o:Ow} {b:Bool} {u:Value} (h:Yb w M L ρ (.cl o .bool b) u):u=.bool b:=by
 have h1:=h.cell0 rfl;have h2:(Src.reg u.cells.toList 0).cell w 0=some (.bool b):=h.1;rw[h1] at h2;exact jN h2
theorem Yb.str {o:Ow} {x:List UInt8} {u:Value} (h:Yb w M L ρ (.cl o .str x) u):∃ z:ByteArray,u=.string z∧z.data.toList=x:=by
 have h1:=h.cell0 rfl;obtain⟨z,h2,h3⟩:∃ z:ByteArray,(Src.reg u.cells.toList 0).cell w 0=some (.string z)∧z.data.toList=x:=h.1;rw[h1] at h2;exact⟨z,jN h2,h3⟩
theorem Yb.mk1 (hr:Ya w M (Yi w M L ρ) v (.reg [u] 0) noB) (hs:v.size=1) (ha:v.isAgg=false) (hu:u.cells=#[u]) (hn:¬ ∃ cs,u=.agg cs):Yb w M L ρ v u:=
 ⟨by rw[hu];exact hr,by rw[hu,hs];rfl,by rw[ha];exact⟨fun h=>(by cases h),fun h=>absurd h hn⟩⟩
theorem Yb.Yb3 (o:Ow) (k:IntKind) (n:Int):Yb w M L ρ (.cl o (.int k) n) (.int k n):=.mk1 rfl rfl rfl rfl (by rintro⟨_,h⟩;cases h)
theorem Yb.Ybr (o:Ow) (b:Bool):Yb w M L ρ (.cl o .bool b) (.bool b):=.mk1 rfl rfl rfl rfl (by rintro⟨_,h⟩;cases h)
theorem Yb.Ym9 (o:Ow) (z:ByteArray):Yb w M L ρ (.cl o .str z.data.toList) (.string z):=.mk1 ⟨z,rfl,rfl⟩ rfl rfl rfl (by rintro⟨_,h⟩;cases h)
theorem Yb.Yw2:Yb w M L ρ .nl (.slice none 0 0):=.mk1 ⟨_,rfl,none,rfl⟩ rfl rfl rfl (by rintro⟨_,h⟩;cases h)
theorem Yb.Yu2 (f:FuncId):Yb w M L ρ (.clo f (.cl .sh .unit ())) (.func (.func f) #[] #[]):=.mk1 ⟨_,rfl,#[],rfl,trivial⟩ rfl rfl rfl (by rintro⟨_,h⟩;cases h)
theorem Yi.one (h:Yi w M L ρ v u):u.oneCell'=true∧¬ ∃ cs,u=.agg cs:=by
 cases v with
 |nl=>obtain⟨A,rfl⟩:=h;exact⟨rfl,by rintro⟨_,h⟩;cases h⟩
 |loc r p=>obtain⟨_,_,_,_,_,rfl⟩:=h;exact⟨rfl,by rintro⟨_,h⟩;cases h⟩
 |seg r p=>obtain⟨_,_,_,_,_,_,_,_,_,A,n,c,rfl⟩:=h;exact⟨rfl,by rintro⟨_,h⟩;cases h⟩
 |sub r p lo n=>obtain⟨_,_,_,_,_,_,_,_,_,_,_,_,_,_,rfl,_⟩:=h;exact⟨rfl,by rintro⟨_,h⟩;cases h⟩
 |pt t x=>obtain⟨_,_,rfl,_⟩:=h;exact⟨rfl,by rintro⟨_,h⟩;cases h⟩
 |clo f c=>obtain⟨_,rfl,_⟩:=h;exact⟨rfl,by rintro⟨_,h⟩;cases h⟩
 |_=>exact h.elim
theorem Yb.leaf (h:Yb w M L ρ v u) (hv:v.Yi9=true):Yi w M L ρ v u:=by
 have ha:v.isAgg=false:=by cases v<;>first | rfl | cases hv
 have h1:=h.cell0 ha
 have h2:∃ u',(Src.reg u.cells.toList 0).cell w 0=some u'∧Yi w M L ρ v u':=by
  have:=h.1
  cases v<;>first | exact this | cases hv
 obtain⟨u',h3,h4⟩:=h2;rw[h1] at h3;cases h3;exact h4
theorem Yb.Yah {v:TV} {u:Value} (h:Yi w M L ρ v u):Yb w M L ρ v u:=by
 have hu:=h.one.2;have hv:=h.Yi9
 refine .mk1 ?_ (by cases v<;>first | rfl | cases hv) (by cases v<;>first | rfl | cases hv) (Ydi hu) hu
 cases v<;>first | exact⟨u,rfl,h⟩ | cases hv
theorem Yb.Yw3 (h:Yb w M L ρ (.rw o e xs i v) u):False:=by
 obtain⟨⟨_,_,_,b,_,_,_,_,Fs,h6,_⟩,_⟩:=h;exact h6
theorem VOk.val (h:VOk w M L ρ v u) (hv:∀ l,v≠.tup l):Yb w M L ρ v u:=by
 cases v<;>first | exact h | exact h.elim | exact absurd rfl (hv _)
theorem Yb.v {v:TV} {u:Value} (h:Yb w M L ρ v u) (hv:v.plain=true):VOk w M L ρ v u:=by
 cases v<;>first | exact h | cases hv
end
theorem RD.run_bind (S:St):∀ (x:RD α) (f:α→RD β),(x.bind f).run S=(x.run S).bind (fun a=>(f a).run S)
 |.ret a,f=>rfl
 |.fail,f=>rfl
 |.ck r c g,f=>by
  simp only[RD.bind,RD.run]
  cases S.root r with
  |none=>rfl
  |some R=>exact RD.run_bind S (g _) f
 |.tm i g,f=>by
  simp only[RD.bind,RD.run]
  cases lk i S.tm with
  |none=>rfl
  |some v=>exact RD.run_bind S (g v) f
 |.rt r g,f=>by
  simp only[RD.bind,RD.run]
  cases S.root r with
  |none=>rfl
  |some v=>exact RD.run_bind S (g v) f
 |.rt? r g,f=>by
  simp only[RD.bind,RD.run]
  cases S.root r with
  |none=>exact RD.run_bind S (g false) f
  |some v=>exact RD.run_bind S (g true) f
theorem RD.bind_some {α β:Type} {S:St} {x:RD α} {f:α→RD β} {b:β} (h:(x.bind f).run S=some b):∃ a,x.run S=some a∧(f a).run S=some b:=by
 rw[RD.run_bind] at h
 cases hx:x.run S with
 |none=>rw[hx] at h;cases h
 |some a=>rw[hx] at h;exact⟨a,rfl,h⟩
theorem RD.Ygd {α:Type} {S:St} {o:Option α} {a:α} (h:(RD.of o).run S=some a):o=some a:=by
 cases o with
 |none=>cases h
 |some x=>exact h
theorem Ya1 (h:(Yh5 r p).run S=some v):∃ R,S.root r=some R∧R.tv.get p=some v:=by
 simp only[Yh5,RD.run] at h
 split at h
 ·rename_i R hR;exact⟨R,hR,RD.Ygd h⟩
 ·cases h
def Yax (a:Act) (g:Gd):Prop:=∀ t w,Gd.has g t w=true→a.tmps.getD t undef=.bool w
theorem Yax.nil (a:Act):Yax a []:=fun t w h=>by simp[Gd.has] at h
theorem Yax.cons (h:Yax a g) (hb:a.tmps.getD t undef=.bool b):Yax a ((t,b)::g):=by
 intro u w hu
 cases b<;>cases w<;>simp only[Gd.has,Bool.or_eq_true,Nat.beq_eq] at hu
 ·rcases hu with e | hu
  ·subst e;exact hb
  ·exact h u _ hu
 ·exact h u _ hu
 ·exact h u _ hu
 ·rcases hu with e | hu
  ·subst e;exact hb
  ·exact h u _ hu
section
variable {P:Program} {tb:Tb} {Z:W0} {S:St} {C:Cx} {a:Act} {w:World} {g:Gd}
theorem Yg (I:Inv Z S C a w) (hg:Yax a g) {x:Operand} {v:TV} (h:(opv g x).run S=some v) :
  VOk w (Mt Z C S.root noB) C.L S.root v (a.eval x):=by
 cases x with
 |tmp t=>
  simp only[opv,RD.run] at h
  split at h
  ·rename_i v0 hv0
   have hI:=I.tm t v0 hv0;show VOk _ _ _ _ v (a.tmps.getD t undef)
   cases v0 with
   |gd t' b v'=>
    simp only at h
    split at h
    ·rename_i hh
     have hb:=hg t' b hh;rcases hI.1 hb with e | e
     ·subst e;simp[RD.run] at h
     ·have e':=e.v (v:=v') (by
       cases v'<;>first | rfl | exact absurd e Yb.Yw3 | exact absurd e.1.choose_spec.2 (fun x=>x.elim) | (simp[RD.run] at h))
      cases v'<;>simp only[RD.run,jD] at h<;>first | (subst h;exact e') | cases h | exact e'.elim
    ·simp[RD.run] at h
   |dead n=>simp[RD.run] at h
   |kb b=>
    simp only[RD.run,jD] at h;subst h
    rw[show a.tmps.getD t undef=.bool b from hI];exact .Ybr _ _
   |tup l=>simp only[RD.run,jD] at h;subst h;exact hI
   |op l=>exact absurd hI.1.choose_spec.2 (fun x=>x.elim)
   |_=>simp only[RD.run,jD] at h;subst h;exact hI
  ·cases h
 |const c=>
  cases c with
  |int k n=>simp only[opv,RD.run,jD] at h;subst h;exact .Yb3 _ _ _
  |bool b=>simp only[opv,RD.run,jD] at h;subst h;exact .Ybr _ _
  |string s=>simp only[opv,RD.run,jD] at h;subst h;exact .Ym9 _ _
  |slice A n c=>
   cases A with
   |none=>
    cases n with
    |zero=>cases c with
     |zero=>simp only[opv,RD.run,jD] at h;subst h;exact .Yw2
     |succ c=>simp[opv,RD.run] at h
    |succ n=>simp[opv,RD.run] at h
   |some A=>simp[opv,RD.run] at h
  |_=>simp[opv,RD.run] at h
 |func f=>simp only[opv,RD.run,jD] at h;subst h;exact .Yu2 f
 |global g=>simp[opv,RD.run] at h
end
section
variable {P:Program} {tb:Tb} {Z:W0} {S:St} {C:Cx} {a:Act} {w:World} {g:Gd} {o:Oper}
def PvS (P:Program) (tb:Tb) (g:Gd) (o:Oper):Prop:=∀ (Z:W0) (S:St) (C:Cx) (a:Act) (w:World),Yaf P tb→Inv Z S C a w→Yax a g→
 ∀ b v,(pv tb g o).run S=some (b,v)→b≠some false→∃ u,(execOp a.eval o).run P w=.ok (.value u) w∧((∃ n,v=.dead n)∨VOk w (Mt Z C S.root noB) C.L S.root v u)
theorem Yq (h:(Ycg tb t).run S=some i):lk t tb=some i:=RD.Ygd h
theorem Ycy (h:P.underlying t=some d) (w:World):(isAgg t).run P w=.ok d.isRow w:=by
 unfold isAgg;rw[Sem.run_bind,run_underlying h w];cases d<;>rfl
theorem Y3 (h:P.info? t=some i) (w:World):(Go.sizeOf t).run P w=.ok i.size w:=by
 simp[Go.sizeOf,typeInfo,h]
theorem Yfe (h:P.info? t=some i) (w:World):(typeInfo t).run P w=.ok i w:=by
 simp[typeInfo,h]
theorem Ytu (ho:o.op=.move x):PvS P tb g o:=by
 intro Z S C a w ht I hg b v h _;simp only[pv,ho] at h;obtain⟨v',h1,h2⟩:=RD.bind_some h;cases h2
 exact⟨a.eval x,by simp[execOp,ho],.inr (Yg I hg h1)⟩
theorem Ydv (b off:Nat):∀ n,(∀ i,i<n→∃ v,w.cell? ⟨b,off+i,none⟩=some v)→∃ cs:List Value,cs.length=n∧∀ i,i<n→w.cell? ⟨b,off+i,none⟩=cs[i]?
 |0,_=>⟨[],rfl,fun i hi=>by omega⟩
 |n+1,h=>by
  obtain⟨cs,h1,h2⟩:=Ydv b off n (fun i hi=>h i (by omega))
  obtain⟨v,hv⟩:=h n (by omega)
  refine⟨cs++[v],by simp[h1],fun i hi=>?_⟩
  by_cases e:i<n
  ·rw[h2 i e,List.getElem?_append_left (by omega)]
  ·have:i=n:=by omega
   subst this;rw[hv,List.getElem?_append_right (by omega)];simp[h1]
theorem Yd4 (hd:P.underlying t=some d) (hj:P.info? t=some j) (hs:d.isRow=false→j.size=1)
  (hc:∀ i,i<j.size→∃ v,w.cell? ⟨b,off+i,none⟩=some v) (ho:d.isRow=false→∀ v,w.cell? ⟨b,off,none⟩=some v→¬ ∃ cs,v=.agg cs) :
  ∃ u,(Instr.loadAt t (.pointer (some ⟨b,off,none⟩))).run P w=.ok u w∧u.cells.size=j.size∧(d.isRow=true↔∃ cs,u=.agg cs)∧
   ∀ i,i<j.size→u.cells.toList[i]? = w.cell? ⟨b,off+i,none⟩:=by
 cases hr:d.isRow with
 |true=>
  obtain⟨cs,h1,h2⟩:=Ydv b off j.size hc
  refine⟨.agg cs.toArray,run_loadAt_mid w b off t cs d (fun i v hv=>?_) hd hr (by rw[hj];simp[h1]),by simp[Value.cells,h1],by simp,fun i hi=>?_⟩
  ·have:i<j.size:=by
    rcases kG i j.size with h | h
    ·exact h
    ·rw[List.getElem?_eq_none (by omega)] at hv;cases hv
   rw[h2 i this,hv]
  ·simp[Value.cells,h2 i hi]
 |false=>
  have h1:=hs hr
  obtain⟨v,hv⟩:=hc 0 (by omega)
  rw[kF] at hv;have hna:=ho hr v hv;have hvc:v.cells=#[v]:=Ydi hna
  refine⟨v,?_,by rw[hvc,h1];rfl,by simpa using hna,fun i hi=>?_⟩
  ·simp[Instr.loadAt,Instr.sureAddr,loadVar,Ycy hd,hr,hv]
  ·have:i=0:=by omega
   subst this;rw[hvc];simp[hv]
theorem Ye0 {v:TV} {t:Ty} (h:v.lay=t.lay) (hv:v≠.dead v.size):v.isAgg=t.isAgg:=by
 cases v with
 |cl o u x=>cases u<;>cases t<;>first | rfl | cases h
 |pr a b=>cases t<;>first | rfl | cases h
 |dead n=>exact absurd rfl hv
 |_=>cases t<;>first | rfl | cases h
theorem Rep.Yh6:∀ {t:Ty} {x:t.El} {s s':Src} {F:Yd},Rep w M t .sh x s F→(∀ i,i<t.size→s'.cell w i=s.cell w i)→Rep w M t .sh x s' noB:=by
 intro t
 induction t with
 |int k=>intro x s s' F h hc;exact(hc 0 (by simp[Ty.size])).trans h
 |bool=>intro x s s' F h hc;exact(hc 0 (by simp[Ty.size])).trans h
 |str=>intro x s s' F h hc;obtain⟨z,h1,h2⟩:=h;exact⟨z,(hc 0 (by simp[Ty.size])).trans h1,h2⟩
 |unit=>intro x s s' F h hc;trivial
 |pair a b iha ihb=>
  intro x s s' F h hc;obtain⟨F1,F2,h1,h2,_⟩:=h
  refine⟨noB,noB,iha h1 (fun i hi=>hc i (by simp[Ty.size];omega)),ihb h2 (fun i hi=>?_),fun _ x=>x.elim,fun _ x=>x.elim,fun _ x=>x.elim⟩
  rw[Src.Yk,Src.Yk];exact hc _ (by simp[Ty.size];omega)
 |sl e ih=>
  intro x s s' F h hc;obtain⟨A,c,h1,h2,h3⟩:=h
  exact⟨A,c,(hc 0 (by simp[Ty.size])).trans h1,h2,h3⟩
 |arr n e ih=>
  intro x s s' F h hc;obtain⟨h1,Fs,h2,h3⟩:=h;refine⟨h1,fun _=>noB,fun i hi=>⟨ih (h2 i hi).1 (fun j hj=>?_),fun _ x=>x.elim⟩,fun _ _ _ _ _ x=>x.elim⟩;rw[Src.Yk,Src.Yk];refine hc _ ?_;simp only[Ty.size]
  have:=Yaw (n:=n) (sz:=e.size) (i:=i) (by omega)
  omega
variable {M:Yd} {L:Nat→Src} {ρ:Yc}
theorem Yjg (r:Nat):∀ (t:Ty) (p:Path) (o:Ow) (x:t.El),(Yap r p o t x).size=t.size:=by
 intro t
 induction t with
 |pair a b iha ihb=>
  intro p o x;simp only[Yap];split
  ·rfl
  ·split
   ·rfl
   ·simp[TV.size,Ty.size,iha,ihb]
 |sl e=>intro p o x;simp only[Yap];split<;>rfl
 |arr n e=>intro p o x;simp only[Yap];(split<;>first | rfl | (split<;>rfl))
 |_=>intro p o x;rfl
theorem Yqf (hR:ρ r=some R):∀ (t:Ty) (p:Path) (o:Ow) (x:t.El) {s s':Src} {F:Yd},Rep w M t o x s F→nav w R.tv (L r) p=some s→R.tv.get p=some (.cl o t x)→
  (∀ i,i<t.size→s'.cell w i=s.cell w i)→Ya w M (Yi w M L ρ) (Yap r p o t x) s' noB:=by
 intro t
 induction t with
 |int k=>intro p o x s s' F h _ _ hc;exact Rep.pure (o:=o) rfl h hc
 |bool=>intro p o x s s' F h _ _ hc;exact Rep.pure (o:=o) rfl h hc
 |str=>intro p o x s s' F h _ _ hc;exact Rep.pure (o:=o) rfl h hc
 |unit=>intro p o x s s' F h _ _ hc;trivial
 |pair a b iha ihb=>
  intro p o x s s' F h hn hg hc;simp only[Yap]
  split
  ·rename_i hp;exact Rep.pure hp h hc
  ·have go:o≠.sh→Ya w M (Yi w M L ρ) (.pr (Yap r (p++[.f1]) o a x.1) (Yap r (p++[.f2]) o b x.2)) s' noB:=by
    intro _;obtain⟨F1,F2,h1,h2,_⟩:=h;obtain⟨n1,g1⟩:=Y4 p [.f1] hn hg;obtain⟨n2,g2⟩:=Y4 p [.f2] hn hg;simp only[nav,Yf,TV.get,TV.get_nil] at n1 g1 n2 g2
    refine⟨noB,noB,iha _ _ _ h1 n1 g1 (fun i hi=>hc i (by simp[Ty.size];omega)),ihb _ _ _ h2 n2 g2 (fun i hi=>?_),fun _ x=>x.elim,fun _ x=>x.elim,fun _ x=>x.elim⟩
    rw[Yjg,Src.Yk,Src.Yk];exact hc _ (by simp[Ty.size];omega)
   cases o with
   |sh=>exact Rep.Yh6 h hc
   |top=>exact go (by simp)
   |deep=>exact go (by simp)
 |sl e=>
  intro p o x s s' F h hn hg hc;simp only[Yap]
  split
  ·exact Rep.Yh6 h hc
  ·obtain⟨A,c,h1,h2,h3⟩:=h
   exact⟨_,(hc 0 (by simp[Ty.size])).trans h1,R,s,o,e,x,hR,hn,Yee hg,h1,_,_,_,rfl⟩
 |arr n e=>
  intro p o x s s' F h hn hg hc;simp only[Yap]
  split
  ·rename_i hp;exact Rep.pure (t:=.arr n e) hp h hc
  ·split
   ·exact Rep.Yh6 h hc
   ·trivial
theorem Yb2 (r:Nat):∀ (v:TV) (p:Path),(v.mir r p).size=v.size:=by
 intro v
 induction v with
 |pr a b iha ihb=>intro p;simp[TV.mir,TV.size,iha,ihb]
 |cl o t x=>intro p;exact Yjg r t p o x
 |_=>intro p;rfl
theorem Yf9 (hR:ρ r=some R):∀ (v:TV) (p:Path) {s s':Src} {F:Yd},Ya w M (Yi w M L ρ) v s F→nav w R.tv (L r) p=some s→R.tv.get p=some v→
  (∀ i,i<v.size→s'.cell w i=s.cell w i)→Ya w M (Yi w M L ρ) (v.mir r p) s' noB:=by
 intro v
 induction v with
 |pr a b iha ihb=>
  intro p s s' F h hn hg hc;obtain⟨F1,F2,h1,h2,_⟩:=h;obtain⟨n1,g1⟩:=Y4 p [.f1] hn hg;obtain⟨n2,g2⟩:=Y4 p [.f2] hn hg;simp only[nav,Yf,TV.get,TV.get_nil] at n1 g1 n2 g2
  refine⟨noB,noB,iha _ h1 n1 g1 (fun i hi=>hc i (by simp[TV.size];omega)),ihb _ h2 n2 g2 (fun i hi=>?_),fun _ x=>x.elim,fun _ x=>x.elim,fun _ x=>x.elim⟩
  rw[Yb2,Src.Yk,Src.Yk];exact hc _ (by simp[TV.size];omega)
 |cl o t x=>intro p s s' F h hn hg hc;exact Yqf hR t p o x h hn hg hc
 |op v=>intro p s s' F h hn hg hc;trivial
 |dead n=>intro p s s' F h hn hg hc;trivial
 |rw o e xs i v=>intro p s s' F h hn hg hc;trivial
 |_=>intro p s s' F h hn hg hc;obtain⟨u,h1,h2⟩:=h;exact⟨u,(hc 0 (by simp[TV.size])).trans h1,h2⟩
theorem Yqe (r:Nat) (t:Ty) (p:Path) (o:Ow) (x:t.El):(Yap r p o t x).isAgg=t.isAgg∨∃ n,Yap r p o t x=.dead n:=by
 cases t with
 |pair a b=>left;simp only[Yap];(split<;>first | rfl | (split<;>rfl))
 |sl e=>left;simp only[Yap];split<;>rfl
 |arr n e=>
  simp only[Yap]
  split
  ·exact .inl rfl
  ·split
   ·exact .inl rfl
   ·exact .inr ⟨_,rfl⟩
 |_=>exact .inl rfl
theorem Yib (r:Nat) (v:TV) (p:Path):(v.mir r p).isAgg=v.isAgg∨∃ n,v.mir r p=.dead n:=by
 cases v with
 |cl o t x=>exact Yqe r t p o x
 |op v=>exact .inr ⟨_,rfl⟩
 |rw o e xs i v=>exact .inr ⟨_,rfl⟩
 |_=>exact .inl rfl
theorem Ya.cells (hl:∀ v u,Lf v u→u.oneCell'=true):∀ {v:TV} {s:Src} {F:Yd},Ya w M Lf v s F→(∀ i,i<v.size→∃ u,s.cell w i=some u∧u.oneCell'=true)∨¬ v.live=true:=by
 intro v
 induction v with
 |cl o t x=>intro s F h;exact .inl (Rep.cells h)
 |pr a b iha ihb=>
  intro s F h;obtain⟨F1,F2,h1,h2,_⟩:=h;rcases iha h1 with h1 | h1
  ·rcases ihb h2 with h2 | h2
   ·refine .inl (fun i hi=>?_)
    by_cases e:i<a.size
    ·exact h1 i e
    ·obtain⟨u,h3,h4⟩:=h2 (i-a.size) (by simp[TV.size] at hi;omega)
     rw[Src.Yk,show a.size+(i-a.size)=i by omega] at h3
     exact⟨u,h3,h4⟩
   ·exact .inr (by simp[TV.live,h2])
  ·exact .inr (by simp[TV.live,h1])
 |dead n=>intro s F h;exact .inr (by simp[TV.live])
 |rw o e xs i v=>intro s F h;exact .inr (by simp[TV.live])
 |_=>
  intro s F h;obtain⟨u,h1,h2⟩:=h;refine .inl (fun i hi=>?_)
  have:i=0:=by simp[TV.size] at hi;exact hi
  subst this;exact⟨u,h1,hl _ _ h2⟩
end
section
variable {P:Program} {tb:Tb} {g:Gd} {o:Oper}
theorem VOk.Yhs (hr:Ya w M (Yi w M L ρ) v (.reg u.cells.toList 0) noB) (hs:u.cells.size=v.size)
  (ha:v.isAgg=true↔∃ cs,u=.agg cs) (hv:v.plain=true):VOk w M L ρ v u:=
 Yb.v ⟨hr,hs,ha⟩ hv
theorem Yjf (r:Nat) (t:Ty) (p:Path) (o:Ow) (x:t.El):(∃ n,Yap r p o t x=.dead n)∨(Yap r p o t x).plain=true:=by
 cases t with
 |pair a b=>right;simp only[Yap];(split<;>first | rfl | (split<;>rfl))
 |sl e=>right;simp only[Yap];split<;>rfl
 |arr n e=>
  simp only[Yap]
  split
  ·exact .inr rfl
  ·split
   ·exact .inr rfl
   ·exact .inl ⟨_,rfl⟩
 |_=>exact .inr rfl
theorem Yf8 (h:Ya w M (Yi w M L ρ) v s F) (r:Nat) (p:Path) :
  (∃ n,v.mir r p=.dead n)∨(v.mir r p).plain=true:=by
 cases v with
 |cl o t x=>exact Yjf r t p o x
 |op v=>exact .inl ⟨_,rfl⟩
 |dead n=>exact .inl ⟨_,rfl⟩
 |rw o e xs i v=>exact .inl ⟨_,rfl⟩
 |tup l=>obtain⟨u,_,h⟩:=h;exact h.elim
 |gd t b l=>obtain⟨u,_,h⟩:=h;exact h.elim
 |kb l=>obtain⟨u,_,h⟩:=h;exact h.elim
 |_=>exact .inr rfl
theorem Ytt {t:TypeId} {x:Operand} (ho:o.op=.load t x):PvS P tb g o:=by
 intro Z S C a w ht I hg b v h _;simp only[pv,ho] at h;obtain⟨vx,h1,h⟩:=RD.bind_some h;obtain⟨i,h2,h⟩:=RD.bind_some h;have hx:=Yg I hg h1;obtain⟨⟨d,hd,hdk,hda⟩,⟨j,hj,hjs,_⟩⟩:=ht t i (Yq h2)
 have hex:∀ u w',(Instr.loadAt t (a.eval x)).run P w=.ok u w'→(execOp a.eval o).run P w=.ok (.value u) w':=by
  intro u w' h;simp[execOp,ho,h]
 have h1s:d.isRow=false→j.size=1:=by
  intro hr
  have:i.ty.isAgg=false:=by
   cases hh:i.ty.isAgg with
   |false=>rfl
   |true=>rw[hda.1 hh] at hr;cases hr
  rw[hjs]
  cases hty:i.ty<;>rw[hty] at this<;>first | rfl | cases this
 cases vx with
 |loc r p=>
  have old:(Ykw r p i.ty).run S=some (b,v)→∃ u,(execOp a.eval o).run P w=.ok (.value u) w∧((∃ n,v=.dead n)∨VOk w (Mt Z C S.root noB) C.L S.root v u):=by
   intro h;unfold Ykw at h;obtain⟨tv,h3,h⟩:=RD.bind_some h;obtain⟨R,hR,hget⟩:=Ya1 h3
   split at h
   ·rename_i hlay _ hlive
    simp only[RD.run,jD,jV] at h;obtain⟨rfl,rfl⟩:=h;obtain⟨R',b,off,e1,e2,e3⟩:=(hx:Yb _ _ _ _ _ _).leaf rfl;rw[hR] at e1;cases e1
    obtain⟨F',hrep⟩:∃ F',Ya w (Mt Z C S.root noB) (Yi w (Mt Z C S.root noB) C.L S.root) tv (.mem b off) F':=by
     obtain⟨Fo,h⟩:=focus p (I.str.rep r R hR) e2 hget
     exact⟨Fo,h.2⟩
    have hsz:tv.size=j.size:=by rw[←TV.lay_size,hlay,Ty.lay_size,hjs]
    have hcells:=(hrep.cells (fun v u h=>h.one.1)).resolve_right (by simp[hlive])
    obtain⟨u,hu1,hu2,hu3,hu4⟩:=Yd4 (P:=P) (w:=w) (b:=b) (off:=off) hd hj h1s
     (fun i hi=>by obtain⟨v,hv,_⟩:=hcells i (by omega);exact⟨v,hv⟩)
     (fun hr v hv=>by
      obtain⟨v',hv',ho⟩:=hcells 0 (by rw[hsz,h1s hr];omega)
      have:v'=v:=by
       have:=hv';simp only[Src.cell,kF] at this;rw[hv] at this;exact(jN this).symm
      subst this
      rintro⟨cs,rfl⟩;cases ho)
    refine⟨u,hex u w (by rw[e3];exact hu1),?_⟩
    rcases Yf8 hrep r p with hk | hk
    ·exact .inl hk
    ·refine .inr (.Yhs ?_ (by rw[Yb2,hu2,hsz]) ?_ hk)
     ·refine Yf9 hR tv p hrep e2 hget (fun i hi=>?_)
      simp only[Src.cell,jJ]
      exact hu4 i (by omega)
     ·have hag:(tv.mir r p).isAgg=tv.isAgg:=by
       rcases Yib r tv p with e | ⟨n,e⟩
       ·exact e
       ·rw[e] at hk;cases hk
      rw[hag,Ye0 hlay (fun e=>by rw[e] at hlive;cases hlive),hda,hu3]
   ·cases h
  simp only at h
  split at h
  ·rename_i e hty
   simp only[RD.run] at h
   split at h
   ·rename_i R hR
    split at h
    ·rename_i hck
     simp only[RD.run,jD,jV] at h;obtain⟨rfl,rfl⟩:=h;obtain⟨R',b,off,e1,e2,e3⟩:=(hx:Yb _ _ _ _ _ _).leaf rfl;rw[hR] at e1;cases e1
     obtain⟨A,l,c,o1,e',xs,hcell,hgr⟩:∃ (A:Option Addr) (l c:Nat) (o1:Ow) (e':Ty) (xs:List e'.El),(Src.mem b off).cell w 0=some (.slice A l c)∧R.tv.gr p=some (.cl o1 (.sl e') xs):=by
      simp only[Chk.run] at hck
      cases hget:R.tv.get p with
      |none=>rw[hget] at hck;cases hck
      |some c0=>
       obtain⟨Fo,_,hrep⟩:=focus p (I.str.rep r R hR) e2 hget
       rw[hget] at hck
       cases c0 with
       |cl o1 t1 x1=>
        cases t1 with
        |sl e'=>obtain⟨A,c,q1,_⟩:=(hrep:Rep w _ (.sl e') o1 x1 _ _);exact⟨A,_,c,o1,e',x1,q1,Yee hget⟩
        |_=>cases o1<;>cases hck
       |rw o1 e' x1 j v1=>obtain⟨_,_,_,b1,off1,c,q1,_⟩:=hrep;exact⟨_,_,c,o1,e',x1,q1,by rw[TV.gr,hget];rfl⟩
       |_=>cases hck
     have hd':d.isRow=false:=by
      cases hh:d.isRow with
      |false=>rfl
      |true=>have:=hda.2 hh;rw[hty] at this;cases this
     have hj1:=h1s hd'
     obtain⟨u,hu1,hu2,hu3,hu4⟩:=Yd4 (P:=P) (w:=w) (b:=b) (off:=off) hd hj h1s
      (fun i hi=>by
        have:i=0:=by omega
        subst this;exact⟨_,hcell⟩)
      (fun hr v hv=>by
       have:v=.slice A l c:=by
        have:=hcell;simp only[Src.cell,kF] at this;rw[hv] at this;exact jN this
       subst this
       rintro⟨cs,e⟩;cases e)
     have hagg:¬ ∃ cs,u=.agg cs:=fun h=>by rw[hu3.2 h] at hd';cases hd'
     have hone:=Ydi hagg
     have hu:u=.slice A l c:=by
      have h0:=hu4 0 (by omega)
      rw[hone] at h0
      have h1:some u=(Src.mem b off).cell w 0:=by simpa [Src.cell] using h0
      rw[hcell] at h1;exact jN h1
     refine⟨u,hex u w (by rw[e3];exact hu1),.inr ?_⟩
     exact Yb.Yah (v:=.seg r p) ⟨R,.mem b off,o1,e',xs,hR,e2,hgr,by rw[hu];exact hcell,A,l,c,hu⟩
    ·exact old h
   ·cases h
  ·exact old h
 |pt ty y=>
  simp only at h
  split at h
  ·rename_i hlay _
   simp only[RD.run,jD,jV] at h;obtain⟨rfl,rfl⟩:=h;obtain⟨b,off,e1,e2,e3,e4⟩:=(hx:Yb _ _ _ _ _ _).leaf rfl
   have hsz:ty.size=j.size:=by rw[←Ty.lay_size,hlay,Ty.lay_size,hjs]
   have hcells:=Rep.cells e4
   obtain⟨u,hu1,hu2,hu3,hu4⟩:=Yd4 (P:=P) (w:=w) (b:=b) (off:=off) hd hj h1s
    (fun i hi=>by obtain⟨v,hv,_⟩:=hcells i (by omega);exact⟨v,hv⟩)
    (fun hr v hv=>by
     obtain⟨v',hv',ho⟩:=hcells 0 (by rw[hsz,h1s hr];omega)
     have:v'=v:=by
      have:=hv';simp only[Src.cell,kF] at this;rw[hv] at this;exact(jN this).symm
     subst this
     rintro⟨cs,rfl⟩;cases ho)
   refine⟨u,hex u w (by rw[e1];exact hu1),.inr (.Yhs (Rep.Yh6 e4 (fun i hi=>?_)) (by rw[hu2,←hsz];rfl) ?_ rfl)⟩
   ·simp only[Src.cell,jJ];exact hu4 i (by omega)
   ·have:(TV.cl .sh ty y).isAgg=i.ty.isAgg:=Ye0 hlay (by simp)
    rw[this,hda,hu3]
  ·cases h
 |_=>cases h
end
theorem Rep.mv:∀ {t:Ty} {o:Ow} {x:t.El} {s s':Src} {F:Yd},Rep w M t o x s F→(∀ i,i<t.size→s'.cell w i=s.cell w i)→Rep w M t o x s' F:=by
 intro t
 induction t with
 |int k=>intro o x s s' F h hc;exact(hc 0 (by simp[Ty.size])).trans h
 |bool=>intro o x s s' F h hc;exact(hc 0 (by simp[Ty.size])).trans h
 |str=>intro o x s s' F h hc;obtain⟨z,h1,h2⟩:=h;exact⟨z,(hc 0 (by simp[Ty.size])).trans h1,h2⟩
 |unit=>intro o x s s' F h hc;trivial
 |pair a b iha ihb=>
  intro o x s s' F h hc;obtain⟨F1,F2,h1,h2,h3⟩:=h
  refine⟨F1,F2,iha h1 (fun i hi=>hc i (by simp[Ty.size];omega)),ihb h2 (fun i hi=>?_),h3⟩
  rw[Src.Yk,Src.Yk];exact hc _ (by simp[Ty.size];omega)
 |sl e ih=>
  intro o x s s' F h hc;obtain⟨A,c,h1,h2,h3⟩:=h
  exact⟨A,c,(hc 0 (by simp[Ty.size])).trans h1,h2,h3⟩
 |arr n e ih=>
  intro o x s s' F h hc;obtain⟨h1,Fs,h2,h3⟩:=h;refine⟨h1,Fs,fun i hi=>⟨ih (h2 i hi).1 (fun j hj=>?_),(h2 i hi).2⟩,h3⟩;rw[Src.Yk,Src.Yk];refine hc _ ?_;simp only[Ty.size]
  have:=Yaw (n:=n) (sz:=e.size) (i:=i) (by omega)
  omega
theorem Ya.mv:∀ {v:TV} {s s':Src} {F:Yd},Ya w M Lf v s F→(∀ i,i<v.size→s'.cell w i=s.cell w i)→Ya w M Lf v s' F:=by
 intro v
 induction v with
 |cl o t x=>intro s s' F h hc;exact Rep.mv h hc
 |pr a b iha ihb=>
  intro s s' F h hc;obtain⟨F1,F2,h1,h2,h3⟩:=h
  refine⟨F1,F2,iha h1 (fun i hi=>hc i (by simp[TV.size];omega)),ihb h2 (fun i hi=>?_),h3⟩
  rw[Src.Yk,Src.Yk];exact hc _ (by simp[TV.size];omega)
 |dead n=>intro s s' F h hc;trivial
 |rw o e xs i v ih=>
  intro s s' F h hc;obtain⟨h1,h2,h3,b,off,c,h4,h5⟩:=h
  exact⟨h1,h2,h3,b,off,c,(hc 0 (by simp[TV.size])).trans h4,h5⟩
 |_=>intro s s' F h hc;obtain⟨u,h1,h2⟩:=h;exact⟨u,(hc 0 (by simp[TV.size])).trans h1,h2⟩
theorem Yix:∀ (f:Nat) {v:TV} {k:Nat} (s:Src),v.Ycc f=some k→nav w v s (Yai f)=some (s.sh k):=by
 intro f
 induction f with
 |zero=>
  intro v k s h
  cases v with
  |pr a b=>simp only[TV.Ycc,jD] at h;subst h;simp only[Yai,nav,Yf,Src.Ydb]
  |cl o t x=>
   cases t with
   |pair a b=>simp only[TV.Ycc,jD] at h;subst h;simp only[Yai,nav,Yf,Src.Ydb]
   |_=>cases h
  |_=>cases h
 |succ f ih=>
  intro v k s h
  cases v with
  |pr a b=>
   simp only[TV.Ycc] at h
   split at h
   ·rename_i k' hk
    cases h;simp only[Yai,nav];rw[ih (s.sh a.size) hk,Src.Ygo]
   ·cases h
  |cl o t x=>
   cases t with
   |pair a b=>
    simp only[TV.Ycc] at h
    split at h
    ·rename_i k' hk
     cases h;simp only[Yai,nav];rw[ih (s.sh a.size) hk,Src.Ygo]
    ·cases h
   |_=>cases h
  |_=>cases h
theorem Ylu:∀ (f:Nat) {o o':Ow} {t u:Ty} {x:t.El} {y:u.El},(TV.cl o t x).get (Yai f)=some (.cl o' u y)→o'=o:=by
 intro f
 induction f with
 |zero=>
  intro o o' t u x y h
  cases t with
  |pair a b=>simp only[Yai,TV.get,TV.get_nil] at h;cases h;rfl
  |_=>cases h
 |succ f ih=>intro o o' t u x y h;cases t<;>simp only[Yai,TV.get] at h<;>first | cases h | exact ih h
theorem Yj6:∀ (f:Nat) {v u:TV} {t:Ty},v.lay=t.lay→v.get (Yai f)=some u→u.lay=(Y7 t f).lay:=by
 intro f
 induction f with
 |zero=>
  intro v u t hl h
  cases v with
  |pr a b=>
   simp only[Yai,TV.get,TV.get_nil,jD] at h;subst h
   cases t<;>simp only[TV.lay,Ty.lay] at hl<;>first | cases hl | (simp only[Lay.pair.injEq] at hl;exact hl.1)
  |cl o t' x=>
   cases t' with
   |pair a b=>
    simp only[Yai,TV.get,TV.get_nil,jD] at h;subst h
    cases t<;>simp only[TV.lay,Ty.lay] at hl<;>first | cases hl | (simp only[Lay.pair.injEq] at hl;exact hl.1)
   |_=>cases h
  |_=>cases h
 |succ f ih=>
  intro v u t hl h
  cases v with
  |pr a b=>
   simp only[Yai,TV.get] at h
   cases t<;>simp only[TV.lay,Ty.lay] at hl<;>first | cases hl | (simp only[Lay.pair.injEq] at hl;exact ih hl.2 h)
  |cl o t' x=>
   cases t'<;>simp only[Yai,TV.get] at h<;>first | cases h | skip
   cases t<;>simp only[TV.lay,Ty.lay] at hl<;>first | cases hl | (simp only[Lay.pair.injEq] at hl;exact ih (v:=TV.cl o _ x.2) hl.2 h)
  |_=>cases h
section
variable {P:Program} {tb:Tb} {g:Gd} {o:Oper}
theorem Yjx (h:DOk P (.st offs) t d) (hb:offs[f]? = some b) :
  ∃ fs:Array Field,∃ fd j de,d=.struct fs∧fs[f]? = some fd∧fd.offset=b∧P.info? fd.type=some j∧j.size≠0∧j.size=(Y7 t f).size∧P.underlying fd.type=some de∧((Y7 t f).isAgg=true↔de.isRow=true):=by
 obtain⟨fs,h1,h2,h3,h4⟩:=h
 have:(fs.map (·.offset))[f]? = some b:=by rw[←hb,←h3,Array.getElem?_toList]
 rw[Array.getElem?_map] at this
 cases hf:fs[f]? with
 |none=>rw[hf] at this;cases this
 |some fd=>
  rw[hf] at this;simp only[jT,jD] at this;obtain⟨j,de,q⟩:=h4 f fd hf;exact⟨fs,fd,j,de,h1,hf,this,q⟩
theorem Yhw (hd:P.underlying t=some (.struct fs)) (hf:fs[f]? = some fd) (hj:P.info? fd.type=some j) (hz:j.size≠0) :
  (Instr.fieldAt t (.pointer (some ⟨b,off,none⟩)) f).run P w=.ok (.pointer (some ⟨b,off+fd.offset,none⟩)) w:=by
 simp[Instr.fieldAt,run_underlying hd,hf,Instr.sureAddr,fieldPlace,Y3 hj,hz,Addr.add_mid]
theorem Ymb (ho:o.op=.fieldAddr t x f):PvS P tb g o:=by
 intro Z S C a w ht I hg b v h _;simp only[pv,ho] at h;replace h:=RD.bind_some h;obtain⟨vx,h1,h⟩:=h;replace h:=RD.bind_some h;obtain⟨i,h2,h⟩:=h;have hx:=Yg I hg h1;obtain⟨⟨d,hd,hdk,hda⟩,_⟩:=ht t i (Yq h2)
 split at h
 ·rename_i offs hoffs
  rw[hoffs] at hdk
  split at h
  ·rename_i r p
   split at h
   ·rename_i aa hob
    simp only[RD.run] at h
    split at h
    ·rename_i R hR
     have hck:(Chk.Ycc p f aa).run R.tv=true∧(b,v)=(none,TV.loc r (p++Yai f)):=by
      split at h
      ·rename_i hck;simp only[RD.run,jD] at h;exact⟨hck,h.symm⟩
      ·cases h
     obtain⟨hck,hbv⟩:=hck;cases hbv
     obtain⟨tv,hget,hfo⟩:∃ tv,R.tv.get p=some tv∧tv.Ycc f=some aa:=by
      simp only[Chk.run] at hck
      split at hck
      ·rename_i tv hget
       split at hck
       ·rename_i a' hfo;exact⟨tv,hget,by rw[hfo,show a'=aa by simpa using hck]⟩
       ·cases hck
      ·cases hck
     obtain⟨fs,fd,j,de,e1,e2,e3,e4,e5,_⟩:=Yjx hdk hob;subst e1;obtain⟨R',b0,off,q1,q2,q3⟩:=(hx:Yb _ _ _ _ _ _).leaf rfl;rw[hR] at q1;cases q1
     refine⟨_,by simp only[execOp,ho,Sem.run_bind];rw[q3,Yhw hd e2 e4 e5];rfl,.inr ?_⟩
     refine Yb.Yah (v:=.loc r (p++Yai f)) ⟨R,b0,off+fd.offset,hR,?_,rfl⟩;rw[(Y4 p (Yai f) q2 hget).1,Yix f _ hfo,e3];rfl
    ·cases h
   ·cases h
  ·rename_i u y
   split at h
   ·rename_i aa bb o' u' y' hfo hob hget
    split at h
    ·rename_i hbeq
     cases h
     have:aa=bb:=by simpa using hbeq
     subst this;obtain⟨fs,fd,j,de,e1,e2,e3,e4,e5,_⟩:=Yjx hdk hob;subst e1;obtain⟨b0,off,q1,q2,q3,q4⟩:=(hx:Yb _ _ _ _ _ _).leaf rfl
     refine⟨_,by simp only[execOp,ho,Sem.run_bind];rw[q1,Yhw hd e2 e4 e5];rfl,.inr ?_⟩
     have hsh:=Ylu f hget;subst hsh
     obtain⟨F',_,hr⟩:=focus (Lf:=fun _ _=>True) (Yai f) (tv:=.cl .sh u y) q4 (Yix f _ hfo) hget
     have hr':Rep w (Mt Z C S.root noB) u' .sh y' (Src.sh (.mem b0 off) aa) F':=hr
     exact Yb.Yah (v:=.pt u' y') ⟨b0,off+fd.offset,rfl,q2,q3,by rw[e3];exact Rep.Yh6 hr' (fun _ _=>rfl)⟩
    ·cases h
   ·cases h
  ·cases h
 ·cases h
theorem Yng (ho:o.op=.nilCheck x):PvS P tb g o:=by
 intro Z S C a w ht I hg b v h _;simp only[pv,ho] at h;replace h:=RD.bind_some h;obtain⟨vx,h1,h⟩:=h;have hx:=Yg I hg h1
 cases vx<;>simp only[RD.run] at h<;>first | cases h | skip
 ·obtain⟨R',b0,off,q1,q2,q3⟩:=(hx:Yb _ _ _ _ _ _).leaf rfl
  exact⟨a.eval x,by simp only[execOp,ho];rw[q3];rfl,.inr hx⟩
 ·obtain⟨b0,off,q1,_⟩:=(hx:Yb _ _ _ _ _ _).leaf rfl
  exact⟨a.eval x,by simp only[execOp,ho];rw[q1];rfl,.inr hx⟩
 ·obtain⟨caps,q1,_⟩:=(hx:Yb _ _ _ _ _ _).leaf rfl
  exact⟨a.eval x,by simp only[execOp,ho];rw[q1];rfl,.inr hx⟩
theorem Yfw.get:∀ (i:Nat) {l u:TV} {vs:List Value},Yfw w M L ρ l vs→l.get (Yai i)=some u→
  ∃ v,vs[i]? = some v∧((∃ n,u=.dead n)∨VOk w M L ρ u v):=by
 intro i
 induction i with
 |zero=>
  intro l u vs h hg
  cases l with
  |pr a b=>
   cases vs with
   |nil=>exact h.elim
   |cons v vs=>
    simp only[Yai,TV.get,TV.get_nil,jD] at hg;subst hg;refine⟨v,rfl,?_⟩;rcases h.1 with e | e
    ·exact .inl ⟨_,e⟩
    ·cases a<;>first | exact .inr e | exact .inl ⟨_,rfl⟩ | exact absurd e.1.choose_spec.2 (fun x=>x.elim)
  |cl o t x=>
   cases t<;>simp only[Yai,TV.get] at hg<;>first | cases hg | skip
   cases vs<;>exact h.elim
  |_=>cases hg
 |succ i ih=>
  intro l u vs h hg
  cases l with
  |pr a b=>
   cases vs with
   |nil=>exact h.elim
   |cons v vs=>simp only[Yai,TV.get] at hg;exact ih h.2 hg
  |cl o t x=>
   cases t<;>simp only[Yai,TV.get] at hg<;>first | cases hg | skip
   cases vs<;>exact h.elim
  |_=>cases hg
theorem Yox (ho:o.op=.extract x i):PvS P tb g o:=by
 intro Z S C a w ht I hg b v h _;simp only[pv,ho] at h;replace h:=RD.bind_some h;obtain⟨vx,h1,h⟩:=h;have hx:=Yg I hg h1
 cases vx with
 |tup l=>
  simp only at h;obtain⟨vs,q1,q2⟩:=hx
  split at h
  ·rename_i u hu
   cases h;obtain⟨v',e1,e2⟩:=q2.get i hu;refine⟨v',?_,e2⟩;rw[Array.getElem?_toList] at e1;simp only[execOp,ho,q1,Instr.extract,Sem.run_bind,e1];rfl
  ·cases h
 |_=>cases h
theorem Ytw (ho:o.op=.unOp op t x):PvS P tb g o:=by
 intro Z S C a w ht I hg b v h _;simp only[pv,ho] at h;replace h:=RD.bind_some h;obtain⟨vx,h1,h⟩:=h;have hx:=Yg I hg h1
 split at h
 ·rename_i o' b'
  cases h;have hx:=(hx:Yb _ _ _ _ _ _).bool
  exact⟨.bool (!b'),by simp[execOp,ho,hx,Op.unary],.inr (.Ybr _ _)⟩
 ·rename_i o' k n
  cases h;have hx:=(hx:Yb _ _ _ _ _ _).int;refine⟨.int k (k.wrap (0-n)),?_,.inr (.Yb3 _ _ _)⟩;simp[execOp,ho,hx,Op.unary,Op.intArith]
 ·cases h
end
section
variable {P:Program} {tb:Tb} {g:Gd} {o:Oper}
theorem Yrw:∀ x y,leB x y=Op.bytesLess x y
 |_,[]=>by simp[leB,Op.bytesLess]
 |[],_::_=>rfl
 |a::x,b::y=>by simp[leB,Op.bytesLess,Yrw x y]
theorem Ytv (ho:o.op=.pick c x y):PvS P tb g o:=by
 intro Z S C a w ht I hg b v h _;simp only[pv,ho] at h
 cases c with
 |tmp u=>
  simp only[RD.run] at h
  split at h
  ·rename_i vc hvc
   have hI:=I.tm u vc hvc
   have go:∀ t:Bool,a.tmps.getD u undef=.bool t→∀ r:Value,(execOp a.eval o).run P w=.ok (.value (if t then a.eval x else a.eval y)) w:=by
    intro t ht _;have:a.eval (.tmp u)=.bool t:=ht;simp[execOp,ho,this,asBool]
   split at h
   ·have hb:a.tmps.getD u undef=.bool true:=hI
    replace h:=RD.bind_some h;obtain⟨vx,h1,h⟩:=h;cases h;exact⟨_,go true hb undef,.inr (Yg I (hg.cons hb) h1)⟩
   ·have hb:a.tmps.getD u undef=.bool false:=hI
    replace h:=RD.bind_some h;obtain⟨vx,h1,h⟩:=h;cases h;exact⟨_,go false hb undef,.inr (Yg I (hg.cons hb) h1)⟩
   ·replace h:=RD.bind_some h;obtain⟨vc',hc,h⟩:=h
    have hcs:=Yg I hg hc
    split at h
    ·rename_i o' t
     have hb:a.tmps.getD u undef=.bool t:=(hcs:Yb _ _ _ _ _ _).bool;replace h:=RD.bind_some h;obtain⟨va,h1,h⟩:=h;replace h:=RD.bind_some h;obtain⟨vb,h2,h⟩:=h;refine⟨_,go t hb undef,.inr ?_⟩
     cases t with
     |true=>
      have hv:=Yg I (hg.cons hb) h1
      split at h
      ·cases h;rw[(hv:Yb _ _ _ _ _ _).bool];exact .Ybr _ _
      ·split at h
       ·rename_i hk _;subst hk;cases h;rw[(hv:Yb _ _ _ _ _ _).int];exact .Yb3 _ _ _
       ·cases h
      ·cases h
     |false=>
      have hv:=Yg I (hg.cons hb) h2
      split at h
      ·cases h;simp only[Bool.false_eq_true,if_false];rw[(hv:Yb _ _ _ _ _ _).bool];exact .Ybr _ _
      ·split at h
       ·rename_i hk _;subst hk;cases h;simp only[Bool.false_eq_true,if_false];rw[(hv:Yb _ _ _ _ _ _).int];exact .Yb3 _ _ _
       ·cases h
      ·cases h
    ·cases h
  ·cases h
 |_=>cases h
theorem Ynf (ho:o.op=.makeFunc fn first cap):PvS P tb g o:=by
 intro Z S C a w ht I hg b v h _;simp only[pv,ho] at h
 cases fn with
 |func f=>
  simp only at h
  split at h
  ·rename_i hf
   have hf0:first=#[]:=by cases first;simp at hf;rw[hf]
   subst hf0;replace h:=RD.bind_some h;obtain⟨c,h1,h⟩:=h;cases h
   refine⟨_,by simp[execOp,ho,Instr.makeFunc];rfl,.inr (Yb.Yah (v:=.clo f c) ⟨_,rfl,?_⟩)⟩
   rw[Array.toList_map];generalize cap.toList=l at h1;clear ho
   induction l generalizing c with
   |nil=>simp only[pv.caps] at h1;cases h1;trivial
   |cons x l ih=>
    simp only[pv.caps] at h1;replace h1:=RD.bind_some h1;obtain⟨v,h2,h1⟩:=h1;have hv:=Yg I hg h2
    split at h1
    ·replace h1:=RD.bind_some h1;obtain⟨c',h3,h1⟩:=h1
     cases h1;exact⟨(hv:Yb _ _ _ _ _ _).leaf rfl,ih c' h3⟩
    ·replace h1:=RD.bind_some h1;obtain⟨c',h3,h1⟩:=h1
     cases h1;exact⟨(hv:Yb _ _ _ _ _ _).leaf rfl,ih c' h3⟩
    ·cases h1
  ·cases h
 |_=>cases h
theorem Ybz {S:St} {v:TV} {e:Ty} {xs:List e.El} {o:Ow} (h:(els v).run S=some (.mk e xs o)) :
  (∃ o',v=.cl o' (.sl e) xs∧o=.sh)∨(∃ r p R,v=.seg r p∧S.root r=some R∧R.tv.get p=some (.cl o (.sl e) xs))∨
  (∃ r p lo n R,∃ ys:List e.El,v=.sub r p lo n∧S.root r=some R∧R.tv.get p=some (.cl o (.sl e) ys)∧xs=(ys.drop lo).take n):=by
 cases v with
 |cl o' t x=>
  cases t with
  |sl e'=>cases h;exact .inl ⟨_,rfl,rfl⟩
  |_=>cases h
 |seg r p=>
  simp only[els] at h;replace h:=RD.bind_some h;obtain⟨v,h1,h⟩:=h;obtain⟨R,hR,hg⟩:=Ya1 h1
  cases v with
  |cl o' t x=>
   cases t with
   |sl e'=>cases h;exact .inr (.inl ⟨r,p,R,rfl,hR,hg⟩)
   |_=>cases h
  |_=>cases h
 |sub r p lo n=>
  simp only[els] at h;replace h:=RD.bind_some h;obtain⟨v,h1,h⟩:=h;obtain⟨R,hR,hg⟩:=Ya1 h1
  cases v with
  |cl o' t x=>
   cases t with
   |sl e'=>cases h;exact .inr (.inr ⟨r,p,lo,n,R,x,rfl,hR,hg,rfl⟩)
   |_=>cases h
  |_=>cases h
 |_=>cases h
variable {Z:W0} {S:St} {C:Cx} {a:Act} {w:World}
theorem Yb.sl {M:Yd} {L:Nat→Src} {ρ:Yc} {o:Ow} {e:Ty} {xs:List e.El} {u:Value} (h:Yb w M L ρ (.cl o (.sl e) xs) u):∃ A c,u=.slice A xs.length c:=by
 have h1:=h.cell0 rfl;obtain⟨A,c,h2,_⟩:=h.1;rw[h1] at h2;cases h2;exact⟨A,c,rfl⟩
theorem Yda (I:Inv Z S C a w) {r:Nat} {p:Path} {R:Root} {o:Ow} {e:Ty} {xs:List e.El} {u:Value} (h:Yi w (Mt Z C S.root noB) C.L S.root (.seg r p) u)
  (hR:S.root r=some R) (hg:R.tv.get p=some (.cl o (.sl e) xs)) :
  ∃ s A c F,nav w R.tv (C.L r) p=some s∧s.cell w 0=some (.slice A xs.length c)∧u=.slice A xs.length c∧Ye F (C.F r)∧Rep w (Mt Z C S.root noB) (.sl e) o xs s F:=by
 obtain⟨R',s,o',e',xs',h1,h2,h3,h4,_⟩:=h;rw[hR] at h1;cases h1
 obtain⟨F,hF,hr⟩:=focus p (I.str.rep r R hR) h2 hg
 obtain⟨A,c,q1,q2,q3⟩:=id (hr:Rep w _ (.sl e) o xs s F);rw[q1] at h4;cases h4;exact⟨s,A,c,F,h2,q1,rfl,hF,hr⟩
theorem Yem (I:Inv Z S C a w) (hv:VOk w (Mt Z C S.root noB) C.L S.root v u) (h:(lenOf v).run S=some n) (hs:∀ o x,v≠.cl o .str x):∃ A c,u=.slice A n c:=by
 have viaEls:∀ v,((els v).bind fun | .mk _ xs _=>.ret xs.length).run S=some n→VOk w (Mt Z C S.root noB) C.L S.root v u→(∀ r p lo n,v≠.sub r p lo n)→∃ A c,u=.slice A n c:=by
  intro v h hv hns;replace h:=RD.bind_some h;obtain⟨⟨e,xs,o⟩,h1,h⟩:=h;cases h;rcases Ybz h1 with ⟨o',rfl,rfl⟩ | ⟨r,p,R,rfl,hR,hg⟩ | ⟨r,p,lo,n,R,ys,rfl,_⟩
  ·exact(hv:Yb _ _ _ _ _ _).sl
  ·obtain⟨s,A,c,F,_,_,e1,_⟩:=Yda I ((hv:Yb _ _ _ _ _ _).leaf rfl) hR hg
   exact⟨A,c,e1⟩
  ·exact absurd rfl (hns r p lo n)
 cases v with
 |nl=>simp only[lenOf,RD.run] at h;cases h;obtain⟨A,e⟩:=(hv:Yb _ _ _ _ _ _).leaf rfl;exact⟨A,0,e⟩
 |sub r p lo n'=>
  simp only[lenOf,RD.run] at h;cases h
  obtain⟨_,_,_,_,_,_,_,_,A',c',_,_,_,_,e,_⟩:=(hv:Yb _ _ _ _ _ _).leaf rfl;exact⟨A',c',e⟩
 |cl o t x=>
  cases t with
  |str=>exact absurd rfl (hs o x)
  |_=>exact viaEls _ h hv (fun _ _ _ _=>by simp)
 |seg r p=>exact viaEls _ h hv (fun _ _ _ _=>by simp)
 |_=>cases h
theorem Yu7 (ho:o.op=.call ⟨.builtin .len,args,ats⟩):PvS P tb g o:=by
 intro Z S C a w ht I hg b v h _;simp only[pv,ho] at h
 split at h
 ·rename_i x t ts hargs hats
  replace h:=RD.bind_some h;obtain⟨vx,h1,h⟩:=h;replace h:=RD.bind_some h;obtain⟨i,h2,h⟩:=h;have hx:=Yg I hg h1;obtain⟨⟨d,hd,hdk,hda⟩,_⟩:=ht t i (Yq h2)
  have ha:args=#[x]:=by cases args;simp at hargs;rw[hargs]
  have hat:ats[0]? = some t:=by rw[←Array.getElem?_toList,hats];rfl
  subst ha
  have ex:∀ u,(Builtin.len_ ats o.type #[a.eval x]).run P w=.ok u w→(execOp a.eval o).run P w=.ok (.value u) w:=by
   intro u hu;simp[execOp,ho,resolve,invoke,builtin,hu]
  split at h
  ·have hid:i.d=.str:=by assumption
   cases h;rw[hid] at hdk;obtain⟨z,e1,e2⟩:=(hx:Yb _ _ _ _ _ _).str;obtain⟨rfl,_⟩:=hdk
   refine⟨.int .i64 (z.size:Int),ex _ (by simp[Builtin.len_,hat,e1,run_underlying hd,goInt]),.inr ?_⟩
   rw[←e2]
   have:(z.data.toList.length:Int)=z.size:=by simp
   rw[this];exact .Yb3 _ _ _
  ·cases h
  ·cases h
  ·rename_i hid hns
   rw[hid] at hdk;obtain⟨rfl,_⟩:=hdk;replace h:=RD.bind_some h;obtain⟨n,h3,h⟩:=h;cases h;obtain⟨A,c,e1⟩:=Yem I hx h3 (fun o x e=>hns o x e)
   exact⟨.int .i64 n,ex _ (by simp[Builtin.len_,hat,e1,run_underlying hd,goInt]),.inr (.Yb3 _ _ _)⟩
  ·cases h
 ·cases h
theorem Yu9 (ho:o.op=.call ⟨.builtin .min,args,ats⟩):PvS P tb g o:=by
 intro Z S C a w ht I hg b v h _;simp only[pv,ho] at h
 split at h
 ·rename_i x y hargs
  replace h:=RD.bind_some h;obtain⟨vx,h1,h⟩:=h;replace h:=RD.bind_some h;obtain⟨vy,h2,h⟩:=h;have hx:=Yg I hg h1;have hy:=Yg I hg h2
  have ha:args=#[x,y]:=by cases args;simp at hargs;rw[hargs]
  subst ha
  split at h
  ·rename_i o' k m o'' k' n
   cases h;have e1:=(hx:Yb _ _ _ _ _ _).int;have e2:=(hy:Yb _ _ _ _ _ _).int
   refine⟨.int k (if n<m then n else m),?_,.inr ?_⟩
   ·simp[execOp,ho,resolve,invoke,builtin,Builtin.min_,e1,e2,Builtin.min2]
   ·rw[show(if n<m then n else m)=cond (decide (n<m)) n m by by_cases h:n<m<;>simp[h]];exact .Yb3 _ _ _
  ·cases h
 ·cases h
theorem Yu8 (ho:o.op=.call ⟨.builtin .max,args,ats⟩):PvS P tb g o:=by
 intro Z S C a w ht I hg b v h _;simp only[pv,ho] at h
 split at h
 ·rename_i x y hargs
  replace h:=RD.bind_some h;obtain⟨vx,h1,h⟩:=h;replace h:=RD.bind_some h;obtain⟨vy,h2,h⟩:=h;have hx:=Yg I hg h1;have hy:=Yg I hg h2
  have ha:args=#[x,y]:=by cases args;simp at hargs;rw[hargs]
  subst ha
  split at h
  ·rename_i o' k m o'' k' n
   cases h;have e1:=(hx:Yb _ _ _ _ _ _).int;have e2:=(hy:Yb _ _ _ _ _ _).int
   refine⟨.int k (if n>m then n else m),?_,.inr ?_⟩
   ·simp[execOp,ho,resolve,invoke,builtin,Builtin.max_,e1,e2,Builtin.max2]
   ·rw[show(if n>m then n else m)=cond (decide (n>m)) n m by by_cases h:n>m<;>simp[h]];exact .Yb3 _ _ _
  ·cases h
 ·cases h
end
section
variable {P:Program} {tb:Tb} {g:Gd} {o:Oper}
def Ysw (P:Program) (op:BinOp) (t:TypeId) (x y:Operand) (va vb:TV):Prop:=∀ (w:World) (M:Yd) (L:Nat→Src) (ρ:Yc) (a:Act) (S:St) (b:Option Bool) (v:TV) (o:Oper),
 VOk w M L ρ va (a.eval x)→VOk w M L ρ vb (a.eval y)→(bin op va vb).run S=some (b,v)→b≠some false→
 ∃ u,(do eqGuard op t x y (a.eval x) (a.eval y);binOp op t (a.eval x) (a.eval y):Sem Value).run P w=.ok u w∧VOk w M L ρ v u
theorem Ysz (op:BinOp) (t:TypeId) (x y:Operand) (ox oy:Ow) (kx ky:IntKind) (m n:Int):Ysw P op t x y (.cl ox (.int kx) m) (.cl oy (.int ky) n):=by
 intro w M L ρ a S b v o' hx hy h hb;have e1:=(hx:Yb _ _ _ _ _ _).int;have e2:=(hy:Yb _ _ _ _ _ _).int
 have gd:(eqGuard op t x y (.int kx m) (.int ky n)).run P w=.ok () w:=by
  unfold eqGuard;split<;>rfl
 rw[e1,e2];simp only[Sem.run_bind,gd,Result.andThen_ok]
 cases op<;>simp only[bin] at h
 case shl=>
  cases h
  have:0≤n:=by
   rcases Int.lt_or_le n 0 with h | h
   ·exact absurd (by simp;exact h) hb
   ·exact h
  refine⟨_,?_,.Yb3 _ _ _⟩
  simp[binOp,Op.shift,show ¬ n<0 by omega]
 case shr=>
  cases h
  have:0≤n:=by
   rcases Int.lt_or_le n 0 with h | h
   ·exact absurd (by simp;exact h) hb
   ·exact h
  refine⟨_,?_,.Yb3 _ _ _⟩
  simp[binOp,Op.shift,show ¬ n<0 by omega]
 all_goals (
  split at h
  ·rename_i hk _
   subst hk;simp only[Yvm,RD.run] at h
   first
   |(cases h;done)
   |(cases h;refine⟨_,?_,.Yb3 _ _ _⟩;simp[binOp,Op.intArith];done)
   |(cases h;refine⟨_,?_,.Ybr _ _⟩;simp[binOp,Op.intCmp];done)
   |(cases h
     have hn:n≠0:=by
      rintro rfl;exact hb rfl
     refine⟨_,?_,.Yb3 _ _ _⟩;simp[binOp,Op.intDiv,hn];done)
  ·cases h)
theorem Ys0 (op:BinOp) (t:TypeId) (x y:Operand) (ox oy:Ow) (l m:List UInt8):Ysw P op t x y (.cl ox .str l) (.cl oy .str m):=by
 intro w M L ρ a S b v o' hx hy h hb;obtain⟨z1,e1,f1⟩:=(hx:Yb _ _ _ _ _ _).str;obtain⟨z2,e2,f2⟩:=(hy:Yb _ _ _ _ _ _).str
 have gd:(eqGuard op t x y (.string z1) (.string z2)).run P w=.ok () w:=by
  unfold eqGuard;split<;>rfl
 rw[e1,e2];simp only[Sem.run_bind,gd,Result.andThen_ok]
 have t1:z1.toList=l:=by rw[ByteArray.toList_eq,f1]
 have t2:z2.toList=m:=by rw[ByteArray.toList_eq,f2]
 cases op<;>simp only[bin,Yvn] at h
 case add=>
  cases h
  have hl:l.length+m.length≤2147483648:=by
   rcases kG 2147483648 (l.length+m.length) with h | h
   ·exact absurd (by simp;exact h) hb
   ·exact h
  have s1:z1.size=l.length:=by rw[←f1];simp
  have s2:z2.size=m.length:=by rw[←f2];simp
  have hm:IntKind.i64.max=9223372036854775807:=by decide
  refine⟨.string (z1++z2),?_,?_⟩
  ·have:¬ (((z1.size+z2.size:Nat):Int)>IntKind.i64.max):=by rw[hm,s1,s2];omega
   simp[binOp,Op.stringOp];omega
  ·have:l++m=(z1++z2).data.toList:=by rw[ByteArray.data_append,Array.toList_append,f1,f2]
   rw[this];exact .Ym9 _ _
 all_goals first
  |(cases h;done)
  |(cases h;refine⟨_,?_,.Ybr _ _⟩;simp[binOp,Op.stringOp,t1,t2,Yrw])
theorem Yq5 (op:BinOp) (t:TypeId) (x y:Operand) (ox oy:Ow) (l m:Bool) (ht:P.underlying t=some .bool):Ysw P op t x y (.cl ox .bool l) (.cl oy .bool m):=by
 intro w M L ρ a S b v o' hx hy h hb;have e1:=(hx:Yb _ _ _ _ _ _).bool;have e2:=(hy:Yb _ _ _ _ _ _).bool
 have gd:(eqGuard op t x y (.bool l) (.bool m)).run P w=.ok () w:=by
  unfold eqGuard;split<;>rfl
 rw[e1,e2];simp only[Sem.run_bind,gd,Result.andThen_ok];have he:(Op.equal t (.bool l) (.bool m)).run P w=.ok (l == m) w:=run_equalIn_bool' w 9999 t l m ht
 cases op<;>simp only[bin] at h
 case eql=>
  cases h;refine⟨_,?_,.Ybr _ _⟩
  show(do pure (.bool (← Op.equal t (.bool l) (.bool m))):Sem Value).run P w=_
  simp only[Sem.run_bind,he,Result.andThen_ok];rfl
 case neq=>
  cases h;refine⟨_,?_,.Ybr _ _⟩
  show(do pure (.bool (!(← Op.equal t (.bool l) (.bool m)))):Sem Value).run P w=_
  simp only[Sem.run_bind,he,Result.andThen_ok];rfl
 all_goals cases h
theorem Ycj (h:P.underlying t=some d) (hd:d.isRow=false) (hc:cs[off]? = some v):(part t cs off).run P w=.ok v w:=by
 simp only[part,isAgg,Sem.run_bind,run_underlying h,Result.andThen_ok]
 cases d<;>simp[hc,TypeDesc.isRow] at hd ⊢
theorem Yds {w:World} {xs:Array Value} {k:Nat} {v:Value} (h:(Src.reg xs.toList k).cell w 0=some v):xs[k]? = some v:=by
 have:xs.toList[k+0]? = some v:=h
 simpa using this
theorem Ymu (w:World) (d:Nat):∀ (t:Ty) (k:Nat) (fs:List Field),Yiw t=true→Yia P t k fs=true→∀ (x y:t.El) (xs ys:Array Value) (M1 M2 F1 F2:Yd) (o1 o2:Ow),
  Rep w M1 t o1 x (.reg xs.toList k) F1→Rep w M2 t o2 y (.reg ys.toList k) F2→(Op.eqFields (d+1) xs ys fs).run P w=.ok (eqV t t x y) w:=by
 intro t
 induction t with
 |unit=>
  intro k fs hf h x y xs ys M1 M2 F1 F2 o1 o2 h1 h2
  cases fs with
  |nil=>rfl
  |cons f fs=>cases h
 |pair a b iha ihb=>
  intro k fs hf h x y xs ys M1 M2 F1 F2 o1 o2 h1 h2
  cases fs with
  |nil=>cases h
  |cons f fs=>
   simp only[Yiw,jC] at hf;simp only[Yia,jC] at h;obtain⟨p1,p2,r1,r2,_⟩:=h1;obtain⟨q1,q2,s1,s2,_⟩:=h2
   have hs:a.size=1:=by cases a<;>first | rfl | (simp[Yua] at hf)
   have r2':Rep w M1 b o1 x.2 (.reg xs.toList (k+1)) p2:=by rw[hs] at r2;exact r2
   have s2':Rep w M2 b o2 y.2 (.reg ys.toList (k+1)) q2:=by rw[hs] at s2;exact s2
   have ih:=ihb (k+1) fs hf.2 h.2 x.2 y.2 xs ys M1 M2 p2 q2 o1 o2 r2' s2';have hfl:=h.1;simp only[Yv0,jC,Bool.not_eq_true',beq_eq_false_iff_ne,Nat.beq_eq] at hfl;obtain⟨hn,ho,hl⟩:=hfl
   have key:∃ u v,(part f.type xs f.offset).run P w=.ok u w∧(part f.type ys f.offset).run P w=.ok v w∧(Op.equalIn (d+1) f.type u v).run P w=.ok (eqV a a x.1 y.1) w:=by
    rw[ho]
    split at hl
    ·rename_i l m hu
     rw[jI] at hl;subst hl;exact⟨_,_,Ycj hu rfl (Yds r1),Ycj hu rfl (Yds s1),run_equalIn_int w d f.type _ l _ _ hu⟩
    ·rename_i hu
     exact⟨_,_,Ycj hu rfl (Yds r1),Ycj hu rfl (Yds s1),run_equalIn_bool' w d f.type _ _ hu⟩
    ·rename_i hu
     obtain⟨z1,t1,t2⟩:=r1;obtain⟨z2,t3,t4⟩:=s1;refine⟨_,_,Ycj hu rfl (Yds t1),Ycj hu rfl (Yds t3),?_⟩;rw[run_equalIn_string w d f.type z1 z2 hu];show Result.ok (z1.toList == z2.toList) w=.ok (Yvv _ _) w;rw[ByteArray.toList_eq,ByteArray.toList_eq,t2,t4];rfl
    ·cases hl
   obtain⟨u,v,k1,k2,k3⟩:=key;simp only[Op.eqFields,jL hn,Sem.run_bind,k1,k2,k3,Result.andThen_ok,Sem.run_ite,ih,Sem.run_pure,eqV]
   cases eqV a a x.1 y.1<;>rfl
 |_=>intro k fs hf;cases hf
theorem Yq6 (op:BinOp) (t:TypeId) (x y:Operand) (ht:Yaf P tb) (hi:lk t tb=some i) (hd:i.d=.st offs) (hff:(Yiw i.ty&&Nat.beq i.bytes 0)=true)
  (hx:Yb w M L ρ (.cl ox i.ty l) ux) (hy:Yb w M L ρ (.cl oy i.ty m) uy) (h:(Yuo op (eqV i.ty i.ty l m)).run S=some (b,v)) :
  ∃ u,(do eqGuard op t x y ux uy;binOp op t ux uy:Sem Value).run P w=.ok u w∧VOk w M L ρ v u:=by
 have hf:Yiw i.ty=true:=by simp only[jC] at hff;exact hff.1
 obtain⟨⟨d,hu,hdk,_⟩,_⟩:=ht t i hi;have he:=ht.eq t i hi;rw[hd] at hdk;obtain⟨fs,rfl,hag,_⟩:=hdk;simp only[EqB,hd,hff,jC,Bool.not_eq_true'] at he;obtain⟨e1,e2,e3⟩:=he
 have hfs:P.underlying t=some (.struct (P.fieldsOf t)):=by rw[hu];simp only[Program.fieldsOf,hu]
 obtain⟨xs,rfl⟩:=hx.2.2.1 hag;obtain⟨ys,rfl⟩:=hy.2.2.1 hag
 have heq:(Op.equalIn 10000 t (.agg xs) (.agg ys)).run P w=.ok (eqV i.ty i.ty l m) w:=by
  rw[run_equalIn_struct w 9999 t xs ys hfs e1];exact Ymu w 9998 i.ty 0 _ hf e3 l m xs ys _ _ _ _ _ _ hx.1 hy.1
 simp only[Sem.run_bind,run_eqGuard_agg w op t x y xs ys e2,Result.andThen_ok]
 cases op<;>simp only[Yuo] at h
 case eql=>cases h;exact⟨_,by rw[run_eql_struct,heq];rfl,.Ybr _ _⟩
 case neq=>cases h;exact⟨_,by rw[run_neq_struct,heq];rfl,.Ybr _ _⟩
 all_goals cases h
theorem Ysf (ho:o.op=.binOp op t x y yt):PvS P tb g o:=by
 intro Z S C a w ht I hg b v h hb;simp only[pv,ho] at h;replace h:=RD.bind_some h;obtain⟨va,h1,h⟩:=h;replace h:=RD.bind_some h;obtain⟨vb,h2,h⟩:=h;have hx:=Yg I hg h1;have hy:=Yg I hg h2
 have fin:Ysw P op t x y va vb→(bin op va vb).run S=some (b,v)→∃ u,(execOp a.eval o).run P w=.ok (.value u) w∧((∃ n,v=.dead n)∨VOk w (Mt Z C S.root noB) C.L S.root v u):=by
  intro hB h;obtain⟨u,hu,hv⟩:=hB w _ _ _ a S b v o hx hy h hb;refine⟨u,?_,.inr hv⟩;simp only[execOp,ho,Sem.run_bind] at hu ⊢;rw[hu];rfl
 cases va with
 |cl oa ta xa=>
  cases ta with
  |bool=>
   simp only at h;replace h:=RD.bind_some h;obtain⟨i,h3,h⟩:=h;obtain⟨⟨d,hd,hdk,hda⟩,_⟩:=ht t i (Yq h3)
   split at h
   ·have hid:i.d=.bool:=by assumption
    rw[hid] at hdk;obtain⟨rfl,_⟩:=hdk
    cases vb with
    |cl ob tb' xb=>cases tb'<;>first | exact fin (Yq5 op t x y _ _ _ _ hd) h | (simp only[bin] at h;cases h)
    |_=>simp only[bin] at h;cases h
   ·cases h
  |pair p q=>
   simp only at h;replace h:=RD.bind_some h;obtain⟨i,h3,h⟩:=h
   split at h
   ·rename_i offs ob ty xb hid
    split at h
    ·rename_i e1 e2 _ _ hfl
     obtain⟨id,ity,ib⟩:=i;simp only at e1 e2 hid hfl;subst e1;subst e2;obtain⟨u,hu,hv⟩:=Yq6 op t x y ht (Yq h3) hid hfl hx hy h;refine⟨u,?_,.inr hv⟩;simp only[execOp,ho,Sem.run_bind] at hu ⊢;rw[hu];rfl
    ·cases h
   ·cases h
  |int k=>
   simp only at h
   cases vb with
   |cl ob tb' xb=>cases tb'<;>first | exact fin (Ysz op t x y _ _ _ _ _ _) h | (simp only[bin] at h;cases h)
   |_=>simp only[bin] at h;cases h
  |str=>
   simp only at h
   cases vb with
   |cl ob tb' xb=>cases tb'<;>first | exact fin (Ys0 op t x y _ _ _ _) h | (simp only[bin] at h;cases h)
   |_=>simp only[bin] at h;cases h
  |_=>simp only[bin] at h;cases h
 |_=>simp only[bin] at h;cases h
theorem Yfs {w:World} {b off n:Nat} {xs:List Int} (k:IntKind) (hl:xs.length=n) (h:∀ i (hi:i<xs.length),w.cell? ⟨b,off+i,none⟩=some (.int k (xs[i]'hi))) :
  (loadCells ⟨b,off,none⟩ n).run P w=.ok (xs.map (Value.int k)).toArray w:=by
 have:=run_loadCells_list (P:=P) w ⟨b,off,none⟩ (xs.map (Value.int k)) (fun j v hv=>by
  rw[Addr.add_mid];rw[List.getElem?_map] at hv;rcases kG j xs.length with hj | hj
  ·rw[kV hj] at hv;cases hv;exact h j hj
  ·rw[List.getElem?_eq_none hj] at hv;cases hv)
 rw[kP,hl] at this;exact this
theorem Yho:∀ (l:List Int) (r:ByteArray),(l.foldl (fun r n=>r.push (UInt8.ofNat n.toNat)) r).data.toList=r.data.toList++l.map (fun n=>UInt8.ofNat n.toNat)
 |[],r=>by simp
 |n::l,r=>by rw[kI,Yho l];simp[ByteArray.push]
end
section
variable {P:Program} {tb:Tb} {g:Gd} {o:Oper}
variable {Z:W0} {S:St} {C:Cx} {a:Act} {w:World}
def Ow.Ywz:Ow→Bool | .sh=>true | _=>false
def TV.Yuy:TV→Bool | .cl _ _ _=>true | _=>false
def Ykf (w:World) (M:Yd) (e:Ty) (sh:Bool) (xs:List e.El) (A:Option Addr):Prop:=
 xs≠[]→∃ b off,A=some ⟨b,off,none⟩∧(sh=true→¬ M b∧b<w.heap.size)∧
  ∀ i (hi:i<xs.length),∃ F o',Rep w M e o' (xs[i]'hi) (.mem b (off+i*e.size)) F∧(sh=true→o'=.sh)
theorem Rep.row {M:Yd} {e:Ty} {o:Ow} {xs:List e.El} {s:Src} {F:Yd} (h:Rep w M (.sl e) o xs s F):∃ A c,s.cell w 0=some (.slice A xs.length c)∧xs.length≤c∧Ykf w M e o.Ywz xs A:=by
 obtain⟨A,c,h1,h2,h3⟩:=h;refine⟨A,c,h1,h2,fun hne=>?_⟩;have hl:0<xs.length:=List.length_pos_iff.2 hne
 cases o with
 |sh=>
  obtain⟨b,off,q1,q2,q3,q4⟩:=h3 hne
  exact⟨b,off,q1,fun _=>⟨q2,q3⟩,fun i hi=>⟨noB,.sh,q4 i hi,fun _=>rfl⟩⟩
 |top=>
  obtain⟨b,off,Fs,q1,_,_,q4,_⟩:=h3 (by omega)
  exact⟨b,off,q1,fun h=>(by cases h),fun i hi=>⟨_,_,(q4 i hi).1,fun h=>(by cases h)⟩⟩
 |deep=>
  obtain⟨b,off,Fs,q1,_,_,q4,_⟩:=h3 (by omega)
  exact⟨b,off,q1,fun h=>(by cases h),fun i hi=>⟨_,_,(q4 i hi).1,fun h=>(by cases h)⟩⟩
theorem Yf0 (I:Inv Z S C a w) {v:TV} {u:Value} {e:Ty} {xs:List e.El} {o:Ow} (hv:VOk w (Mt Z C S.root noB) C.L S.root v u) (h:(els v).run S=some (.mk e xs o)) :
  ∃ A c,u=.slice A xs.length c∧xs.length≤c∧Ykf w (Mt Z C S.root noB) e v.Yuy xs A:=by
 rcases Ybz h with ⟨o',rfl,rfl⟩ | ⟨r,p,R,rfl,hR,hg⟩ | ⟨r,p,lo,n,R,ys,rfl,hR,hg,rfl⟩
 ·have hv:=(hv:Yb _ _ _ _ _ _)
  obtain⟨A,c,h1,h2,h3⟩:=Rep.row hv.1;have h0:=hv.cell0 rfl;rw[h1] at h0;cases h0;refine⟨A,c,rfl,h2,fun hne=>?_⟩
  cases o' with
  |sh=>exact h3 hne
  |top=>
   obtain⟨A',c',q1,q2,q3⟩:=hv.1;rw[h1] at q1;cases q1;have hl:0<xs.length:=List.length_pos_iff.2 hne
   obtain⟨_,_,_,_,q,_⟩:=q3 (by omega);exact q.elim
  |deep=>
   obtain⟨A',c',q1,q2,q3⟩:=hv.1;rw[h1] at q1;cases q1;have hl:0<xs.length:=List.length_pos_iff.2 hne
   obtain⟨_,_,_,_,q,_⟩:=q3 (by omega);exact q.elim
 ·obtain⟨s,A,c,F,e1,e2,e3,e4,e5⟩:=Yda I ((hv:Yb _ _ _ _ _ _).leaf rfl) hR hg
  obtain⟨A',c',h1,h2,h3⟩:=Rep.row e5;rw[e2] at h1;cases h1;refine⟨A,c,e3,h2,fun hne=>?_⟩;obtain⟨b,off,q1,q2,q3⟩:=h3 hne
  exact⟨b,off,q1,fun h=>(by cases h),fun i hi=>by obtain⟨F,o',q,_⟩:=q3 i hi;exact⟨F,o',q,fun h=>(by cases h)⟩⟩
 ·obtain⟨R',s,o2,e',xs',A,len,c,A',c',h1,h2,h3,h4,h5,h6,h7,h8,h9⟩:=(hv:Yb _ _ _ _ _ _).leaf rfl
  rw[hR] at h1;cases h1;rw[Yee hg] at h3;cases h3
  obtain⟨F,hF,hr⟩:=focus p (I.str.rep r R hR) h2 hg
  obtain⟨A2,c2,k1,k2,k3⟩:=Rep.row (hr:Rep w _ (.sl e) o ys s F);rw[h4] at k1;cases k1
  have hlen:((ys.drop lo).take n).length=n:=by simp;omega
  refine⟨A',c',by rw[hlen];exact h5,by rw[hlen];exact h7,fun hne=>?_⟩
  have hn:0<n:=by rw[←hlen];exact List.length_pos_iff.2 hne
  obtain⟨b,off,q1,q2,q3⟩:=k3 (by intro h0;subst h0;simp at h6;omega)
  refine⟨b,off+lo*e.size,by rw[h9 (by omega),q1];simp[Addr.add_mid],fun h=>(by cases h),fun i hi=>?_⟩
  obtain⟨F,o',q,_⟩:=q3 (lo+i) (by omega)
  refine⟨F,o',?_,fun h=>(by cases h)⟩
  simp only[List.getElem_take,List.getElem_drop]
  rw[show off+lo*e.size+i*e.size=off+(lo+i)*e.size by rw[jY];omega]
  exact q
theorem Yow (ho:o.op=.convert src dst x):PvS P tb g o:=by
 intro Z S C a w ht I hg b v h _;simp only[pv,ho] at h;replace h:=RD.bind_some h;obtain⟨vx,h1,h⟩:=h;replace h:=RD.bind_some h;obtain⟨sd,h2,h⟩:=h;replace h:=RD.bind_some h;obtain⟨dd,h3,h⟩:=h;have hx:=Yg I hg h1;obtain⟨⟨ds,hds,hsk,_⟩,_⟩:=ht src sd (Yq h2);obtain⟨⟨d,hd,hdk,_⟩,_⟩:=ht dst dd (Yq h3)
 have ex:∀ u,(convert src dst (a.eval x)).run P w=.ok u w→(execOp a.eval o).run P w=.ok (.value u) w:=by
  intro u hu;simp[execOp,ho,hu]
 split at h
 ·rename_i k o' k' n hid
  have hid:dd.d=.int k:=by assumption
  rw[hid] at hdk;obtain⟨rfl,_⟩:=hdk;cases h;rw[(hx:Yb _ _ _ _ _ _).int] at ex;refine⟨.int k (k.wrap n),ex _ ?_,.inr (.Yb3 _ _ _)⟩;simp[convert,run_underlying hds,run_underlying hd,Conv.intToInt]
 ·have hid:dd.d=.str:=by assumption
  rw[hid] at hdk;obtain⟨rfl,_⟩:=hdk
  split at h
  ·have hid:sd.d=.str:=by assumption
   rw[hid] at hsk;obtain⟨rfl,_⟩:=hsk;cases h;obtain⟨z,e1,e2⟩:=(hx:Yb _ _ _ _ _ _).str;rw[e1] at ex;refine⟨.string z,ex _ ?_,.inr ?_⟩
   ·simp[convert,run_underlying hds,run_underlying hd]
   ·rw[←e2];exact .Ym9 _ _
  ·cases h
 ·have hid:dd.d=.str:=by assumption
  rw[hid] at hdk;obtain⟨rfl,_⟩:=hdk
  split at h
  ·rename_i e _
   have hid:sd.d=.sl e:=by assumption
   rw[hid] at hsk
   split at h
   ·have hty:sd.ty=.sl (.int .u8):=by assumption
    replace h:=RD.bind_some h;obtain⟨⟨e',xs,o'⟩,h4,h⟩:=h
    split at h
    ·rename_i xs o'' heq
     cases heq;cases h;obtain⟨A,c,e1,e2,e3⟩:=Yf0 I hx h4;obtain⟨rfl,te,i,q1,q2,q3,q4,q5,_⟩:=hsk;rw[hty] at q1;cases q1;have he:=q5 .u8 rfl;rw[e1] at ex
     have hlist:∀ xs:List Int,(xs.foldl (fun r n=>r.push (UInt8.ofNat n.toNat)) ByteArray.empty).data.toList=xs.map (fun n=>UInt8.ofNat n.toNat):=by
      intro xs;rw[Yho];simp
     refine⟨.string (xs.foldl (fun r n=>r.push (UInt8.ofNat n.toNat)) ByteArray.empty),ex _ ?_,.inr (by rw[←hlist];exact .Ym9 _ _)⟩
     cases hA:A with
     |none=>
      have hx0:xs=[]:=by
       rcases Classical.em (xs=[]) with h | h
       ·exact h
       ·obtain⟨b,off,q,_⟩:=e3 h;rw[hA] at q;cases q
      subst hx0;simp only[convert,run_underlying hds,run_underlying hd,run_underlying he,Sem.run_bind,Result.andThen_ok]
      rfl
     |some ad=>
      have hl:(loadCells ad xs.length).run P w=.ok (xs.map (Value.int .u8)).toArray w:=by
       rcases Classical.em (xs=[]) with h | h
       ·subst h;rfl
       ·obtain⟨b,off,q,_,q'⟩:=e3 h
        rw[hA] at q;cases q;refine Yfs .u8 rfl (fun i hi=>?_);obtain⟨F,o',hr,_⟩:=q' i hi
        simpa [Rep,Src.cell,Ty.size] using hr
      have:=run_bytesToString (P:=P) w ad xs.length c xs hl;simp only[convert,run_underlying hds,run_underlying hd,run_underlying he,Sem.run_bind,Result.andThen_ok];exact this
    ·cases h
   ·cases h
  ·cases h
 ·cases h
theorem Ycd:inB n len=true↔0≤n∧n<len:=by simp[inB]
theorem Yae (h:(some b:Option Bool)≠some false):b=true:=by cases b<;>first | rfl | exact absurd rfl h
theorem Ysh (ho:o.op=.index t x ix):PvS P tb g o:=by
 intro Z S C a w ht I hg b v h hb;simp only[pv,ho] at h;replace h:=RD.bind_some h;obtain⟨vx,h1,h⟩:=h;replace h:=RD.bind_some h;obtain⟨vi,h2,h⟩:=h;replace h:=RD.bind_some h;obtain⟨ti,h3,h⟩:=h;have hx:=Yg I hg h1;have hi:=Yg I hg h2;obtain⟨⟨d,hd,hdk,_⟩,_⟩:=ht t ti (Yq h3)
 have ex:∀ u,(Instr.index t (a.eval x) (a.eval ix)).run P w=.ok u w→(execOp a.eval o).run P w=.ok (.value u) w:=by
  intro u hu;simp[execOp,ho,hu]
 split at h
 ·rename_i ol l oi k n _
  have hid:ti.d=.str:=by assumption
  rw[hid] at hdk;obtain⟨rfl,_⟩:=hdk;cases h;obtain⟨h0,hlt⟩:=Ycd.1 (Yae hb);obtain⟨z,e1,e2⟩:=(hx:Yb _ _ _ _ _ _).str;have e3:=(hi:Yb _ _ _ _ _ _).int;rw[e1,e3] at ex
  have hz:n.toNat<z.size:=by
   have:z.size=l.length:=by rw[←e2];simp
   omega
  refine⟨.int .u8 ((l.getD n.toNat 0).toNat:Int),ex _ ?_,.inr (.Yb3 _ _ _)⟩
  have hge:z[n.toNat]? = some (l.getD n.toNat 0):=by
   rw[getElem?_pos z n.toNat hz,←e2]
   congr 1
   rw[Ym _ _ _ (by simpa using hz)]
   simp[ByteArray.getElem_eq_getElem_data]
  simp[Instr.index,run_underlying hd,asIntOf,h0,hge]
 ·rename_i m ol m' e l oi k n _
  have hid:∃ m e',ti.d=.arr m e':=⟨_,_,by assumption⟩
  obtain⟨mm,ee,hid⟩:=hid;rw[hid] at hdk;obtain⟨rfl,te,j,q1,q2,q3,de,q4,q5⟩:=hdk;have e3:=(hi:Yb _ _ _ _ _ _).int
  split at h
  ·rename_i hty _
   rw[q1] at hty;cases hty;have hx':=(hx:Yb _ _ _ _ _ _);obtain⟨cs,hu⟩:=hx'.2.2.1 rfl;obtain⟨hlen,Fs,hF,_⟩:=hx'.1
   split at h
   ·rename_i kk l _ _ _ _
    cases h;obtain⟨h0,hlt⟩:=Ycd.1 (Yae hb)
    have hc:=(hF n.toNat (by omega)).1
    have hagg:de.isRow=false:=by
     cases hh:de.isRow with
     |false=>rfl
     |true=>exact absurd (q5.2 hh) (by simp[Ty.isAgg])
    rw[hu] at hc
    have hc':cs[n.toNat]? = some (.int kk (l[n.toNat]'(by omega))):=by
     have:(Src.reg cs.toList 0).cell w (n.toNat*1+0)=some (.int kk (l[n.toNat]'(by omega))):=by rw[←Src.Yk];exact hc
     simpa [Src.cell,Value.cells] using this
    rw[hu,e3] at ex;refine⟨.int kk (l.getD n.toNat (Ty.int kk).zero),ex _ ?_,.inr (.Yb3 _ _ _)⟩
    rw[Ym _ _ _ (by omega:n.toNat<l.length)]
    simp[Instr.index,run_underlying hd,asIntOf,h0,hlt,part,Ycy q4,hagg,Y3 q2,q3,Ty.size,hc']
   ·rename_i l _ _ _ _
    cases h;obtain⟨h0,hlt⟩:=Ycd.1 (Yae hb)
    have hc:=(hF n.toNat (by omega)).1
    have hagg:de.isRow=false:=by
     cases hh:de.isRow with
     |false=>rfl
     |true=>exact absurd (q5.2 hh) (by simp[Ty.isAgg])
    rw[hu] at hc
    have hc':cs[n.toNat]? = some (.bool (l[n.toNat]'(by omega))):=by
     have:(Src.reg cs.toList 0).cell w (n.toNat*1+0)=some (.bool (l[n.toNat]'(by omega))):=by rw[←Src.Yk];exact hc
     simpa [Src.cell,Value.cells] using this
    rw[hu,e3] at ex;refine⟨.bool (l.getD n.toNat Ty.bool.zero),ex _ ?_,.inr (.Ybr _ _)⟩
    rw[Ym _ _ _ (by omega:n.toNat<l.length)]
    simp[Instr.index,run_underlying hd,asIntOf,h0,hlt,part,Ycy q4,hagg,Y3 q2,q3,Ty.size,hc']
   ·cases h
  ·cases h
 ·cases h
end
section
variable {P:Program} {tb:Tb} {g:Gd} {o:Oper}
theorem Ybl {t e:TypeId} {j:TypeInfo} {b off len c:Nat} {k:IntKind} {n:Int} {w:World} (hd:P.underlying t=some (.slice e)) (hj:P.info? e=some j) (h0:0≤n) (hl:n<len) :
  (Instr.indexAt t (.slice (some ⟨b,off,none⟩) len c) (.int k n)).run P w=.ok (.pointer (some ⟨b,off+n.toNat*j.size,none⟩)) w:=by
 simp[Instr.indexAt,asIntOf,run_underlying hd,h0,hl,Y3 hj,Addr.add_mid]
theorem Yeg {t e:TypeId} {j:TypeInfo} {b off len:Nat} {k:IntKind} {n:Int} {w:World} (hd:P.underlying t=some (.array len e)) (hj:P.info? e=some j) (h0:0≤n) (hl:n<len) :
  (Instr.indexAt t (.pointer (some ⟨b,off,none⟩)) (.int k n)).run P w=.ok (.pointer (some ⟨b,off+n.toNat*j.size,none⟩)) w:=by
 simp[Instr.indexAt,asIntOf,run_underlying hd,h0,hl,Y3 hj,Addr.add_mid,Instr.sureAddr]
theorem Yr3 {w:World} {o:Ow} {e:Ty} {xs:List e.El} {s:Src} {i b off len c:Nat} (hi:i<xs.length) (hc:s.cell w 0=some (.slice (some ⟨b,off,none⟩) len c)) :
  nav w (.cl o (.sl e) xs) s [.el i]=some (.mem b (off+i*e.size)):=by
 simp only[nav];rw[jL hi,hc]
theorem Ykf.at (h:Ykf w M e sh xs A) (hi:i<xs.length) :
  ∃ b off,A=some ⟨b,off,none⟩∧(sh=true→¬ M b∧b<w.heap.size)∧∃ F o',Rep w M e o' (xs[i]'hi) (.mem b (off+i*e.size)) F∧(sh=true→o'=.sh):=by
 obtain⟨b,off,h1,h2,h3⟩:=h (by intro h0;subst h0;simp at hi)
 exact⟨b,off,h1,h2,h3 i hi⟩
theorem Ymc {t:TypeId} {x ix:Operand} (ho:o.op=.indexAddr t x ix):PvS P tb g o:=by
 intro Z S C a w ht I hg b v h hb;simp only[pv,ho] at h;replace h:=RD.bind_some h;obtain⟨vx,h1,h⟩:=h;replace h:=RD.bind_some h;obtain⟨vi,h2,h⟩:=h;replace h:=RD.bind_some h;obtain⟨ti,h3,h⟩:=h;have hx:=Yg I hg h1;have hi:=Yg I hg h2;obtain⟨⟨d,hd,hdk,_⟩,_⟩:=ht t ti (Yq h3)
 have ex:∀ u,(Instr.indexAt t (a.eval x) (a.eval ix)).run P w=.ok u w→(execOp a.eval o).run P w=.ok (.value u) w:=by
  intro u hu;simp[execOp,ho,hu]
 cases vi with
 |cl oi tyi n=>
  cases tyi with
  |int k=>
   simp only at h;have e3:=(hi:Yb _ _ _ _ _ _).int;rw[e3] at ex
   cases hid:ti.d with
   |sl ee=>
    rw[hid] at hdk h;simp only at h;obtain⟨rfl,te,j,q1,q2,q3,_⟩:=hdk
    cases vx with
    |seg r p=>
     simp only at h;replace h:=RD.bind_some h;obtain⟨c0,h4,h⟩:=h;obtain⟨R,hR,hget⟩:=Ya1 h4
     cases c0 with
     |rw oc e xs i0 v0=>
      simp only[TV.row] at h
      split at h
      ·rename_i hty _
       rw[q1] at hty;cases hty;cases h;obtain⟨h0,hlt⟩:=Ycd.1 (Yae hb);obtain⟨R',s,o1,e',xs',p1,p2,p3,p4,_⟩:=(hx:Yb _ _ _ _ _ _).leaf rfl;rw[hR] at p1;cases p1
       obtain⟨F,_,hr⟩:=focus p (I.str.rep r R hR) p2 hget
       obtain⟨_,_,_,b0,off,c,r1,_⟩:=hr
       have e4:a.eval x=.slice (some ⟨b0,off,none⟩) xs.length c:=by rw[p4] at r1;exact jN r1
       rw[e4] at ex;refine⟨_,ex _ (Ybl hd q2 h0 hlt),.inr ?_⟩;refine Yb.Yah (v:=.loc r (p++[.el n.toNat])) ⟨R,b0,off+n.toNat*j.size,hR,?_,rfl⟩
       rw[(Y4 p _ p2 hget).1,Ye2 r1 (by omega:n.toNat<xs.length),q3]
       split<;>exact Yf _ _ _
      ·cases h
     |cl oc tc xs=>
      cases tc with
      |sl e=>
       simp only[TV.row] at h
       split at h
       ·rename_i hty _
        rw[q1] at hty;cases hty;cases h;obtain⟨h0,hlt⟩:=Ycd.1 (Yae hb);obtain⟨s,A,c,F,e1,e2,e4,e5,e6⟩:=Yda I ((hx:Yb _ _ _ _ _ _).leaf rfl) hR hget;obtain⟨A',c',k1,k2,k3⟩:=Rep.row e6;rw[e2] at k1;cases k1
        obtain⟨b0,off,rfl,_,_⟩:=k3.at (i:=n.toNat) (by omega)
        rw[e4] at ex;refine⟨_,ex _ (Ybl hd q2 h0 hlt),.inr ?_⟩;refine Yb.Yah (v:=.loc r (p++[.el n.toNat])) ⟨R,b0,off+n.toNat*j.size,hR,?_,rfl⟩
        rw[(Y4 p _ e1 hget).1,Yr3 (by omega) e2,q3]
       ·cases h
      |_=>cases h
     |_=>cases h
    |sub r p lo m=>
     simp only at h;replace h:=RD.bind_some h;obtain⟨c0,h4,h⟩:=h;obtain⟨R,hR,hget⟩:=Ya1 h4
     cases c0 with
     |cl oc tc xs=>
      cases tc with
      |sl e=>
       simp only at h
       split at h
       ·rename_i hty _
        rw[q1] at hty;cases hty;cases h;obtain⟨h0,hlt⟩:=Ycd.1 (Yae hb);obtain⟨R',s,o2,e',xs',A,len,c,A',c',p1,p2,p3,p4,p5,p6,p7,p8,p9⟩:=(hx:Yb _ _ _ _ _ _).leaf rfl;rw[hR] at p1;cases p1;rw[Yee hget] at p3;cases p3
        obtain⟨F,hF,hr⟩:=focus p (I.str.rep r R hR) p2 hget
        obtain⟨A2,c2,k1,k2,k3⟩:=Rep.row (hr:Rep w _ (.sl te) oc xs s F);rw[p4] at k1;cases k1
        obtain⟨b0,off,rfl,_,_⟩:=k3.at (i:=lo+n.toNat) (by omega)
        rw[p5,p9 (by omega)] at ex
        simp only[jT,Addr.add_mid] at ex;refine⟨_,ex _ (Ybl hd q2 h0 hlt),.inr ?_⟩;refine Yb.Yah (v:=.loc r (p++[.el (lo+n.toNat)])) ⟨R,b0,off+lo*te.size+n.toNat*j.size,hR,?_,rfl⟩
        rw[(Y4 p _ p2 hget).1,Yr3 (by omega) p4,q3]
        rw[show off+lo*te.size+n.toNat*te.size=off+(lo+n.toNat)*te.size by rw[jY];omega]
       ·cases h
      |_=>cases h
     |_=>cases h
    |cl oc tc xs=>
     cases tc with
     |sl e=>
      simp only at h
      split at h
      ·rename_i hty _
       rw[q1] at hty;cases hty;cases h;obtain⟨h0,hlt⟩:=Ycd.1 (Yae hb);obtain⟨A,c,e1,e2,k3⟩:=Yf0 (o:=.sh) I hx rfl
       obtain⟨b0,off,rfl,k4,F,o',k5,k6⟩:=k3.at (i:=n.toNat) (by omega)
       rw[e1] at ex;obtain⟨k7,k8⟩:=k4 rfl;have:=k6 rfl;subst this;refine⟨_,ex _ (Ybl hd q2 h0 hlt),.inr ?_⟩;refine Yb.Yah (v:=.pt te (xs.getD n.toNat te.zero)) ⟨b0,off+n.toNat*j.size,rfl,k7,k8,?_⟩
       rw[Ym _ _ _ (by omega:n.toNat<xs.length),q3]
       exact Rep.Yh6 k5 (fun _ _=>rfl)
      ·cases h
     |_=>cases h
    |_=>cases h
   |arr mm ee=>
    rw[hid] at hdk h;simp only at h;obtain⟨rfl,te,j,q1,q2,q3,_⟩:=hdk
    cases vx with
    |loc r p=>
     simp only at h;replace h:=RD.bind_some h;obtain⟨c0,h4,h⟩:=h;obtain⟨R,hR,hget⟩:=Ya1 h4
     cases c0 with
     |cl oc tc xs=>
      cases tc with
      |arr m' e=>
       simp only at h
       split at h
       ·rename_i hty _
        rw[q1] at hty;cases hty;cases h;obtain⟨h0,hlt⟩:=Ycd.1 (Yae hb);obtain⟨R',b0,off,p1,p2,p3⟩:=(hx:Yb _ _ _ _ _ _).leaf rfl;rw[hR] at p1;cases p1;rw[p3] at ex;refine⟨_,ex _ (Yeg hd q2 h0 hlt),.inr ?_⟩;refine Yb.Yah (v:=.loc r (p++[.el n.toNat])) ⟨R,b0,off+n.toNat*j.size,hR,?_,rfl⟩;rw[(Y4 p _ p2 hget).1,q3]
        simp only[nav];rw[jL (by omega)];rfl
       ·cases h
      |_=>cases h
     |_=>cases h
    |pt ty ys=>
     cases ty with
     |arr m' e=>
      simp only at h
      split at h
      ·rename_i hty _
       rw[q1] at hty;cases hty;cases h;obtain⟨h0,hlt⟩:=Ycd.1 (Yae hb);obtain⟨b0,off,p1,p2,p3,p4⟩:=(hx:Yb _ _ _ _ _ _).leaf rfl;rw[p1] at ex;obtain⟨hlen,Fs,hF,_⟩:=p4;refine⟨_,ex _ (Yeg hd q2 h0 hlt),.inr ?_⟩;refine Yb.Yah (v:=.pt te (ys.getD n.toNat te.zero)) ⟨b0,off+n.toNat*j.size,rfl,p2,p3,?_⟩
       rw[Ym _ _ _ (by omega:n.toNat<ys.length),q3]
       exact Rep.Yh6 (hF n.toNat (by omega)).1 (fun _ _=>rfl)
      ·cases h
     |_=>cases h
    |_=>cases h
   |_=>rw[hid] at h;cases h
  |_=>cases h
 |_=>cases h
end
end Mf
