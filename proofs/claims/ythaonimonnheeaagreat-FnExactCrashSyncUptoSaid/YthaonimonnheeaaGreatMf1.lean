import Derived.Below
import Derived.Calls
import Derived.ChangeSame
import Derived.ChangeShapes
import Derived.DataReads
import Derived.Deep.AppendSrc
import Derived.Deep.Draws
import Derived.Deep.MidRow
import Derived.Deep.Upon
import Derived.KernelRfl
import Derived.Laws.AppendOwn
import Derived.Laws.BytesString
import Derived.Laws.Entries
import Derived.Laws.IdiomCopy
import Derived.Laws.IdiomStrings
import Derived.Laws.Strings
import Derived.Laws.StructEq
import Derived.Laws.Tables
import Derived.Lay
import Derived.Lib.SliceRun
import Derived.Orders
import Derived.Sort.Grow
import Derived.Sort.Row
import GoSem.Core.Region
import GoSem.Core.View
set_option linter.unusedVariables false
set_option linter.unusedSimpArgs false
namespace Mf
open Go
inductive Ow | sh | top | deep
 deriving DecidableEq
inductive Ty where
 |int (k:IntKind) | bool | str | unit
 |pair (a b:Ty)
 |sl (e:Ty)
 |arr (n:Nat) (e:Ty)
 deriving DecidableEq
@[reducible] def Ty.El:Ty→Type
 |.int _=>Int | .bool=>Bool | .str=>List UInt8 | .unit=>Unit
 |.pair a b=>a.El×b.El
 |.sl e=>List e.El
 |.arr _ e=>List e.El
def Ty.zero:(t:Ty)→t.El
 |.int _=>(0:Int) | .bool=>false | .str=>([]:List UInt8) | .unit=>()
 |.pair a b=>(a.zero,b.zero)
 |.sl _=>[]
 |.arr n e=>List.replicate n e.zero
def Ty.size:Ty→Nat
 |.int _ | .bool | .str | .sl _=>1
 |.unit=>0
 |.pair a b=>a.size+b.size
 |.arr n e=>n*e.size
def Ty.pure:Ty→Bool
 |.int _ | .bool | .str | .unit=>true
 |.sl _=>false
 |.pair a b=>a.pure&&b.pure
 |.arr _ e=>e.pure
def Ty.isAgg:Ty→Bool
 |.pair _ _ | .unit | .arr _ _=>true
 |_=>false
def Ty.Yez:Ty→Bool
 |.int _ | .bool | .str | .unit=>true
 |.sl e=>e.pure
 |.pair a b=>a.Yez&&b.Yez
 |.arr _ e=>e.Yez
def Ow.elem:Ow→Ow | .sh=>.sh | .top=>.sh | .deep=>.deep
inductive Stp | f1 | f2 | el (i:Nat)
abbrev Path:=List Stp
inductive TV where
 |cl (o:Ow) (t:Ty) (x:t.El)
 |pr (a b:TV)
 |nl
 |loc (r:Nat) (p:Path)
 |seg (r:Nat) (p:Path)
 |sub (r:Nat) (p:Path) (lo n:Nat)
 |pt (t:Ty) (x:t.El)
 |op (v:TV)
 |clo (f:FuncId) (c:TV)
 |tup (l:TV)
 |kb (b:Bool)
 |gd (t:Nat) (want:Bool) (v:TV)
 |dead (n:Nat)
 |rw(o:Ow) (e:Ty) (xs:List e.El) (i:Nat) (v:TV)
inductive Kind | reg | mem
 deriving DecidableEq
structure Root where
 k:Kind
 tv:TV
def lk.{u} {α:Type u} (i:Nat):List (Nat×α)→Option α
 |[]=>none
 |(j,x)::l=>match Nat.beq i j with | true=>some x | false=>lk i l
structure St where
 tm:List (Nat×TV)
 rt:List (Nat×Option Root)
def St.root (S:St) (r:Nat):Option Root:=match lk r S.rt with | some (some R)=>some R | _=>none
inductive Chk | Ycc (p:Path) (f n:Nat) | row (p:Path)
inductive RD (α:Type) where
 |ret (a:α)
 |fail
 |ck (r:Nat) (c:Chk) (f:Bool→RD α)
 |tm (i:Nat) (f:TV→RD α)
 |rt (r:Nat) (f:Root→RD α)
 |rt? (r:Nat) (f:Bool→RD α)
def RD.bind {α β:Type}:RD α→(α→RD β)→RD β
 |.ret a,g=>g a
 |.fail,_=>.fail
 |.ck r c f,g=>.ck r c fun v=>(f v).bind g
 |.tm i f,g=>.tm i fun v=>(f v).bind g
 |.rt r f,g=>.rt r fun v=>(f v).bind g
 |.rt? r f,g=>.rt? r fun v=>(f v).bind g
def TV.get:TV→Path→Option TV
 |tv,[]=>some tv
 |.pr a _,.f1::p=>a.get p
 |.pr _ b,.f2::p=>b.get p
 |.cl o (.pair a _) x,.f1::p=>(TV.cl o a x.1).get p
 |.cl o (.pair _ b) x,.f2::p=>(TV.cl o b x.2).get p
 |.cl o (.sl e) xs,.el i::p=>(TV.cl o.elem e (xs.getD i e.zero)).get p
 |.cl o (.arr _ e) xs,.el i::p=>(TV.cl o e (xs.getD i e.zero)).get p
 |.rw o e xs i v,.el j::p=>match Nat.decEq j i with
  |isTrue _=>v.get p
  |isFalse _=>(TV.cl o.elem e (xs.getD j e.zero)).get p
 |_,_=>none
def Yju (t:Ty) (o:Ow):Ow:=match t.pure with | true=>.deep | false=>o
def TV.own:TV→TV
 |.cl o t x=>.cl (Yju t o) t x
 |v=>v
def Yal:TV→TV→TV
 |.cl o t x,.cl o' u y=>match Yju t o,Yju u o' with
  |.deep,.deep=>.cl .deep (.pair t u) (x,y)
  |.sh,.sh=>.cl .sh (.pair t u) (x,y)
  |.top,.top=>.cl .top (.pair t u) (x,y)
  |.sh,.deep=>match u.pure with | true=>.cl .sh (.pair t u) (x,y) | false=>.pr (.cl o t x) (.cl o' u y)
  |.deep,.sh=>match t.pure with | true=>.cl .sh (.pair t u) (x,y) | false=>.pr (.cl o t x) (.cl o' u y)
  |.top,.deep=>match u.pure with | true=>.cl .top (.pair t u) (x,y) | false=>.pr (.cl o t x) (.cl o' u y)
  |.deep,.top=>match t.pure with | true=>.cl .top (.pair t u) (x,y) | false=>.pr (.cl o t x) (.cl o' u y)
  |_,_=>.pr (.cl o t x) (.cl o' u y)
 |a,b=>.pr a b
def TV.Yiy (o:Ow) (t:Ty):TV→Option t.El
 |.cl o' u x=>match decEq u t with
  |isTrue h=>match u.pure,decEq o' o with
   |true,_=>some (h▸x)
   |false,isTrue _=>some (h▸x)
   |false,isFalse _=>none
  |isFalse _=>none
 |_=>none
def TV.cln:TV→Bool
 |.cl _ _ _=>true
 |.dead _=>true
 |.rw _ _ _ _ _=>true
 |.pr a b=>a.cln&&b.cln
 |_=>false
def TV.opn:TV→Bool
 |.dead _=>true
 |.rw _ _ _ _ _=>true
 |.pr a b=>a.opn || b.opn
 |_=>false
def Ybw (o:Ow) (e:Ty) (xs:List e.El) (i:Nat) (v:TV):Option TV:=match v.Yiy o.elem e with
 |some y=>some (.cl o (.sl e) (xs.set i y))
 |none=>match v.opn&&v.cln with
  |true=>some (.rw o e xs i v)
  |false=>none
def TV.set:TV→Path→TV→Option TV
 |_,[],n=>some n
 |.pr a b,.f1::p,n=>match a.set p n with | some a'=>some (Yal a' b) | none=>none
 |.pr a b,.f2::p,n=>match b.set p n with | some b'=>some (Yal a b') | none=>none
 |.cl o (.pair a b) x,.f1::p,n=>match (TV.cl o a x.1).set p n with
  |some a'=>some (Yal a' (.cl o b x.2)) | none=>none
 |.cl o (.pair a b) x,.f2::p,n=>match (TV.cl o b x.2).set p n with
  |some b'=>some (Yal (.cl o a x.1) b') | none=>none
 |.cl .sh (.sl _) _,.el _::_,_=>none
 |.cl o (.sl e) xs,.el i::p,n=>match (TV.cl o.elem e (xs.getD i e.zero)).set p n with
  |some tv=>Ybw o e xs i tv
  |none=>none
 |.rw .sh _ _ _ _,.el _::_,_=>none
 |.rw o e xs i v,.el j::p,n=>match Nat.decEq j i with
  |isTrue _=>match v.set p n with
   |some tv=>Ybw o e xs i tv
   |none=>none
  |isFalse _=>none
 |.cl o (.arr m e) xs,.el i::p,n=>match (TV.cl o e (xs.getD i e.zero)).set p n with
  |some tv=>match tv.Yiy o e with | some y=>some (.cl o (.arr m e) (xs.set i y)) | none=>none
  |none=>none
 |_,_,_=>none
def TV.Ymj:TV→Bool
 |.rw _ _ _ _ _=>true
 |.pr a b=>a.Ymj || b.Ymj
 |_=>false
def TV.Ym7:TV→Path→Option (Bool×TV)
 |tv,[]=>some (true,tv)
 |.pr a _,.f1::p=>a.Ym7 p
 |.pr _ b,.f2::p=>b.Ym7 p
 |.rw _ _ _ i v,.el j::p=>match v.Ym7 p with
  |some (c,u)=>some (Nat.beq j i&&c,u)
  |none=>none
 |_,_=>none
def TV.Yhx:TV→Path→TV→Option (Bool×TV)
 |_,[],n=>some (true,n)
 |.pr a b,.f1::p,n=>match a.Yhx p n with | some (c,a')=>some (c,Yal a' b) | none=>none
 |.pr a b,.f2::p,n=>match b.Yhx p n with | some (c,b')=>some (c,Yal a b') | none=>none
 |.rw .sh _ _ _ _,.el _::_,_=>none
 |.rw o e xs i v,.el j::p,n=>match v.Yhx p n with
  |some (c,tv)=>match Ybw o e xs i tv with | some tv'=>some (Nat.beq j i&&c,tv') | none=>none
  |none=>none
 |_,_,_=>none
def Yan (r:Nat) (p:Path) (o:Ow):(t:Ty)→t.El→TV
 |.pair a b,x=>match (Ty.pair a b).pure with
  |true=>.cl .sh (.pair a b) x
  |false=>match o with
   |.sh=>.cl .sh (.pair a b) x
   |_=>.pr (Yan r (p++[.f1]) o a x.1) (Yan r (p++[.f2]) o b x.2)
 |.sl e,x=>match o with | .sh=>.cl .sh (.sl e) x | _=>.seg r p
 |.arr n e,x=>match e.pure with
  |true=>.cl .sh (.arr n e) x
  |false=>match o with
   |.sh=>.cl .sh (.arr n e) x
   |_=>.dead (n*e.size)
 |t,x=>.cl .sh t x
def TV.mir (r:Nat) (p:Path):TV→TV
 |.pr a b=>.pr (a.mir r (p++[.f1])) (b.mir r (p++[.f2]))
 |.cl o t x=>Yan r p o t x
 |.op _=>.dead 1
 |.rw _ _ _ _ _=>.dead 1
 |tv=>tv
def TV.size:TV→Nat
 |.cl _ t _=>t.size
 |.pr a b=>a.size+b.size
 |.dead n=>n
 |_=>1
inductive Lay | at | un | pair (a b:Lay) | arr (n:Nat) (e:Lay) | dead (n:Nat)
 deriving DecidableEq
def Ty.lay:Ty→Lay
 |.int _ | .bool | .str | .sl _=>.at
 |.unit=>.un
 |.pair a b=>.pair a.lay b.lay
 |.arr n e=>.arr n e.lay
def TV.lay:TV→Lay
 |.cl _ t _=>t.lay
 |.pr a b=>.pair a.lay b.lay
 |.dead 1=>.at
 |.dead n=>.dead n
 |_=>.at
def TV.Ycc:TV→Nat→Option Nat
 |.pr _ _,0=>some 0
 |.pr a b,n+1=>match b.Ycc n with | some k=>some (a.size+k) | none=>none
 |.cl _ (.pair _ _) _,0=>some 0
 |.cl o (.pair a b) x,n+1=>match (TV.cl o b x.2).Ycc n with | some k=>some (a.size+k) | none=>none
 |_,_=>none
def TV.row:TV→TV
 |.rw o e xs _ _=>.cl o (.sl e) xs
 |v=>v
def Chk.run:Chk→TV→Bool
 |.Ycc p f n,v=>match v.get p with
  |some u=>match u.Ycc f with | some a=>Nat.beq a n | none=>false
  |none=>false
 |.row p,v=>match v.get p with
  |some (.cl .top (.sl _) _)=>true
  |some (.cl .deep (.sl _) _)=>true
  |some (.rw _ _ _ _ _)=>true
  |_=>false
def RD.run {α:Type} (S:St):RD α→Option α
 |.ret a=>some a
 |.fail=>none
 |.ck r c f=>match S.root r with | some R=>(f (c.run R.tv)).run S | none=>none
 |.tm i f=>match lk i S.tm with | some v=>(f v).run S | none=>none
 |.rt r f=>match S.root r with | some R=>(f R).run S | none=>none
 |.rt? r f=>match S.root r with | some _=>(f true).run S | none=>(f false).run S
def RD.of {α:Type}:Option α→RD α
 |some a=>.ret a
 |none=>.fail
def Yai:Nat→Path
 |0=>[.f1]
 |n+1=>.f2::Yai n
def Path.pre:Path→Path→Bool
 |[],_=>true
 |.f1::p,.f1::q=>Path.pre p q
 |.f2::p,.f2::q=>Path.pre p q
 |.el _::p,.el _::q=>Path.pre p q
 |_,_=>false
def Path.flat:Path→Bool
 |[]=>true
 |.el _::_=>false
 |_::p=>Path.flat p
def Path.far:Path→Path→Bool
 |[],q=>!Path.flat q
 |.f1::p,.f1::q=>Path.far p q
 |.f2::p,.f2::q=>Path.far p q
 |.el _::p,.el _::q=>Path.far p q
 |_,_=>false
def TV.live:TV→Bool
 |.pr a b=>a.live&&b.live
 |.dead _=>false
 |.rw _ _ _ _ _=>false
 |_=>true
def TV.kill (r:Nat) (p:Option Path):TV→TV
 |.pr a b=>.pr (a.kill r p) (b.kill r p)
 |.loc r' q=>match Nat.beq r r'&&(match p with | some p=>Path.far p q | none=>true) with | true=>.dead 1 | false=>.loc r' q
 |.seg r' q=>match Nat.beq r r'&&(match p with | some p=>Path.pre p q | none=>true) with | true=>.dead 1 | false=>.seg r' q
 |.sub r' q lo n=>match Nat.beq r r'&&(match p with | some p=>Path.pre p q | none=>true) with | true=>.dead 1 | false=>.sub r' q lo n
 |.clo f c=>match (c.kill r p).live with | true=>.clo f c | false=>.dead 1
 |.tup l=>.tup (l.kill r p)
 |.gd t w v=>.gd t w (v.kill r p)
 |v=>v
abbrev Ks:=List (Nat×Option Path)
def Yt (ks:Ks) (v:TV):TV:=match ks with
 |[]=>v
 |(r,p)::ks=>Yt ks (v.kill r p)
def Yrg (ks:Ks):Option Root→Option Root
 |some R=>some {R with tv:=Yt ks R.tv }
 |none=>none
structure Patch where
 tm:List (Nat×TV)
 rt:List (Nat×Option Root)
 ks:Ks
def St.ap (S:St) (p:Patch):St:=match p.ks with
 |[]=>{tm:=p.tm++S.tm,rt:=p.rt++S.rt }
 |ks=>{tm:=p.tm++S.tm.map fun x=>(x.1,Yt ks x.2),rt:=(p.rt++S.rt).map fun x=>(x.1,Yrg ks x.2) }
inductive TD | int (k:IntKind) | bool | str | sl (e:TypeId) | arr (n:Nat) (e:TypeId) | st (offs:List Nat) | ptr (e:TypeId) | other
structure Ydn where
 d:TD
 ty:Ty
 bytes:Nat
abbrev Tb:=List (Nat×Ydn)
section
variable (tb:Tb)
def Ych (t:TypeId):RD Ydn:=RD.of (lk t tb)
abbrev Gd:=List (Nat×Bool)
def Gd.has:Gd→Nat→Bool→Bool
 |[],_,_=>false
 |(t,true)::g,u,true=>Nat.beq t u || Gd.has g u true
 |(t,false)::g,u,false=>Nat.beq t u || Gd.has g u false
 |_::g,u,w=>Gd.has g u w
def opv (g:Gd):Operand→RD TV
 |.tmp t=>.tm t fun v=>match v with
  |.gd t' w v'=>match Gd.has g t' w with
   |true=>match v' with
    |.dead _=>.fail
    |v'=>.ret v'
   |false=>.fail
  |.dead _=>.fail
  |.kb b=>.ret (.cl .sh .bool b)
  |v=>.ret v
 |.const (.int k n)=>.ret (.cl .sh (.int k) n)
 |.const (.bool b)=>.ret (.cl .sh .bool b)
 |.const (.string s)=>.ret (.cl .sh .str s.data.toList)
 |.const (.slice none 0 0)=>.ret .nl
 |.func f=>.ret (.clo f (.cl .sh .unit ()))
 |_=>.fail
def Yhv (r:Nat) (p:Path):RD TV:=.rt r fun R=>RD.of (R.tv.get p)
inductive Els where
 |mk (e:Ty) (xs:List e.El) (o:Ow)
def els:TV→RD Els
 |.cl _ (.sl e) xs=>.ret (.mk e xs .sh)
 |.seg r p=>(Yhv r p).bind fun v=>match v with
  |.cl o (.sl e) xs=>.ret (.mk e xs o)
  |_=>.fail
 |.sub r p lo n=>(Yhv r p).bind fun v=>match v with
  |.cl o (.sl e) xs=>.ret (.mk e ((xs.drop lo).take n) o)
  |_=>.fail
 |_=>.fail
def lenOf:TV→RD Nat
 |.cl _ .str xs=>.ret xs.length
 |.nl=>.ret 0
 |.sub _ _ _ n=>.ret n
 |v=>(els v).bind fun | .mk _ xs _=>.ret xs.length
def sB (b:Bool):TV:=.cl .sh .bool b
def sI (k:IntKind) (n:Int):TV:=.cl .sh (.int k) n
def leB:List UInt8→List UInt8→Bool
 |_,[]=>false
 |[],_::_=>true
 |a::x,b::y=>a<b || (a == b&&leB x y)
def Ywg (op:BinOp) (k:IntKind) (a b:Int):RD (Option Bool×TV):=
 match op with
 |.add=>.ret (none,sI k (k.wrap (a+b)))
 |.sub=>.ret (none,sI k (k.wrap (a-b)))
 |.mul=>.ret (none,sI k (k.wrap (a*b)))
 |.quo=>.ret (some (!(b == 0)),sI k (k.wrap (a.tdiv b)))
 |.rem=>.ret (some (!(b == 0)),sI k (a.tmod b))
 |.eql=>.ret (none,sB (a == b))
 |.neq=>.ret (none,sB (a != b))
 |.lss=>.ret (none,sB (decide (a<b)))
 |.leq=>.ret (none,sB (decide (a≤b)))
 |.gtr=>.ret (none,sB (decide (a>b)))
 |.geq=>.ret (none,sB (decide (a≥b)))
 |_=>.fail
def Ywe (op:BinOp) (a b:List UInt8):RD (Option Bool×TV):=
 match op with
 |.add=>.ret (some (decide (a.length+b.length≤2147483648)),.cl .sh .str (a++b))
 |.eql=>.ret (none,sB (a == b))
 |.neq=>.ret (none,sB (!(a == b)))
 |.lss=>.ret (none,sB (leB a b))
 |.leq=>.ret (none,sB (leB a b || a == b))
 |.gtr=>.ret (none,sB (!(leB a b || a == b)))
 |.geq=>.ret (none,sB (!leB a b))
 |_=>.fail
def inB (n:Int) (len:Nat):Bool:=decide (0≤n)&&decide (n<(len:Int))
def bin (op:BinOp):TV→TV→RD (Option Bool×TV)
 |.cl _ (.int kx) a,.cl _ (.int ky) b=>match op with
  |.shl=>.ret (some (decide (0≤b)),sI kx (kx.wrap (a*2 ^ (min b.toNat kx.bits))))
  |.shr=>.ret (some (decide (0≤b)),sI kx (a.fdiv (2 ^ (min b.toNat kx.bits))))
  |_=>match decEq kx ky with
   |isTrue _=>Ywg op kx a b
   |isFalse _=>.fail
 |.cl _ .str a,.cl _ .str b=>Ywe op a b
 |.cl _ .bool a,.cl _ .bool b=>match op with
  |.eql=>.ret (none,sB (a == b))
  |.neq=>.ret (none,sB (!(a == b)))
  |_=>.fail
 |_,_=>.fail
def Yt6:Ty→Bool
 |.int _ | .bool | .str=>true
 |_=>false
def Yix:Ty→Bool
 |.unit=>true
 |.pair a b=>Yt6 a&&Yix b
 |_=>false
def eqI (a b:Int):Bool:=a == b
def Yxc (a b:Bool):Bool:=a == b
def Yv9 (a b:List UInt8):Bool:=a == b
def eqV:(t t':Ty)→t.El→t'.El→Bool
 |.int _,.int _,x,y=>eqI x y
 |.bool,.bool,x,y=>Yxc x y
 |.str,.str,x,y=>Yv9 x y
 |.unit,.unit,_,_=>true
 |.pair a b,.pair a' b',x,y=>eqV a a' x.1 y.1&&eqV b b' x.2 y.2
 |_,_,_,_=>false
def Yu8 (op:BinOp) (e:Bool):RD (Option Bool×TV):=
 match op with
 |.eql=>.ret (none,sB e)
 |.neq=>.ret (none,sB (!e))
 |_=>.fail
def slb (lo hi:Option Int) (len:Nat):Bool×Nat×Nat:=
 match lo,hi with
 |none,none=>(true,0,len)
 |some l,none=>(decide (0≤l)&&decide (l≤(len:Int)),l.toNat,len)
 |none,some h=>(decide (0≤h)&&decide (h≤(len:Int)),0,h.toNat)
 |some l,some h=>(decide (0≤h)&&decide (h≤(len:Int))&&(decide (0≤l)&&decide (l≤h)),l.toNat,h.toNat)
def Yig (g:Gd):Option Operand→RD (Option Int)
 |none=>.ret none
 |some x=>(opv g x).bind fun v=>match v with | .cl _ (.int _) n=>.ret (some n) | _=>.fail
def Ykz (r:Nat) (p:Path) (ty:Ty):RD (Option Bool×TV):=(Yhv r p).bind fun tv=>match decEq tv.lay ty.lay,tv.live with
 |isTrue _,true=>.ret (none,tv.mir r p)
 |_,_=>.fail
def pv (g:Gd) (o:Oper):RD (Option Bool×TV):=
 match o.op with
 |.move x=>(opv g x).bind fun v=>.ret (none,v)
 |.pick c a b=>match c with
  |.tmp u=>.tm u fun vc=>match vc with
   |.kb true=>(opv ((u,true)::g) a).bind fun v=>.ret (none,v)
   |.kb false=>(opv ((u,false)::g) b).bind fun v=>.ret (none,v)
   |_=>(opv g (.tmp u)).bind fun vc=>match vc with
    |.cl _ .bool t=>(opv ((u,true)::g) a).bind fun va=>(opv ((u,false)::g) b).bind fun vb=>match va,vb with
     |.cl _ .bool x,.cl _ .bool y=>.ret (none,sB (cond t x y))
     |.cl _ (.int k) x,.cl _ (.int k') y=>match decEq k' k with
      |isTrue _=>.ret (none,sI k (cond t x y))
      |isFalse _=>.fail
     |_,_=>.fail
    |_=>.fail
  |_=>.fail
 |.load t x=>(opv g x).bind fun v=>(Ych tb t).bind fun i=>match v with
  |.loc r p=>match i.ty with
   |.sl _=>.ck r (.row p) fun b=>match b with
    |true=>.ret (none,.seg r p)
    |false=>Ykz r p i.ty
   |_=>Ykz r p i.ty
  |.pt u y=>match decEq u.lay i.ty.lay with
   |isTrue _=>.ret (none,.cl .sh u y)
   |isFalse _=>.fail
  |_=>.fail
 |.fieldAddr s x f=>(opv g x).bind fun v=>(Ych tb s).bind fun i=>match i.d with
  |.st offs=>match v with
   |.loc r p=>match offs[f]? with
    |some n=>.ck r (.Ycc p f n) fun b=>match b with
     |true=>.ret (none,.loc r (p++Yai f))
     |false=>.fail
    |none=>.fail
   |.pt u y=>match (TV.cl .sh u y).Ycc f,offs[f]?,(TV.cl .sh u y).get (Yai f) with
    |some a,some b,some (.cl _ u' y')=>match Nat.beq a b with
     |true=>.ret (none,.pt u' y')
     |false=>.fail
    |_,_,_=>.fail
   |_=>.fail
  |_=>.fail
 |.field t x f=>(opv g x).bind fun v=>(Ych tb t).bind fun i=>match i.d with
  |.st offs=>match decEq v.lay i.ty.lay with
   |isTrue _=>match v.Ycc f,offs[f]?,v.get (Yai f) with
    |some a,some b,some u=>match Nat.beq a b with
     |true=>.ret (none,u)
     |false=>.fail
    |_,_,_=>.fail
   |isFalse _=>.fail
  |_=>.fail
 |.indexAddr t x i=>(opv g x).bind fun v=>(opv g i).bind fun vi=>(Ych tb t).bind fun ti=>match vi with
  |.cl _ (.int _) n=>match ti.d with
   |.sl _=>match v with
    |.seg r p=>(Yhv r p).bind fun c=>match c.row with
     |.cl _ (.sl e) xs=>match decEq (Ty.sl e) ti.ty with
      |isTrue _=>.ret (some (inB n xs.length),.loc r (p++[.el n.toNat]))
      |isFalse _=>.fail
     |_=>.fail
    |.sub r p lo m=>(Yhv r p).bind fun c=>match c with
     |.cl _ (.sl e) _=>match decEq (Ty.sl e) ti.ty with
      |isTrue _=>.ret (some (inB n m),.loc r (p++[.el (lo+n.toNat)]))
      |isFalse _=>.fail
     |_=>.fail
    |.cl _ (.sl e) xs=>match decEq (Ty.sl e) ti.ty with
     |isTrue _=>.ret (some (inB n xs.length),.pt e (xs.getD n.toNat e.zero))
     |isFalse _=>.fail
    |_=>.fail
   |.arr m _=>match v with
    |.loc r p=>(Yhv r p).bind fun c=>match c with
     |.cl _ (.arr m' e) _=>match decEq (Ty.arr m' e) ti.ty with
      |isTrue _=>.ret (some (inB n m),.loc r (p++[.el n.toNat]))
      |isFalse _=>.fail
     |_=>.fail
    |.pt (.arr m' e) xs=>match decEq (Ty.arr m' e) ti.ty with
     |isTrue _=>.ret (some (inB n m),.pt e (xs.getD n.toNat e.zero))
     |isFalse _=>.fail
    |_=>.fail
   |_=>.fail
  |_=>.fail
 |.index t x i=>(opv g x).bind fun v=>(opv g i).bind fun vi=>(Ych tb t).bind fun ti=>match ti.d,v,vi with
  |.str,.cl _ .str l,.cl _ (.int _) n=>.ret (some (inB n l.length),sI .u8 ((l.getD n.toNat 0).toNat:Int))
  |.arr _ _,.cl _ (.arr m e) l,.cl _ (.int _) n=>match decEq (Ty.arr m e) ti.ty with
   |isTrue _=>match e with
    |.int k=>.ret (some (inB n m),sI k (l.getD n.toNat (Ty.int k).zero))
    |.bool=>.ret (some (inB n m),sB (l.getD n.toNat Ty.bool.zero))
    |_=>.fail
   |isFalse _=>.fail
  |_,_,_=>.fail
 |.binOp op t x y _=>(opv g x).bind fun a=>(opv g y).bind fun b=>match a with
  |.cl _ .bool _=>(Ych tb t).bind fun i=>match i.d with
   |.bool=>bin op a b
   |_=>.fail
  |.cl _ (.pair p q) xa=>(Ych tb t).bind fun i=>match i.d,b with
   |.st _,.cl _ ty xb=>match decEq (Ty.pair p q) i.ty,decEq ty i.ty,Yix i.ty&&Nat.beq i.bytes 0 with
    |isTrue _,isTrue _,true=>Yu8 op (eqV (.pair p q) ty xa xb)
    |_,_,_=>.fail
   |_,_=>.fail
  |_=>bin op a b
 |.unOp op _ x=>(opv g x).bind fun v=>match op,v with
  |.not,.cl _ .bool b=>.ret (none,sB (!b))
  |.neg,.cl _ (.int k) n=>.ret (none,sI k (k.wrap (0-n)))
  |_,_=>.fail
 |.nilCheck x=>(opv g x).bind fun v=>match v with
  |.loc _ _ | .pt _ _ | .clo _ _=>.ret (none,v)
  |_=>.fail
 |.extract x i=>(opv g x).bind fun v=>match v with
  |.tup l=>match l.get (Yai i) with | some u=>.ret (none,u) | none=>.fail
  |_=>.fail
 |.slice t x lo hi mx=>(opv g x).bind fun v=>(Ych tb t).bind fun ti=>match mx with
  |some (.const (.int _ 0))=>match hi with
   |some (.const (.int _ 0))=>match lo,ti.d with
    |none,.sl _=>(lenOf v).bind fun _=>match v with
     |.cl _ .str _=>.fail
     |_=>.ret (none,.nl)
    |_,_=>.fail
   |_=>.fail
  |some _=>.fail
  |none=>(Yig g lo).bind fun l=>(Yig g hi).bind fun h=>match ti.d,v with
   |.str,.cl _ .str s=>match slb l h s.length with
    |(b,l,h)=>.ret (some b,.cl .sh .str ((s.take h).drop l))
   |.sl _,.cl _ (.sl e) xs=>match decEq (Ty.sl e) ti.ty with
    |isTrue _=>match slb l h xs.length with
     |(b,l,h)=>.ret (some b,.cl .sh (.sl e) ((xs.take h).drop l))
    |isFalse _=>.fail
   |.sl _,.seg r p=>(els (.seg r p)).bind fun
    |.mk e xs _=>match decEq (Ty.sl e) ti.ty with
     |isTrue _=>match slb l h xs.length with
      |(b,l,h)=>.ret (some b,.sub r p l (h-l))
     |isFalse _=>.fail
   |.sl _,.sub r p lo n=>(els (.sub r p lo n)).bind fun
    |.mk e _ _=>match decEq (Ty.sl e) ti.ty with
     |isTrue _=>match slb l h n with
      |(b,l,h)=>.ret (some b,.sub r p (lo+l) (h-l))
     |isFalse _=>.fail
   |_,_=>.fail
 |.convert src dst x=>(opv g x).bind fun v=>(Ych tb src).bind fun sd=>(Ych tb dst).bind fun d=>match d.d,v with
  |.int k,.cl _ (.int _) n=>.ret (none,sI k (k.wrap n))
  |.str,.cl _ .str s=>match sd.d with
   |.str=>.ret (none,.cl .sh .str s)
   |_=>.fail
  |.str,v=>match sd.d with
   |.sl _=>match sd.ty with
    |.sl (.int .u8)=>(els v).bind fun
     |.mk (.int .u8) xs _=>.ret (none,.cl .sh .str (xs.map fun n=>UInt8.ofNat n.toNat))
     |_=>.fail
    |_=>.fail
   |_=>.fail
  |_,_=>.fail
 |.makeFunc (.func f) first cap=>match first.toList with
  |[]=>(caps g cap.toList).bind fun c=>.ret (none,.clo f c)
  |_=>.fail
 |.call {callee:=.builtin .len,args,argTypes }=>match args.toList,argTypes.toList with
  |[x],t::_=>(opv g x).bind fun v=>(Ych tb t).bind fun i=>match i.d,v with
   |.str,.cl _ .str xs=>.ret (none,sI .i64 ((xs.length:Nat):Int))
   |.str,_=>.fail
   |.sl _,.cl _ .str _=>.fail
   |.sl _,v=>(lenOf v).bind fun n=>.ret (none,sI .i64 (n:Int))
   |_,_=>.fail
  |_,_=>.fail
 |.call {callee:=.builtin .min,args,.. }=>match args.toList with
  |[x,y]=>(opv g x).bind fun a=>(opv g y).bind fun b=>match a,b with
   |.cl _ (.int k) x,.cl _ (.int _) y=>.ret (none,sI k (cond (decide (y<x)) y x))
   |_,_=>.fail
  |_=>.fail
 |.call {callee:=.builtin .max,args,.. }=>match args.toList with
  |[x,y]=>(opv g x).bind fun a=>(opv g y).bind fun b=>match a,b with
   |.cl _ (.int k) x,.cl _ (.int _) y=>.ret (none,sI k (cond (decide (y>x)) y x))
   |_,_=>.fail
  |_=>.fail
 |_=>.fail
 where
 caps (g:Gd):List Operand→RD TV
  |[]=>.ret (.cl .sh .unit ())
  |x::l=>(opv g x).bind fun v=>match v with
   |.loc r p=>(caps g l).bind fun c=>.ret (.pr (.loc r p) c)
   |.pt t y=>(caps g l).bind fun c=>.ret (.pr (.pt t y) c)
   |_=>.fail
structure Hint where
 fz:List Nat
 tz:List Nat
 az:List Nat
 q:Nat
def Ya0 (n:Nat):List Nat→Bool
 |[]=>false
 |m::l=>Nat.beq n m || Ya0 n l
def Hint.q1 (h:Hint):Nat:=match h.q with | 1=>1 | 3=>3 | _=>0
def Hint.qAt (h:Hint) (r:Nat):Nat:=match Ya0 r h.az with | true=>2 | false=>h.q1
def Ywc (h:Hint) (d:Nat) (e:Ty):Ow:=match (Ya0 d h.tz || Nat.beq h.q 1)&&!e.pure with | true=>.top | false=>.deep
def Yrm (q:Nat) (e:Ty):TV:=match q with
 |2=>.nl
 |1=>match e.pure with | true=>.cl .deep (.sl e) ([]:List e.El) | false=>.cl .top (.sl e) ([]:List e.El)
 |3=>.cl .sh (.sl e) ([]:List e.El)
 |_=>.cl .deep (.sl e) ([]:List e.El)
structure Yk where
 rt:List (Nat×Option Root)
 ks:Ks
def Yk.none:Yk:=⟨[],[]⟩
def Ym6 (K:Yk) (r:Nat) (p:Path) (R:Root) (c:TV):RD (TV×Yk):=match R.tv.set p (.dead 1) with
 |some tv=>.ret (c,⟨(r,some ⟨R.k,tv⟩)::K.rt,(r,some p)::K.ks⟩)
 |none=>.fail
def takeC (K:Yk) (r:Nat) (p:Path) (R:Root) (c:TV):RD (TV×Yk):=match p,R.k with
 |[],.reg=>.ret (c,⟨(r,none)::K.rt,(r,none)::K.ks⟩)
 |p,_=>Ym6 K r p R c
def Yhb (K:Yk) (r:Nat) (p:Path) (R:Root):RD (TV×Yk):=
 match R.tv.get p with
  |some (.cl o (.sl e) x)=>match o with
   |.sh=>.fail
   |_=>takeC K r p R (.cl o (.sl e) x)
  |_=>.fail
def Ybv (K:Yk) (r:Nat) (p:Path):RD (TV×Yk):=
 match lk r K.rt with
 |some (some R)=>match Path.flat p with
  |true=>Yhb K r p R
  |false=>.fail
 |some none=>.fail
 |none=>.rt r fun R=>Yhb K r p R
def Ynk (lo n:Nat):TV→Option TV
 |.cl o (.sl e) xs=>some (.cl o (.sl e) ((xs.drop lo).take n))
 |_=>none
def Ya6 (q np:Nat) (K:Yk):Ty→TV→RD (TV×Yk)
 |_,.cl o t x=>.ret (.cl o t x,K)
 |.sl e,.nl=>.ret (Yrm q e,K)
 |.pair t u,.pr a b=>(Ya6 q np K t a).bind fun(a',K)=>(Ya6 q np K u b).bind fun(b',K)=>.ret (Yal a' b',K)
 |_,.seg r p=>match Nat.blt r np with
  |true=>.ret (.seg r p,K)
  |false=>Ybv K r p
 |_,.sub r p lo n=>(Ybv K r p).bind fun(v,k)=>match Ynk lo n v with | some v=>.ret (v,k) | none=>.fail
 |_,.loc r p=>.ret (.loc r p,K)
 |_,.pt t x=>.ret (.pt t x,K)
 |_,.clo f c=>.ret (.clo f c,K)
 |_,_=>.fail
def share:Ty→TV→RD TV
 |_,.cl _ t x=>.ret (.cl .sh t x)
 |.sl e,.nl=>.ret (.cl .sh (.sl e) ([]:List e.El))
 |.pair t u,.pr a b=>(share t a).bind fun a'=>(share u b).bind fun b'=>match a',b' with
  |.cl _ t x,.cl _ u y=>.ret (.cl .sh (.pair t u) (x,y))
  |_,_=>.fail
 |_,.seg r p=>(els (.seg r p)).bind fun | .mk e xs _=>.ret (.cl .sh (.sl e) xs)
 |_,.sub r p lo n=>(els (.sub r p lo n)).bind fun | .mk e xs _=>.ret (.cl .sh (.sl e) xs)
 |_,_=>.fail
def Ygr:TV→RD TV
 |.cl _ t x=>.ret (.cl .sh t x)
 |.pr a b=>(Ygr a).bind fun a'=>(Ygr b).bind fun b'=>match a',b' with
  |.cl _ t x,.cl _ u y=>.ret (.cl .sh (.pair t u) (x,y))
  |_,_=>.fail
 |_=>.fail
def Yiq:TV→RD TV
 |.pt t x=>.ret (.pt t x)
 |.loc r p=>(Yhv r p).bind fun c=>(Ygr c).bind fun v=>match v with | .cl _ t x=>.ret (.pt t x) | _=>.fail
 |_=>.fail
def Yef:TV→RD TV
 |.cl o t x=>.ret (.cl o t x)
 |.pr a b=>(Yiq a).bind fun a'=>(Yef b).bind fun b'=>.ret (.pr a' b')
 |_=>.fail
inductive Md | sh | mu | mv
def argTy (t:TypeId):Ty:=match lk t tb with | some i=>i.ty | none=>.unit
def Yd5 (two:Bool):Path→Option Path
 |[.f1]=>match two with | true=>none | false=>some []
 |[.f2]=>match two with | true=>some [] | false=>none
 |x::p=>match Yd5 two p with | some q=>some (x::q) | none=>none
 |[]=>none
def Yde:TV→Option (Nat×Path)
 |.seg r p=>some (r,p)
 |.pr a b=>match Yde a with
  |some (r,p)=>match Yd5 false p with | some q=>some (r,q) | none=>none
  |none=>match Yde b with
   |some (r,p)=>match Yd5 true p with | some q=>some (r,q) | none=>none
   |none=>none
 |_=>none
def Path.eqf:Path→Path→Bool
 |[],[]=>true
 |.f1::p,.f1::q=>Path.eqf p q
 |.f2::p,.f2::q=>Path.eqf p q
 |_,_=>false
def TV.Yf9:TV→Bool
 |.cl o t _=>match o with | .sh=>true | _=>t.pure
 |.pr a b=>a.Yf9&&b.Yf9
 |_=>false
def isRow:TV→Bool
 |.cl o (.sl _) _=>match o with | .sh=>false | _=>true
 |_=>false
def TV.fst:TV→Option TV
 |.pr a _=>some a
 |.cl o (.pair t _) x=>some (.cl o t x.1)
 |_=>none
def TV.snd:TV→Option TV
 |.pr _ b=>some b
 |.cl o (.pair _ u) x=>some (.cl o u x.2)
 |_=>none
def Ycz (r:Nat):Path→TV→TV→Option TV
 |p,.seg r' q,c=>match Nat.beq r' r&&(Path.eqf q p&&isRow c) with | true=>some c | false=>none
 |_,.cl o t x,c=>match c.Yf9,decEq c.lay t.lay with | true,isTrue _=>some (.cl o t x) | _,_=>none
 |p,.pr a b,c=>match c.fst,c.snd with
  |some c1,some c2=>match Ycz r (p++[.f1]) a c1,Ycz r (p++[.f2]) b c2 with
   |some x,some y=>some (Yal x y)
   |_,_=>none
  |_,_=>none
 |_,_,_=>none
def Ydc:TV→TV→TV→Option TV
 |.seg _ _,c,o=>match c,o with
  |.cl _ (.sl e) _,.cl o' (.sl e') ys=>match decEq e' e,isRow (.cl o' (.sl e') ys) with
   |isTrue _,true=>some (.cl o' (.sl e') ys)
   |_,_=>none
  |.cl _ (.sl _) _,.dead 1=>some (.dead 1)
  |_,_=>none
 |.cl _ _ _,c,o=>match decEq o.lay c.lay with | isTrue _=>some c | isFalse _=>none
 |.pr a b,c,o=>match c.fst,c.snd,o.fst,o.snd with
  |some c1,some c2,some o1,some o2=>match Ydc a c1 o1,Ydc b c2 o2 with
   |some x,some y=>some (Yal x y)
   |_,_=>none
  |_,_,_,_=>none
 |_,_,_=>none
abbrev Ks':=List (Nat×Option Path)
def Ygz:TV→Ks'
 |.seg r p=>[(r,some (p++[.el 0]))]
 |.pr a b=>Ygz a++Ygz b
 |_=>[]
def Ye5:TV→TV→Ks'
 |.seg r p,.dead _=>[(r,some p)]
 |.pr a b,o=>match o.fst,o.snd with
  |some o1,some o2=>Ye5 a o1++Ye5 b o2
  |_,_=>[]
 |_,_=>[]
def Ycx (t:TypeId):TV→RD TV
 |.cl o t x=>.ret (.cl o t x)
 |.nl=>match argTy tb t with | .sl e=>.ret (.cl .deep (.sl e) ([]:List e.El)) | _=>.fail
 |.loc r p=>(Yhv r p).bind fun c=>.ret (.op c)
 |.seg r p=>(Yhv r p).bind fun c=>match isRow c with | true=>.ret c | false=>.fail
 |.pr a b=>match Yde (.pr a b) with
  |some (r,p)=>(Yhv r p).bind fun c=>RD.of (Ycz r p (.pr a b) c)
  |none=>.fail
 |_=>.fail
def Yhf (K:Yk) (t:TypeId):Md→TV→RD (TV×Yk)
 |.sh,.loc r p=>(Yiq (.loc r p)).bind fun v=>.ret (v,K)
 |.sh,.pt u x=>.ret (.pt u x,K)
 |.sh,.clo f c=>(Yef c).bind fun c'=>.ret (.clo f c',K)
 |.sh,v=>(share (argTy tb t) v).bind fun v=>.ret (v,K)
 |.mu,v=>(Ycx tb t v).bind fun v=>.ret (v,K)
 |.mv,_=>.fail
def Yfl (K:Yk):List TypeId→List Md→List TV→RD (List TV×Yk)
 |_,[],[]=>.ret ([],K)
 |t::ts,m::ms,v::vs=>(Yhf tb K t m v).bind fun(c,K)=>(Yfl K ts ms vs).bind fun(cs,K)=>.ret (c::cs,K)
 |[],m::ms,v::vs=>(Yhf tb K 0 m v).bind fun(c,K)=>(Yfl K [] ms vs).bind fun(cs,K)=>.ret (c::cs,K)
 |_,_,_=>.fail
def Yff:TV→Option (Nat×Path)
 |.loc r p=>match Path.flat p with | true=>some (r,p) | false=>none
 |.seg r p=>some (r,p)
 |.pr a b=>match Yde (.pr a b) with
  |some (r,p)=>match Path.flat p with | true=>some (r,p) | false=>none
  |none=>none
 |_=>none
def TV.Yhm:TV→Bool
 |.cl _ _ _ | .nl=>false
 |_=>true
def Yas:List Md→List TV→List TV
 |.mu::ms,v::vs=>match v.Yhm with | true=>v::Yas ms vs | false=>Yas ms vs
 |_::ms,_::vs=>Yas ms vs
 |_,_=>[]
def Yc6:List Md→List TV→List TV→Option TV
 |.mu::ms,v::vs,o::os=>match v.Yhm with | true=>some o | false=>Yc6 ms vs os
 |.mu::_,_::_,[]=>none
 |_::ms,_::vs,os=>Yc6 ms vs os
 |_,_,_=>none
def TV.roots:TV→List Nat
 |.pr a b=>a.roots++b.roots
 |.loc r _=>[r]
 |.seg r _=>[r]
 |.sub r _ _ _=>[r]
 |.clo _ c=>c.roots
 |.tup l=>l.roots
 |.gd _ _ v=>v.roots
 |_=>[]
def Yea:List Md→List TV→List Nat
 |.sh::ms,v::vs=>v.roots++Yea ms vs
 |_::ms,_::vs=>Yea ms vs
 |_,_=>[]
def Yf7:List Md→List TV→List TV
 |.sh::ms,v::vs=>v::Yf7 ms vs
 |_::ms,_::vs=>Yf7 ms vs
 |_,_=>[]
def Yor (rt:List (Nat×Option Root)) (l:List Nat):Bool:=l.all fun r=>match lk r rt with | some _=>false | none=>true
def Ynt (K:Yk) (ms:List Md) (vs:List TV):Bool:=match Yas ms vs with
 |[]=>Yor K.rt (Yea ms vs)
 |[v]=>match Yff v with
  |some (r,_)=>Yor K.rt (Yea ms vs)&&(Yor K.rt [r]&&!Ya0 r (Yea ms vs))
  |none=>false
 |_=>false
def TV.shut:TV→Bool
 |.cl _ _ _ | .nl | .pt _ _=>true
 |.pr a b=>a.shut&&b.shut
 |.op v=>v.shut
 |.clo _ c=>c.shut
 |_=>false
abbrev Bk:=List (Nat×Option Root)×Ks
def Yhq (v old o:TV):Option (TV×Ks):=match v,o with
 |.loc r p,.op c=>some (c,[(r,some p)])
 |.loc _ _,_=>none
 |v,o=>match Ydc v old o with | some n=>some (n,Ygz v++Ye5 v o) | none=>none
def back (K:Yk) (ms:List Md) (vs os:List TV):RD Bk:=match Yas ms vs with
 |[]=>.ret (K.rt,K.ks)
 |v::_=>match Yff v,Yc6 ms vs os with
  |some (r,p),some o=>.rt r fun R=>match R.tv.get p with
   |some old=>match Yhq v old o with
    |some (n,ks)=>match decEq n.lay old.lay with
     |isTrue _=>match R.tv.set p n with
      |some tv=>.ret ((r,some ⟨R.k,tv⟩)::K.rt,ks++K.ks)
      |none=>.fail
     |isFalse _=>.fail
    |none=>.fail
   |none=>.fail
  |_,_=>.fail
structure Out where
 res:List TV
 outs:List TV
structure FS where
 modes:List Md
 F:List TV→∀ R:Type,(Out→Option R)→Option R
abbrev Gam:=FuncId→Option FS
def nsh (o:Ow) (t:Ty):Bool:=match o with | .sh=>t.pure | .top=>t.Yez | .deep=>true
def TV.noSh:TV→Bool
 |.cl o t _=>nsh o t
 |.pr a b=>a.noSh&&b.noSh
 |.op v=>v.noSh
 |_=>false
def TV.Ybp:TV→Bool
 |.cl _ _ _ | .pt _ _ | .nl=>true
 |.pr a b=>a.Ybp&&b.Ybp
 |.clo _ c=>c.Ybp
 |_=>false
def Yrv (d:Nat) (p:Path):TV→TV
 |.op _=>.loc d []
 |v=>v.mir d p
def Y8:TV→Option Root
 |.op v=>some ⟨.mem,v⟩
 |.cl o t x=>match t.pure,o with
  |true,_=>none
  |false,.sh=>none
  |false,o=>some ⟨.reg,.cl o t x⟩
 |.pr a b=>some ⟨.reg,.pr a b⟩
 |_=>none
def TV.Ylk:TV→Bool
 |.pr a b=>a.Ylk&&b.Ylk
 |.op _=>false
 |_=>true
def chain:List TV→TV
 |[]=>.cl .sh .unit ()
 |v::l=>.pr v (chain l)
def Ybf (np:Nat) (d:Option Nat) (R:List (Nat×Option Root)) (ks:Ks):List TV→RD Patch
 |[]=>.ret ⟨match d with | some d=>[(d,.tup (chain []))] | none=>[],R,ks⟩
 |[c]=>match d with
  |none=>.ret ⟨[],R,ks⟩
  |some d=>match Y8 c with
   |none=>.ret ⟨[(d,c.mir d [])],R,ks⟩
   |some rt=>match Nat.blt d np with
    |true=>.fail
    |false=>.rt? d fun b=>.ret ⟨[(d,Yrv d [] c)],(d,some rt)::R,match b with | true=>(d,none)::ks | false=>ks⟩
 |cs=>match d with
  |none=>.ret ⟨[],R,ks⟩
  |some d=>match Nat.blt d np || !cs.all TV.Ylk with
   |true=>.fail
   |false=>.rt? d fun b=>.ret ⟨[(d,.tup ((chain cs).mir d []))],(d,some ⟨.reg,chain cs⟩)::R,match b with | true=>(d,none)::ks | false=>ks⟩
inductive Yc1 where
 |step (chk:Option Bool) (p:Patch)
 |call (c:Option (Bool×Nat×Bool)) (f:FuncId) (cs:List TV) (post:Out→RD Patch)
def LIM:Nat:=2147483648
def Yam (np d:Nat) (v:TV) (rt:Root) (k:Yk):RD Patch:=match Nat.blt d np with
 |true=>.fail
 |false=>.rt? d fun b=>.ret ⟨[(d,v)],(d,some rt)::k.rt,match b with | true=>(d,none)::k.ks | false=>k.ks⟩
def Yp8 (g:Gd):List Operand→RD (List TV)
 |[]=>.ret []
 |o::os=>(opv g o).bind fun v=>(Yp8 g os).bind fun vs=>.ret (v::vs)
def Y7:Ty→Nat→Ty
 |.pair a _,0=>a
 |.pair _ b,n+1=>Y7 b n
 |_,_=>.unit
def Yc0:Ty→TV
 |.sl _=>.nl
 |.pair a b=>match (Ty.pair a b).pure with
  |true=>.cl .sh (.pair a b) (a.zero,b.zero)
  |false=>.pr (Yc0 a) (Yc0 b)
 |t=>.cl .sh t t.zero
def Yl7 (h:Hint) (d:Nat) (t:Ty):TV:=match Ya0 d h.az with
 |true=>Yc0 t
 |false=>.cl .deep t t.zero
def partAt (i:Nat):List (Nat×Operand)→Option Operand
 |[]=>none
 |(j,x)::l=>match Nat.beq i j with | true=>some x | false=>partAt i l
def Ypm:TV→TV→TV
 |.cl _ t x,.cl _ u y=>.cl .sh (.pair t u) (x,y)
 |a,b=>.pr a b
def Yev (n:Nat):List (Nat×Operand)→Bool
 |[]=>true
 |(i,_)::l=>Nat.blt i n&&(match partAt i l with | some _=>false | none=>true)&&Yev n l
def TV.Ysl:TV→Bool
 |.tup _=>false
 |_=>true
def Yik (g:Gd) (parts:List (Nat×Operand)):Nat→Nat→List Nat→Ty→RD TV
 |i,k,o::os,.pair a b=>match Nat.beq o k with
  |true=>(match partAt i parts with | some x=>opv g x | none=>.ret (Yc0 a)).bind fun v=>match Nat.beq v.size a.size&&v.Ysl with
   |true=>(Yik g parts (i+1) (k+a.size) os b).bind fun w=>.ret (Ypm v w)
   |false=>.fail
  |false=>.fail
 |_,_,[],.unit=>.ret (.cl .sh .unit ())
 |_,_,_,_=>.fail
def Yie (h:Hint) (g:Gd) (np:Nat) (e:Ty):Yk→Nat→List (Nat×Operand)→RD (List e.El×Bool×Yk)
 |K,_,[]=>.ret ([],true,K)
 |K,i,(j,x)::ps=>match Nat.beq i j with
  |true=>(opv g x).bind fun v=>(Ya6 h.q1 np K e v).bind fun(c,K)=>match c with
   |.cl o t y=>match decEq t e with
    |isTrue e=>(Yie h g np _ K (i+1) ps).bind fun(l,b,K)=>
     .ret ((e▸y)::l,(match Yju t o with | .deep=>true | _=>false)&&b,K)
    |isFalse _=>.fail
   |_=>.fail
  |false=>.fail
def Yiw (np:Nat):TV→RD (Els×Yk)
 |.nl=>.fail
 |.seg r p=>(els (.seg r p)).bind fun
  |.mk e xs o=>match e.pure,o with
   |true,_=>.ret (.mk e xs .deep,.none)
   |false,.deep=>match Nat.blt r np with
    |true=>.fail
    |false=>(Ybv .none r p).bind fun(_,k)=>.ret (.mk e xs .deep,k)
   |false,_=>.ret (.mk e xs .sh,.none)
 |.cl _ .str s=>.ret (.mk (.int .u8) (s.map fun b=>(b.toNat:Int)) .deep,.none)
 |v=>(els v).bind fun | .mk e xs o=>match e.pure,o with
  |true,_=>.ret (.mk e xs .deep,.none)
  |false,.deep=>.fail
  |false,_=>.ret (.mk e xs .sh,.none)
def Ylw (K:Yk) (e:Ty):TV→RD (List e.El×Ow×Yk)
 |.nl=>.ret ([],.deep,K)
 |.seg r p=>(Ybv K r p).bind fun(v,k)=>match v with
  |.cl o (.sl e') xs=>match decEq e' e with
   |isTrue h=>.ret (h▸xs,o,k)
   |isFalse _=>.fail
  |_=>.fail
 |_=>.fail
def splice {α:Type} (xs:List α) (lo:Nat) (ys:List α):List α:=xs.take lo++ys++xs.drop (lo+ys.length)
def unchain:TV→List TV
 |.pr a b=>a::unchain b
 |_=>[]
def ovR (d:Option Nat) (v:TV) (r lo:Nat) (n:Option Nat) (R:Root) (f:(e:Ty)→(n:Nat)→Option (List e.El)):RD Yc1:=match R.k,R.tv with
 |.reg,.cl ow (.sl e) xs=>match ow,e.pure,f e (n.getD xs.length) with
  |.sh,_,_=>.fail
  |_,true,some ys=>.ret (.step none ⟨match d with | some d=>[(d,v)] | none=>[],[(r,some ⟨.reg,.cl ow (.sl e) (splice xs lo ys)⟩)],[]⟩)
  |_,_,_=>.fail
 |_,_=>.fail
def over (d:Option Nat) (v:TV) (vs:TV) (f:(e:Ty)→(n:Nat)→Option (List e.El)):RD Yc1:=match vs with
 |.seg r []=>.rt r fun R=>ovR d v r 0 none R f
 |.sub r [] lo n=>.rt r fun R=>ovR d v r lo (some n) R f
 |_=>.fail
def Yhj (cd:Option (Bool×Nat×Bool)) (g:Gd) (o:Oper):RD Yc1:=(pv tb g o).bind fun(b,v)=>match cd with
 |none=>.ret (.step b ⟨match o.dst with | some d=>[(d,v)] | none=>[],[],[]⟩)
 |some (c,t,w)=>match v with
  |.tup _=>.fail
  |.dead _=>.fail
  |v=>.ret (.step (match b with | some b=>some (cond c b true) | none=>none) ⟨match o.dst with | some d=>[(d,.gd t w v)] | none=>[],[],[]⟩)
def Yif (r:Nat) (p:Path) (ks:Ks):TV→Ks
 |.cl _ t _=>match t.pure with | true=>ks | false=>(r,some p)::ks
 |_=>(r,some p)::ks
def Ypt (r:Nat) (p:Path) (c:TV) (k:Yk) (R:Root) (old:TV):RD Yc1:=
 match decEq old.lay c.lay with
 |isTrue _=>match R.tv.set p c with
  |some tv=>.ret (.step none ⟨[],(r,some ⟨R.k,tv⟩)::k.rt,Yif r p k.ks old⟩)
  |none=>.fail
 |isFalse _=>.fail
def put (r:Nat) (p:Path) (c:TV) (k:Yk) (R:Root):RD Yc1:=
 match R.tv.get p with
 |some old=>match R.k with
  |.reg=>match Path.flat p with
   |true=>.fail
   |false=>Ypt r p c k R old
  |.mem=>Ypt r p c k R old
 |none=>.fail
def Yt3 (r:Nat) (p:Path) (c:TV) (k:Yk) (R:Root):RD Yc1:=match R.tv.Ymj with
 |true=>match R.tv.Ym7 p,R.tv.Yhx p c with
  |some (b,old),some (_,tv)=>match decEq old.lay c.lay with
   |isTrue _=>.ret (.step (some b) ⟨[],(r,some ⟨R.k,tv⟩)::k.rt,Yif r p k.ks old⟩)
   |isFalse _=>.fail
  |_,_=>.fail
 |false=>put r p c k R
def Yga (np d:Nat) (v:TV):RD Yc1:=match v with
 |.seg r []=>match Nat.beq r d || Nat.blt r np || Nat.blt d np with
  |true=>.ret (.step none ⟨[(d,.seg r [])],[],[]⟩)
  |false=>.rt r fun R=>match R.k,R.tv.Ymj with
   |.reg,false=>(Yam np d (.seg d []) R ⟨[(r,none)],[(r,none)]⟩).bind fun p=>.ret (.step none p)
   |_,_=>.ret (.step none ⟨[(d,.seg r [])],[],[]⟩)
 |.sub r [] lo n=>match Nat.blt r np || Nat.blt d np with
  |true=>.ret (.step none ⟨[(d,.sub r [] lo n)],[],[]⟩)
  |false=>.rt r fun R=>match R.k,R.tv with
   |.reg,.cl .deep (.sl e) xs=>nar r lo n .deep e xs
   |.reg,.cl .top (.sl e) xs=>nar r lo n .top e xs
   |_,_=>.ret (.step none ⟨[(d,.sub r [] lo n)],[],[]⟩)
 |v=>.ret (.step none ⟨[(d,v)],[],[]⟩)
 where
 nar (r lo n:Nat) (o:Ow) (e:Ty) (xs:List e.El):RD Yc1:=
  (Yam np d (.seg d []) ⟨.reg,.cl o (.sl e) ((xs.drop lo).take n)⟩ ⟨[(r,none)],[(r,none)]⟩).bind fun p=>.ret (.step none p)
def TV.Ytk:TV→Option ((t:Ty)×t.El)
 |.cl o t y=>match Yju t o with
  |.sh=>some ⟨t,y⟩
  |.top=>none
  |.deep=>match t.pure with | true=>some ⟨t,y⟩ | false=>none
 |_=>none
def Yv6 (h:Hint) (np d:Nat) (t:Ty) (v:TV):RD Yc1:=match Ya0 d h.fz&&!Nat.blt d np,v.Ytk with
 |true,some ⟨t,y⟩=>.rt? d fun b=>.ret (.step none ⟨[(d,.pt t y)],[(d,none)],match b with | true=>[(d,none)] | false=>[]⟩)
 |_,_=>(Ya6 h.q1 np .none t v).bind fun(c,k)=>(Yam np d (.loc d []) ⟨.mem,c⟩ k).bind fun p=>.ret (.step none p)
def doR (h:Hint) (np:Nat) (g:Gd) (o:Oper):RD Yc1:=
 match o.op with
 |.assign x=>match o.dst with
  |some d=>match x with
   |.const (.slice none 0 0)=>(Ych tb o.type).bind fun i=>match i.ty with
    |.sl e=>(Yam np d (.seg d []) ⟨.reg,.cl (Ywc h d e) (.sl e) ([]:List e.El)⟩ .none).bind fun p=>.ret (.step none p)
    |_=>.fail
   |.const (.pointer none)=>.ret (.step none ⟨[(d,.dead 1)],[],[]⟩)
   |x=>(opv g x).bind fun v=>Yga np d v
  |none=>.fail
 |.alloc t=>match o.dst with
  |some d=>(Ych tb t).bind fun i=>(Yam np d (.loc d []) ⟨.mem,Yl7 h d i.ty⟩ .none).bind fun p=>.ret (.step none p)
  |none=>.fail
 |.box t x=>match o.dst with
  |some d=>(opv g x).bind fun v=>Yv6 h np d (argTy tb t) v
  |none=>.fail
 |.build t parts=>match o.dst with
  |some d=>(Ych tb t).bind fun i=>match i.d with
   |.st offs=>match Yev offs.length parts.toList with
    |true=>(Yik g parts.toList 0 0 offs i.ty).bind fun v=>.ret (.step none ⟨[(d,v)],[],[]⟩)
    |false=>.fail
   |_=>.fail
  |none=>.fail
 |.buildSlice t n parts=>match o.dst with
  |some d=>(Ych tb t).bind fun i=>match i.ty with
   |.sl e=>match Nat.beq n parts.toList.length,Nat.ble (n*e.size) 16777216 with
    |true,true=>(Yie h g np e .none 0 parts.toList).bind fun(l,b,k)=>
     (Yam np d (.seg d []) ⟨.reg,.cl (match b with | true=>.deep | false=>.top) (.sl e) l⟩ k).bind fun p=>.ret (.step none p)
    |_,_=>.fail
   |_=>.fail
  |none=>.fail
 |.makeSlice t l c=>match o.dst with
  |some d=>(opv g l).bind fun vl=>(opv g c).bind fun vc=>(Ych tb t).bind fun i=>match vl,vc,i.ty with
   |.cl _ (.int _) n,.cl _ (.int _) m,.sl e=>
    (Yam np d (.seg d []) ⟨.reg,.cl .deep (.sl e) (List.replicate n.toNat e.zero)⟩ .none).bind fun p=>
     .ret (.step (some (decide (0≤n)&&(decide (n≤m)&&decide (m≤2147483648)))) p)
   |_,_,_=>.fail
  |none=>.fail
 |.store t a x=>(opv g a).bind fun va=>(opv g x).bind fun vx=>match va with
  |.loc r p=>(Ych tb t).bind fun ti=>(Ya6 (h.qAt r) np .none ti.ty vx).bind fun(c,k)=>match decEq c.lay ti.ty.lay,c.live,o.dst with
   |isTrue _,true,none=>match lk r k.rt with
    |some (some R)=>match (Yt k.ks (.loc r p)).live with
     |true=>Yt3 r p c.own k R
     |false=>.fail
    |some none=>.fail
    |none=>.rt r fun R=>Yt3 r p c.own k R
   |_,_,_=>.fail
  |_=>.fail
 |.convert src dst x=>match o.dst with
  |some d=>(opv g x).bind fun v=>(Ych tb src).bind fun sd=>(Ych tb dst).bind fun td=>match sd.d,v,td.ty with
   |.str,.cl _ .str s,.sl (.int .u8)=>
    (Yam np d (.seg d []) ⟨.reg,.cl .deep (.sl (.int .u8)) (s.map fun b=>(b.toNat:Int))⟩ .none).bind fun p=>.ret (.step none p)
   |_,_,_=>Yhj tb none g o
  |none=>.fail
 |.call {callee:=.builtin .append,args,argTypes }=>match o.dst with
  |some d=>match args.toList,argTypes.toList with
   |[s,x],[ts,tx]=>(Ych tb ts).bind fun i=>(Ych tb tx).bind fun ix=>match i.ty,(match ix.d with | .sl _=>true | .str=>true | _=>false) with
    |.sl e,true=>(opv g s).bind fun vs=>(opv g x).bind fun vx=>(Yiw np vx).bind fun(y,k')=>(Ylw k' e vs).bind fun(xs,ow,k)=>
     match y with
     |.mk e' ys oy=>match decEq e' e with
      |isTrue h=>
       (Yam np d (.seg d []) ⟨.reg,.cl (match ow,oy with | .deep,.deep=>.deep | _,_=>.top) (.sl e) (xs++(h▸ys))⟩ k).bind fun p=>
        .ret (.step (some (decide ((xs++(h▸ys:List e.El)).length≤2147483648))) p)
      |isFalse _=>.fail
    |_,_=>.fail
   |_,_=>.fail
  |none=>.fail
 |.call {callee:=.builtin .copy,args,argTypes }=>match args.toList,argTypes.toList with
  |[s,x],t::_=>(Ych tb t).bind fun i=>(opv g s).bind fun vs=>(opv g x).bind fun vx=>(Yiw 1000000 vx).bind fun(y,_)=>match y with
   |.mk e' ys _=>match decEq (Ty.sl e') i.ty with
    |isTrue _=>(lenOf vs).bind fun n=>over o.dst (sI .i64 ((min ys.length n:Nat):Int)) vs fun e n=>match decEq e' e with
     |isTrue h=>some ((h▸ys:List e.El).take n)
     |isFalse _=>none
    |isFalse _=>.fail
  |_,_=>.fail
 |.call {callee:=.builtin .clear,args,argTypes }=>match args.toList,argTypes.toList with
  |[s],t::_=>(Ych tb t).bind fun i=>(opv g s).bind fun vs=>over o.dst (.tup (.cl .sh .unit ())) vs fun e n=>match decEq (Ty.sl e) i.ty with
   |isTrue _=>some (List.replicate n e.zero)
   |isFalse _=>none
  |_,_=>.fail
 |_=>Yhj tb none g o
def Yo7 (np:Nat) (Mo:FuncId→Option (List Md)) (cd:Option (Bool×Nat×Bool)) (g:Gd) (o:Oper) (f:Operand) (args:List Operand) (argTypes:List TypeId):RD Yc1:=
 (opv g f).bind fun vf=>match vf with
 |.clo f c=>(Yp8 g args).bind fun vs=>match Mo f with
  |some ms=>(Yfl tb .none argTypes ms (vs++unchain c)).bind fun(cs,k)=>match Ynt k ms (vs++unchain c)&&cs.all TV.shut with
   |false=>.fail
   |true=>.ret (.call cd f cs fun out=>match (Yf7 ms (vs++unchain c)).all TV.Ybp || (out.res.all TV.noSh&&out.outs.all TV.noSh) with
    |true=>(back k ms (vs++unchain c) out.outs).bind fun B=>Ybf np o.dst B.1 B.2 out.res
    |false=>.fail)
  |none=>.fail
 |_=>.fail
end
inductive Ex | nm | ex (id:Nat) | rt
inductive Hi | no | fr (l:Nat) | two (a b:Hi) | one (a:Hi)
def Hi.l:Hi→Hi | .two x _=>x | _=>.no
def Hi.r:Hi→Hi | .two _ x=>x | _=>.no
def Hi.i:Hi→Hi | .one x=>x | _=>.no
abbrev Lam:=Nat→Option (St→∀ R:Type,(Ex→St→Option R)→Option R)
def TV.only (l:List Nat):TV→TV
 |.pr a b=>.pr (a.only l) (b.only l)
 |.loc r q=>match Ya0 r l with | true=>.loc r q | false=>.dead 1
 |.seg r q=>match Ya0 r l with | true=>.seg r q | false=>.dead 1
 |.sub r q lo n=>match Ya0 r l with | true=>.sub r q lo n | false=>.dead 1
 |.clo f c=>match (c.only l).live with | true=>.clo f c | false=>.dead 1
 |.tup v=>.tup (v.only l)
 |.gd t w v=>.gd t w (v.only l)
 |v=>v
def Yfi (S:St) (b:List Nat):List Nat→List (Nat×TV)
 |[]=>[]
 |i::l=>match lk i S.tm with | some v=>(i,v.only b)::Yfi S b l | none=>Yfi S b l
def Yb7 (S:St) (b:List Nat):List Nat→List (Nat×Option Root)
 |[]=>[]
 |i::l=>match S.root i with | some R=>(i,some {R with tv:=R.tv.only b })::Yb7 S b l | none=>Yb7 S b l
def St.keep (S:St) (a b:List Nat):St:=⟨Yfi S b a,Yb7 S b b⟩
def Ydh (i:Nat):List TV→List (Nat×TV)
 |[]=>[]
 |.op _::l=>(i,.loc i [])::Ydh (i+1) l
 |v::l=>(i,v.mir i [])::Ydh (i+1) l
def Yd3 (i:Nat):List TV→List (Nat×Option Root)
 |[]=>[]
 |v::l=>match Y8 v with
  |some rt=>(i,some rt)::Yd3 (i+1) l
  |none=>Yd3 (i+1) l
def Yh (cs:List TV):St:=⟨Ydh 0 cs,Yd3 0 cs⟩
def Yuy (tb:Tb):ResultVar→RD TV
 |.tmp i=>opv [] (.tmp i)
 |.cell i ct=>(opv [] (.tmp i)).bind fun v=>match v with
  |.loc _ _=>(pv tb [] ⟨none,.load ct (.tmp i),0,"",#[],none⟩).bind fun(_,v)=>match v with
   |.dead _=>.fail
   |v=>.ret v
  |_=>.fail
def Yq8 (tb:Tb) (hn:Hint) (np:Nat) (t:TypeId) (K:Yk):TV→RD (TV×Yk)
 |.loc q []=>match lk q K.rt,Nat.ble np q with
  |none,true=>.rt q fun R=>match R.k with
   |.mem=>.ret (.op R.tv,⟨(q,none)::K.rt,(q,none)::K.ks⟩)
   |.reg=>.fail
  |_,_=>.fail
 |.pt t x=>.ret (.pt t x,K)
 |v=>Ya6 hn.q1 0 K (argTy tb t) v
def Yg5 (tb:Tb) (hn:Hint) (np:Nat):List TypeId→List ResultVar→Yk→RD (List TV×Yk)
 |t::ts,r::rs,K=>(Yuy tb r).bind fun v=>(Yq8 tb hn np t K v).bind fun(c,K)=>(Yg5 tb hn np ts rs K).bind fun(cs,K)=>.ret (c::cs,K)
 |[],[],K=>.ret ([],K)
 |_,_,_=>.fail
def Root.out (R:Root):TV:=match R.k with | .mem=>.op R.tv | .reg=>R.tv
def Yk.rd (K:Yk) (r:Nat):RD Root:=match lk r K.rt with
 |some (some R)=>.ret R
 |some .none=>.fail
 |.none=>.rt r .ret
def Ydd (K:Yk):Nat→List Md→RD (List TV)
 |_,[]=>.ret []
 |i,.mu::ms=>(K.rd i).bind fun R=>(Ydd K (i+1) ms).bind fun l=>.ret (R.out::l)
 |i,_::ms=>Ydd K (i+1) ms
def Ywh (tb:Tb) (hn:Hint) (ts:List TypeId) (rs:List ResultVar) (ms:List Md):RD Out:=
 (Yg5 tb hn ms.length ts rs .none).bind fun(vs,K)=>(Ydd K 0 ms).bind fun os=>match vs.all TV.shut&&os.all TV.shut with
  |true=>.ret ⟨vs,os⟩
  |false=>.fail
def fin (tb:Tb) (hn:Hint) (fn:Func) (ms:List Md) (S:St):Option Out:=(Ywh tb hn fn.resultTypes.toList fn.results.toList ms).run S
def Ysv (tb:Tb) (hn:Hint) (fn:Func) (ms:List Md) (e:Ex) (S:St):Option Out:=match e with
 |.ex _=>none
 |_=>fin tb hn fn ms S
inductive PS | f1 | f2 | el
@[reducible] def PS.Els:List PS→Type
 |[]=>Unit
 |.el::p=>Nat×PS.Els p
 |_::p=>PS.Els p
def PS.mk:(p:List PS)→PS.Els p→Path
 |[],_=>[]
 |.el::p,x=>.el x.1::PS.mk p x.2
 |.f1::p,x=>.f1::PS.mk p x
 |.f2::p,x=>.f2::PS.mk p x
def PS.rd:(p:List PS)→Path→Option (PS.Els p)
 |[],[]=>some ()
 |.el::p,.el i::q=>match PS.rd p q with | some x=>some (i,x) | none=>none
 |.f1::p,.f1::q=>PS.rd p q
 |.f2::p,.f2::q=>PS.rd p q
 |_,_=>none
inductive PT where
 |cl (o:Ow) (t:Ty)
 |pr (a b:PT)
 |nl
 |loc (r:Nat) (p:List PS)
 |seg (r:Nat) (p:List PS)
 |sub (r:Nat) (p:List PS)
 |pt (t:Ty)
 |op (a:PT)
 |clo (f:FuncId) (c:PT)
 |tup (l:PT)
 |kb (b:Bool)
@[reducible] def PT.El:PT→Type
 |.cl _ t=>t.El
 |.pr a b=>a.El×b.El
 |.nl | .kb _=>Unit
 |.loc _ p | .seg _ p=>PS.Els p
 |.sub _ p=>PS.Els p×Nat×Nat
 |.pt t=>t.El
 |.op a=>a.El
 |.clo _ c=>c.El
 |.tup l=>l.El
def PT.mk:(p:PT)→p.El→TV
 |.cl o t,x=>.cl o t x
 |.pr a b,x=>.pr (a.mk x.1) (b.mk x.2)
 |.nl,_=>.nl
 |.kb b,_=>.kb b
 |.loc r p,x=>.loc r (PS.mk p x)
 |.seg r p,x=>.seg r (PS.mk p x)
 |.sub r p,x=>.sub r (PS.mk p x.1) x.2.1 x.2.2
 |.pt t,x=>.pt t x
 |.op a,x=>.op (a.mk x)
 |.clo f c,x=>.clo f (c.mk x)
 |.tup l,x=>.tup (l.mk x)
def PT.rd:(p:PT)→TV→Option p.El
 |.cl o t,.cl o' u x=>match decEq o' o,decEq u t with
  |isTrue _,isTrue h=>some (h▸x)
  |_,_=>none
 |.pr a b,.pr v w=>match a.rd v,b.rd w with
  |some x,some y=>some (x,y)
  |_,_=>none
 |.nl,.nl=>some ()
 |.kb b,.kb c=>match b,c with | true,true | false,false=>some () | _,_=>none
 |.loc r p,.loc r' q=>match Nat.beq r r' with | true=>PS.rd p q | false=>none
 |.seg r p,.seg r' q=>match Nat.beq r r' with | true=>PS.rd p q | false=>none
 |.sub r p,.sub r' q lo n=>match Nat.beq r r' with
  |true=>match PS.rd p q with | some x=>some (x,lo,n) | none=>none
  |false=>none
 |.pt t,.pt u x=>match decEq u t with
  |isTrue h=>some (h▸x)
  |isFalse _=>none
 |.op a,.op v=>a.rd v
 |.clo f c,.clo g v=>match Nat.beq f g with | true=>c.rd v | false=>none
 |.tup l,.tup v=>l.rd v
 |_,_=>none
@[reducible] def PT.Els:List PT→Type
 |[]=>Unit
 |p::l=>p.El×PT.Els l
def PT.mks:(l:List PT)→PT.Els l→List TV
 |[],_=>[]
 |p::l,x=>p.mk x.1::PT.mks l x.2
def PT.rds:(l:List PT)→List TV→Option (PT.Els l)
 |[],[]=>some ()
 |p::l,v::vs=>match p.rd v with
  |some x=>match PT.rds l vs with | some y=>some (x,y) | none=>none
  |none=>none
 |_,_=>none
@[reducible] def Ymh:List (Nat×PT)→Type
 |[]=>Unit
 |(_,p)::l=>p.El×Ymh l
def Yto:(l:List (Nat×PT))→Ymh l→List (Nat×TV)
 |[],_=>[]
 |(i,p)::l,x=>(i,p.mk x.1)::Yto l x.2
def Ytt (S:St):(l:List (Nat×PT))→Option (Ymh l)
 |[]=>some ()
 |(i,p)::l=>match lk i S.tm with
  |some v=>match p.rd v with
   |some x=>match Ytt S l with | some y=>some (x,y) | none=>none
   |none=>none
  |none=>none
@[reducible] def Yml:List (Nat×Kind×PT)→Type
 |[]=>Unit
 |(_,_,p)::l=>p.El×Yml l
def Ytz:(l:List (Nat×Kind×PT))→Yml l→List (Nat×Option Root)
 |[],_=>[]
 |(i,k,p)::l,x=>(i,some ⟨k,p.mk x.1⟩)::Ytz l x.2
def Ys5 (S:St):(l:List (Nat×Kind×PT))→Option (Yml l)
 |[]=>some ()
 |(i,k,p)::l=>match S.root i with
  |some R=>match decEq R.k k,p.rd R.tv with
   |isTrue _,some x=>match Ys5 S l with | some y=>some (x,y) | none=>none
   |_,_=>none
  |none=>none
structure SP where
 tm:List (Nat×PT)
 rt:List (Nat×Kind×PT)
@[reducible] def SP.El (s:SP):Type:=Ymh s.tm×Yml s.rt
def SP.mk' (s:SP) (x:s.El):St:=⟨Yto s.tm x.1,Ytz s.rt x.2⟩
def SP.rd (s:SP) (S:St):Option s.El:=match Ytt S s.tm with
 |some x=>match Ys5 S s.rt with | some y=>some (x,y) | none=>none
 |none=>none
def sel {α β:Type} {γ:Type} (o:α⊕β) (f:α→γ) (g:β→γ):γ:=match o with
 |.inl a=>f a
 |.inr b=>g b
def Ybk {ρ:Type} (ms:List Md) (pts:List PT) (f:PT.Els pts→Option ρ) (out:ρ→Out):FS:=
 ⟨ms,fun cs R k=>match PT.rds pts cs with
  |some x=>(f x).bind fun t=>k (out t)
  |none=>none⟩
def FS.or (a b:FS) (pts:List PT):FS:=⟨a.modes,fun cs R k=>match PT.rds pts cs with
 |some _=>a.F cs R k
 |none=>b.F cs R k⟩
def mkG (l:List (Nat×FS)):Gam:=fun i=>lk i l
abbrev Yqn (ρ:Type):=ρ→∀ R:Type,(Ex→St→Option R)→Option R
def Yxq {ρ:Type} (sp:SP) (f:sp.El→Option ρ) (out:Yqn ρ):St→∀ R:Type,(Ex→St→Option R)→Option R:=
 fun S R k=>match sp.rd S with
  |some x=>(f x).bind fun t=>out t R k
  |none=>none
def mkL (l:List (Nat×(St→∀ R:Type,(Ex→St→Option R)→Option R))):Lam:=fun i=>lk i l
def iter {σ ρ:Type} (f:σ→Option (σ⊕ρ)):Nat→σ→Option ρ
 |0,_=>none
 |n+1,s=>(f s).bind fun o=>match o with
  |.inl s'=>iter f n s'
  |.inr r=>some r
open Classical in
noncomputable def Y9 {σ ρ:Type} (f:σ→Option (σ⊕ρ)) (s:σ):Option ρ:=
 if h:∃ r n,iter f n s=some r then some h.choose else none
abbrev KL:=List Nat×List Nat
def kLp (a:KL) (x:List (Nat×KL)) (r:KL) (e:Ex) (S:St):Option (St⊕(Ex×St)):=match e with
 |.nm=>some (.inl (S.keep a.1 a.2))
 |.ex i=>match lk i x with | some l=>some (.inr (.ex i,S.keep l.1 l.2)) | none=>none
 |.rt=>some (.inr (.rt,S.keep r.1 r.2))
abbrev w64 (x:Int):Int:=IntKind.i64.wrap x
def Yap:Code→List Nat→Code
 |c,[]=>c
 |.seq a _,0::p=>Yap a p
 |.seq _ b,_::p=>Yap b p
 |.cond _ a _,0::p=>Yap a p
 |.cond _ _ b,_::p=>Yap b p
 |.block _ b,_::p=>Yap b p
 |.loop b,_::p=>Yap b p
 |c,_=>c
def Yaf (f:Func):Code:=f.body.getD .skip
theorem Ymi {α β:Type} (f:α→β) (b:Bool) (x y:Option α):(cond b x y).map f=cond b (x.map f) (y.map f):=by cases b<;>rfl
theorem bind_map {α β γ:Type} (f:α→β) (b:Option γ) (x:γ→Option α):(b.bind x).map f=b.bind (fun t=>(x t).map f):=by cases b<;>rfl
theorem Ys4 {α β γ δ:Type} (f:α→β) (o:γ⊕δ) (x:γ→Option α) (y:δ→Option α):(sel o x y).map f=sel o (fun t=>(x t).map f) (fun t=>(y t).map f):=by cases o<;>rfl
end Mf
namespace Mf
open Go
set_option linter.unusedVariables false
abbrev Ya:=Nat→Prop
def Dis (F G:Ya):Prop:=∀ b,F b→¬ G b
def Ye (F G:Ya):Prop:=∀ b,F b→G b
theorem Dis.symm {F G:Ya} (h:Dis F G):Dis G F:=fun b hg hf=>h b hf hg
theorem Dis.sub {F G F' G':Ya} (h:Dis F G) (hf:Ye F' F) (hg:Ye G' G):Dis F' G':=fun b x y=>h b (hf b x) (hg b y)
abbrev noB:Ya:=fun _=>False
inductive Src | mem (b off:Nat) | reg (cs:List Value) (off:Nat)
def Src.cell (w:World):Src→Nat→Option Value
 |.mem b off,i=>w.cell? ⟨b,off+i,none⟩
 |.reg cs off,i=>cs[off+i]?
def Src.sh:Src→Nat→Src
 |.mem b off,n=>.mem b (off+n)
 |.reg cs off,n=>.reg cs (off+n)
theorem Src.Yj (w:World) (s:Src) (n i:Nat):(s.sh n).cell w i=s.cell w (n+i):=by
 cases s<;>simp[Src.sh,Src.cell,Nat.add_assoc]
theorem Src.Yda (s:Src):s.sh 0=s:=by cases s<;>simp[Src.sh]
theorem Src.Ygg (s:Src) (a b:Nat):(s.sh a).sh b=s.sh (a+b):=by cases s<;>simp[Src.sh,Nat.add_assoc]
def Room (w:World) (b off n:Nat):Prop:=∀ i,i<n→(w.cell? ⟨b,off+i,none⟩).isSome=true∧w.frozen? ⟨b,off+i,none⟩=false
def Rep (w:World) (M:Ya):(t:Ty)→Ow→t.El→Src→Ya→Prop
 |.int k,_,x,s,_=>s.cell w 0=some (.int k x)
 |.bool,_,x,s,_=>s.cell w 0=some (.bool x)
 |.str,_,x,s,_=>∃ z:ByteArray,s.cell w 0=some (.string z)∧z.data.toList=x
 |.unit,_,_,_,_=>True
 |.pair a b,o,x,s,F=>∃ F1 F2,Rep w M a o x.1 s F1∧Rep w M b o x.2 (s.sh a.size) F2∧Ye F1 F∧Ye F2 F∧Dis F1 F2
 |.sl e,o,xs,s,F=>∃ A c,s.cell w 0=some (.slice A xs.length c)∧xs.length≤c∧
   (match o with
   |.sh=>xs≠[]→∃ b off,A=some ⟨b,off,none⟩∧¬ M b∧b<w.heap.size∧
     ∀ i (h:i<xs.length),Rep w M e .sh (xs[i]'h) (.mem b (off+i*e.size)) noB
   |o=>c≠0→∃ b off,∃ Fs:Nat→Ya,A=some ⟨b,off,none⟩∧F b∧Room w b off (c*e.size)∧
     (∀ i (h:i<xs.length),Rep w M e o.elem (xs[i]'h) (.mem b (off+i*e.size)) (Fs i)∧Ye (Fs i) F∧¬ Fs i b)∧
     (∀ i j,i<j→j<xs.length→Dis (Fs i) (Fs j)))
 |.arr n e,o,xs,s,F=>xs.length=n∧∃ Fs:Nat→Ya,
   (∀ i (h:i<xs.length),Rep w M e o (xs[i]'h) (s.sh (i*e.size)) (Fs i)∧Ye (Fs i) F)∧(∀ i j,i<j→j<xs.length→Dis (Fs i) (Fs j))
def Same (w w':World) (b:Nat):Prop:=w'.heap[b]? = w.heap[b]?
theorem Same.cell {w w':World} {b:Nat} (h:Same w w' b) (i:Nat):w'.cell? ⟨b,i,none⟩=w.cell? ⟨b,i,none⟩:=by
 unfold Same at h;simp[World.cell?,h]
theorem Same.frozen {w w':World} {b:Nat} (h:Same w w' b) (i:Nat):w'.frozen? ⟨b,i,none⟩=w.frozen? ⟨b,i,none⟩:=by
 unfold Same at h;simp[World.frozen?,h]
theorem Same.refl (w:World) (b:Nat):Same w w b:=rfl
theorem Same.trans {w w' w'':World} {b:Nat} (h:Same w w' b) (h':Same w' w'' b):Same w w'' b:=by unfold Same at *;rw[h',h]
theorem Rep.sub {w:World} {M:Ya} {t:Ty} {o:Ow} {x:t.El} {s:Src} {F G:Ya} (h:Rep w M t o x s F) (hs:Ye F G):Rep w M t o x s G:=by
 cases t with
 |int k=>exact h
 |bool=>exact h
 |str=>exact h
 |unit=>trivial
 |pair a b=>
  obtain⟨F1,F2,h1,h2,h3,h4,h5⟩:=h
  exact⟨F1,F2,h1,h2,fun b x=>hs b (h3 b x),fun b x=>hs b (h4 b x),h5⟩
 |sl e=>
  obtain⟨A,c,h1,h2,h3⟩:=h;refine⟨A,c,h1,h2,?_⟩
  cases o with
  |sh=>exact h3
  |top=>
   intro hc;obtain⟨b,off,Fs,e1,e2,e3,e4,e5⟩:=h3 hc
   exact⟨b,off,Fs,e1,hs _ e2,e3,fun i hi=>⟨(e4 i hi).1,fun b x=>hs b ((e4 i hi).2.1 b x),(e4 i hi).2.2⟩,e5⟩
  |deep=>
   intro hc;obtain⟨b,off,Fs,e1,e2,e3,e4,e5⟩:=h3 hc
   exact⟨b,off,Fs,e1,hs _ e2,e3,fun i hi=>⟨(e4 i hi).1,fun b x=>hs b ((e4 i hi).2.1 b x),(e4 i hi).2.2⟩,e5⟩
 |arr n e=>
  obtain⟨h1,Fs,h2,h3⟩:=h;exact⟨h1,Fs,fun i hi=>⟨(h2 i hi).1,fun b x=>hs b ((h2 i hi).2 b x)⟩,h3⟩
structure Goes (w w':World) (M M' F:Ya):Prop where
 size:w.heap.size≤w'.heap.size
 own:∀ b,F b→Same w w' b
 st:∀ b,¬ M b→b<w.heap.size→Same w w' b∧¬ M' b
theorem Goes.mono {w w':World} {M M' F F':Ya} (h:Goes w w' M M' F) (hs:Ye F' F):Goes w w' M M' F':=
 ⟨h.size,fun b x=>h.own b (hs b x),h.st⟩
theorem Rep.go {w w':World} {M M':Ya}:∀ {t:Ty} {o:Ow} {x:t.El} {s:Src} {F:Ya},Rep w M t o x s F→Goes w w' M M' F→
  (∀ i,i<t.size→s.cell w' i=s.cell w i)→Rep w' M' t o x s F:=by
 intro t
 induction t with
 |int k=>intro o x s F h g hc;have:=hc 0 (by simp[Ty.size]);simp only[Rep] at *;rw[this];exact h
 |bool=>intro o x s F h g hc;have:=hc 0 (by simp[Ty.size]);simp only[Rep] at *;rw[this];exact h
 |str=>intro o x s F h g hc;have:=hc 0 (by simp[Ty.size]);simp only[Rep] at *;rw[this];exact h
 |unit=>intro o x s F h g hc;trivial
 |pair a b iha ihb=>
  intro o x s F h g hc;obtain⟨F1,F2,h1,h2,h3,h4,h5⟩:=h
  refine⟨F1,F2,iha h1 (g.mono h3) (fun i hi=>hc i (by simp[Ty.size];omega)),ihb h2 (g.mono h4) (fun i hi=>?_),h3,h4,h5⟩
  rw[Src.Yj,Src.Yj];exact hc _ (by simp[Ty.size];omega)
 |sl e ih=>
  intro o x s F h g hc;obtain⟨A,c,h1,h2,h3⟩:=h
  have own:∀ o:Ow,(c≠0→∃ b off,∃ Fs:Nat→Ya,A=some ⟨b,off,none⟩∧F b∧Room w b off (c*e.size)∧
     (∀ i (h:i<x.length),Rep w M e o.elem (x[i]'h) (.mem b (off+i*e.size)) (Fs i)∧Ye (Fs i) F∧¬ Fs i b)∧
     (∀ i j,i<j→j<x.length→Dis (Fs i) (Fs j)))→(c≠0→∃ b off,∃ Fs:Nat→Ya,A=some ⟨b,off,none⟩∧F b∧Room w' b off (c*e.size)∧
     (∀ i (h:i<x.length),Rep w' M' e o.elem (x[i]'h) (.mem b (off+i*e.size)) (Fs i)∧Ye (Fs i) F∧¬ Fs i b)∧
     (∀ i j,i<j→j<x.length→Dis (Fs i) (Fs j))):=by
   intro o h3 hcc;obtain⟨b,off,Fs,e1,e2,e3,e4,e5⟩:=h3 hcc;have hb:=g.own b e2;refine⟨b,off,Fs,e1,e2,fun i hi=>?_,fun i hi=>⟨ih (e4 i hi).1 (g.mono (e4 i hi).2.1) (fun j _=>?_),(e4 i hi).2⟩,e5⟩
   ·rw[hb.cell,hb.frozen];exact e3 i hi
   ·simp only[Src.cell];exact hb.cell _
  refine⟨A,c,by rw[hc 0 (by simp[Ty.size])];exact h1,h2,?_⟩
  cases o with
  |sh=>
   intro hne;obtain⟨b,off,e1,e2,e3,e4⟩:=h3 hne;have hb:=g.st b e2 e3
   exact⟨b,off,e1,hb.2,Nat.lt_of_lt_of_le e3 g.size,fun i hi=>ih (e4 i hi) (g.mono (fun _ x=>x.elim)) (fun j _=>by simp only[Src.cell];exact hb.1.cell _)⟩
  |top=>exact own .top h3
  |deep=>exact own .deep h3
 |arr n e ih=>
  intro o x s F h g hc;obtain⟨h1,Fs,h2,h3⟩:=h;refine⟨h1,Fs,fun i hi=>⟨ih (h2 i hi).1 (g.mono (h2 i hi).2) (fun j hj=>?_),(h2 i hi).2⟩,h3⟩;rw[Src.Yj,Src.Yj];refine hc _ ?_;simp only[Ty.size]
  calc i*e.size+j<i*e.size+e.size:=by omega
   _=(i+1)*e.size:=by rw[Nat.add_mul];omega
   _≤n*e.size:=Nat.mul_le_mul_right _ (by omega)
theorem Rep.pure {w w':World} {M M':Ya}:∀ {t:Ty} {o o':Ow} {x:t.El} {s s':Src} {F:Ya},t.pure=true→Rep w M t o x s F→
  (∀ i,i<t.size→s'.cell w' i=s.cell w i)→Rep w' M' t o' x s' noB:=by
 intro t
 induction t with
 |int k=>intro o o' x s s' F hp h hc;have:=hc 0 (by simp[Ty.size]);simp only[Rep] at *;rw[this];exact h
 |bool=>intro o o' x s s' F hp h hc;have:=hc 0 (by simp[Ty.size]);simp only[Rep] at *;rw[this];exact h
 |str=>intro o o' x s s' F hp h hc;have:=hc 0 (by simp[Ty.size]);simp only[Rep] at *;rw[this];exact h
 |unit=>intro o o' x s s' F hp h hc;trivial
 |pair a b iha ihb=>
  intro o o' x s s' F hp h hc;simp only[Ty.pure,Bool.and_eq_true] at hp;obtain⟨F1,F2,h1,h2,h3,h4,h5⟩:=h
  refine⟨noB,noB,iha hp.1 h1 (fun i hi=>hc i (by simp[Ty.size];omega)),ihb hp.2 h2 (fun i hi=>?_),fun _ x=>x.elim,fun _ x=>x.elim,fun _ x=>x.elim⟩
  rw[Src.Yj,Src.Yj];exact hc _ (by simp[Ty.size];omega)
 |sl e ih=>intro o o' x s s' F hp;simp[Ty.pure] at hp
 |arr n e ih=>
  intro o o' x s s' F hp h hc;obtain⟨h1,Fs,h2,h3⟩:=h;refine⟨h1,fun _=>noB,fun i hi=>⟨ih hp (h2 i hi).1 (fun j hj=>?_),fun _ x=>x.elim⟩,fun _ _ _ _ _ x=>x.elim⟩;rw[Src.Yj,Src.Yj];refine hc _ ?_;simp only[Ty.size]
  calc i*e.size+j<i*e.size+e.size:=by omega
   _=(i+1)*e.size:=by rw[Nat.add_mul];omega
   _≤n*e.size:=Nat.mul_le_mul_right _ (by omega)
theorem Rep.cells {w:World} {M:Ya}:∀ {t:Ty} {o:Ow} {x:t.El} {s:Src} {F:Ya},Rep w M t o x s F→
  ∀ i,i<t.size→∃ v,s.cell w i=some v∧v.oneCell'=true:=by
 intro t
 induction t with
 |int k=>intro o x s F h i hi;have:i=0:=by simp[Ty.size] at hi;exact hi
         subst this;exact⟨_,h,rfl⟩
 |bool=>intro o x s F h i hi;have:i=0:=by simp[Ty.size] at hi;exact hi
        subst this;exact⟨_,h,rfl⟩
 |str=>intro o x s F h i hi;have:i=0:=by simp[Ty.size] at hi;exact hi
       subst this;obtain⟨z,h,_⟩:=h;exact⟨_,h,rfl⟩
 |unit=>intro o x s F h i hi;simp[Ty.size] at hi
 |pair a b iha ihb=>
  intro o x s F h i hi;obtain⟨F1,F2,h1,h2,_⟩:=h
  by_cases hlt:i<a.size
  ·exact iha h1 i hlt
  ·obtain⟨v,hv,h1⟩:=ihb h2 (i-a.size) (by simp[Ty.size] at hi;omega)
   rw[Src.Yj] at hv
   exact⟨v,by rw[show a.size+(i-a.size)=i by omega] at hv;exact hv,h1⟩
 |sl e ih=>intro o x s F h i hi;have:i=0:=by simp[Ty.size] at hi;exact hi
           subst this;obtain⟨A,c,h,_⟩:=h;exact⟨_,h,rfl⟩
 |arr n e ih=>
  intro o x s F h i hi;obtain⟨h1,Fs,h2,_⟩:=h;simp only[Ty.size] at hi
  have hs:0<e.size:=by
   rcases Nat.eq_zero_or_pos e.size with h0 | h0
   ·rw[h0] at hi;omega
   ·exact h0
  have hq:i / e.size<n:=(Nat.div_lt_iff_lt_mul hs).2 hi
  obtain⟨v,hv,h3⟩:=ih (h2 (i / e.size) (by omega)).1 (i % e.size) (Nat.mod_lt _ hs)
  rw[Src.Yj,Nat.mul_comm,Nat.div_add_mod] at hv;exact⟨v,hv,h3⟩
end Mf
namespace Mf
open Go
set_option linter.unusedVariables false
def nav (w:World):TV→Src→Path→Option Src
 |_,s,[]=>some s
 |.pr a _,s,.f1::p=>nav w a s p
 |.pr a b,s,.f2::p=>nav w b (s.sh a.size) p
 |.cl o (.pair a _) x,s,.f1::p=>nav w (.cl o a x.1) s p
 |.cl o (.pair a b) x,s,.f2::p=>nav w (.cl o b x.2) (s.sh a.size) p
 |.cl o (.sl e) xs,s,.el i::p=>if i<xs.length then(match s.cell w 0 with
   |some (.slice (some ⟨b,off,none⟩) _ _)=>nav w (.cl o.elem e (xs.getD i e.zero)) (.mem b (off+i*e.size)) p
   |_=>none) else none
 |.cl o (.arr n e) xs,s,.el i::p=>if i<n then nav w (.cl o e (xs.getD i e.zero)) (s.sh (i*e.size)) p else none
 |.rw o e xs i v,s,.el j::p=>if j<xs.length then(match s.cell w 0 with
   |some (.slice (some ⟨b,off,none⟩) _ _)=>match Nat.decEq j i with
    |isTrue _=>nav w v (.mem b (off+j*e.size)) p
    |isFalse _=>nav w (.cl o.elem e (xs.getD j e.zero)) (.mem b (off+j*e.size)) p
   |_=>none) else none
 |_,_,_=>none
theorem Yf (w:World) (tv:TV) (s:Src):nav w tv s []=some s:=by cases tv<;>rfl
theorem TV.get_nil (tv:TV):tv.get []=some tv:=by cases tv<;>rfl
theorem TV.set_nil (tv n:TV):tv.set [] n=some n:=by cases tv<;>rfl
def Yc (w:World) (M:Ya) (Lf:TV→Value→Prop):TV→Src→Ya→Prop
 |.cl o t x,s,F=>Rep w M t o x s F
 |.pr a b,s,F=>∃ F1 F2,Yc w M Lf a s F1∧Yc w M Lf b (s.sh a.size) F2∧Ye F1 F∧Ye F2 F∧Dis F1 F2
 |.dead _,_,_=>True
 |.rw o e xs i v,s,F=>o≠.sh∧v.size=e.size∧i<xs.length∧∃ b off c,s.cell w 0=some (.slice (some ⟨b,off,none⟩) xs.length c)∧xs.length≤c∧∃ Fs:Nat→Ya,F b∧Room w b off (c*e.size)∧
   (∀ j (h:j<xs.length),(j=i∨Rep w M e o.elem (xs[j]'h) (.mem b (off+j*e.size)) (Fs j))∧Ye (Fs j) F∧¬ Fs j b)∧
   (∀ j k,j≠k→j<xs.length→k<xs.length→Dis (Fs j) (Fs k))∧Yc w M (fun _ _=>False) v (.mem b (off+i*e.size)) (Fs i)
 |v,s,_=>∃ u,s.cell w 0=some u∧Lf v u
def Lay.size:Lay→Nat
 |.at=>1 | .un=>0 | .pair a b=>a.size+b.size | .arr n e=>n*e.size | .dead n=>n
theorem Ty.lay_size:∀ t:Ty,t.lay.size=t.size
 |.int _ | .bool | .str | .sl _=>rfl
 |.unit=>rfl
 |.pair a b=>by simp[Ty.lay,Lay.size,Ty.size,Ty.lay_size a,Ty.lay_size b]
 |.arr n e=>by simp[Ty.lay,Lay.size,Ty.size,Ty.lay_size e]
theorem TV.lay_size:∀ v:TV,v.lay.size=v.size:=by
 intro v
 induction v with
 |cl o t x=>exact Ty.lay_size t
 |pr a b iha ihb=>simp[TV.lay,Lay.size,TV.size,iha,ihb]
 |dead n=>unfold TV.lay;split<;>simp_all [Lay.size,TV.size]
 |_=>rfl
theorem TV.Yak {a b:TV} (h:a.lay=b.lay):a.size=b.size:=by rw[←TV.lay_size,←TV.lay_size,h]
section
variable {w w':World} {M M':Ya} {Lf Lf':TV→Value→Prop}
theorem Yc.sub:∀ {tv:TV} {s:Src} {F G:Ya},Yc w M Lf tv s F→Ye F G→Yc w M Lf tv s G:=by
 intro tv s F G h hs
 cases tv with
 |cl o t x=>exact Rep.sub h hs
 |pr a b=>obtain⟨F1,F2,h1,h2,h3,h4,h5⟩:=h;exact⟨F1,F2,h1,h2,fun b x=>hs b (h3 b x),fun b x=>hs b (h4 b x),h5⟩
 |dead n=>trivial
 |rw o e xs i v=>
  obtain⟨h1,h2,h3,b,off,c,h4,h5,Fs,h6,h7,h8,h9,h10⟩:=h
  exact⟨h1,h2,h3,b,off,c,h4,h5,Fs,hs _ h6,h7,fun j hj=>⟨(h8 j hj).1,fun x y=>hs x ((h8 j hj).2.1 x y),(h8 j hj).2.2⟩,h9,h10⟩
 |_=>exact h
theorem Yc.go:∀ {tv:TV} {Lf Lf':TV→Value→Prop} {s:Src} {F:Ya},Yc w M Lf tv s F→Goes w w' M M' F→(∀ i,i<tv.size→s.cell w' i=s.cell w i)→
  (∀ v u,Lf v u→Lf' v u)→Yc w' M' Lf' tv s F:=by
 intro tv
 induction tv with
 |cl o t x=>intro Lf Lf' s F h g hc hl;exact Rep.go h g hc
 |pr a b iha ihb=>
  intro Lf Lf' s F h g hc hl;obtain⟨F1,F2,h1,h2,h3,h4,h5⟩:=h
  refine⟨F1,F2,iha h1 (g.mono h3) (fun i hi=>hc i (by simp[TV.size];omega)) hl,ihb h2 (g.mono h4) (fun i hi=>?_) hl,h3,h4,h5⟩
  rw[Src.Yj,Src.Yj];exact hc _ (by simp[TV.size];omega)
 |dead n=>intro Lf Lf' s F h g hc hl;trivial
 |rw o e xs i v ih=>
  intro Lf Lf' s F h g hc hl;obtain⟨h1,h2,h3,b,off,c,h4,h5,Fs,h6,h7,h8,h9,h10⟩:=h;have hb:=g.own b h6
  refine⟨h1,h2,h3,b,off,c,by rw[hc 0 (by simp[TV.size])];exact h4,h5,Fs,h6,fun j hj=>by rw[hb.cell,hb.frozen];exact h7 j hj,fun j hj=>⟨(h8 j hj).1.imp id fun h=>?_,(h8 j hj).2⟩,h9,?_⟩
  ·exact Rep.go h (g.mono (h8 j hj).2.1) (fun k _=>by simp only[Src.cell];exact hb.cell _)
  ·exact ih h10 (g.mono (h8 i h3).2.1) (fun k _=>by simp only[Src.cell];exact hb.cell _) (fun _ _ x=>x)
 |_=>intro Lf Lf' s F h g hc hl;obtain⟨u,h1,h2⟩:=h;exact⟨u,by rw[hc 0 (by simp[TV.size])];exact h1,hl _ _ h2⟩
theorem Ynq {o:Ow} {t:Ty} {tv:TV} {y:t.El} {s:Src} {F:Ya} (h:tv.Yiy o t=some y) (hr:Yc w M Lf tv s F):Rep w M t o y s F:=by
 cases tv with
 |cl o' u x=>
  simp only[TV.Yiy] at h
  split at h
  ·rename_i hh _;subst hh
   split at h
   ·rename_i hp;cases h;exact(Rep.pure hp hr (fun _ _=>rfl)).sub (fun _ x=>x.elim)
   ·rename_i hh2 _ _;subst hh2;cases h;exact hr
   ·cases h
  ·cases h
 |_=>simp[TV.Yiy] at h
theorem Yau {o:Ow} {t:Ty} {tv:TV} {y:t.El} (h:tv.Yiy o t=some y):∃ o',∃ x:t.El,tv=.cl o' t x∧x=y:=by
 cases tv with
 |cl o' u x=>
  simp only[TV.Yiy] at h
  split at h
  ·rename_i hh _;subst hh
   split at h
   ·cases h;exact⟨_,_,rfl,rfl⟩
   ·cases h;exact⟨_,_,rfl,rfl⟩
   ·cases h
  ·cases h
 |_=>simp[TV.Yiy] at h
theorem Ygn:∀ (p:Path) {o o':Ow} {t:Ty} {x:t.El} {s:Src},nav w (.cl o t x) s p=nav w (.cl o' t x) s p:=by
 intro p
 induction p with
 |nil=>intros;rfl
 |cons a p ih=>
  intro o o' t x s
  cases t<;>cases a<;>simp only[nav]<;>first | rfl | exact ih | (split<;>first | rfl | (split<;>first | rfl | exact ih) | exact ih)
theorem Yz (a b:TV):Yal a b=.pr a b∨∃ o t x o' u y p,a=.cl o t x∧b=.cl o' u y∧Yal a b=.cl p (.pair t u) (x,y)∧
  (t.pure=true∨o=p)∧(u.pure=true∨o'=p):=by
 cases a with
 |cl o t x=>
  cases b with
  |cl o' u y=>
   simp only[Yal,Yju]
   cases ht:t.pure<;>cases hu:u.pure<;>cases o<;>cases o'<;>
    first | exact .inl rfl | exact .inr ⟨_,_,_,_,_,_,_,rfl,rfl,rfl,by simp[ht],by simp[hu]⟩
  |_=>exact .inl rfl
 |_=>exact .inl rfl
theorem Yem {a b:TV} {s:Src} {F:Ya} (h:Yc w M Lf (.pr a b) s F):Yc w M Lf (Yal a b) s F:=by
 rcases Yz a b with e | ⟨o,t,x,o',u,y,p,rfl,rfl,e,h1,h2⟩
 ·rw[e];exact h
 ·rw[e]
  obtain⟨F1,F2,r1,r2,s1,s2,d⟩:=h;refine⟨F1,F2,?_,?_,s1,s2,d⟩
  ·rcases h1 with hp | rfl
   ·exact(Rep.pure hp r1 (fun _ _=>rfl)).sub (fun _ x=>x.elim)
   ·exact r1
  ·rcases h2 with hp | rfl
   ·exact(Rep.pure hp r2 (fun _ _=>rfl)).sub (fun _ x=>x.elim)
   ·exact r2
theorem Yei (a b:TV):(Yal a b).lay=.pair a.lay b.lay:=by
 rcases Yz a b with e | ⟨o,t,x,o',u,y,p,rfl,rfl,e,_⟩<;>rw[e]<;>rfl
theorem Ydk (a b:TV) (s:Src) (p:Path):nav w (Yal a b) s (.f1::p)=nav w a s p:=by
 rcases Yz a b with e | ⟨o,t,x,o',u,y,q,rfl,rfl,e,_⟩
 ·rw[e];rfl
 ·rw[e];exact Ygn p
theorem Ydj (a b:TV) (s:Src) (p:Path):nav w (Yal a b) s (.f2::p)=nav w b (s.sh a.size) p:=by
 rcases Yz a b with e | ⟨o,t,x,o',u,y,q,rfl,rfl,e,_⟩
 ·rw[e];rfl
 ·rw[e];exact Ygn p
theorem Yn {α:Type} (l:List α) (i:Nat) (d:α) (h:i<l.length):l.getD i d=l[i]'h:=by simp[List.getD_eq_getElem?_getD,h]
theorem Rep.elem {e:Ty} {o:Ow} {xs:List e.El} {s:Src} {F:Ya} (h:Rep w M (.sl e) o xs s F) {i:Nat} (hi:i<xs.length) {b off l c:Nat}
  (hc:s.cell w 0=some (.slice (some ⟨b,off,none⟩) l c)):∃ G,Ye G F∧Rep w M e o.elem (xs[i]'hi) (.mem b (off+i*e.size)) G∧
   ((o=.sh∧¬ M b∧b<w.heap.size)∨(o≠.sh∧F b∧¬ G b)):=by
 obtain⟨A,c',e1,e2,e3⟩:=h;rw[e1] at hc;simp only[Option.some.injEq,Value.slice.injEq] at hc;obtain⟨rfl,_,rfl⟩:=hc
 have own:(c'≠0→∃ b' off',∃ Fs:Nat→Ya,(some ⟨b,off,none⟩:Option Addr)=some ⟨b',off',none⟩∧F b'∧Room w b' off' (c'*e.size)∧
   (∀ i (h:i<xs.length),Rep w M e o.elem (xs[i]'h) (.mem b' (off'+i*e.size)) (Fs i)∧Ye (Fs i) F∧¬ Fs i b')∧(∀ i j,i<j→j<xs.length→Dis (Fs i) (Fs j)))→
   o≠.sh→∃ G,Ye G F∧Rep w M e o.elem (xs[i]'hi) (.mem b (off+i*e.size)) G∧((o=.sh∧¬ M b∧b<w.heap.size)∨(o≠.sh∧F b∧¬ G b)):=by
  intro e3 ho
  obtain⟨b',off',Fs,q1,q2,q3,q4,q5⟩:=e3 (by omega)
  simp only[Option.some.injEq,Addr.mk.injEq,and_true] at q1;obtain⟨rfl,rfl⟩:=q1;exact⟨Fs i,(q4 i hi).2.1,(q4 i hi).1,.inr ⟨ho,q2,(q4 i hi).2.2⟩⟩
 cases o with
 |sh=>
  obtain⟨b',off',q1,q2,q3,q4⟩:=e3 (by intro h0;subst h0;simp at hi)
  simp only[Option.some.injEq,Addr.mk.injEq,and_true] at q1;obtain⟨rfl,rfl⟩:=q1
  exact⟨noB,fun _ x=>x.elim,q4 i hi,.inl ⟨rfl,q2,q3⟩⟩
 |top=>exact own e3 (by simp)
 |deep=>exact own e3 (by simp)
theorem Yay {n i sz:Nat} (h:i<n):i*sz+sz≤n*sz:=by
 calc i*sz+sz=(i+1)*sz:=by rw[Nat.add_mul];omega
  _≤n*sz:=Nat.mul_le_mul_right _ (by omega)
theorem Yh5 {j i:Nat} (h:j=i):Nat.decEq j i=isTrue h:=Subsingleton.elim _ _
theorem Ylf {j i:Nat} (h:¬ j=i):Nat.decEq j i=isFalse h:=Subsingleton.elim _ _
theorem Ycp {o:Ow} {e:Ty} {xs:List e.El} {i j:Nat} {v:TV} {p:Path} :
  (TV.rw o e xs i v).get (.el j::p)=if j=i then v.get p else(TV.cl o.elem e (xs.getD j e.zero)).get p:=by
 by_cases h:j=i
 ·rw[if_pos h];simp only[TV.get,Yh5 h]
 ·rw[if_neg h];simp only[TV.get,Ylf h]
theorem Ye0 {o:Ow} {e:Ty} {xs:List e.El} {i j:Nat} {v:TV} {p:Path} {s:Src} {b off l c:Nat} (hc:s.cell w 0=some (.slice (some ⟨b,off,none⟩) l c)) (hj:j<xs.length) :
  nav w (.rw o e xs i v) s (.el j::p)=if j=i then nav w v (.mem b (off+j*e.size)) p else nav w (.cl o.elem e (xs.getD j e.zero)) (.mem b (off+j*e.size)) p:=by
 by_cases h:j=i
 ·rw[if_pos h];simp only[nav,if_pos hj,hc,Yh5 h]
 ·rw[if_neg h];simp only[nav,if_pos hj,hc,Ylf h]
theorem Ye8 {o:Ow} {e:Ty} {xs:List e.El} {i j:Nat} {v:TV} {p:Path} {s s':Src} {b off l c:Nat} (hc:s.cell w 0=some (.slice (some ⟨b,off,none⟩) l c)) (h:nav w (.rw o e xs i v) s (.el j::p)=some s') :
  j<xs.length∧(if j=i then nav w v (.mem b (off+j*e.size)) p else nav w (.cl o.elem e (xs.getD j e.zero)) (.mem b (off+j*e.size)) p)=some s':=by
 by_cases hj:j<xs.length
 ·rw[Ye0 hc hj] at h;exact⟨hj,h⟩
 ·simp[nav,hj] at h
theorem Yc.up {tv:TV} {s:Src} {F:Ya} (h:Yc w M (fun _ _=>False) tv s F):Yc w M Lf tv s F:=
 h.go ⟨Nat.le_refl _,fun _ _=>rfl,fun b hb _=>⟨rfl,hb⟩⟩ (fun _ _=>rfl) (fun _ _ x=>x.elim)
theorem Yc.down:∀ {tv:TV} {s:Src} {F:Ya},tv.cln=true→Yc w M Lf tv s F→Yc w M (fun _ _=>False) tv s F:=by
 intro tv
 induction tv with
 |cl o t x=>intro s F _ h;exact h
 |pr a b iha ihb=>
  intro s F hc h;simp only[TV.cln,Bool.and_eq_true] at hc;obtain⟨F1,F2,h1,h2,h3⟩:=h
  exact⟨F1,F2,iha hc.1 h1,ihb hc.2 h2,h3⟩
 |dead n=>intro s F _ _;trivial
 |rw o e xs i v ih=>intro s F _ h;exact h
 |_=>intro s F hc _;cases hc
theorem Yaj {o:Ow} {e:Ty} {xs:List e.El} {i:Nat} {v tv':TV} (h:Ybw o e xs i v=some tv') :
  (∃ y,v.Yiy o.elem e=some y∧tv'=.cl o (.sl e) (xs.set i y))∨(v.opn=true∧v.cln=true∧tv'=.rw o e xs i v):=by
 unfold Ybw at h
 split at h
 ·rename_i y hy;cases h;exact .inl ⟨y,hy,rfl⟩
 ·split at h
  ·rename_i hh;rw[Bool.and_eq_true] at hh;cases h;exact .inr ⟨hh.1,hh.2,rfl⟩
  ·cases h
theorem Yi3 {o:Ow} {e:Ty} {xs:List e.El} {i:Nat} {p:Path} {n tv':TV} (h:(TV.cl o (.sl e) xs).set (.el i::p) n=some tv') :
  o≠.sh∧∃ tve,(TV.cl o.elem e (xs.getD i e.zero)).set p n=some tve∧Ybw o e xs i tve=some tv':=by
 cases o with
 |sh=>simp[TV.set] at h
 |top=>
  simp only[TV.set] at h
  split at h
  ·rename_i tve h1;exact⟨by simp,tve,h1,h⟩
  ·cases h
 |deep=>
  simp only[TV.set] at h
  split at h
  ·rename_i tve h1;exact⟨by simp,tve,h1,h⟩
  ·cases h
theorem Yjq {o:Ow} {e:Ty} {xs:List e.El} {i j:Nat} {v:TV} {p:Path} {n tv':TV} (h:(TV.rw o e xs i v).set (.el j::p) n=some tv') :
  o≠.sh∧j=i∧∃ tve,v.set p n=some tve∧Ybw o e xs i tve=some tv':=by
 cases o with
 |sh=>simp[TV.set] at h
 |top=>
  simp only[TV.set] at h
  split at h
  ·rename_i hji _
   split at h
   ·rename_i tve h1;exact⟨by simp,hji,tve,h1,h⟩
   ·cases h
  ·cases h
 |deep=>
  simp only[TV.set] at h
  split at h
  ·rename_i hji _
   split at h
   ·rename_i tve h1;exact⟨by simp,hji,tve,h1,h⟩
   ·cases h
  ·cases h
theorem focus:∀ (p:Path) {tv:TV} {s:Src} {F:Ya} {s':Src} {u:TV},Yc w M Lf tv s F→nav w tv s p=some s'→tv.get p=some u→
  ∃ F',Ye F' F∧Yc w M Lf u s' F':=by
 intro p
 induction p with
 |nil=>
  intro tv s F s' u h hn hg;rw[Yf,Option.some.injEq] at hn;rw[TV.get_nil,Option.some.injEq] at hg;subst hn hg
  exact⟨F,fun _ x=>x,h⟩
 |cons a p ih=>
  intro tv s F s' u h hn hg
  cases tv with
  |pr x y=>
   obtain⟨F1,F2,h1,h2,b1,b2,d⟩:=h
   cases a with
   |f1=>simp only[nav] at hn;simp only[TV.get] at hg;obtain⟨G,g1,g2⟩:=ih h1 hn hg;exact⟨G,fun b x=>b1 b (g1 b x),g2⟩
   |f2=>simp only[nav] at hn;simp only[TV.get] at hg;obtain⟨G,g1,g2⟩:=ih h2 hn hg;exact⟨G,fun b x=>b2 b (g1 b x),g2⟩
   |el i=>simp[nav] at hn
  |cl o t x=>
   cases t with
   |pair ta tb=>
    obtain⟨F1,F2,h1,h2,b1,b2,d⟩:=h
    cases a with
    |f1=>simp only[nav] at hn;simp only[TV.get] at hg;obtain⟨G,g1,g2⟩:=ih (tv:=.cl o ta x.1) h1 hn hg;exact⟨G,fun b x=>b1 b (g1 b x),g2⟩
    |f2=>simp only[nav] at hn;simp only[TV.get] at hg;obtain⟨G,g1,g2⟩:=ih (tv:=.cl o tb x.2) h2 hn hg;exact⟨G,fun b x=>b2 b (g1 b x),g2⟩
    |el i=>simp[nav] at hn
   |sl e=>
    cases a with
    |f1=>simp[nav] at hn
    |f2=>simp[nav] at hn
    |el i=>
     simp only[nav] at hn
     split at hn
     ·rename_i hi
      split at hn
      ·rename_i b off l c hcell
       simp only[TV.get] at hg;rw[Yn _ _ _ hi] at hn hg;obtain⟨G,g1,g2,_⟩:=Rep.elem h hi hcell;obtain⟨G',g3,g4⟩:=ih (tv:=.cl o.elem e (x[i]'hi)) g2 hn hg;exact⟨G',fun b x=>g1 b (g3 b x),g4⟩
      ·cases hn
     ·cases hn
   |arr m e=>
    cases a with
    |f1=>simp[nav] at hn
    |f2=>simp[nav] at hn
    |el i=>
     simp only[nav] at hn
     split at hn
     ·rename_i hi
      simp only[TV.get] at hg;obtain⟨hl,Fs,q1,q2⟩:=h
      have hi':i<x.length:=by omega
      rw[Yn _ _ _ hi'] at hn hg;obtain⟨G',g3,g4⟩:=ih (tv:=.cl o e (x[i]'hi')) (q1 i hi').1 hn hg;exact⟨G',fun b x=>(q1 i hi').2 b (g3 b x),g4⟩
     ·cases hn
   |int k=>cases a<;>simp[nav] at hn
   |bool=>cases a<;>simp[nav] at hn
   |str=>cases a<;>simp[nav] at hn
   |unit=>cases a<;>simp[nav] at hn
  |nl=>cases a<;>simp[nav] at hn
  |loc r q=>cases a<;>simp[nav] at hn
  |seg r q=>cases a<;>simp[nav] at hn
  |sub r q lo m=>cases a<;>simp[nav] at hn
  |pt t x=>cases a<;>simp[nav] at hn
  |op v=>cases a<;>simp[nav] at hn
  |clo f c=>cases a<;>simp[nav] at hn
  |tup l=>cases a<;>simp[nav] at hn
  |kb b=>cases a<;>simp[nav] at hn
  |gd t b v=>cases a<;>simp[nav] at hn
  |dead m=>cases a<;>simp[nav] at hn
  |rw o e xs i v=>
   cases a with
   |f1=>simp[nav] at hn
   |f2=>simp[nav] at hn
   |el j=>
    obtain⟨h1,h2,h3,b,off,c,h4,h5,Fs,h6,h7,h8,h9,h10⟩:=h;obtain⟨hj,hn⟩:=Ye8 h4 hn;rw[Ycp] at hg
    by_cases hji:j=i
    ·subst hji
     rw[if_pos rfl] at hn hg;obtain⟨G',g3,g4⟩:=ih (h10.up) hn hg;exact⟨G',fun b x=>(h8 j hj).2.1 b (g3 b x),g4⟩
    ·rw[if_neg hji] at hn hg
     rw[Yn _ _ _ hj] at hn hg;obtain⟨G',g3,g4⟩:=ih (tv:=.cl o.elem e (xs[j]'hj)) ((h8 j hj).1.resolve_left hji) hn hg;exact⟨G',fun b x=>(h8 j hj).2.1 b (g3 b x),g4⟩
def TV.gr (v:TV) (p:Path):Option TV:=(v.get p).map TV.row
theorem Ycq (v:TV):v.gr []=some v.row:=by rw[TV.gr,TV.get_nil];rfl
theorem Yq6 (v:TV):v.row.size=v.size:=by cases v<;>rfl
theorem Yeb {v:TV} {p:Path} {o:Ow} {t:Ty} {x:t.El} (h:v.get p=some (.cl o t x)):v.gr p=some (.cl o t x):=by rw[TV.gr,h];rfl
theorem Ync:∀ (q:Path) {o:Ow} {t:Ty} {x:t.El} {u:TV},(TV.cl o t x).get q=some u→∃ o' t',∃ x':t'.El,u=.cl o' t' x':=by
 intro q
 induction q with
 |nil=>intro o t x u h;rw[TV.get_nil] at h;cases h;exact⟨_,_,_,rfl⟩
 |cons a p ih=>
  intro o t x u h
  cases t<;>cases a<;>simp only[TV.get] at h<;>first | exact ih h | cases h
theorem Yg8 (q:Path) {o:Ow} {t:Ty} {x:t.El}:(TV.cl o t x).gr q=(TV.cl o t x).get q:=by
 unfold TV.gr
 cases h:(TV.cl o t x).get q with
 |none=>rfl
 |some u=>obtain⟨o',t',x',rfl⟩:=Ync q h;rfl
theorem Yr1 {o:Ow} {e:Ty} {xs:List e.El} {i j:Nat} {v:TV} {p:Path} :
  (TV.rw o e xs i v).gr (.el j::p)=if j=i then v.gr p else(TV.cl o.elem e (xs.getD j e.zero)).gr p:=by
 unfold TV.gr
 rw[Ycp];split<;>rfl
theorem Ybt:∀ (q:Path) {tv:TV} {s:Src} {F:Ya} {s1:Src},Yc w M Lf tv s F→Goes w w' M M' F→(∀ i,i<tv.size→s.cell w' i=s.cell w i)→
  nav w tv s q=some s1→nav w' tv s q=some s1∧∀ o e xs,tv.gr q=some (.cl o (.sl e) xs)→s1.cell w' 0=s1.cell w 0:=by
 intro q
 induction q with
 |nil=>
  intro tv s F s1 h g hc hn;rw[Yf,Option.some.injEq] at hn;subst hn;refine⟨Yf _ _ _,fun o e xs hg=>?_⟩;rw[Ycq,Option.some.injEq] at hg;have:=Yq6 tv;rw[hg] at this
  exact hc 0 (by rw[←this];simp[TV.size,Ty.size])
 |cons a p ih=>
  intro tv s F s1 h g hc hn
  cases tv with
  |pr x y=>
   obtain⟨F1,F2,h1,h2,b1,b2,d⟩:=h
   cases a with
   |f1=>simp only[nav] at hn;exact ih h1 (g.mono b1) (fun i hi=>hc i (by simp[TV.size];omega)) hn
   |f2=>
    simp only[nav] at hn
    exact ih h2 (g.mono b2) (fun i hi=>by rw[Src.Yj,Src.Yj];exact hc _ (by simp[TV.size];omega)) hn
   |el i=>simp[nav] at hn
  |cl o t x=>
   cases t with
   |pair ta tb=>
    obtain⟨F1,F2,h1,h2,b1,b2,d⟩:=h
    cases a with
    |f1=>simp only[nav] at hn;exact ih (tv:=.cl o ta x.1) h1 (g.mono b1) (fun i hi=>hc i (by simp[TV.size,Ty.size] at hi ⊢;omega)) hn
    |f2=>
     simp only[nav] at hn
     exact ih (tv:=.cl o tb x.2) h2 (g.mono b2) (fun i hi=>by rw[Src.Yj,Src.Yj];exact hc _ (by simp[TV.size,Ty.size] at hi ⊢;omega)) hn
    |el i=>simp[nav] at hn
   |sl e=>
    cases a with
    |f1=>simp[nav] at hn
    |f2=>simp[nav] at hn
    |el i=>
     have h0:=hc 0 (by simp[TV.size,Ty.size])
     simp only[nav] at hn ⊢
     split at hn
     ·rename_i hi
      rw[if_pos hi,h0]
      split at hn
      ·rename_i b off l c hcell
       simp only[TV.gr,TV.get];rw[Yn _ _ _ hi] at hn ⊢;obtain⟨G,g1,g2,g3⟩:=Rep.elem h hi hcell;refine ih (tv:=.cl o.elem e (x[i]'hi)) g2 (g.mono g1) (fun j hj=>?_) hn;simp only[Src.cell];rcases g3 with ⟨_,hm,hb⟩ | ⟨_,hf,_⟩
       ·exact(g.st b hm hb).1.cell _
       ·exact(g.own b hf).cell _
      ·cases hn
     ·cases hn
   |arr m e=>
    cases a with
    |f1=>simp[nav] at hn
    |f2=>simp[nav] at hn
    |el i=>
     simp only[nav] at hn ⊢
     split at hn
     ·rename_i hi
      rw[if_pos hi];simp only[TV.gr,TV.get];obtain⟨hl,Fs,q1,q2⟩:=h
      have hi':i<x.length:=by omega
      rw[Yn _ _ _ hi'] at hn ⊢;refine ih (tv:=.cl o e (x[i]'hi')) (q1 i hi').1 (g.mono (q1 i hi').2) (fun j hj=>?_) hn;rw[Src.Yj,Src.Yj];refine hc _ ?_;have:=Yay (sz:=e.size) hi;simp only[TV.size,Ty.size] at hj ⊢;omega
     ·cases hn
   |int k=>cases a<;>simp[nav] at hn
   |bool=>cases a<;>simp[nav] at hn
   |str=>cases a<;>simp[nav] at hn
   |unit=>cases a<;>simp[nav] at hn
  |nl=>cases a<;>simp[nav] at hn
  |loc r q=>cases a<;>simp[nav] at hn
  |seg r q=>cases a<;>simp[nav] at hn
  |sub r q lo m=>cases a<;>simp[nav] at hn
  |pt t x=>cases a<;>simp[nav] at hn
  |op v=>cases a<;>simp[nav] at hn
  |clo f c=>cases a<;>simp[nav] at hn
  |tup l=>cases a<;>simp[nav] at hn
  |kb b=>cases a<;>simp[nav] at hn
  |gd t b v=>cases a<;>simp[nav] at hn
  |dead m=>cases a<;>simp[nav] at hn
  |rw o e xs i v=>
   cases a with
   |f1=>simp[nav] at hn
   |f2=>simp[nav] at hn
   |el j=>
    obtain⟨h1,h2,h3,b,off,c,h4,h5,Fs,h6,h7,h8,h9,h10⟩:=h;obtain⟨hj,hn⟩:=Ye8 h4 hn
    have h4':s.cell w' 0=some (.slice (some ⟨b,off,none⟩) xs.length c):=by rw[hc 0 (by simp[TV.size])];exact h4
    rw[Ye0 h4' hj,Yr1];have hb:=g.own b h6
    by_cases hji:j=i
    ·subst hji
     rw[if_pos rfl] at hn ⊢;rw[if_pos rfl]
     exact ih h10.up (g.mono (h8 j hj).2.1) (fun k _=>by simp only[Src.cell];exact hb.cell _) hn
    ·rw[if_neg hji] at hn ⊢
     rw[if_neg hji];rw[Yn _ _ _ hj] at hn ⊢
     exact ih (tv:=.cl o.elem e (xs[j]'hj)) ((h8 j hj).1.resolve_left hji) (g.mono (h8 j hj).2.1) (fun k _=>by simp only[Src.cell];exact hb.cell _) hn
theorem Yn8:∀ (q:Path) {o o':Ow} {t:Ty} {x:t.El} {o1:Ow} {e:Ty} {xs:List e.El},(TV.cl o t x).get q=some (.cl o1 (.sl e) xs)→
  ∃ o2,(TV.cl o' t x).get q=some (.cl o2 (.sl e) xs):=by
 intro q
 induction q with
 |nil=>
  intro o o' t x o1 e xs h;rw[TV.get_nil] at h;simp only[Option.some.injEq,TV.cl.injEq] at h;obtain⟨_,rfl,h⟩:=h
  exact⟨o',by rw[TV.get_nil];rw[eq_of_heq h]⟩
 |cons a p ih=>
  intro o o' t x o1 e xs h
  cases t<;>cases a<;>simp only[TV.get] at h ⊢<;>first | exact ih h | cases h
theorem Ynh (q:Path) {o o':Ow} {t:Ty} {x:t.El} {o1:Ow} {e:Ty} {xs:List e.El} (h:(TV.cl o t x).gr q=some (.cl o1 (.sl e) xs)):∃ o2,(TV.cl o' t x).gr q=some (.cl o2 (.sl e) xs):=by
 rw[Yg8] at h ⊢;exact Yn8 q h
theorem Yi7 {a b:TV} {q:Path} {o:Ow} {e:Ty} {xs:List e.El} (h:a.gr q=some (.cl o (.sl e) xs)):∃ o',(Yal a b).gr (.f1::q)=some (.cl o' (.sl e) xs):=by
 rcases Yz a b with eq | ⟨o1,t,x,o',u,y,p,rfl,rfl,eq,_⟩
 ·rw[eq];exact⟨o,h⟩
 ·rw[eq];exact Ynh q h
theorem Yij {a b:TV} {q:Path} {o:Ow} {e:Ty} {xs:List e.El} (h:b.gr q=some (.cl o (.sl e) xs)):∃ o',(Yal a b).gr (.f2::q)=some (.cl o' (.sl e) xs):=by
 rcases Yz a b with eq | ⟨o1,t,x,o',u,y,p,rfl,rfl,eq,_⟩
 ·rw[eq];exact⟨o,h⟩
 ·rw[eq];exact Ynh q h
def Kp (w w':World) (s':Src) (n b:Nat):Prop:=
 match s' with
 |.mem b0 off0=>if b=b0 then(∀ i,(i<off0∨off0+n≤i)→w'.cell? ⟨b,i,none⟩=w.cell? ⟨b,i,none⟩)∧
   (∀ i,w'.frozen? ⟨b,i,none⟩=w.frozen? ⟨b,i,none⟩)∧(∀ i,(w.cell? ⟨b,i,none⟩).isSome=true→(w'.cell? ⟨b,i,none⟩).isSome=true)
  else Same w w' b
 |.reg _ _=>Same w w' b
theorem Kp.room {s':Src} {n b:Nat} (h:Kp w w' s' n b) {off k:Nat} (hr:Room w b off k):Room w' b off k:=by
 cases s' with
 |mem b0 off0=>
  simp only[Kp] at h
  split at h
  ·intro i hi;have:=hr i hi;exact⟨h.2.2 _ this.1,by rw[h.2.1];exact this.2⟩
  ·intro i hi;rw[Same.cell h,Same.frozen h];exact hr i hi
 |reg cs o=>intro i hi;rw[Same.cell h,Same.frozen h];exact hr i hi
theorem Kp.same {b0 off0 n b:Nat} (h:Kp w w' (.mem b0 off0) n b) (hne:b≠b0):Same w w' b:=by
 simp only[Kp,if_neg hne] at h;exact h
theorem Kp.out {b0 off0 n:Nat} (h:Kp w w' (.mem b0 off0) n b0) {i:Nat} (hi:i<off0∨off0+n≤i):w'.cell? ⟨b0,i,none⟩=w.cell? ⟨b0,i,none⟩:=by
 simp only[Kp,if_true] at h;exact h.1 i hi
def Yjt (s s':Src) (n m:Nat) (Fr:Ya):Prop:=
 (∃ k,s'=s.sh k∧k+n≤m)∨(∃ b0 off0,s'=.mem b0 off0∧Fr b0)
structure Ygk (w w':World) (M M':Ya) (s s':Src) (n:Nat) (Fr:Ya):Prop where
 size:w.heap.size≤w'.heap.size
 own:∀ b,Fr b→Kp w w' s' n b
 src:∀ bs offs,s=.mem bs offs→Kp w w' s' n bs
 st:∀ b,¬ M b→b<w.heap.size→Same w w' b∧¬ M' b
theorem Src.Yar {s:Src} {k b off:Nat} (h:s.sh k=.mem b off):∃ o,s=.mem b o∧off=o+k:=by
 cases s with
 |mem b' o=>simp[Src.sh] at h;exact⟨o,by rw[h.1],h.2.symm⟩
 |reg cs o=>simp[Src.sh] at h
theorem Ygk.goes {s s':Src} {n m:Nat} {Fr F2:Ya} (u:Ygk w w' M M' s s' n Fr) (hsub:Ye F2 Fr)
  (hs:∀ bs offs,s=.mem bs offs→¬ F2 bs) (F1:Ya) (hl:Yjt s s' n m F1) (hd:Dis F1 F2) (hs1:∀ bs offs,s=.mem bs offs→¬ F1 bs)
  {sz k:Nat} (hk:∀ j,s'=s.sh j→j+n≤m→j+n≤k∨k+sz≤j):Goes w w' M M' F2∧∀ i,i<sz→(s.sh k).cell w' i=(s.sh k).cell w i:=by
 refine⟨⟨u.size,fun b hb=>?_,u.st⟩,fun i hi=>?_⟩
 ·have hkp:=u.own b (hsub b hb)
  cases hs':s' with
  |reg cs o=>rw[hs'] at hkp;exact hkp
  |mem b0 off0=>
   rw[hs'] at hkp;refine hkp.same ?_;rintro rfl;rcases hl with ⟨j,e,_⟩ | ⟨b1,o1,e,hf⟩
   ·rw[hs'] at e
    obtain⟨o,e1,_⟩:=Src.Yar e.symm;exact hs _ _ e1 hb
   ·rw[hs'] at e;cases e;exact hd _ hf hb
 ·rw[Src.Yj,Src.Yj]
  cases hse:s with
  |reg cs o=>rfl
  |mem bs offs=>
   have hkp:=u.src bs offs hse;simp only[Src.cell]
   cases hs':s' with
   |reg cs o=>rw[hs'] at hkp;exact Same.cell hkp _
   |mem b0 off0=>
    rw[hs'] at hkp
    by_cases hb:bs=b0
    ·subst hb
     rcases hl with ⟨j,e,hj⟩ | ⟨b1,o1,e,hf⟩
     ·have hk':=hk j e hj
      rw[hs',hse] at e;simp only[Src.sh,Src.mem.injEq,true_and] at e;subst e;refine hkp.out ?_;rcases hk' with hk | hk
      ·right;omega
      ·left;omega
     ·rw[hs'] at e;cases e;exact absurd hf (hs1 _ _ hse)
    ·exact Same.cell (hkp.same hb) _
def Slk (w w':World) (old new:Option TV) (s1:Src):Prop:=
 ∀ o e (xs:List e.El),old=some (.cl o (.sl e) xs)→s1.cell w' 0=s1.cell w 0∧∃ o',∃ xs':List e.El,new=some (.cl o' (.sl e) xs')∧xs'.length=xs.length
def Yo2 (w w':World) (tv tv':TV) (s:Src) (p:Path):Prop:=
 ∀ q s1,nav w tv s q=some s1→(¬ ∃ t,q=p++t)→nav w' tv' s q=some s1∧Slk w w' (tv.gr q) (tv'.gr q) s1
theorem Yf0 (a b:TV):(Yal a b).opn=(a.opn || b.opn):=by
 rcases Yz a b with e | ⟨o,t,x,o',u,y,p,rfl,rfl,e,_⟩<;>rw[e]<;>rfl
theorem Yrd {o:Ow} {e:Ty} {x:List e.El} {i:Nat} {T u:TV} {s:Src} {F:Ya} {b off c':Nat} {Fs:Nat→Ya} {p:Path} {s':Src} {old n tve tv':TV}
  (hnsh:o≠.sh) (hi:i<x.length) (e1:s.cell w 0=some (.slice (some ⟨b,off,none⟩) x.length c')) (e2:x.length≤c') (hs:∀ bs offs,s=.mem bs offs→¬ F bs)
  (q2:F b) (q3:Room w b off (c'*e.size)) (q4:∀ j (h:j<x.length),(j=i∨Rep w M e o.elem (x[j]'h) (.mem b (off+j*e.size)) (Fs j))∧Ye (Fs j) F∧¬ Fs j b)
  (hdis:∀ j k,j≠k→j<x.length→k<x.length→Dis (Fs j) (Fs k)) (husz:u.size=e.size) (hTl:T.lay=.at)
  (hnav:∀ a q s1,nav w T s (a::q)=some s1→∃ k,a=.el k∧k<x.length∧(if k=i then nav w u (.mem b (off+k*e.size)) q else nav w (.cl o.elem e (x.getD k e.zero)) (.mem b (off+k*e.size)) q)=some s1)
  (hget:∀ k q,T.gr (.el k::q)=if k=i then u.gr q else(TV.cl o.elem e (x.getD k e.zero)).gr q) (hrw:T.row=.cl o (.sl e) x)
  (hset:Ybw o e x i tve=some tv')
  (IH:∃ Fo Fr,Ye Fo (Fs i)∧Ye Fr (Fs i)∧Dis Fo Fr∧Yc w M Lf old s' Fo∧Yjt (.mem b (off+i*e.size)) s' old.size u.size Fr∧tve.lay=u.lay∧
   ∀ w' M' Lf' Fn,Ygk w w' M M' (.mem b (off+i*e.size)) s' old.size Fr→Yc w' M' Lf' n s' Fn→Dis Fn Fr→(∀ bs offs,Src.mem b (off+i*e.size)=.mem bs offs→¬ Fn bs)→(∀ v u,Lf v u→Lf' v u)→
    Yc w' M' Lf' tve (.mem b (off+i*e.size)) (fun b=>Fr b∨Fn b)∧nav w' tve (.mem b (off+i*e.size)) p=some s'∧Yo2 w w' u tve (.mem b (off+i*e.size)) p) :
  ∃ Fo Fr,Ye Fo F∧Ye Fr F∧Dis Fo Fr∧Yc w M Lf old s' Fo∧Yjt s s' old.size T.size Fr∧tv'.lay=T.lay∧
   ∀ w' M' Lf' Fn,Ygk w w' M M' s s' old.size Fr→Yc w' M' Lf' n s' Fn→Dis Fn Fr→(∀ bs offs,s=.mem bs offs→¬ Fn bs)→(∀ v u,Lf v u→Lf' v u)→
    Yc w' M' Lf' tv' s (fun b=>Fr b∨Fn b)∧nav w' tv' s (.el i::p)=some s'∧Yo2 w w' T tv' s (.el i::p):=by
 obtain⟨Fo,Fr,o1,o2,o3,o4,o5,o6,o7⟩:=IH
 have hloc:∃ b0 off0,s'=.mem b0 off0∧(b0=b∨Fr b0):=by
  rcases o5 with ⟨k,eq,hk⟩ | ⟨b0,off0,eq,hf⟩
  ·exact⟨b,_,eq,.inl rfl⟩
  ·exact⟨b0,off0,eq,.inr hf⟩
 have hsub:∀ j,j<x.length→Ye (Fs j) F:=fun j hj=>(q4 j hj).2.1;have hnb:∀ j,j<x.length→¬ Fs j b:=fun j hj=>(q4 j hj).2.2;refine⟨Fo,fun c=>c=b∨Fr c∨∃ j,j≠i∧j<x.length∧Fs j c,fun c hc=>hsub i hi c (o1 c hc),?_,?_,o4,?_,?_,?_⟩
 ·rintro c (rfl | hc | ⟨j,hj,hjl,hc⟩)
  ·exact q2
  ·exact hsub i hi c (o2 c hc)
  ·exact hsub j hjl c hc
 ·rintro c hc (rfl | hc' | ⟨j,hj,hjl,hc'⟩)
  ·exact hnb i hi (o1 _ hc)
  ·exact o3 c hc hc'
  ·exact hdis i j (Ne.symm hj) hi hjl c (o1 c hc) hc'
 ·obtain⟨b0,off0,eq,hb⟩:=hloc
  exact .inr ⟨b0,off0,eq,hb.elim .inl (fun x=>.inr (.inl x))⟩
 ·rw[hTl];rcases Yaj hset with ⟨y,_,rfl⟩ | ⟨_,_,rfl⟩<;>rfl
 ·intro w' M' Lf' Fn u' hr hd hb hl
  have ub:Kp w w' s' old.size b:=u'.own b (.inl rfl)
  obtain⟨r1,r2,rr⟩:=o7 w' M' Lf' Fn ⟨u'.size,fun c hc=>u'.own c (.inr (.inl hc)),fun bs offs eq=>by cases eq;exact ub,u'.st⟩ hr
   (fun c hc hc'=>hd c hc (.inr (.inl hc'))) (fun bs offs eq hc=>by cases eq;exact hd _ hc (.inl rfl)) hl
  obtain⟨b0,off0,hs'0,hb0⟩:=hloc
  have hne0:∀ bs offs,s=.mem bs offs→bs≠b0:=by
   rintro bs offs eq rfl;refine hs bs offs eq ?_;rcases hb0 with rfl | hf
   ·exact q2
   ·exact hsub i hi _ (o2 _ hf)
  have hhead:s.cell w' 0=s.cell w 0:=by
   cases hse:s with
   |reg cs o=>rfl
   |mem bs offs=>
    have:=u'.src bs offs hse;rw[hs'0] at this;simp only[Src.cell];exact Same.cell (this.same (hne0 bs offs hse)) _
  have e1':s.cell w' 0=some (.slice (some ⟨b,off,none⟩) x.length c'):=by rw[hhead];exact e1
  have hother:∀ k (hk:k<x.length),k≠i→Goes w w' M M' (Fs k)∧∀ j,j<e.size→(Src.mem b (off+k*e.size)).cell w' j=(Src.mem b (off+k*e.size)).cell w j:=by
   intro k hk hki;refine⟨⟨u'.size,fun c hc=>?_,u'.st⟩,fun j hj=>?_⟩
   ·have hkp:=u'.own c (.inr (.inr ⟨k,hki,hk,hc⟩))
    rw[hs'0] at hkp;refine hkp.same ?_;rintro rfl;rcases hb0 with rfl | hf
    ·exact hnb k hk hc
    ·exact hdis i k (Ne.symm hki) hi hk _ (o2 _ hf) hc
   ·simp only[Src.cell]
    rw[hs'0] at ub;rcases hb0 with rfl | hf
    ·rcases o5 with ⟨kk,eq,hkk⟩ | ⟨b1,off1,eq,hf⟩
     ·rw[hs'0] at eq
      simp only[Src.sh,Src.mem.injEq,true_and] at eq;subst eq;refine ub.out ?_;rw[husz] at hkk;rcases Nat.lt_or_ge k i with hlt | hge
      ·left;have:=Yay (sz:=e.size) hlt;omega
      ·right;have:=Yay (sz:=e.size) (show i<k by omega);omega
     ·rw[hs'0] at eq;cases eq;exact absurd (o2 _ hf) (hnb i hi)
    ·exact Same.cell (ub.same (by rintro rfl;exact hnb i hi (o2 _ hf))) _
  have hoth:∀ k (hk:k<x.length),k≠i→Rep w' M' e o.elem (x[k]'hk) (.mem b (off+k*e.size)) (Fs k):=fun k hk hki=>
   Rep.go ((q4 k hk).1.resolve_left hki) (hother k hk hki).1 (hother k hk hki).2
  have hlen:∀ y,(x.set i y).length=x.length:=fun y=>by simp
  obtain⟨Fs',hFs⟩:∃ Fs':Nat→Ya,Fs'=fun k c=>if k=i then(Fr c∨Fn c) else Fs k c:=⟨_,rfl⟩
  have fi:Fs' i=fun c=>Fr c∨Fn c:=by rw[hFs];simp
  have fo:∀ k,k≠i→Fs' k=Fs k:=fun k h=>by rw[hFs];simp[h]
  have hsub':∀ k,k<x.length→Ye (Fs' k) (fun c=>(c=b∨Fr c∨∃ j,j≠i∧j<x.length∧Fs j c)∨Fn c):=by
   intro k hk c hc
   by_cases hki:k=i
   ·subst hki;rw[fi] at hc;exact hc.elim (fun z=>.inl (.inr (.inl z))) .inr
   ·rw[fo k hki] at hc;exact .inl (.inr (.inr ⟨k,hki,hk,hc⟩))
  have hnb':∀ k,k<x.length→¬ Fs' k b:=by
   intro k hk hc
   by_cases hki:k=i
   ·subst hki;rw[fi] at hc
    rcases hc with hc | hc
    ·exact hnb k hi (o2 _ hc)
    ·exact hd _ hc (.inl rfl)
   ·rw[fo k hki] at hc;exact hnb k hk hc
  have hdi:∀ l,l≠i→l<x.length→Dis (Fs' i) (Fs' l):=by
   intro l hli hl' c hc hc';rw[fi] at hc;rw[fo l hli] at hc';rcases hc with hc | hc
   ·exact hdis i l (Ne.symm hli) hi hl' c (o2 _ hc) hc'
   ·exact hd c hc (.inr (.inr ⟨l,hli,hl',hc'⟩))
  have hdis':∀ k l,k≠l→k<x.length→l<x.length→Dis (Fs' k) (Fs' l):=by
   intro k l hkl hk hl'
   by_cases hki:k=i
   ·subst hki;exact hdi l (Ne.symm hkl) hl'
   ·by_cases hli:l=i
    ·subst hli;exact(hdi k hki hk).symm
    ·rw[fo k hki,fo l hli];exact hdis k l hkl hk hl'
  have hrow:Yc w' M' Lf' tv' s (fun c=>(c=b∨Fr c∨∃ j,j≠i∧j<x.length∧Fs j c)∨Fn c):=by
   rcases Yaj hset with ⟨y,hs2,rfl⟩ | ⟨h1,h2,rfl⟩
   ·have r1':=Ynq hs2 r1
    have body:c'≠0→∃ b' off',∃ Fs':Nat→Ya,(some ⟨b,off,none⟩:Option Addr)=some ⟨b',off',none⟩∧
      ((b'=b∨Fr b'∨∃ j,j≠i∧j<x.length∧Fs j b')∨Fn b')∧Room w' b' off' (c'*e.size)∧
      (∀ k (h:k<(x.set i y).length),Rep w' M' e o.elem ((x.set i y)[k]'h) (.mem b' (off'+k*e.size)) (Fs' k)∧
       Ye (Fs' k) (fun c=>(c=b∨Fr c∨∃ j,j≠i∧j<x.length∧Fs j c)∨Fn c)∧¬ Fs' k b')∧
      (∀ k l,k<l→l<(x.set i y).length→Dis (Fs' k) (Fs' l)):=by
     intro _
     refine⟨b,off,Fs',rfl,.inl (.inl rfl),ub.room q3,?_,fun k l hkl hl'=>hdis' k l (by omega) (by rw[hlen] at hl';omega) (by rw[hlen] at hl';omega)⟩
     intro k hk;rw[hlen] at hk;refine⟨?_,hsub' k hk,hnb' k hk⟩
     by_cases hki:k=i
     ·subst hki
      simp only[List.getElem_set_self];rw[fi];exact r1'
     ·rw[List.getElem_set_ne (Ne.symm hki),fo k hki]
      exact hoth k hk hki
    refine⟨some ⟨b,off,none⟩,c',by rw[hlen];exact e1',by rw[hlen];exact e2,?_⟩
    cases o with
    |sh=>exact absurd rfl hnsh
    |top=>exact body
    |deep=>exact body
   ·refine⟨hnsh,by rw[TV.Yak o6];exact husz,hi,b,off,c',e1',e2,Fs',.inl (.inl rfl),ub.room q3,fun k hk=>⟨?_,hsub' k hk,hnb' k hk⟩,hdis',?_⟩
    ·by_cases hki:k=i
     ·exact .inl hki
     ·right;rw[fo k hki];exact hoth k hk hki
    ·rw[fi];exact r1.down h2
  have hnav':∀ k q,k<x.length→nav w' tv' s (.el k::q)=if k=i then nav w' tve (.mem b (off+i*e.size)) q else nav w' (.cl o.elem e (x.getD k e.zero)) (.mem b (off+k*e.size)) q:=by
   intro k q hk;rcases Yaj hset with ⟨y,hs2,rfl⟩ | ⟨h1,h2,rfl⟩
   ·simp only[nav,hlen,hk,if_true,e1']
    obtain⟨o',x',rfl,rfl⟩:=Yau hs2
    by_cases hki:k=i
    ·subst hki
     rw[if_pos rfl,show(x.set k x').getD k e.zero=x' by simp[List.getD_eq_getElem?_getD,hk]]
     exact Ygn q
    ·rw[if_neg hki,show(x.set i x').getD k e.zero=x.getD k e.zero by rw[Yn _ _ _ (by simpa using hk),Yn _ _ _ hk,List.getElem_set_ne (Ne.symm hki)]]
   ·rw[Ye0 e1' hk]
    by_cases hki:k=i
    ·subst hki;simp only[if_true]
    ·rw[if_neg hki,if_neg hki]
  have hget':∀ k q o1 e1 xs,k<x.length→(if k=i then tve.gr q else(TV.cl o.elem e (x.getD k e.zero)).gr q)=some (.cl o1 (.sl e1) xs)→∃ o2,tv'.gr (.el k::q)=some (.cl o2 (.sl e1) xs):=by
   intro k q o1 e1 xs hk hg;rcases Yaj hset with ⟨y,hs2,rfl⟩ | ⟨h1,h2,rfl⟩
   ·obtain⟨o',x',rfl,rfl⟩:=Yau hs2
    show ∃ o2,((TV.cl o.elem e ((x.set i x').getD k e.zero)).get q).map TV.row=_
    by_cases hki:k=i
    ·subst hki
     rw[if_pos rfl] at hg
     rw[show(x.set k x').getD k e.zero=x' by simp[List.getD_eq_getElem?_getD,hk]]
     exact Ynh q hg
    ·rw[if_neg hki] at hg
     rw[show(x.set i x').getD k e.zero=x.getD k e.zero by rw[Yn _ _ _ (by simpa using hk),Yn _ _ _ hk,List.getElem_set_ne (Ne.symm hki)]]
     exact⟨o1,hg⟩
   ·rw[Yr1];exact⟨o1,hg⟩
  refine⟨hrow,by rw[hnav' i p hi,if_pos rfl];exact r2,?_⟩
  intro q s1 hq hne
  cases q with
  |nil=>
   rw[Yf,Option.some.injEq] at hq;subst hq;refine⟨Yf _ _ _,fun o1 e1' xs hg=>?_⟩;rw[Ycq,hrw] at hg;cases hg;refine⟨hhead,?_⟩;rcases Yaj hset with ⟨y,hs2,rfl⟩ | ⟨h1,h2,rfl⟩
   ·exact⟨o,x.set i y,rfl,hlen y⟩
   ·exact⟨o,x,rfl,rfl⟩
  |cons a q=>
   obtain⟨k,rfl,hk,hq⟩:=hnav a q s1 hq;rw[hnav' k q hk,hget k q]
   by_cases hki:k=i
   ·subst hki
    rw[if_pos rfl] at hq;rw[if_pos rfl,if_pos rfl]
    obtain⟨n1,n2⟩:=rr q s1 hq (fun⟨t,ht⟩=>hne ⟨t,by rw[ht];rfl⟩)
    refine⟨n1,fun o1 e2 xs hg=>?_⟩;obtain⟨c1,o3',xs',c2,c3⟩:=n2 o1 e2 xs hg
    obtain⟨o4',c4⟩:=hget' k q o3' e2 xs' hk (by rw[if_pos rfl];exact c2)
    exact⟨c1,o4',xs',c4,c3⟩
   ·rw[if_neg hki] at hq
    rw[if_neg hki,if_neg hki];rw[Yn _ _ _ hk] at hq ⊢;have ho:=hother k hk hki;obtain⟨n1,n2⟩:=Ybt (Lf:=Lf) q (tv:=.cl o.elem e (x[k]'hk)) ((q4 k hk).1.resolve_left hki) ho.1 ho.2 hq;refine⟨n1,fun o1 e2 xs hg=>?_⟩
    obtain⟨o4',c4⟩:=hget' k q o1 e2 xs hk (by rw[if_neg hki,Yn _ _ _ hk];exact hg)
    exact⟨n2 o1 e2 xs hg,o4',xs,c4,rfl⟩
theorem upd:∀ (p:Path) {tv:TV} {s:Src} {F:Ya} {s':Src} {old n tv':TV},Yc w M Lf tv s F→(∀ bs offs,s=.mem bs offs→¬ F bs)→
  nav w tv s p=some s'→tv.get p=some old→tv.set p n=some tv'→n.lay=old.lay→
  ∃ Fo Fr,Ye Fo F∧Ye Fr F∧Dis Fo Fr∧Yc w M Lf old s' Fo∧Yjt s s' old.size tv.size Fr∧tv'.lay=tv.lay∧
   ∀ w' M' Lf' Fn,Ygk w w' M M' s s' old.size Fr→Yc w' M' Lf' n s' Fn→Dis Fn Fr→(∀ bs offs,s=.mem bs offs→¬ Fn bs)→(∀ v u,Lf v u→Lf' v u)→
    Yc w' M' Lf' tv' s (fun b=>Fr b∨Fn b)∧nav w' tv' s p=some s'∧Yo2 w w' tv tv' s p:=by
 intro p
 induction p with
 |nil=>
  intro tv s F s' old n tv' h hs hn hg hset hlay;rw[Yf,Option.some.injEq] at hn;rw[TV.get_nil,Option.some.injEq] at hg;rw[TV.set_nil,Option.some.injEq] at hset;subst hn hg hset
  exact⟨F,noB,fun _ x=>x,fun _ x=>x.elim,fun _ _ x=>x.elim,h,Or.inl ⟨0,(Src.Yda s).symm,by omega⟩,hlay,fun w' M' Lf' Fn u hr hd hb hl=>⟨hr.sub (fun b x=>Or.inr x),Yf _ _ _,fun q s1 _ hne=>absurd ⟨q,rfl⟩ hne⟩⟩
 |cons a p ih=>
  have pairCase:∀ {x y:TV} {s:Src} {F F1 F2:Ya},Yc w M Lf x s F1→Yc w M Lf y (s.sh x.size) F2→Ye F1 F→Ye F2 F→Dis F1 F2→(∀ bs offs,s=.mem bs offs→¬ F bs)→
    (∀ {s':Src} {old n x':TV},nav w x s p=some s'→x.get p=some old→x.set p n=some x'→n.lay=old.lay→
     ∃ Fo Fr,Ye Fo F∧Ye Fr F∧Dis Fo Fr∧Yc w M Lf old s' Fo∧Yjt s s' old.size (x.size+y.size) Fr∧(Yal x' y).lay=.pair x.lay y.lay∧
      ∀ w' M' Lf' Fn,Ygk w w' M M' s s' old.size Fr→Yc w' M' Lf' n s' Fn→Dis Fn Fr→(∀ bs offs,s=.mem bs offs→¬ Fn bs)→(∀ v u,Lf v u→Lf' v u)→
       Yc w' M' Lf' (Yal x' y) s (fun b=>Fr b∨Fn b)∧nav w' (Yal x' y) s (.f1::p)=some s'∧
       (∀ q s1,nav w x s q=some s1→(¬ ∃ t,q=p++t)→nav w' (Yal x' y) s (.f1::q)=some s1∧Slk w w' (x.gr q) ((Yal x' y).gr (.f1::q)) s1)∧
       (∀ q s1,nav w y (s.sh x.size) q=some s1→nav w' (Yal x' y) s (.f2::q)=some s1∧Slk w w' (y.gr q) ((Yal x' y).gr (.f2::q)) s1))∧
    (∀ {s':Src} {old n y':TV},nav w y (s.sh x.size) p=some s'→y.get p=some old→y.set p n=some y'→n.lay=old.lay→
     ∃ Fo Fr,Ye Fo F∧Ye Fr F∧Dis Fo Fr∧Yc w M Lf old s' Fo∧Yjt s s' old.size (x.size+y.size) Fr∧(Yal x y').lay=.pair x.lay y.lay∧
      ∀ w' M' Lf' Fn,Ygk w w' M M' s s' old.size Fr→Yc w' M' Lf' n s' Fn→Dis Fn Fr→(∀ bs offs,s=.mem bs offs→¬ Fn bs)→(∀ v u,Lf v u→Lf' v u)→
       Yc w' M' Lf' (Yal x y') s (fun b=>Fr b∨Fn b)∧nav w' (Yal x y') s (.f2::p)=some s'∧
       (∀ q s1,nav w y (s.sh x.size) q=some s1→(¬ ∃ t,q=p++t)→nav w' (Yal x y') s (.f2::q)=some s1∧Slk w w' (y.gr q) ((Yal x y').gr (.f2::q)) s1)∧
       (∀ q s1,nav w x s q=some s1→nav w' (Yal x y') s (.f1::q)=some s1∧Slk w w' (x.gr q) ((Yal x y').gr (.f1::q)) s1)):=by
   intro x y s F F1 F2 h1 h2 b1 b2 d hs;have hs1:∀ bs offs,s=.mem bs offs→¬ F1 bs:=fun bs offs e x=>hs bs offs e (b1 _ x);have hs2:∀ bs offs,s=.mem bs offs→¬ F2 bs:=fun bs offs e x=>hs bs offs e (b2 _ x);refine⟨?_,?_⟩
   ·intro s' old n x' hn hg hset hlay
    obtain⟨Fo,Fr,o1,o2,o3,o4,o5,o6,o7⟩:=ih h1 hs1 hn hg hset hlay
    refine⟨Fo,fun b=>Fr b∨F2 b,fun b x=>b1 b (o1 b x),fun b x=>x.elim (fun x=>b1 b (o2 b x)) (b2 b),fun b x y=>y.elim (o3 b x) (fun y=>d b (o1 b x) y),o4,?_,by rw[Yei,o6],?_⟩
    ·rcases o5 with ⟨k,e,hk⟩ | ⟨b0,off0,e,hf⟩
     ·exact .inl ⟨k,e,by omega⟩
     ·exact .inr ⟨b0,off0,e,.inl hf⟩
    ·intro w' M' Lf' Fn u hr hd hb hl
     obtain⟨r1,r2,rr⟩:=o7 w' M' Lf' Fn ⟨u.size,fun b x=>u.own b (.inl x),u.src,u.st⟩ hr (fun b x y=>hd b x (.inl y)) hb hl;have hsz:x'.size=x.size:=TV.Yak o6;have gg:=u.goes (m:=x.size) (F2:=F2) (fun b x=>.inr x) hs2 Fr o5 (fun b x y=>d b (o2 b x) y) (fun bs offs e x=>hs1 bs offs e (o2 _ x)) (sz:=y.size) (k:=x.size) (fun j e hj=>.inl hj);have r3:Yc w' M' Lf' y (s.sh x.size) F2:=Yc.go h2 gg.1 gg.2 hl
     refine⟨Yem ⟨fun b=>Fr b∨Fn b,F2,r1,by rw[hsz];exact r3,fun b x=>x.elim (fun x=>.inl (.inl x)) .inr,fun b x=>.inl (.inr x),fun b x y=>x.elim (fun x=>d b (o2 b x) y) (fun x=>hd b x (.inr y))⟩,by rw[Ydk];exact r2,?_,?_⟩
     ·intro q s1 hq hne
      obtain⟨n1,n2⟩:=rr q s1 hq hne
      refine⟨by rw[Ydk];exact n1,fun o e xs hg=>?_⟩
      obtain⟨c1,o',xs',c2,c3⟩:=n2 o e xs hg;obtain⟨o2,c4⟩:=Yi7 (b:=y) c2;exact⟨c1,o2,xs',c4,c3⟩
     ·intro q s1 hq
      obtain⟨n1,n2⟩:=Ybt q h2 gg.1 gg.2 hq
      refine⟨by rw[Ydj,hsz];exact n1,fun o e xs hg=>?_⟩
      obtain⟨o2,c4⟩:=Yij (a:=x') hg;exact⟨n2 o e xs hg,o2,xs,c4,rfl⟩
   ·intro s' old n y' hn hg hset hlay
    have hs2':∀ bs offs,s.sh x.size=.mem bs offs→¬ F2 bs:=fun bs offs e=>by obtain⟨o,e1,_⟩:=Src.Yar e;exact hs2 _ _ e1
    obtain⟨Fo,Fr,o1,o2,o3,o4,o5,o6,o7⟩:=ih h2 hs2' hn hg hset hlay
    have ol:Yjt s s' old.size (x.size+y.size) Fr:=by
     rcases o5 with ⟨k,e,hk⟩ | ⟨b0,off0,e,hf⟩
     ·exact .inl ⟨x.size+k,by rw[e,Src.Ygg],by omega⟩
     ·exact .inr ⟨b0,off0,e,hf⟩
    refine⟨Fo,fun b=>Fr b∨F1 b,fun b x=>b2 b (o1 b x),fun b x=>x.elim (fun x=>b2 b (o2 b x)) (b1 b),fun b x y=>y.elim (o3 b x) (fun y=>d b y (o1 b x)),o4,?_,by rw[Yei,o6],?_⟩
    ·rcases ol with ⟨k,e,hk⟩ | ⟨b0,off0,e,hf⟩
     ·exact .inl ⟨k,e,hk⟩
     ·exact .inr ⟨b0,off0,e,.inl hf⟩
    ·intro w' M' Lf' Fn u hr hd hb hl
     have hsrc:∀ bs offs,s.sh x.size=.mem bs offs→Kp w w' s' old.size bs:=fun bs offs e=>by obtain⟨o,e1,_⟩:=Src.Yar e;exact u.src _ _ e1
     obtain⟨r1,r2,rr⟩:=o7 w' M' Lf' Fn ⟨u.size,fun b x=>u.own b (.inl x),hsrc,u.st⟩ hr (fun b x y=>hd b x (.inl y)) (fun bs offs e=>by obtain⟨o,e1,_⟩:=Src.Yar e;exact hb _ _ e1) hl
     have gg:=u.goes (F2:=F1) (fun b x=>.inr x) hs1 Fr ol (fun b x y=>d b y (o2 b x)) (fun bs offs e x=>hs2 bs offs e (o2 _ x)) (sz:=x.size) (k:=0) (by
       intro j e hj
       right
       rcases o5 with ⟨k,e',hk⟩ | ⟨b0,off0,e',hf⟩
       ·rw[e',Src.Ygg] at e
        cases s<;>simp[Src.sh] at e<;>omega
       ·rw[e'] at e
        obtain⟨o,e1,_⟩:=Src.Yar e.symm
        exact absurd (o2 _ hf) (hs2 _ _ e1))
     rw[Src.Yda] at gg;have r3:Yc w' M' Lf' x s F1:=Yc.go h1 gg.1 gg.2 hl
     refine⟨Yem ⟨F1,fun b=>Fr b∨Fn b,r3,r1,fun b x=>.inl (.inr x),fun b x=>x.elim (fun x=>.inl (.inl x)) .inr,fun b x y=>y.elim (fun y=>d b x (o2 b y)) (fun y=>hd b y (.inr x))⟩,by rw[Ydj];exact r2,?_,?_⟩
     ·intro q s1 hq hne
      obtain⟨n1,n2⟩:=rr q s1 hq hne
      refine⟨by rw[Ydj];exact n1,fun o e xs hg=>?_⟩
      obtain⟨c1,o',xs',c2,c3⟩:=n2 o e xs hg;obtain⟨o2,c4⟩:=Yij (a:=x) c2;exact⟨c1,o2,xs',c4,c3⟩
     ·intro q s1 hq
      obtain⟨n1,n2⟩:=Ybt q h1 gg.1 gg.2 hq
      refine⟨by rw[Ydk];exact n1,fun o e xs hg=>?_⟩
      obtain⟨o2,c4⟩:=Yi7 (b:=y') hg;exact⟨n2 o e xs hg,o2,xs,c4,rfl⟩
  intro tv s F s' old n tv' h hs hn hg hset hlay
  cases tv with
  |pr x y=>
   obtain⟨F1,F2,h1,h2,b1,b2,d⟩:=h;have pc:=pairCase h1 h2 b1 b2 d hs
   cases a with
   |f1=>
    simp only[nav] at hn;simp only[TV.get] at hg;simp only[TV.set] at hset
    split at hset
    ·rename_i x' hx;cases hset
     obtain⟨Fo,Fr,o1,o2,o3,o4,o5,o6,o7⟩:=pc.1 hn hg hx hlay;refine⟨Fo,Fr,o1,o2,o3,o4,o5,o6,fun w' M' Lf' Fn u hr hd hb hl=>?_⟩;obtain⟨r1,r2,r3,r4⟩:=o7 w' M' Lf' Fn u hr hd hb hl;refine⟨r1,r2,fun q s1 hq hne=>?_⟩
     cases q with
     |nil=>rw[Yf] at hq;cases hq;exact⟨Yf _ _ _,fun o e xs hg=>by rw[Ycq] at hg;cases hg⟩
     |cons c q=>
      cases c with
      |f1=>simp only[nav] at hq;exact r3 q s1 hq (fun⟨t,ht⟩=>hne ⟨t,by rw[ht];rfl⟩)
      |f2=>simp only[nav] at hq;exact r4 q s1 hq
      |el i=>simp[nav] at hq
    ·cases hset
   |f2=>
    simp only[nav] at hn;simp only[TV.get] at hg;simp only[TV.set] at hset
    split at hset
    ·rename_i x' hx;cases hset
     obtain⟨Fo,Fr,o1,o2,o3,o4,o5,o6,o7⟩:=pc.2 hn hg hx hlay;refine⟨Fo,Fr,o1,o2,o3,o4,o5,o6,fun w' M' Lf' Fn u hr hd hb hl=>?_⟩;obtain⟨r1,r2,r3,r4⟩:=o7 w' M' Lf' Fn u hr hd hb hl;refine⟨r1,r2,fun q s1 hq hne=>?_⟩
     cases q with
     |nil=>rw[Yf] at hq;cases hq;exact⟨Yf _ _ _,fun o e xs hg=>by rw[Ycq] at hg;cases hg⟩
     |cons c q=>
      cases c with
      |f1=>simp only[nav] at hq;exact r4 q s1 hq
      |f2=>simp only[nav] at hq;exact r3 q s1 hq (fun⟨t,ht⟩=>hne ⟨t,by rw[ht];rfl⟩)
      |el i=>simp[nav] at hq
    ·cases hset
   |el i=>simp[nav] at hn
  |cl o t x=>
   cases t with
   |pair ta tb=>
    obtain⟨F1,F2,h1,h2,b1,b2,d⟩:=h;have pc:=pairCase (x:=.cl o ta x.1) (y:=.cl o tb x.2) h1 h2 b1 b2 d hs
    cases a with
    |f1=>
     simp only[nav] at hn;simp only[TV.get] at hg;simp only[TV.set] at hset
     split at hset
     ·rename_i x' hx;cases hset
      obtain⟨Fo,Fr,o1,o2,o3,o4,o5,o6,o7⟩:=pc.1 hn hg hx hlay;refine⟨Fo,Fr,o1,o2,o3,o4,o5,o6,fun w' M' Lf' Fn u hr hd hb hl=>?_⟩;obtain⟨r1,r2,r3,r4⟩:=o7 w' M' Lf' Fn u hr hd hb hl;refine⟨r1,r2,fun q s1 hq hne=>?_⟩
      cases q with
      |nil=>rw[Yf] at hq;cases hq;exact⟨Yf _ _ _,fun o e xs hg=>by rw[Ycq] at hg;cases hg⟩
      |cons c q=>
       cases c with
       |f1=>simp only[nav] at hq;exact r3 q s1 hq (fun⟨t,ht⟩=>hne ⟨t,by rw[ht];rfl⟩)
       |f2=>simp only[nav] at hq;exact r4 q s1 hq
       |el i=>simp[nav] at hq
     ·cases hset
    |f2=>
     simp only[nav] at hn;simp only[TV.get] at hg;simp only[TV.set] at hset
     split at hset
     ·rename_i x' hx;cases hset
      obtain⟨Fo,Fr,o1,o2,o3,o4,o5,o6,o7⟩:=pc.2 hn hg hx hlay;refine⟨Fo,Fr,o1,o2,o3,o4,o5,o6,fun w' M' Lf' Fn u hr hd hb hl=>?_⟩;obtain⟨r1,r2,r3,r4⟩:=o7 w' M' Lf' Fn u hr hd hb hl;refine⟨r1,r2,fun q s1 hq hne=>?_⟩
      cases q with
      |nil=>rw[Yf] at hq;cases hq;exact⟨Yf _ _ _,fun o e xs hg=>by rw[Ycq] at hg;cases hg⟩
      |cons c q=>
       cases c with
       |f1=>simp only[nav] at hq;exact r4 q s1 hq
       |f2=>simp only[nav] at hq;exact r3 q s1 hq (fun⟨t,ht⟩=>hne ⟨t,by rw[ht];rfl⟩)
       |el i=>simp[nav] at hq
     ·cases hset
    |el i=>simp[nav] at hn
   |sl e=>
    cases a with
    |f1=>simp[nav] at hn
    |f2=>simp[nav] at hn
    |el i=>
     obtain⟨hnsh,tve,hs1,hs2⟩:=Yi3 hset;simp only[nav] at hn
     split at hn
     ·rename_i hi
      split at hn
      ·rename_i b off l c hcell
       have hgd:x.getD i e.zero=x[i]'hi:=by simp[List.getD_eq_getElem?_getD,hi]
       obtain⟨A,c',e1,e2,e3⟩:=h
       have hA:A=some ⟨b,off,none⟩∧c'=c:=by
        rw[e1] at hcell;simp only[Option.some.injEq,Value.slice.injEq] at hcell;exact⟨hcell.1,hcell.2.2⟩
       obtain⟨rfl,rfl⟩:=hA
       have e3':c'≠0→∃ b' off',∃ Fs:Nat→Ya,(some ⟨b,off,none⟩:Option Addr)=some ⟨b',off',none⟩∧F b'∧Room w b' off' (c'*e.size)∧
        (∀ i (h:i<x.length),Rep w M e o.elem (x[i]'h) (.mem b' (off'+i*e.size)) (Fs i)∧Ye (Fs i) F∧¬ Fs i b')∧(∀ i j,i<j→j<x.length→Dis (Fs i) (Fs j)):=by
        cases o with
        |sh=>exact absurd rfl hnsh
        |top=>exact e3
        |deep=>exact e3
       obtain⟨b',off',Fs,q1,q2,q3,q4,q5⟩:=e3' (by omega)
       simp only[Option.some.injEq,Addr.mk.injEq,and_true] at q1;obtain⟨rfl,rfl⟩:=q1
       have hdis:∀ j k,j≠k→j<x.length→k<x.length→Dis (Fs j) (Fs k):=by
        intro j k hne hj hk;rcases Nat.lt_or_ge j k with hlt | hge
        ·exact q5 j k hlt hk
        ·exact(q5 k j (by omega) hj).symm
       have hg':(TV.cl o.elem e (x.getD i e.zero)).get p=some old:=by
        cases o<;>first | exact absurd rfl hnsh | (simp only[TV.get] at hg;exact hg)
       have IH:=ih (tv:=.cl o.elem e (x[i]'hi)) (s:=.mem b (off+i*e.size)) (q4 i hi).1 (fun bs offs eq hb=>by cases eq;exact(q4 i hi).2.2 hb) (by rw[hgd] at hn;exact hn) (by rw[hgd] at hg';exact hg') (by rw[hgd] at hs1;exact hs1) hlay
       refine Yrd (T:=.cl o (.sl e) x) (u:=.cl o.elem e (x[i]'hi)) hnsh hi e1 e2 hs q2 q3 (fun j hj=>⟨.inr (q4 j hj).1,(q4 j hj).2⟩) hdis rfl rfl ?_ ?_ rfl hs2 IH
       ·intro a q s1 hq
        cases a with
        |f1=>simp[nav] at hq
        |f2=>simp[nav] at hq
        |el k=>
         simp only[nav] at hq
         split at hq
         ·rename_i hk
          rw[e1] at hq;refine⟨k,rfl,hk,?_⟩
          by_cases hki:k=i
          ·subst hki;rw[if_pos rfl,←hgd];exact hq
          ·rw[if_neg hki];exact hq
         ·cases hq
       ·intro k q
        show((TV.cl o.elem e (x.getD k e.zero)).get q).map TV.row=_
        by_cases hki:k=i
        ·subst hki;rw[if_pos rfl,hgd];rfl
        ·rw[if_neg hki];rfl
      ·cases hn
     ·cases hn
   |arr m e=>
    cases a with
    |f1=>simp[nav] at hn
    |f2=>simp[nav] at hn
    |el i=>
     simp only[nav] at hn
     split at hn
     ·rename_i hi
      obtain⟨hlen,Fs,q4,q5⟩:=h
      have hi':i<x.length:=by omega
      have hgd:x.getD i e.zero=x[i]'hi':=by simp[List.getD_eq_getElem?_getD,hi']
      have hdis:∀ j k,j≠k→j<x.length→k<x.length→Dis (Fs j) (Fs k):=by
       intro j k hne hj hk;rcases Nat.lt_or_ge j k with hlt | hge
       ·exact q5 j k hlt hk
       ·exact(q5 k j (by omega) hj).symm
      have hg':(TV.cl o e (x.getD i e.zero)).get p=some old:=by simp only[TV.get] at hg;exact hg
      have hset':∃ tve y,(TV.cl o e (x.getD i e.zero)).set p n=some tve∧tve.Yiy o e=some y∧tv'=.cl o (.arr m e) (x.set i y):=by
       simp only[TV.set] at hset
       split at hset
       ·rename_i tve h1
        split at hset
        ·rename_i y h2;cases hset;exact⟨tve,y,h1,h2,rfl⟩
        ·cases hset
       ·cases hset
      obtain⟨tve,y,hs1,hs2,rfl⟩:=hset';rw[hgd] at hn hg' hs1
      have hsrc:∀ (k:Nat) (G:Ya),Ye G F→∀ bs offs,s.sh k=.mem bs offs→¬ G bs:=fun k G hG bs offs eq hb=>by
       obtain⟨o',e1,_⟩:=Src.Yar eq;exact hs _ _ e1 (hG _ hb)
      obtain⟨Fo,Fr,o1,o2,o3,o4,o5,o6,o7⟩:=ih (tv:=.cl o e (x[i]'hi')) (q4 i hi').1 (hsrc _ _ (q4 i hi').2) hn hg' hs1 hlay
      have hle:∀ k,k<x.length→k*e.size+e.size≤m*e.size:=fun k hk=>by
       calc k*e.size+e.size=(k+1)*e.size:=by rw[Nat.add_mul];omega
        _≤m*e.size:=Nat.mul_le_mul_right _ (by omega)
      have ol:Yjt s s' old.size (m*e.size) Fr:=by
       rcases o5 with ⟨k,eq,hk⟩ | ⟨b0,off0,eq,hf⟩
       ·simp only[TV.size] at hk
        have:=hle i hi'
        exact .inl ⟨i*e.size+k,by rw[eq,Src.Ygg],by omega⟩
       ·exact .inr ⟨b0,off0,eq,hf⟩
      refine⟨Fo,fun c=>Fr c∨∃ j,j≠i∧j<x.length∧Fs j c,fun c hc=>(q4 i hi').2 c (o1 c hc),?_,?_,o4,?_,rfl,?_⟩
      ·rintro c (hc | ⟨j,hj,hjl,hc⟩)
       ·exact(q4 i hi').2 c (o2 c hc)
       ·exact(q4 j hjl).2 c hc
      ·rintro c hc (hc' | ⟨j,hj,hjl,hc'⟩)
       ·exact o3 c hc hc'
       ·exact hdis i j (Ne.symm hj) hi' hjl c (o1 c hc) hc'
      ·rcases ol with ⟨k,eq,hk⟩ | ⟨b0,off0,eq,hf⟩
       ·exact .inl ⟨k,eq,hk⟩
       ·exact .inr ⟨b0,off0,eq,.inl hf⟩
      ·intro w' M' Lf' Fn u hr hd hb hl
       obtain⟨r1,r2,rr⟩:=o7 w' M' Lf' Fn ⟨u.size,fun c hc=>u.own c (.inl hc),fun bs offs eq=>by obtain⟨o',e1,_⟩:=Src.Yar eq;exact u.src _ _ e1,u.st⟩ hr
        (fun c hc hc'=>hd c hc (.inl hc')) (fun bs offs eq=>by obtain⟨o',e1,_⟩:=Src.Yar eq;exact hb _ _ e1) hl
       have r1':=Ynq hs2 r1
       have hl2:(x.set i y).length=x.length:=by simp
       have hother:∀ k (hk:k<x.length),k≠i→Goes w w' M M' (Fs k)∧∀ j,j<e.size→(s.sh (k*e.size)).cell w' j=(s.sh (k*e.size)).cell w j:=by
        intro k hk hki
        refine u.goes (F2:=Fs k) (fun c hc=>.inr ⟨k,hki,hk,hc⟩) (fun bs offs eq hb=>hs bs offs eq ((q4 k hk).2 _ hb)) Fr ol (fun c hc hc'=>hdis i k (Ne.symm hki) hi' hk c (o2 c hc) hc')
         (fun bs offs eq hc=>hs bs offs eq ((q4 i hi').2 _ (o2 _ hc))) (sz:=e.size) (k:=k*e.size) ?_
        intro j eq hj;rcases o5 with ⟨kk,eq',hkk⟩ | ⟨b0,off0,eq',hf⟩
        ·rw[eq',Src.Ygg] at eq
         have:j=i*e.size+kk:=by cases s<;>simp[Src.sh] at eq<;>omega
         subst this;simp only[TV.size] at hkk;rcases Nat.lt_or_ge k i with hlt | hge
         ·right;have:=Yay (sz:=e.size) hlt;omega
         ·left;have:=Yay (sz:=e.size) (show i<k by omega);omega
        ·rw[eq'] at eq
         obtain⟨o',e1,_⟩:=Src.Yar eq.symm;exact absurd ((q4 i hi').2 _ (o2 _ hf)) (hs _ _ e1)
       refine⟨⟨by rw[hl2];exact hlen,fun k c=>if k=i then(Fr c∨Fn c) else Fs k c,?_,?_⟩,?_,?_⟩
       ·intro k hk
        rw[hl2] at hk
        by_cases hki:k=i
        ·subst hki
         refine⟨by simp only[if_true,List.getElem_set_self];exact r1',fun c hc=>?_⟩
         simp only[if_true] at hc;exact hc.elim (fun z=>.inl (.inl z)) .inr
        ·refine⟨?_,fun c hc=>?_⟩
         ·simp only[if_neg hki]
          rw[List.getElem_set_ne (Ne.symm hki)];exact Rep.go (q4 k hk).1 (hother k hk hki).1 (hother k hk hki).2
         ·simp only[if_neg hki] at hc;exact .inl (.inr ⟨k,hki,hk,hc⟩)
       ·intro k l hkl hl' c hc hc'
        rw[hl2] at hl'
        by_cases hki:k=i
        ·have hli:l≠i:=by omega
         simp only[if_pos hki] at hc;simp only[if_neg hli] at hc';rcases hc with hc | hc
         ·exact hdis i l (by omega) hi' hl' c (o2 _ hc) hc'
         ·exact hd c hc (.inr ⟨l,hli,hl',hc'⟩)
        ·simp only[if_neg hki] at hc
         by_cases hli:l=i
         ·simp only[if_pos hli] at hc'
          rcases hc' with hc' | hc'
          ·exact hdis k i hki (by omega) hi' c hc (o2 _ hc')
          ·exact hd c hc' (.inr ⟨k,hki,by omega,hc⟩)
         ·simp only[if_neg hli] at hc'
          exact hdis k l (by omega) (by omega) hl' c hc hc'
       ·simp only[nav,hi,if_true]
        have:(x.set i y).getD i e.zero=y:=by simp[List.getD_eq_getElem?_getD,hi']
        rw[this];obtain⟨o',x',rfl,rfl⟩:=Yau hs2;rw[Ygn p (o:=o) (o':=o')];exact r2
       ·intro q s1 hq hne
        cases q with
        |nil=>
         rw[Yf,Option.some.injEq] at hq;subst hq
         exact⟨Yf _ _ _,fun o1 e1' xs hg=>by rw[Ycq] at hg;cases hg⟩
        |cons a q=>
         cases a with
         |f1=>simp[nav] at hq
         |f2=>simp[nav] at hq
         |el k=>
          simp only[nav] at hq ⊢
          split at hq
          ·rename_i hk
           rw[if_pos hk]
           have hk':k<x.length:=by omega
           simp only[TV.gr,TV.get]
           by_cases hki:k=i
           ·subst hki
            have hy:(x.set k y).getD k e.zero=y:=by simp[List.getD_eq_getElem?_getD,hk']
            rw[hy];rw[Yn _ _ _ hk'] at hq ⊢
            obtain⟨n1,n2⟩:=rr q s1 hq (fun⟨t,ht⟩=>hne ⟨t,by rw[ht];rfl⟩)
            obtain⟨o',x',rfl,rfl⟩:=Yau hs2
            refine⟨by rw[Ygn q (o:=o) (o':=o')];exact n1,fun o1 e2 xs hg=>?_⟩
            obtain⟨c1,o3',xs',c2,c3⟩:=n2 o1 e2 xs hg;obtain⟨o4',c4⟩:=Ynh (o':=o) q c2;exact⟨c1,o4',xs',c4,c3⟩
           ·have hy:(x.set i y).getD k e.zero=x[k]'hk':=by rw[Yn _ _ _ (by simpa using hk'),List.getElem_set_ne (Ne.symm hki)]
            rw[hy];rw[Yn _ _ _ hk'] at hq ⊢;have ho:=hother k hk' hki;obtain⟨n1,n2⟩:=Ybt (Lf:=Lf) q (tv:=.cl o e (x[k]'hk')) (q4 k hk').1 ho.1 ho.2 hq;exact⟨n1,fun o1 e2 xs hg=>⟨n2 o1 e2 xs hg,o1,xs,hg,rfl⟩⟩
          ·cases hq
     ·cases hn
   |int k=>cases a<;>simp[nav] at hn
   |bool=>cases a<;>simp[nav] at hn
   |str=>cases a<;>simp[nav] at hn
   |unit=>cases a<;>simp[nav] at hn
  |nl=>cases a<;>simp[nav] at hn
  |loc r q=>cases a<;>simp[nav] at hn
  |seg r q=>cases a<;>simp[nav] at hn
  |sub r q lo m=>cases a<;>simp[nav] at hn
  |pt t x=>cases a<;>simp[nav] at hn
  |op v=>cases a<;>simp[nav] at hn
  |clo f c=>cases a<;>simp[nav] at hn
  |tup l=>cases a<;>simp[nav] at hn
  |kb b=>cases a<;>simp[nav] at hn
  |gd t b v=>cases a<;>simp[nav] at hn
  |dead m=>cases a<;>simp[nav] at hn
  |rw o e x i v=>
   cases a with
   |f1=>simp[nav] at hn
   |f2=>simp[nav] at hn
   |el j=>
    obtain⟨hnsh,rfl,tve,hs1,hs2⟩:=Yjq hset;obtain⟨_,h2,h3,b,off,c,h4,h5,Fs,h6,h7,h8,h9,h10⟩:=h;obtain⟨hj,hn⟩:=Ye8 h4 hn;rw[Ycp,if_pos rfl] at hg;rw[if_pos rfl] at hn
    have IH:=ih (tv:=v) (s:=.mem b (off+j*e.size)) h10.up (fun bs offs eq hb=>by cases eq;exact(h8 j hj).2.2 hb) hn hg hs1 hlay
    refine Yrd (T:=.rw o e x j v) (u:=v) hnsh hj h4 h5 hs h6 h7 h8 h9 h2 rfl ?_ ?_ rfl hs2 IH
    ·intro a q s1 hq
     cases a with
     |f1=>simp[nav] at hq
     |f2=>simp[nav] at hq
     |el k=>obtain⟨hk,hq⟩:=Ye8 h4 hq;exact⟨k,rfl,hk,hq⟩
    ·intro k q;exact Yr1
end
end Mf
