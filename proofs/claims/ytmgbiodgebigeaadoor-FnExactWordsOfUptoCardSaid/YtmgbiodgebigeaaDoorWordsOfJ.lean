import Derived.BigRegion
import Derived.LoopTactic
import Derived.WalkKit
import Derived.RangeFuncRecord
import Derived.Below
import Derived.Shelf.Abstract
import Derived.IntWalk
import Derived.Lib.Walk
import Derived.Lib.Bytealg
import Derived.Shelf.RegionOpenPlain
import Derived.Laws.Strings3
import Derived.Test.YtmgbiodgebigeaaDoorMf4
import Derived.Test.YtmgbiodgebigeaaDoorProg
namespace Go.Proofs
open Go.RowKit Go.Shelf
set_option maxRecDepth 100000 in
set_option maxHeartbeats 1000000 in
theorem Ib.index_any (s:ByteArray) (c:Int) (w:World) :
  Calls Tryd.prog 29 #[.string s,.int .u8 c] w fun e w'=>e=.returned (.int .i64 (Lib.indexByte s.data.toList c.toNat.toUInt8))∧w'=w:=by
 go_enter Tryd.func29,Tryd.ntmps29
 go_wp2
 rw[run_callFunc_extern Tryd.func33 (by kernel_rfl) (by kernel_rfl) (by kernel_rfl) (e:=Extern.BytealgIndexByte.indexByte) (by kernel_rfl),Lib.run_indexByteString]
 simp only[Result.andThen];rw[Oper.upon_value]
 go_wp2
 go_ret
 exact⟨rfl,rfl⟩
end Go.Proofs
namespace Go.Proofs
open Go.RowKit Go.Shelf
set_option maxRecDepth 100000 in
set_option maxHeartbeats 1000000 in
theorem Ct.count_one (s:ByteArray) (c:UInt8) (w:World) :
  Calls Tryd.prog 22 #[.string s,.string ⟨#[c]⟩] w fun e w'=>e=.returned (.int .i64 (s.data.toList.count c:Nat))∧w'=w:=by
 go_enter Tryd.func22,Tryd.ntmps22
 go_wp2
 rw[run_callFunc_extern Tryd.func26 (by kernel_rfl) (by kernel_rfl) (by kernel_rfl) (e:=Extern.BytealgCount.count) (by kernel_rfl),Lib.run_countString]
 simp only[Result.andThen];rw[Oper.upon_value]
 go_wp2
 go_ret
 exact⟨rfl,rfl⟩
end Go.Proofs
