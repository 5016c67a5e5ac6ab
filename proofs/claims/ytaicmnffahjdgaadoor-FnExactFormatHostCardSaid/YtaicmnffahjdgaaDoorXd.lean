/-
  Printed by wip/tools (own work of this part): walks over the value kit
-/
import Derived.Test.YtaicmnffahjdgaaDoorVKi
import Derived.Test.YtaicmnffahjdgaaDoorVKj
import Derived.Test.YtaicmnffahjdgaaDoorProg
import Derived.Test.YtaicmnffahjdgaaDoorRows
set_option linter.unusedVariables false
set_option linter.unusedSimpArgs false
set_option maxRecDepth 100000
set_option maxHeartbeats 4000000
namespace Go.VK
open Go.RowKit Go.Proofs
structure D.Share where
  Index : Int
  Value : Int
def D.Share.V (x : D.Share) : List V := [.int .i64 x.Index, .int .i64 x.Value]
def D.Share.sz (x : D.Share) : Nat := 0
theorem D.Share.one (x : D.Share) : allOne x.V = true := rfl
structure D.Keeper where
  Share : D.Share
  Epoch : Int
  Guesses : Int
  Limit : Int
def D.Keeper.V (x : D.Keeper) : List V := [.int .i64 x.Share.Index, .int .i64 x.Share.Value, .int .i64 x.Epoch, .int .i64 x.Guesses, .int .i64 x.Limit]
def D.Keeper.sz (x : D.Keeper) : Nat := 0
theorem D.Keeper.one (x : D.Keeper) : allOne x.V = true := rfl
structure D.KeeperHost where
  State : D.Keeper
  Saved : List D.Keeper
  Monotonic : Int
def D.KeeperHost.V (x : D.KeeperHost) : List V := [.int .i64 x.State.Share.Index, .int .i64 x.State.Share.Value, .int .i64 x.State.Epoch, .int .i64 x.State.Guesses, .int .i64 x.State.Limit, .slice 5 (x.Saved.map D.Keeper.V), .int .i64 x.Monotonic]
def D.KeeperHost.sz (x : D.KeeperHost) : Nat := x.Saved.length
theorem D.KeeperHost.one (x : D.KeeperHost) : allOne x.V = true := rfl
structure D.Credential where
  Handle : Int
  Public : Int
  Counter : Int
  Cut : Bool
def D.Credential.V (x : D.Credential) : List V := [.int .i64 x.Handle, .int .i64 x.Public, .int .i64 x.Counter, .bool x.Cut]
def D.Credential.sz (x : D.Credential) : Nat := 0
theorem D.Credential.one (x : D.Credential) : allOne x.V = true := rfl
structure D.Account where
  Id : Int
  Minimum : Int
  Credentials : List D.Credential
def D.Account.V (x : D.Account) : List V := [.int .i64 x.Id, .int .i64 x.Minimum, .slice 4 (x.Credentials.map D.Credential.V)]
def D.Account.sz (x : D.Account) : Nat := x.Credentials.length
theorem D.Account.one (x : D.Account) : allOne x.V = true := rfl
def pMark (x : D.Keeper) : Int := IntKind.i64.wrap (IntKind.i64.wrap (x.Epoch * 1000) + x.Guesses)
def fmtHost (x : D.KeeperHost) : ByteArray :=
  let s := fmtInt x.State.Share.Index ++ ⟨#[64]⟩ ++ fmtInt x.State.Epoch ++ ⟨#[32]⟩ ++ fmtInt x.State.Guesses ++ ⟨#[47]⟩ ++ fmtInt x.State.Limit
  if pMark x.State < x.Monotonic then s ++ ⟨#[32, 111, 108, 100]⟩ else s
theorem fmtHost_sz (x : D.KeeperHost) : (fmtHost x).size ≤ 100 := by
  have h1 := fmtInt_sz x.State.Share.Index
  have h2 := fmtInt_sz x.State.Epoch
  have h3 := fmtInt_sz x.State.Guesses
  have h4 := fmtInt_sz x.State.Limit
  have e1 : (⟨#[64]⟩ : ByteArray).size = 1 := rfl
  have e2 : (⟨#[32]⟩ : ByteArray).size = 1 := rfl
  have e3 : (⟨#[47]⟩ : ByteArray).size = 1 := rfl
  have e4 : (⟨#[32, 111, 108, 100]⟩ : ByteArray).size = 4 := rfl
  unfold fmtHost
  split <;> simp only [ByteArray.size_append, *] <;> omega
abbrev G0 : GI := GT Tryd.prog
theorem T.a34 : aggB Tryd.prog 34 2 = true := by kernel_rfl
theorem T.a36 : aggB Tryd.prog 36 5 = true := by kernel_rfl
theorem T.a39 : aggB Tryd.prog 39 7 = true := by kernel_rfl
theorem T.a42 : aggB Tryd.prog 42 2 = true := by kernel_rfl
theorem T.a44 : aggB Tryd.prog 44 5 = true := by kernel_rfl
theorem T.a47 : aggB Tryd.prog 47 7 = true := by kernel_rfl
theorem T.en14 (args : Array Value) (w : World) : (callFunc 14 args).run Tryd.prog w = .ok (.enter 14 args) w := by kernel_rfl
theorem T.en15 (args : Array Value) (w : World) : (callFunc 15 args).run Tryd.prog w = .ok (.enter 15 args) w := by kernel_rfl
theorem T.en16 (args : Array Value) (w : World) : (callFunc 16 args).run Tryd.prog w = .ok (.enter 16 args) w := by kernel_rfl
theorem T.en17 (args : Array Value) (w : World) : (callFunc 17 args).run Tryd.prog w = .ok (.enter 17 args) w := by kernel_rfl
theorem T.en18 (args : Array Value) (w : World) : (callFunc 18 args).run Tryd.prog w = .ok (.enter 18 args) w := by kernel_rfl
theorem T.en4 (args : Array Value) (w : World) : (callFunc 4 args).run Tryd.prog w = .ok (.enter 4 args) w := by kernel_rfl
theorem T.en40 (args : Array Value) (w : World) : (callFunc 40 args).run Tryd.prog w = .ok (.enter 40 args) w := by kernel_rfl
theorem T.en41 (args : Array Value) (w : World) : (callFunc 41 args).run Tryd.prog w = .ok (.enter 41 args) w := by kernel_rfl
theorem T.en43 (args : Array Value) (w : World) : (callFunc 43 args).run Tryd.prog w = .ok (.enter 43 args) w := by kernel_rfl
theorem T.en44 (args : Array Value) (w : World) : (callFunc 44 args).run Tryd.prog w = .ok (.enter 44 args) w := by kernel_rfl
theorem T.en46 (args : Array Value) (w : World) : (callFunc 46 args).run Tryd.prog w = .ok (.enter 46 args) w := by kernel_rfl
theorem T.en47 (args : Array Value) (w : World) : (callFunc 47 args).run Tryd.prog w = .ok (.enter 47 args) w := by kernel_rfl
theorem T.en48 (args : Array Value) (w : World) : (callFunc 48 args).run Tryd.prog w = .ok (.enter 48 args) w := by kernel_rfl
theorem T.en49 (args : Array Value) (w : World) : (callFunc 49 args).run Tryd.prog w = .ok (.enter 49 args) w := by kernel_rfl
theorem T.en50 (args : Array Value) (w : World) : (callFunc 50 args).run Tryd.prog w = .ok (.enter 50 args) w := by kernel_rfl
theorem T.en51 (args : Array Value) (w : World) : (callFunc 51 args).run Tryd.prog w = .ok (.enter 51 args) w := by kernel_rfl
theorem T.en52 (args : Array Value) (w : World) : (callFunc 52 args).run Tryd.prog w = .ok (.enter 52 args) w := by kernel_rfl
theorem T.en82 (args : Array Value) (w : World) : (callFunc 82 args).run Tryd.prog w = .ok (.enter 82 args) w := by kernel_rfl
theorem T.en83 (args : Array Value) (w : World) : (callFunc 83 args).run Tryd.prog w = .ok (.enter 83 args) w := by kernel_rfl
theorem T.f34_0 : fldB Tryd.prog 34 0 0 = true := by kernel_rfl
theorem T.f34_1 : fldB Tryd.prog 34 1 1 = true := by kernel_rfl
theorem T.f36_0 : fldB Tryd.prog 36 0 0 = true := by kernel_rfl
theorem T.f36_1 : fldB Tryd.prog 36 1 2 = true := by kernel_rfl
theorem T.f36_2 : fldB Tryd.prog 36 2 3 = true := by kernel_rfl
theorem T.f36_3 : fldB Tryd.prog 36 3 4 = true := by kernel_rfl
theorem T.f39_0 : fldB Tryd.prog 39 0 0 = true := by kernel_rfl
theorem T.f39_1 : fldB Tryd.prog 39 1 5 = true := by kernel_rfl
theorem T.f39_2 : fldB Tryd.prog 39 2 6 = true := by kernel_rfl
theorem T.f42_0 : fldB Tryd.prog 42 0 0 = true := by kernel_rfl
theorem T.f42_1 : fldB Tryd.prog 42 1 1 = true := by kernel_rfl
theorem T.f44_0 : fldB Tryd.prog 44 0 0 = true := by kernel_rfl
theorem T.f44_1 : fldB Tryd.prog 44 1 2 = true := by kernel_rfl
theorem T.f44_2 : fldB Tryd.prog 44 2 3 = true := by kernel_rfl
theorem T.f44_3 : fldB Tryd.prog 44 3 4 = true := by kernel_rfl
theorem T.f47_0 : fldB Tryd.prog 47 0 0 = true := by kernel_rfl
theorem T.f47_1 : fldB Tryd.prog 47 1 5 = true := by kernel_rfl
theorem T.f47_2 : fldB Tryd.prog 47 2 6 = true := by kernel_rfl
theorem T.is3 : (Tryd.prog.underlying 3).isSome = true := by kernel_rfl
theorem T.mix : Tryd.prog.follows .mixedOrders = true := by kernel_rfl
theorem T.o3 : oneB Tryd.prog 3 = true := by kernel_rfl
theorem T.o37 : oneB Tryd.prog 37 = true := by kernel_rfl
theorem T.o45 : oneB Tryd.prog 45 = true := by kernel_rfl
theorem T.s146 : slB Tryd.prog 146 5 1 1 = true := by kernel_rfl
theorem T.s37 : slB Tryd.prog 37 36 5 40 = true := by kernel_rfl
theorem T.s45 : slB Tryd.prog 45 44 5 40 = true := by kernel_rfl
theorem T.z42 : zerosOf Tryd.prog 42 = some [.int .i64 0, .int .i64 0] := by kernel_rfl
theorem T.z44 : zerosOf Tryd.prog 44 = some [.int .i64 0, .int .i64 0, .int .i64 0, .int .i64 0, .int .i64 0] := by kernel_rfl
theorem T.z47 : zerosOf Tryd.prog 47 = some [.int .i64 0, .int .i64 0, .int .i64 0, .int .i64 0, .int .i64 0, .nil, .int .i64 0] := by kernel_rfl
theorem T.hd3 : HasData Tryd.prog 3 Int iV := hd_int Tryd.underlying3
theorem T.hd34 : HasData Tryd.prog 34 D.Share D.Share.V := hd_struct (t := 34) Tryd.underlying34 (by kernel_rfl) (hf_cons (k := 1) T.hd3 rfl (by kernel_rfl) (hf_cons (k := 1) T.hd3 rfl (by kernel_rfl) hf_nil)) (fun p => ⟨p.1, p.2.1⟩) (fun p => rfl)
theorem T.hd36 : HasData Tryd.prog 36 D.Keeper D.Keeper.V := hd_struct (t := 36) Tryd.underlying36 (by kernel_rfl) (hf_cons (k := 2) T.hd34 rfl (by kernel_rfl) (hf_cons (k := 1) T.hd3 rfl (by kernel_rfl) (hf_cons (k := 1) T.hd3 rfl (by kernel_rfl) (hf_cons (k := 1) T.hd3 rfl (by kernel_rfl) hf_nil)))) (fun p => ⟨p.1, p.2.1, p.2.2.1, p.2.2.2.1⟩) (fun p => rfl)
theorem T.hd37 : HasData Tryd.prog 37 (List D.Keeper) (fun l => [.slice 5 (l.map D.Keeper.V)]) := hd_slice Tryd.underlying37 (by kernel_rfl) (by decide) (fun _ => rfl) T.hd36
theorem T.hd39 : HasData Tryd.prog 39 D.KeeperHost D.KeeperHost.V := hd_struct (t := 39) Tryd.underlying39 (by kernel_rfl) (hf_cons (k := 5) T.hd36 rfl (by kernel_rfl) (hf_cons (k := 1) T.hd37 rfl (by kernel_rfl) (hf_cons (k := 1) T.hd3 rfl (by kernel_rfl) hf_nil))) (fun p => ⟨p.1, p.2.1, p.2.2.1⟩) (fun p => rfl)
theorem T.tab {W : World} (h : laidMet Tryd.prog [("math/bits.deBruijn32tab", YtaicmnffahjdgaaDoor.Rows.laid_math_bits_deBruijn32tab), ("math/bits.deBruijn64tab", YtaicmnffahjdgaaDoor.Rows.laid_math_bits_deBruijn64tab), ("internal/strconv.uint64pow10", YtaicmnffahjdgaaDoor.Rows.laid_internal_strconv_uint64pow10)] W) : G0.G W :=
  tabIs_of_reads (g := 1) (by kernel_rfl) (by kernel_rfl) Tryd.underlying197 Tryd.underlying191 (by kernel_rfl) (by kernel_rfl) (Lib.laidMet.reads h (.tail _ (.tail _ (.head _))))
end Go.VK
