/-
  Printed by wip/tools (own work of this part): walks over the value kit
-/
import Derived.Test.YtaicmnffahjdgaaDoorVKp
import Derived.Test.YtaicmnffahjdgaaDoorProg
import Derived.Test.YtaicmnffahjdgaaDoorRows
set_option linter.unusedVariables false
set_option linter.unusedSimpArgs false
set_option maxRecDepth 100000
set_option maxHeartbeats 4000000
namespace Go.VK
open Go.RowKit Go.Proofs
structure D.Share where
  Index : Int
  Value : Int
def D.Share.V (x : D.Share) : List V := [.int .i64 x.Index, .int .i64 x.Value]
def D.Share.sz (x : D.Share) : Nat := 0
theorem D.Share.one (x : D.Share) : allOne x.V = true := rfl
structure D.Keeper where
  Share : D.Share
  Epoch : Int
  Guesses : Int
  Limit : Int
def D.Keeper.V (x : D.Keeper) : List V := [.int .i64 x.Share.Index, .int .i64 x.Share.Value, .int .i64 x.Epoch, .int .i64 x.Guesses, .int .i64 x.Limit]
def D.Keeper.sz (x : D.Keeper) : Nat := 0
theorem D.Keeper.one (x : D.Keeper) : allOne x.V = true := rfl
structure D.KeeperHost where
  State : D.Keeper
  Saved : List D.Keeper
  Monotonic : Int
def D.KeeperHost.V (x : D.KeeperHost) : List V := [.int .i64 x.State.Share.Index, .int .i64 x.State.Share.Value, .int .i64 x.State.Epoch, .int .i64 x.State.Guesses, .int .i64 x.State.Limit, .slice 5 (x.Saved.map D.Keeper.V), .int .i64 x.Monotonic]
def D.KeeperHost.sz (x : D.KeeperHost) : Nat := x.Saved.length
theorem D.KeeperHost.one (x : D.KeeperHost) : allOne x.V = true := rfl
structure D.Credential where
  Handle : Int
  Public : Int
  Counter : Int
  Cut : Bool
def D.Credential.V (x : D.Credential) : List V := [.int .i64 x.Handle, .int .i64 x.Public, .int .i64 x.Counter, .bool x.Cut]
def D.Credential.sz (x : D.Credential) : Nat := 0
theorem D.Credential.one (x : D.Credential) : allOne x.V = true := rfl
structure D.Account where
  Id : Int
  Minimum : Int
  Credentials : List D.Credential
def D.Account.V (x : D.Account) : List V := [.int .i64 x.Id, .int .i64 x.Minimum, .slice 4 (x.Credentials.map D.Credential.V)]
def D.Account.sz (x : D.Account) : Nat := x.Credentials.length
theorem D.Account.one (x : D.Account) : allOne x.V = true := rfl
structure D.Challenge where
  Id : Int
  Account : Int
  Until : Int
def D.Challenge.V (x : D.Challenge) : List V := [.int .i64 x.Id, .int .i64 x.Account, .int .i64 x.Until]
def D.Challenge.sz (x : D.Challenge) : Nat := 0
theorem D.Challenge.one (x : D.Challenge) : allOne x.V = true := rfl
structure D.ChallengeBook where
  Seed : Int
  Next : Int
  Open : List D.Challenge
def D.ChallengeBook.V (x : D.ChallengeBook) : List V := [.int .i64 x.Seed, .int .i64 x.Next, .slice 3 (x.Open.map D.Challenge.V)]
def D.ChallengeBook.sz (x : D.ChallengeBook) : Nat := x.Open.length
theorem D.ChallengeBook.one (x : D.ChallengeBook) : allOne x.V = true := rfl
structure D.Site where
  Name : ByteArray
  Accounts : List D.Account
  Book : D.ChallengeBook
  Logins : List Int
def D.Site.V (x : D.Site) : List V := [.str x.Name, .slice 3 (x.Accounts.map D.Account.V), .int .i64 x.Book.Seed, .int .i64 x.Book.Next, .slice 3 (x.Book.Open.map D.Challenge.V), .slice 1 (x.Logins.map iV)]
def D.Site.sz (x : D.Site) : Nat := x.Name.size + x.Accounts.length + (x.Accounts.map D.Account.sz).sum + x.Book.Open.length + x.Logins.length
theorem D.Site.one (x : D.Site) : allOne x.V = true := rfl
structure D.Notice where
  Kind : Int
  Account : Int
  Time : Int
  Seen : Bool
def D.Notice.V (x : D.Notice) : List V := [.int .i64 x.Kind, .int .i64 x.Account, .int .i64 x.Time, .bool x.Seen]
def D.Notice.sz (x : D.Notice) : Nat := 0
theorem D.Notice.one (x : D.Notice) : allOne x.V = true := rfl
structure D.Mailbox where
  Notices : List D.Notice
def D.Mailbox.V (x : D.Mailbox) : List V := [.slice 4 (x.Notices.map D.Notice.V)]
def D.Mailbox.sz (x : D.Mailbox) : Nat := x.Notices.length
theorem D.Mailbox.one (x : D.Mailbox) : allOne x.V = true := rfl
structure D.LogEntry where
  Index : Int
  Kind : Int
  Device : Int
  By : Int
  Previous : Int
  Signature : Int
def D.LogEntry.V (x : D.LogEntry) : List V := [.int .i64 x.Index, .int .i64 x.Kind, .int .i64 x.Device, .int .i64 x.By, .int .i64 x.Previous, .int .i64 x.Signature]
def D.LogEntry.sz (x : D.LogEntry) : Nat := 0
theorem D.LogEntry.one (x : D.LogEntry) : allOne x.V = true := rfl
structure D.KeyStore where
  Vendor : Int
  Serial : Int
  Seed : Int
  Counter : Int
def D.KeyStore.V (x : D.KeyStore) : List V := [.int .i64 x.Vendor, .int .i64 x.Serial, .int .i64 x.Seed, .int .i64 x.Counter]
def D.KeyStore.sz (x : D.KeyStore) : Nat := 0
theorem D.KeyStore.one (x : D.KeyStore) : allOne x.V = true := rfl
structure D.Entry where
  Site : Int
  Handle : Int
  Version : Int
  Deleted : Bool
def D.Entry.V (x : D.Entry) : List V := [.int .i64 x.Site, .int .i64 x.Handle, .int .i64 x.Version, .bool x.Deleted]
def D.Entry.sz (x : D.Entry) : Nat := 0
theorem D.Entry.one (x : D.Entry) : allOne x.V = true := rfl
structure D.Bundle where
  Entries : List D.Entry
def D.Bundle.V (x : D.Bundle) : List V := [.slice 4 (x.Entries.map D.Entry.V)]
def D.Bundle.sz (x : D.Bundle) : Nat := x.Entries.length
theorem D.Bundle.one (x : D.Bundle) : allOne x.V = true := rfl
structure D.Device where
  Store : D.KeyStore
  Log : List D.LogEntry
  Key : Int
  Epoch : Int
  Version : Int
  Bundle : D.Bundle
def D.Device.V (x : D.Device) : List V := [.int .i64 x.Store.Vendor, .int .i64 x.Store.Serial, .int .i64 x.Store.Seed, .int .i64 x.Store.Counter, .slice 6 (x.Log.map D.LogEntry.V), .int .i64 x.Key, .int .i64 x.Epoch, .int .i64 x.Version, .slice 4 (x.Bundle.Entries.map D.Entry.V)]
def D.Device.sz (x : D.Device) : Nat := x.Log.length + x.Bundle.Entries.length
theorem D.Device.one (x : D.Device) : allOne x.V = true := rfl
def pMark (x : D.Keeper) : Int := IntKind.i64.wrap (IntKind.i64.wrap (x.Epoch * 1000) + x.Guesses)
def fmtHost (x : D.KeeperHost) : ByteArray :=
  let s := fmtInt x.State.Share.Index ++ ⟨#[64]⟩ ++ fmtInt x.State.Epoch ++ ⟨#[32]⟩ ++ fmtInt x.State.Guesses ++ ⟨#[47]⟩ ++ fmtInt x.State.Limit
  if pMark x.State < x.Monotonic then s ++ ⟨#[32, 111, 108, 100]⟩ else s
theorem fmtHost_sz (x : D.KeeperHost) : (fmtHost x).size ≤ 100 := by
  have h1 := fmtInt_sz x.State.Share.Index
  have h2 := fmtInt_sz x.State.Epoch
  have h3 := fmtInt_sz x.State.Guesses
  have h4 := fmtInt_sz x.State.Limit
  have e1 : (⟨#[64]⟩ : ByteArray).size = 1 := rfl
  have e2 : (⟨#[32]⟩ : ByteArray).size = 1 := rfl
  have e3 : (⟨#[47]⟩ : ByteArray).size = 1 := rfl
  have e4 : (⟨#[32, 111, 108, 100]⟩ : ByteArray).size = 4 := rfl
  unfold fmtHost
  split <;> simp only [ByteArray.size_append, *] <;> omega
def acctM (m : Int) : ByteArray := if m = 1 then ⟨#[112, 97, 115, 115, 119, 111, 114, 100]⟩ else if m = 2 then ⟨#[99, 111, 100, 101]⟩ else if m = 3 then ⟨#[107, 101, 121]⟩ else ⟨#[63]⟩
theorem acctM_1 {m : Int} (h : 1 ≤ m ∧ m ≤ 3) : ([[V.str ⟨#[112, 97, 115, 115, 119, 111, 114, 100]⟩], [V.str ⟨#[99, 111, 100, 101]⟩], [V.str ⟨#[107, 101, 121]⟩]] : List (List V))[(IntKind.i64.wrap (m - 1)).toNat]? = some [V.str (acctM m)] := by
  have hm : m = 1 ∨ m = 2 ∨ m = 3 := by omega
  rcases hm with rfl | rfl | rfl <;> rfl
theorem acctM_2 {m : Int} (h : 1 ≤ m ∧ m ≤ 3) : ([[V.str ⟨#[]⟩], [V.str ⟨#[112, 97, 115, 115, 119, 111, 114, 100]⟩], [V.str ⟨#[99, 111, 100, 101]⟩], [V.str ⟨#[107, 101, 121]⟩]] : List (List V))[m.toNat]? = some [V.str (acctM m)] := by
  have hm : m = 1 ∨ m = 2 ∨ m = 3 := by omega
  rcases hm with rfl | rfl | rfl <;> rfl
theorem acctM_0 {m : Int} (h : ¬ (1 ≤ m ∧ m ≤ 3)) : acctM m = ⟨#[63]⟩ := by
  unfold acctM
  rw [if_neg (by omega), if_neg (by omega), if_neg (by omega)]
theorem acctM_sz (m : Int) : (acctM m).size ≤ 8 := by
  unfold acctM
  split
  · exact Nat.le_refl _
  split
  · exact show (4 : Nat) ≤ 8 by omega
  split
  · exact show (3 : Nat) ≤ 8 by omega
  · exact show (1 : Nat) ≤ 8 by omega
def credStep (s : ByteArray) (c : D.Credential) : ByteArray :=
  if c.Cut = true then s ++ ⟨#[32]⟩ ++ fmtInt c.Handle ++ ⟨#[58]⟩ ++ fmtInt c.Counter ++ ⟨#[120]⟩ else s ++ ⟨#[32]⟩ ++ fmtInt c.Handle ++ ⟨#[58]⟩ ++ fmtInt c.Counter
theorem credStep_sz (s : ByteArray) (c : D.Credential) : (credStep s c).size ≤ s.size + 45 := by
  have h1 := fmtInt_sz c.Handle
  have h2 := fmtInt_sz c.Counter
  have e1 : (⟨#[32]⟩ : ByteArray).size = 1 := rfl
  have e2 : (⟨#[58]⟩ : ByteArray).size = 1 := rfl
  have e3 : (⟨#[120]⟩ : ByteArray).size = 1 := rfl
  unfold credStep
  split <;> simp only [ByteArray.size_append, *] <;> omega
theorem credAcc_sz : ∀ (l : List D.Credential) (s : ByteArray), (l.foldl credStep s).size ≤ s.size + 45 * l.length
  | [], s => by simp
  | c :: l, s => by
    have h1 := credAcc_sz l (credStep s c)
    have h2 := credStep_sz s c
    simp only [List.foldl_cons, List.length_cons]
    omega
def acctB (x : D.Account) : ByteArray := fmtInt x.Id ++ ⟨#[32]⟩ ++ acctM x.Minimum
theorem acctB_sz (x : D.Account) : (acctB x).size ≤ 30 := by
  have h1 := fmtInt_sz x.Id
  have h2 := acctM_sz x.Minimum
  have e1 : (⟨#[32]⟩ : ByteArray).size = 1 := rfl
  unfold acctB
  simp only [ByteArray.size_append, e1]
  omega
def acctAcc (x : D.Account) (i : Nat) : ByteArray := (x.Credentials.take i).foldl credStep (acctB x)
theorem acctAcc_sz (x : D.Account) (i : Nat) (h : x.Credentials.length ≤ 1048576) : (acctAcc x i).size ≤ 60000000 := by
  have h1 := credAcc_sz (x.Credentials.take i) (acctB x)
  have h2 := acctB_sz x
  have h3 : (x.Credentials.take i).length ≤ x.Credentials.length := by rw [List.length_take]; omega
  unfold acctAcc
  omega
theorem acctAcc_s (x : D.Account) (i : Nat) (h : i < x.Credentials.length) : acctAcc x (i + 1) = credStep (acctAcc x i) x.Credentials[i] := by
  unfold acctAcc
  rw [List.take_succ_eq_append_getElem h, List.foldl_append]; rfl
theorem acctAcc_t {x : D.Account} {i : Nat} {h : i < x.Credentials.length} (hc : (x.Credentials[i]).Cut = true) : acctAcc x i ++ ⟨#[32]⟩ ++ fmtInt (x.Credentials[i]).Handle ++ ⟨#[58]⟩ ++ fmtInt (x.Credentials[i]).Counter ++ ⟨#[120]⟩ = acctAcc x (i + 1) := by
  rw [acctAcc_s x i h, credStep, if_pos hc]
theorem acctAcc_f {x : D.Account} {i : Nat} {h : i < x.Credentials.length} (hc : (x.Credentials[i]).Cut = false) : acctAcc x i ++ ⟨#[32]⟩ ++ fmtInt (x.Credentials[i]).Handle ++ ⟨#[58]⟩ ++ fmtInt (x.Credentials[i]).Counter = acctAcc x (i + 1) := by
  rw [acctAcc_s x i h, credStep, if_neg (by simp [hc])]
def fmtAccount (x : D.Account) : ByteArray := acctAcc x x.Credentials.length
theorem fmtAccount_sz (x : D.Account) (h : x.sz ≤ 1048576) : (fmtAccount x).size ≤ 60000000 := acctAcc_sz x _ (by unfold D.Account.sz at h; omega)
def fmtSite (x : D.Site) : ByteArray := x.Name ++ ⟨#[32]⟩ ++ fmtInt (x.Logins.length : Int) ++ ⟨#[32]⟩ ++ fmtInt (x.Book.Open.length : Int)
theorem fmtSite_sz (x : D.Site) (h : x.sz ≤ 1048576) : (fmtSite x).size ≤ 1048620 := by
  have h0 : x.Name.size ≤ 1048576 := by unfold D.Site.sz at h; omega
  have h1 := fmtInt_sz (x.Logins.length : Int)
  have h2 := fmtInt_sz (x.Book.Open.length : Int)
  have e1 : (⟨#[32]⟩ : ByteArray).size = 1 := rfl
  unfold fmtSite
  simp only [ByteArray.size_append, e1]
  omega
def ntName (k : Int) : ByteArray := if k = 1 then ⟨#[108, 111, 103, 105, 110]⟩ else if k = 2 then ⟨#[100, 101, 118, 105, 99, 101]⟩ else if k = 3 then ⟨#[99, 108, 97, 105, 109]⟩ else if k = 4 then ⟨#[99, 117, 116]⟩ else if k = 5 then ⟨#[114, 101, 99, 111, 118, 101, 114, 121]⟩ else ⟨#[]⟩
theorem ntName_1 {m : Int} (h : 1 ≤ m ∧ m ≤ 5) : ([[V.str ⟨#[108, 111, 103, 105, 110]⟩], [V.str ⟨#[100, 101, 118, 105, 99, 101]⟩], [V.str ⟨#[99, 108, 97, 105, 109]⟩], [V.str ⟨#[99, 117, 116]⟩], [V.str ⟨#[114, 101, 99, 111, 118, 101, 114, 121]⟩]] : List (List V))[(IntKind.i64.wrap (m - 1)).toNat]? = some [V.str (ntName m)] := by
  have hm : m = 1 ∨ m = 2 ∨ m = 3 ∨ m = 4 ∨ m = 5 := by omega
  rcases hm with rfl | rfl | rfl | rfl | rfl <;> rfl
theorem ntName_2 {m : Int} (h : 1 ≤ m ∧ m ≤ 5) : ([[V.str ⟨#[]⟩], [V.str ⟨#[108, 111, 103, 105, 110]⟩], [V.str ⟨#[100, 101, 118, 105, 99, 101]⟩], [V.str ⟨#[99, 108, 97, 105, 109]⟩], [V.str ⟨#[99, 117, 116]⟩], [V.str ⟨#[114, 101, 99, 111, 118, 101, 114, 121]⟩]] : List (List V))[m.toNat]? = some [V.str (ntName m)] := by
  have hm : m = 1 ∨ m = 2 ∨ m = 3 ∨ m = 4 ∨ m = 5 := by omega
  rcases hm with rfl | rfl | rfl | rfl | rfl <;> rfl
theorem ntName_0 {m : Int} (h : ¬ (1 ≤ m ∧ m ≤ 5)) : ntName m = ⟨#[]⟩ := by
  unfold ntName
  rw [if_neg (by omega), if_neg (by omega), if_neg (by omega), if_neg (by omega), if_neg (by omega)]
theorem ntName_sz (m : Int) : (ntName m).size ≤ 8 := by
  unfold ntName
  split
  · exact show (5 : Nat) ≤ 8 by omega
  split
  · exact show (6 : Nat) ≤ 8 by omega
  split
  · exact show (5 : Nat) ≤ 8 by omega
  split
  · exact show (3 : Nat) ≤ 8 by omega
  split
  · exact show (8 : Nat) ≤ 8 by omega
  · exact show (0 : Nat) ≤ 8 by omega
def ntStr (n : D.Notice) : ByteArray := if n.Seen = true then fmtInt n.Time ++ ⟨#[58]⟩ ++ ntName n.Kind else fmtInt n.Time ++ ⟨#[58]⟩ ++ ntName n.Kind ++ ⟨#[42]⟩
theorem ntStr_t {n : D.Notice} (h : n.Seen = true) : fmtInt n.Time ++ ⟨#[58]⟩ ++ ntName n.Kind = ntStr n := by rw [ntStr, if_pos h]
theorem ntStr_f {n : D.Notice} (h : n.Seen = false) : fmtInt n.Time ++ ⟨#[58]⟩ ++ ntName n.Kind ++ ⟨#[42]⟩ = ntStr n := by rw [ntStr, if_neg (by simp [h])]
theorem ntStr_sz (n : D.Notice) : (ntStr n).size ≤ 31 := by
  have h1 := fmtInt_sz n.Time
  have h2 := ntName_sz n.Kind
  have e1 : (⟨#[58]⟩ : ByteArray).size = 1 := rfl
  have e2 : (⟨#[42]⟩ : ByteArray).size = 1 := rfl
  unfold ntStr
  split <;> simp only [ByteArray.size_append, *] <;> omega
def SP : ByteArray := ⟨#[32]⟩
def ntAcc (l : List D.Notice) (i : Nat) : ByteArray := joinB SP ((l.take i).map ntStr)
theorem ntAcc_sz (l : List D.Notice) (i : Nat) (h : l.length ≤ 1048576) : (ntAcc l i).size ≤ 40000000 := by
  have h1 := joinB_sz (sep := SP) (f := ntStr) (l := l.take i) (B := 31) (Nat.le_refl _) ntStr_sz
  have h2 : (l.take i).length ≤ l.length := by rw [List.length_take]; omega
  unfold ntAcc
  omega
theorem ntAcc_0t {l : List D.Notice} {i : Nat} (h0 : ¬ (0 : Int) < i) (h : i < l.length) (hs : (l[i]).Seen = true) : ntAcc l i ++ fmtInt (l[i]).Time ++ ⟨#[58]⟩ ++ ntName (l[i]).Kind = ntAcc l (i + 1) := by
  unfold ntAcc; rw [← joinB_step0 (by omega) h (ntStr_t hs)]; simp only [ByteArray.append_assoc]
theorem ntAcc_0f {l : List D.Notice} {i : Nat} (h0 : ¬ (0 : Int) < i) (h : i < l.length) (hs : (l[i]).Seen = false) : ntAcc l i ++ fmtInt (l[i]).Time ++ ⟨#[58]⟩ ++ ntName (l[i]).Kind ++ ⟨#[42]⟩ = ntAcc l (i + 1) := by
  unfold ntAcc; rw [← joinB_step0 (by omega) h (ntStr_f hs)]; simp only [ByteArray.append_assoc]
theorem ntAcc_st {l : List D.Notice} {i : Nat} (h0 : (0 : Int) < i) (h : i < l.length) (hs : (l[i]).Seen = true) : ntAcc l i ++ ⟨#[32]⟩ ++ fmtInt (l[i]).Time ++ ⟨#[58]⟩ ++ ntName (l[i]).Kind = ntAcc l (i + 1) := by
  unfold ntAcc; rw [← joinB_stepS (by omega) h (ntStr_t hs)]; simp only [ByteArray.append_assoc]; rfl
theorem ntAcc_sf {l : List D.Notice} {i : Nat} (h0 : (0 : Int) < i) (h : i < l.length) (hs : (l[i]).Seen = false) : ntAcc l i ++ ⟨#[32]⟩ ++ fmtInt (l[i]).Time ++ ⟨#[58]⟩ ++ ntName (l[i]).Kind ++ ⟨#[42]⟩ = ntAcc l (i + 1) := by
  unfold ntAcc; rw [← joinB_stepS (by omega) h (ntStr_f hs)]; simp only [ByteArray.append_assoc]; rfl
def fmtMail (x : D.Mailbox) : ByteArray := if x.Notices.length = 0 then ⟨#[45]⟩ else ntAcc x.Notices x.Notices.length
theorem fmtMail_sz (x : D.Mailbox) (h : x.sz ≤ 1048576) : (fmtMail x).size ≤ 40000000 := by
  unfold fmtMail
  split
  · exact show (1 : Nat) ≤ 40000000 by omega
  · exact ntAcc_sz _ _ (by unfold D.Mailbox.sz at h; omega)
def leStr (e : D.LogEntry) : ByteArray := (if e.Kind = 1 then ⟨#[43]⟩ else ⟨#[45]⟩) ++ fmtInt (fpI e.Device)
theorem leStr_t {e : D.LogEntry} (h : e.Kind = 1) : (⟨#[43]⟩ : ByteArray) ++ fmtInt (fpI e.Device) = leStr e := by rw [leStr, if_pos h]
theorem leStr_f {e : D.LogEntry} (h : e.Kind ≠ 1) : (⟨#[45]⟩ : ByteArray) ++ fmtInt (fpI e.Device) = leStr e := by rw [leStr, if_neg h]
theorem leStr_sz (e : D.LogEntry) : (leStr e).size ≤ 31 := by
  have h1 := fmtInt_sz (fpI e.Device)
  have e1 : (⟨#[43]⟩ : ByteArray).size = 1 := rfl
  have e2 : (⟨#[45]⟩ : ByteArray).size = 1 := rfl
  unfold leStr
  split <;> simp only [ByteArray.size_append, *] <;> omega
def leAcc (l : List D.LogEntry) (i : Nat) : ByteArray := joinB SP ((l.take i).map leStr)
theorem leAcc_sz (l : List D.LogEntry) (i : Nat) (h : l.length ≤ 1048576) : (leAcc l i).size ≤ 40000000 := by
  have h1 := joinB_sz (sep := SP) (f := leStr) (l := l.take i) (B := 31) (Nat.le_refl _) leStr_sz
  have h2 : (l.take i).length ≤ l.length := by rw [List.length_take]; omega
  unfold leAcc
  omega
theorem leAcc_0t {l : List D.LogEntry} {i : Nat} (h0 : ¬ (0 : Int) < i) (h : i < l.length) (hs : (l[i]).Kind = 1) : leAcc l i ++ ⟨#[43]⟩ ++ fmtInt (fpI (l[i]).Device) = leAcc l (i + 1) := by
  unfold leAcc; rw [← joinB_step0 (by omega) h (leStr_t hs)]; simp only [ByteArray.append_assoc]
theorem leAcc_0f {l : List D.LogEntry} {i : Nat} (h0 : ¬ (0 : Int) < i) (h : i < l.length) (hs : (l[i]).Kind ≠ 1) : leAcc l i ++ ⟨#[45]⟩ ++ fmtInt (fpI (l[i]).Device) = leAcc l (i + 1) := by
  unfold leAcc; rw [← joinB_step0 (by omega) h (leStr_f hs)]; simp only [ByteArray.append_assoc]
theorem leAcc_st {l : List D.LogEntry} {i : Nat} (h0 : (0 : Int) < i) (h : i < l.length) (hs : (l[i]).Kind = 1) : leAcc l i ++ ⟨#[32]⟩ ++ ⟨#[43]⟩ ++ fmtInt (fpI (l[i]).Device) = leAcc l (i + 1) := by
  unfold leAcc; rw [← joinB_stepS (by omega) h (leStr_t hs)]; simp only [ByteArray.append_assoc]; rfl
theorem leAcc_sf {l : List D.LogEntry} {i : Nat} (h0 : (0 : Int) < i) (h : i < l.length) (hs : (l[i]).Kind ≠ 1) : leAcc l i ++ ⟨#[32]⟩ ++ ⟨#[45]⟩ ++ fmtInt (fpI (l[i]).Device) = leAcc l (i + 1) := by
  unfold leAcc; rw [← joinB_stepS (by omega) h (leStr_f hs)]; simp only [ByteArray.append_assoc]; rfl
def fmtLog (l : List D.LogEntry) : ByteArray := if l.length = 0 then ⟨#[45]⟩ else leAcc l l.length
theorem fmtLog_sz (l : List D.LogEntry) (h : l.length ≤ 1048576) : (fmtLog l).size ≤ 40000000 := by
  unfold fmtLog
  split
  · exact show (1 : Nat) ≤ 40000000 by omega
  · exact leAcc_sz _ _ h
def actE (e : D.Entry) : Bool := !e.Deleted
def fmtDev (x : D.Device) : ByteArray := fmtInt x.Store.Serial ++ ⟨#[32]⟩ ++ fmtInt x.Epoch ++ ⟨#[46]⟩ ++ fmtInt x.Version ++ ⟨#[32]⟩ ++ fmtInt ((x.Bundle.Entries.filter actE).length : Int) ++ ⟨#[47]⟩ ++ fmtInt (x.Bundle.Entries.length : Int)
theorem fmtDev_sz (x : D.Device) : (fmtDev x).size ≤ 130 := by
  have h1 := fmtInt_sz x.Store.Serial
  have h2 := fmtInt_sz x.Epoch
  have h3 := fmtInt_sz x.Version
  have h4 := fmtInt_sz ((x.Bundle.Entries.filter actE).length : Int)
  have h5 := fmtInt_sz (x.Bundle.Entries.length : Int)
  have e1 : (⟨#[32]⟩ : ByteArray).size = 1 := rfl
  have e2 : (⟨#[46]⟩ : ByteArray).size = 1 := rfl
  have e3 : (⟨#[47]⟩ : ByteArray).size = 1 := rfl
  unfold fmtDev
  simp only [ByteArray.size_append, e1, e2, e3]
  omega
abbrev G0 : GI := GT Tryd.prog
theorem T.a101 : aggB Tryd.prog 101 6 = true := by kernel_rfl
theorem T.a110 : aggB Tryd.prog 110 4 = true := by kernel_rfl
theorem T.a121 : aggB Tryd.prog 121 4 = true := by kernel_rfl
theorem T.a126 : aggB Tryd.prog 126 6 = true := by kernel_rfl
theorem T.a129 : aggB Tryd.prog 129 6 = true := by kernel_rfl
theorem T.a148 : aggB Tryd.prog 148 4 = true := by kernel_rfl
theorem T.a153 : aggB Tryd.prog 153 4 = true := by kernel_rfl
theorem T.a167 : aggB Tryd.prog 167 4 = true := by kernel_rfl
theorem T.a177 : aggB Tryd.prog 177 4 = true := by kernel_rfl
theorem T.a180 : aggB Tryd.prog 180 3 = true := by kernel_rfl
theorem T.a182 : aggB Tryd.prog 182 3 = true := by kernel_rfl
theorem T.a24 : aggB Tryd.prog 24 3 = true := by kernel_rfl
theorem T.a29 : aggB Tryd.prog 29 3 = true := by kernel_rfl
theorem T.a34 : aggB Tryd.prog 34 2 = true := by kernel_rfl
theorem T.a36 : aggB Tryd.prog 36 5 = true := by kernel_rfl
theorem T.a39 : aggB Tryd.prog 39 7 = true := by kernel_rfl
theorem T.a42 : aggB Tryd.prog 42 2 = true := by kernel_rfl
theorem T.a44 : aggB Tryd.prog 44 5 = true := by kernel_rfl
theorem T.a47 : aggB Tryd.prog 47 7 = true := by kernel_rfl
theorem T.a53 : aggB Tryd.prog 53 1 = true := by kernel_rfl
theorem T.a58 : aggB Tryd.prog 58 1 = true := by kernel_rfl
theorem T.a70 : aggB Tryd.prog 70 4 = true := by kernel_rfl
theorem T.a73 : aggB Tryd.prog 73 1 = true := by kernel_rfl
theorem T.a75 : aggB Tryd.prog 75 9 = true := by kernel_rfl
theorem T.a78 : aggB Tryd.prog 78 4 = true := by kernel_rfl
theorem T.a81 : aggB Tryd.prog 81 1 = true := by kernel_rfl
theorem T.a83 : aggB Tryd.prog 83 9 = true := by kernel_rfl
theorem T.a90 : aggB Tryd.prog 90 3 = true := by kernel_rfl
theorem T.a93 : aggB Tryd.prog 93 6 = true := by kernel_rfl
theorem T.a99 : aggB Tryd.prog 99 3 = true := by kernel_rfl
theorem T.en10 (args : Array Value) (w : World) : (callFunc 10 args).run Tryd.prog w = .ok (.enter 10 args) w := by kernel_rfl
theorem T.en100 (args : Array Value) (w : World) : (callFunc 100 args).run Tryd.prog w = .ok (.enter 100 args) w := by kernel_rfl
theorem T.en101 (args : Array Value) (w : World) : (callFunc 101 args).run Tryd.prog w = .ok (.enter 101 args) w := by kernel_rfl
theorem T.en102 (args : Array Value) (w : World) : (callFunc 102 args).run Tryd.prog w = .ok (.enter 102 args) w := by kernel_rfl
theorem T.en103 (args : Array Value) (w : World) : (callFunc 103 args).run Tryd.prog w = .ok (.enter 103 args) w := by kernel_rfl
theorem T.en104 (args : Array Value) (w : World) : (callFunc 104 args).run Tryd.prog w = .ok (.enter 104 args) w := by kernel_rfl
theorem T.en105 (args : Array Value) (w : World) : (callFunc 105 args).run Tryd.prog w = .ok (.enter 105 args) w := by kernel_rfl
theorem T.en106 (args : Array Value) (w : World) : (callFunc 106 args).run Tryd.prog w = .ok (.enter 106 args) w := by kernel_rfl
theorem T.en11 (args : Array Value) (w : World) : (callFunc 11 args).run Tryd.prog w = .ok (.enter 11 args) w := by kernel_rfl
theorem T.en110 (args : Array Value) (w : World) : (callFunc 110 args).run Tryd.prog w = .ok (.enter 110 args) w := by kernel_rfl
theorem T.en111 (args : Array Value) (w : World) : (callFunc 111 args).run Tryd.prog w = .ok (.enter 111 args) w := by kernel_rfl
theorem T.en12 (args : Array Value) (w : World) : (callFunc 12 args).run Tryd.prog w = .ok (.enter 12 args) w := by kernel_rfl
theorem T.en13 (args : Array Value) (w : World) : (callFunc 13 args).run Tryd.prog w = .ok (.enter 13 args) w := by kernel_rfl
theorem T.en14 (args : Array Value) (w : World) : (callFunc 14 args).run Tryd.prog w = .ok (.enter 14 args) w := by kernel_rfl
theorem T.en15 (args : Array Value) (w : World) : (callFunc 15 args).run Tryd.prog w = .ok (.enter 15 args) w := by kernel_rfl
theorem T.en16 (args : Array Value) (w : World) : (callFunc 16 args).run Tryd.prog w = .ok (.enter 16 args) w := by kernel_rfl
theorem T.en17 (args : Array Value) (w : World) : (callFunc 17 args).run Tryd.prog w = .ok (.enter 17 args) w := by kernel_rfl
theorem T.en18 (args : Array Value) (w : World) : (callFunc 18 args).run Tryd.prog w = .ok (.enter 18 args) w := by kernel_rfl
theorem T.en19 (args : Array Value) (w : World) : (callFunc 19 args).run Tryd.prog w = .ok (.enter 19 args) w := by kernel_rfl
theorem T.en20 (args : Array Value) (w : World) : (callFunc 20 args).run Tryd.prog w = .ok (.enter 20 args) w := by kernel_rfl
theorem T.en21 (args : Array Value) (w : World) : (callFunc 21 args).run Tryd.prog w = .ok (.enter 21 args) w := by kernel_rfl
theorem T.en22 (args : Array Value) (w : World) : (callFunc 22 args).run Tryd.prog w = .ok (.enter 22 args) w := by kernel_rfl
theorem T.en23 (args : Array Value) (w : World) : (callFunc 23 args).run Tryd.prog w = .ok (.enter 23 args) w := by kernel_rfl
theorem T.en24 (args : Array Value) (w : World) : (callFunc 24 args).run Tryd.prog w = .ok (.enter 24 args) w := by kernel_rfl
theorem T.en25 (args : Array Value) (w : World) : (callFunc 25 args).run Tryd.prog w = .ok (.enter 25 args) w := by kernel_rfl
theorem T.en26 (args : Array Value) (w : World) : (callFunc 26 args).run Tryd.prog w = .ok (.enter 26 args) w := by kernel_rfl
theorem T.en27 (args : Array Value) (w : World) : (callFunc 27 args).run Tryd.prog w = .ok (.enter 27 args) w := by kernel_rfl
theorem T.en28 (args : Array Value) (w : World) : (callFunc 28 args).run Tryd.prog w = .ok (.enter 28 args) w := by kernel_rfl
theorem T.en29 (args : Array Value) (w : World) : (callFunc 29 args).run Tryd.prog w = .ok (.enter 29 args) w := by kernel_rfl
theorem T.en3 (args : Array Value) (w : World) : (callFunc 3 args).run Tryd.prog w = .ok (.enter 3 args) w := by kernel_rfl
theorem T.en30 (args : Array Value) (w : World) : (callFunc 30 args).run Tryd.prog w = .ok (.enter 30 args) w := by kernel_rfl
theorem T.en31 (args : Array Value) (w : World) : (callFunc 31 args).run Tryd.prog w = .ok (.enter 31 args) w := by kernel_rfl
theorem T.en32 (args : Array Value) (w : World) : (callFunc 32 args).run Tryd.prog w = .ok (.enter 32 args) w := by kernel_rfl
theorem T.en33 (args : Array Value) (w : World) : (callFunc 33 args).run Tryd.prog w = .ok (.enter 33 args) w := by kernel_rfl
theorem T.en34 (args : Array Value) (w : World) : (callFunc 34 args).run Tryd.prog w = .ok (.enter 34 args) w := by kernel_rfl
theorem T.en35 (args : Array Value) (w : World) : (callFunc 35 args).run Tryd.prog w = .ok (.enter 35 args) w := by kernel_rfl
theorem T.en36 (args : Array Value) (w : World) : (callFunc 36 args).run Tryd.prog w = .ok (.enter 36 args) w := by kernel_rfl
theorem T.en37 (args : Array Value) (w : World) : (callFunc 37 args).run Tryd.prog w = .ok (.enter 37 args) w := by kernel_rfl
theorem T.en38 (args : Array Value) (w : World) : (callFunc 38 args).run Tryd.prog w = .ok (.enter 38 args) w := by kernel_rfl
theorem T.en39 (args : Array Value) (w : World) : (callFunc 39 args).run Tryd.prog w = .ok (.enter 39 args) w := by kernel_rfl
theorem T.en4 (args : Array Value) (w : World) : (callFunc 4 args).run Tryd.prog w = .ok (.enter 4 args) w := by kernel_rfl
theorem T.en40 (args : Array Value) (w : World) : (callFunc 40 args).run Tryd.prog w = .ok (.enter 40 args) w := by kernel_rfl
theorem T.en41 (args : Array Value) (w : World) : (callFunc 41 args).run Tryd.prog w = .ok (.enter 41 args) w := by kernel_rfl
theorem T.en42 (args : Array Value) (w : World) : (callFunc 42 args).run Tryd.prog w = .ok (.enter 42 args) w := by kernel_rfl
theorem T.en43 (args : Array Value) (w : World) : (callFunc 43 args).run Tryd.prog w = .ok (.enter 43 args) w := by kernel_rfl
theorem T.en44 (args : Array Value) (w : World) : (callFunc 44 args).run Tryd.prog w = .ok (.enter 44 args) w := by kernel_rfl
theorem T.en45 (args : Array Value) (w : World) : (callFunc 45 args).run Tryd.prog w = .ok (.enter 45 args) w := by kernel_rfl
theorem T.en46 (args : Array Value) (w : World) : (callFunc 46 args).run Tryd.prog w = .ok (.enter 46 args) w := by kernel_rfl
theorem T.en47 (args : Array Value) (w : World) : (callFunc 47 args).run Tryd.prog w = .ok (.enter 47 args) w := by kernel_rfl
theorem T.en48 (args : Array Value) (w : World) : (callFunc 48 args).run Tryd.prog w = .ok (.enter 48 args) w := by kernel_rfl
theorem T.en49 (args : Array Value) (w : World) : (callFunc 49 args).run Tryd.prog w = .ok (.enter 49 args) w := by kernel_rfl
theorem T.en5 (args : Array Value) (w : World) : (callFunc 5 args).run Tryd.prog w = .ok (.enter 5 args) w := by kernel_rfl
theorem T.en50 (args : Array Value) (w : World) : (callFunc 50 args).run Tryd.prog w = .ok (.enter 50 args) w := by kernel_rfl
theorem T.en51 (args : Array Value) (w : World) : (callFunc 51 args).run Tryd.prog w = .ok (.enter 51 args) w := by kernel_rfl
theorem T.en52 (args : Array Value) (w : World) : (callFunc 52 args).run Tryd.prog w = .ok (.enter 52 args) w := by kernel_rfl
theorem T.en53 (args : Array Value) (w : World) : (callFunc 53 args).run Tryd.prog w = .ok (.enter 53 args) w := by kernel_rfl
theorem T.en54 (args : Array Value) (w : World) : (callFunc 54 args).run Tryd.prog w = .ok (.enter 54 args) w := by kernel_rfl
theorem T.en55 (args : Array Value) (w : World) : (callFunc 55 args).run Tryd.prog w = .ok (.enter 55 args) w := by kernel_rfl
theorem T.en56 (args : Array Value) (w : World) : (callFunc 56 args).run Tryd.prog w = .ok (.enter 56 args) w := by kernel_rfl
theorem T.en58 (args : Array Value) (w : World) : (callFunc 58 args).run Tryd.prog w = .ok (.enter 58 args) w := by kernel_rfl
theorem T.en59 (args : Array Value) (w : World) : (callFunc 59 args).run Tryd.prog w = .ok (.enter 59 args) w := by kernel_rfl
theorem T.en6 (args : Array Value) (w : World) : (callFunc 6 args).run Tryd.prog w = .ok (.enter 6 args) w := by kernel_rfl
theorem T.en60 (args : Array Value) (w : World) : (callFunc 60 args).run Tryd.prog w = .ok (.enter 60 args) w := by kernel_rfl
theorem T.en61 (args : Array Value) (w : World) : (callFunc 61 args).run Tryd.prog w = .ok (.enter 61 args) w := by kernel_rfl
theorem T.en62 (args : Array Value) (w : World) : (callFunc 62 args).run Tryd.prog w = .ok (.enter 62 args) w := by kernel_rfl
theorem T.en63 (args : Array Value) (w : World) : (callFunc 63 args).run Tryd.prog w = .ok (.enter 63 args) w := by kernel_rfl
theorem T.en64 (args : Array Value) (w : World) : (callFunc 64 args).run Tryd.prog w = .ok (.enter 64 args) w := by kernel_rfl
theorem T.en65 (args : Array Value) (w : World) : (callFunc 65 args).run Tryd.prog w = .ok (.enter 65 args) w := by kernel_rfl
theorem T.en66 (args : Array Value) (w : World) : (callFunc 66 args).run Tryd.prog w = .ok (.enter 66 args) w := by kernel_rfl
theorem T.en67 (args : Array Value) (w : World) : (callFunc 67 args).run Tryd.prog w = .ok (.enter 67 args) w := by kernel_rfl
theorem T.en68 (args : Array Value) (w : World) : (callFunc 68 args).run Tryd.prog w = .ok (.enter 68 args) w := by kernel_rfl
theorem T.en69 (args : Array Value) (w : World) : (callFunc 69 args).run Tryd.prog w = .ok (.enter 69 args) w := by kernel_rfl
theorem T.en7 (args : Array Value) (w : World) : (callFunc 7 args).run Tryd.prog w = .ok (.enter 7 args) w := by kernel_rfl
theorem T.en70 (args : Array Value) (w : World) : (callFunc 70 args).run Tryd.prog w = .ok (.enter 70 args) w := by kernel_rfl
theorem T.en71 (args : Array Value) (w : World) : (callFunc 71 args).run Tryd.prog w = .ok (.enter 71 args) w := by kernel_rfl
theorem T.en72 (args : Array Value) (w : World) : (callFunc 72 args).run Tryd.prog w = .ok (.enter 72 args) w := by kernel_rfl
theorem T.en73 (args : Array Value) (w : World) : (callFunc 73 args).run Tryd.prog w = .ok (.enter 73 args) w := by kernel_rfl
theorem T.en74 (args : Array Value) (w : World) : (callFunc 74 args).run Tryd.prog w = .ok (.enter 74 args) w := by kernel_rfl
theorem T.en75 (args : Array Value) (w : World) : (callFunc 75 args).run Tryd.prog w = .ok (.enter 75 args) w := by kernel_rfl
theorem T.en76 (args : Array Value) (w : World) : (callFunc 76 args).run Tryd.prog w = .ok (.enter 76 args) w := by kernel_rfl
theorem T.en77 (args : Array Value) (w : World) : (callFunc 77 args).run Tryd.prog w = .ok (.enter 77 args) w := by kernel_rfl
theorem T.en78 (args : Array Value) (w : World) : (callFunc 78 args).run Tryd.prog w = .ok (.enter 78 args) w := by kernel_rfl
theorem T.en79 (args : Array Value) (w : World) : (callFunc 79 args).run Tryd.prog w = .ok (.enter 79 args) w := by kernel_rfl
theorem T.en8 (args : Array Value) (w : World) : (callFunc 8 args).run Tryd.prog w = .ok (.enter 8 args) w := by kernel_rfl
theorem T.en81 (args : Array Value) (w : World) : (callFunc 81 args).run Tryd.prog w = .ok (.enter 81 args) w := by kernel_rfl
theorem T.en82 (args : Array Value) (w : World) : (callFunc 82 args).run Tryd.prog w = .ok (.enter 82 args) w := by kernel_rfl
theorem T.en83 (args : Array Value) (w : World) : (callFunc 83 args).run Tryd.prog w = .ok (.enter 83 args) w := by kernel_rfl
theorem T.en84 (args : Array Value) (w : World) : (callFunc 84 args).run Tryd.prog w = .ok (.enter 84 args) w := by kernel_rfl
theorem T.en88 (args : Array Value) (w : World) : (callFunc 88 args).run Tryd.prog w = .ok (.enter 88 args) w := by kernel_rfl
theorem T.en89 (args : Array Value) (w : World) : (callFunc 89 args).run Tryd.prog w = .ok (.enter 89 args) w := by kernel_rfl
theorem T.en9 (args : Array Value) (w : World) : (callFunc 9 args).run Tryd.prog w = .ok (.enter 9 args) w := by kernel_rfl
theorem T.en90 (args : Array Value) (w : World) : (callFunc 90 args).run Tryd.prog w = .ok (.enter 90 args) w := by kernel_rfl
theorem T.en91 (args : Array Value) (w : World) : (callFunc 91 args).run Tryd.prog w = .ok (.enter 91 args) w := by kernel_rfl
theorem T.en92 (args : Array Value) (w : World) : (callFunc 92 args).run Tryd.prog w = .ok (.enter 92 args) w := by kernel_rfl
theorem T.en93 (args : Array Value) (w : World) : (callFunc 93 args).run Tryd.prog w = .ok (.enter 93 args) w := by kernel_rfl
theorem T.en94 (args : Array Value) (w : World) : (callFunc 94 args).run Tryd.prog w = .ok (.enter 94 args) w := by kernel_rfl
theorem T.en95 (args : Array Value) (w : World) : (callFunc 95 args).run Tryd.prog w = .ok (.enter 95 args) w := by kernel_rfl
theorem T.en96 (args : Array Value) (w : World) : (callFunc 96 args).run Tryd.prog w = .ok (.enter 96 args) w := by kernel_rfl
theorem T.f101_0 : fldB Tryd.prog 101 0 0 = true := by kernel_rfl
theorem T.f101_1 : fldB Tryd.prog 101 1 1 = true := by kernel_rfl
theorem T.f101_2 : fldB Tryd.prog 101 2 2 = true := by kernel_rfl
theorem T.f101_3 : fldB Tryd.prog 101 3 5 = true := by kernel_rfl
theorem T.f110_0 : fldB Tryd.prog 110 0 0 = true := by kernel_rfl
theorem T.f110_1 : fldB Tryd.prog 110 1 1 = true := by kernel_rfl
theorem T.f110_2 : fldB Tryd.prog 110 2 2 = true := by kernel_rfl
theorem T.f110_3 : fldB Tryd.prog 110 3 3 = true := by kernel_rfl
theorem T.f121_0 : fldB Tryd.prog 121 0 0 = true := by kernel_rfl
theorem T.f121_1 : fldB Tryd.prog 121 1 1 = true := by kernel_rfl
theorem T.f121_2 : fldB Tryd.prog 121 2 2 = true := by kernel_rfl
theorem T.f121_3 : fldB Tryd.prog 121 3 3 = true := by kernel_rfl
theorem T.f126_0 : fldB Tryd.prog 126 0 0 = true := by kernel_rfl
theorem T.f126_1 : fldB Tryd.prog 126 1 1 = true := by kernel_rfl
theorem T.f126_2 : fldB Tryd.prog 126 2 2 = true := by kernel_rfl
theorem T.f126_3 : fldB Tryd.prog 126 3 3 = true := by kernel_rfl
theorem T.f126_4 : fldB Tryd.prog 126 4 4 = true := by kernel_rfl
theorem T.f126_5 : fldB Tryd.prog 126 5 5 = true := by kernel_rfl
theorem T.f129_0 : fldB Tryd.prog 129 0 0 = true := by kernel_rfl
theorem T.f129_1 : fldB Tryd.prog 129 1 1 = true := by kernel_rfl
theorem T.f129_2 : fldB Tryd.prog 129 2 2 = true := by kernel_rfl
theorem T.f129_3 : fldB Tryd.prog 129 3 3 = true := by kernel_rfl
theorem T.f129_4 : fldB Tryd.prog 129 4 4 = true := by kernel_rfl
theorem T.f129_5 : fldB Tryd.prog 129 5 5 = true := by kernel_rfl
theorem T.f148_0 : fldB Tryd.prog 148 0 0 = true := by kernel_rfl
theorem T.f148_1 : fldB Tryd.prog 148 1 1 = true := by kernel_rfl
theorem T.f148_2 : fldB Tryd.prog 148 2 2 = true := by kernel_rfl
theorem T.f148_3 : fldB Tryd.prog 148 3 3 = true := by kernel_rfl
theorem T.f153_0 : fldB Tryd.prog 153 0 0 = true := by kernel_rfl
theorem T.f153_1 : fldB Tryd.prog 153 1 1 = true := by kernel_rfl
theorem T.f153_2 : fldB Tryd.prog 153 2 2 = true := by kernel_rfl
theorem T.f153_3 : fldB Tryd.prog 153 3 3 = true := by kernel_rfl
theorem T.f167_0 : fldB Tryd.prog 167 0 0 = true := by kernel_rfl
theorem T.f167_1 : fldB Tryd.prog 167 1 1 = true := by kernel_rfl
theorem T.f167_2 : fldB Tryd.prog 167 2 2 = true := by kernel_rfl
theorem T.f167_3 : fldB Tryd.prog 167 3 3 = true := by kernel_rfl
theorem T.f177_0 : fldB Tryd.prog 177 0 0 = true := by kernel_rfl
theorem T.f177_1 : fldB Tryd.prog 177 1 1 = true := by kernel_rfl
theorem T.f177_2 : fldB Tryd.prog 177 2 2 = true := by kernel_rfl
theorem T.f177_3 : fldB Tryd.prog 177 3 3 = true := by kernel_rfl
theorem T.f180_0 : fldB Tryd.prog 180 0 0 = true := by kernel_rfl
theorem T.f180_1 : fldB Tryd.prog 180 1 1 = true := by kernel_rfl
theorem T.f180_2 : fldB Tryd.prog 180 2 2 = true := by kernel_rfl
theorem T.f182_0 : fldB Tryd.prog 182 0 0 = true := by kernel_rfl
theorem T.f182_1 : fldB Tryd.prog 182 1 1 = true := by kernel_rfl
theorem T.f182_2 : fldB Tryd.prog 182 2 2 = true := by kernel_rfl
theorem T.f24_0 : fldB Tryd.prog 24 0 0 = true := by kernel_rfl
theorem T.f24_1 : fldB Tryd.prog 24 1 1 = true := by kernel_rfl
theorem T.f24_2 : fldB Tryd.prog 24 2 2 = true := by kernel_rfl
theorem T.f29_0 : fldB Tryd.prog 29 0 0 = true := by kernel_rfl
theorem T.f29_1 : fldB Tryd.prog 29 1 1 = true := by kernel_rfl
theorem T.f29_2 : fldB Tryd.prog 29 2 2 = true := by kernel_rfl
theorem T.f34_0 : fldB Tryd.prog 34 0 0 = true := by kernel_rfl
theorem T.f34_1 : fldB Tryd.prog 34 1 1 = true := by kernel_rfl
theorem T.f36_0 : fldB Tryd.prog 36 0 0 = true := by kernel_rfl
theorem T.f36_1 : fldB Tryd.prog 36 1 2 = true := by kernel_rfl
theorem T.f36_2 : fldB Tryd.prog 36 2 3 = true := by kernel_rfl
theorem T.f36_3 : fldB Tryd.prog 36 3 4 = true := by kernel_rfl
theorem T.f39_0 : fldB Tryd.prog 39 0 0 = true := by kernel_rfl
theorem T.f39_1 : fldB Tryd.prog 39 1 5 = true := by kernel_rfl
theorem T.f39_2 : fldB Tryd.prog 39 2 6 = true := by kernel_rfl
theorem T.f42_0 : fldB Tryd.prog 42 0 0 = true := by kernel_rfl
theorem T.f42_1 : fldB Tryd.prog 42 1 1 = true := by kernel_rfl
theorem T.f44_0 : fldB Tryd.prog 44 0 0 = true := by kernel_rfl
theorem T.f44_1 : fldB Tryd.prog 44 1 2 = true := by kernel_rfl
theorem T.f44_2 : fldB Tryd.prog 44 2 3 = true := by kernel_rfl
theorem T.f44_3 : fldB Tryd.prog 44 3 4 = true := by kernel_rfl
theorem T.f47_0 : fldB Tryd.prog 47 0 0 = true := by kernel_rfl
theorem T.f47_1 : fldB Tryd.prog 47 1 5 = true := by kernel_rfl
theorem T.f47_2 : fldB Tryd.prog 47 2 6 = true := by kernel_rfl
theorem T.f53_0 : fldB Tryd.prog 53 0 0 = true := by kernel_rfl
theorem T.f58_0 : fldB Tryd.prog 58 0 0 = true := by kernel_rfl
theorem T.f70_0 : fldB Tryd.prog 70 0 0 = true := by kernel_rfl
theorem T.f70_1 : fldB Tryd.prog 70 1 1 = true := by kernel_rfl
theorem T.f70_2 : fldB Tryd.prog 70 2 2 = true := by kernel_rfl
theorem T.f70_3 : fldB Tryd.prog 70 3 3 = true := by kernel_rfl
theorem T.f73_0 : fldB Tryd.prog 73 0 0 = true := by kernel_rfl
theorem T.f75_0 : fldB Tryd.prog 75 0 0 = true := by kernel_rfl
theorem T.f75_1 : fldB Tryd.prog 75 1 4 = true := by kernel_rfl
theorem T.f75_2 : fldB Tryd.prog 75 2 5 = true := by kernel_rfl
theorem T.f75_3 : fldB Tryd.prog 75 3 6 = true := by kernel_rfl
theorem T.f75_4 : fldB Tryd.prog 75 4 7 = true := by kernel_rfl
theorem T.f75_5 : fldB Tryd.prog 75 5 8 = true := by kernel_rfl
theorem T.f78_0 : fldB Tryd.prog 78 0 0 = true := by kernel_rfl
theorem T.f78_1 : fldB Tryd.prog 78 1 1 = true := by kernel_rfl
theorem T.f78_2 : fldB Tryd.prog 78 2 2 = true := by kernel_rfl
theorem T.f78_3 : fldB Tryd.prog 78 3 3 = true := by kernel_rfl
theorem T.f81_0 : fldB Tryd.prog 81 0 0 = true := by kernel_rfl
theorem T.f83_0 : fldB Tryd.prog 83 0 0 = true := by kernel_rfl
theorem T.f83_1 : fldB Tryd.prog 83 1 4 = true := by kernel_rfl
theorem T.f83_2 : fldB Tryd.prog 83 2 5 = true := by kernel_rfl
theorem T.f83_3 : fldB Tryd.prog 83 3 6 = true := by kernel_rfl
theorem T.f83_4 : fldB Tryd.prog 83 4 7 = true := by kernel_rfl
theorem T.f83_5 : fldB Tryd.prog 83 5 8 = true := by kernel_rfl
theorem T.f90_0 : fldB Tryd.prog 90 0 0 = true := by kernel_rfl
theorem T.f90_1 : fldB Tryd.prog 90 1 1 = true := by kernel_rfl
theorem T.f90_2 : fldB Tryd.prog 90 2 2 = true := by kernel_rfl
theorem T.f93_0 : fldB Tryd.prog 93 0 0 = true := by kernel_rfl
theorem T.f93_1 : fldB Tryd.prog 93 1 1 = true := by kernel_rfl
theorem T.f93_2 : fldB Tryd.prog 93 2 2 = true := by kernel_rfl
theorem T.f93_3 : fldB Tryd.prog 93 3 5 = true := by kernel_rfl
theorem T.f99_0 : fldB Tryd.prog 99 0 0 = true := by kernel_rfl
theorem T.f99_1 : fldB Tryd.prog 99 1 1 = true := by kernel_rfl
theorem T.f99_2 : fldB Tryd.prog 99 2 2 = true := by kernel_rfl
theorem T.is3 : (Tryd.prog.underlying 3).isSome = true := by kernel_rfl
theorem T.mix : Tryd.prog.follows .mixedOrders = true := by kernel_rfl
theorem T.o22 : oneB Tryd.prog 22 = true := by kernel_rfl
theorem T.o27 : oneB Tryd.prog 27 = true := by kernel_rfl
theorem T.o3 : oneB Tryd.prog 3 = true := by kernel_rfl
theorem T.o37 : oneB Tryd.prog 37 = true := by kernel_rfl
theorem T.o4 : oneB Tryd.prog 4 = true := by kernel_rfl
theorem T.o45 : oneB Tryd.prog 45 = true := by kernel_rfl
theorem T.o51 : oneB Tryd.prog 51 = true := by kernel_rfl
theorem T.o56 : oneB Tryd.prog 56 = true := by kernel_rfl
theorem T.o62 : oneB Tryd.prog 62 = true := by kernel_rfl
theorem T.o65 : oneB Tryd.prog 65 = true := by kernel_rfl
theorem T.o71 : oneB Tryd.prog 71 = true := by kernel_rfl
theorem T.o79 : oneB Tryd.prog 79 = true := by kernel_rfl
theorem T.o87 : oneB Tryd.prog 87 = true := by kernel_rfl
theorem T.o88 : oneB Tryd.prog 88 = true := by kernel_rfl
theorem T.o9 : oneB Tryd.prog 9 = true := by kernel_rfl
theorem T.o91 : oneB Tryd.prog 91 = true := by kernel_rfl
theorem T.o96 : oneB Tryd.prog 96 = true := by kernel_rfl
theorem T.o97 : oneB Tryd.prog 97 = true := by kernel_rfl
theorem T.s107 : slB Tryd.prog 107 9 1 16 = true := by kernel_rfl
theorem T.s146 : slB Tryd.prog 146 5 1 1 = true := by kernel_rfl
theorem T.s189 : slB Tryd.prog 189 91 1 24 = true := by kernel_rfl
theorem T.s22 : slB Tryd.prog 22 148 4 32 = true := by kernel_rfl
theorem T.s27 : slB Tryd.prog 27 110 4 32 = true := by kernel_rfl
theorem T.s37 : slB Tryd.prog 37 36 5 40 = true := by kernel_rfl
theorem T.s45 : slB Tryd.prog 45 44 5 40 = true := by kernel_rfl
theorem T.s51 : slB Tryd.prog 51 153 4 32 = true := by kernel_rfl
theorem T.s56 : slB Tryd.prog 56 121 4 32 = true := by kernel_rfl
theorem T.s62 : slB Tryd.prog 62 129 6 48 = true := by kernel_rfl
theorem T.s65 : slB Tryd.prog 65 126 6 48 = true := by kernel_rfl
theorem T.s71 : slB Tryd.prog 71 177 4 32 = true := by kernel_rfl
theorem T.s79 : slB Tryd.prog 79 167 4 32 = true := by kernel_rfl
theorem T.s87 : slB Tryd.prog 87 24 3 40 = true := by kernel_rfl
theorem T.s88 : slB Tryd.prog 88 182 3 24 = true := by kernel_rfl
theorem T.s91 : slB Tryd.prog 91 3 1 8 = true := by kernel_rfl
theorem T.s96 : slB Tryd.prog 96 29 3 40 = true := by kernel_rfl
theorem T.s97 : slB Tryd.prog 97 180 3 24 = true := by kernel_rfl
theorem T.z101 : zerosOf Tryd.prog 101 = some [.str ⟨#[]⟩, .nil, .int .i64 0, .int .i64 0, .nil, .nil] := by kernel_rfl
theorem T.z110 : zerosOf Tryd.prog 110 = some [.int .i64 0, .int .i64 0, .int .i64 0, .bool false] := by kernel_rfl
theorem T.z121 : zerosOf Tryd.prog 121 = some [.int .i64 0, .int .i64 0, .int .i64 0, .bool false] := by kernel_rfl
theorem T.z126 : zerosOf Tryd.prog 126 = some [.int .i64 0, .int .i64 0, .int .i64 0, .int .i64 0, .int .i64 0, .int .i64 0] := by kernel_rfl
theorem T.z167 : zerosOf Tryd.prog 167 = some [.int .i64 0, .int .i64 0, .int .i64 0, .bool false] := by kernel_rfl
theorem T.z180 : zerosOf Tryd.prog 180 = some [.int .i64 0, .int .i64 0, .int .i64 0] := by kernel_rfl
theorem T.z29 : zerosOf Tryd.prog 29 = some [.int .i64 0, .int .i64 0, .nil] := by kernel_rfl
theorem T.z3 : zerosOf Tryd.prog 3 = some [.int .i64 0] := by kernel_rfl
theorem T.z42 : zerosOf Tryd.prog 42 = some [.int .i64 0, .int .i64 0] := by kernel_rfl
theorem T.z44 : zerosOf Tryd.prog 44 = some [.int .i64 0, .int .i64 0, .int .i64 0, .int .i64 0, .int .i64 0] := by kernel_rfl
theorem T.z47 : zerosOf Tryd.prog 47 = some [.int .i64 0, .int .i64 0, .int .i64 0, .int .i64 0, .int .i64 0, .nil, .int .i64 0] := by kernel_rfl
theorem T.z58 : zerosOf Tryd.prog 58 = some [.nil] := by kernel_rfl
theorem T.z78 : zerosOf Tryd.prog 78 = some [.int .i64 0, .int .i64 0, .int .i64 0, .int .i64 0] := by kernel_rfl
theorem T.z81 : zerosOf Tryd.prog 81 = some [.nil] := by kernel_rfl
theorem T.z83 : zerosOf Tryd.prog 83 = some [.int .i64 0, .int .i64 0, .int .i64 0, .int .i64 0, .nil, .int .i64 0, .int .i64 0, .int .i64 0, .nil] := by kernel_rfl
theorem T.z99 : zerosOf Tryd.prog 99 = some [.int .i64 0, .int .i64 0, .nil] := by kernel_rfl
theorem T.hd3 : HasData Tryd.prog 3 Int iV := hd_int Tryd.underlying3
theorem T.hd34 : HasData Tryd.prog 34 D.Share D.Share.V := hd_struct (t := 34) Tryd.underlying34 (by kernel_rfl) (hf_cons (k := 1) T.hd3 rfl (by kernel_rfl) (hf_cons (k := 1) T.hd3 rfl (by kernel_rfl) hf_nil)) (fun p => ⟨p.1, p.2.1⟩) (fun p => rfl)
theorem T.hd36 : HasData Tryd.prog 36 D.Keeper D.Keeper.V := hd_struct (t := 36) Tryd.underlying36 (by kernel_rfl) (hf_cons (k := 2) T.hd34 rfl (by kernel_rfl) (hf_cons (k := 1) T.hd3 rfl (by kernel_rfl) (hf_cons (k := 1) T.hd3 rfl (by kernel_rfl) (hf_cons (k := 1) T.hd3 rfl (by kernel_rfl) hf_nil)))) (fun p => ⟨p.1, p.2.1, p.2.2.1, p.2.2.2.1⟩) (fun p => rfl)
theorem T.hd37 : HasData Tryd.prog 37 (List D.Keeper) (fun l => [.slice 5 (l.map D.Keeper.V)]) := hd_slice Tryd.underlying37 (by kernel_rfl) (by decide) (fun _ => rfl) T.hd36
theorem T.hd39 : HasData Tryd.prog 39 D.KeeperHost D.KeeperHost.V := hd_struct (t := 39) Tryd.underlying39 (by kernel_rfl) (hf_cons (k := 5) T.hd36 rfl (by kernel_rfl) (hf_cons (k := 1) T.hd37 rfl (by kernel_rfl) (hf_cons (k := 1) T.hd3 rfl (by kernel_rfl) hf_nil))) (fun p => ⟨p.1, p.2.1, p.2.2.1⟩) (fun p => rfl)
theorem T.hd4 : HasData Tryd.prog 4 Bool bV := hd_bool Tryd.underlying4
theorem T.hd148 : HasData Tryd.prog 148 D.Credential D.Credential.V := hd_struct (t := 148) Tryd.underlying148 (by kernel_rfl) (hf_cons (k := 1) T.hd3 rfl (by kernel_rfl) (hf_cons (k := 1) T.hd3 rfl (by kernel_rfl) (hf_cons (k := 1) T.hd3 rfl (by kernel_rfl) (hf_cons (k := 1) T.hd4 rfl (by kernel_rfl) hf_nil)))) (fun p => ⟨p.1, p.2.1, p.2.2.1, p.2.2.2.1⟩) (fun p => rfl)
theorem T.hd22 : HasData Tryd.prog 22 (List D.Credential) (fun l => [.slice 4 (l.map D.Credential.V)]) := hd_slice Tryd.underlying22 (by kernel_rfl) (by decide) (fun _ => rfl) T.hd148
theorem T.hd24 : HasData Tryd.prog 24 D.Account D.Account.V := hd_struct (t := 24) Tryd.underlying24 (by kernel_rfl) (hf_cons (k := 1) T.hd3 rfl (by kernel_rfl) (hf_cons (k := 1) T.hd3 rfl (by kernel_rfl) (hf_cons (k := 1) T.hd22 rfl (by kernel_rfl) hf_nil))) (fun p => ⟨p.1, p.2.1, p.2.2.1⟩) (fun p => rfl)
theorem T.hd9 : HasData Tryd.prog 9 ByteArray sV := hd_str Tryd.underlying9
theorem T.hd87 : HasData Tryd.prog 87 (List D.Account) (fun l => [.slice 3 (l.map D.Account.V)]) := hd_slice Tryd.underlying87 (by kernel_rfl) (by decide) (fun _ => rfl) T.hd24
theorem T.hd182 : HasData Tryd.prog 182 D.Challenge D.Challenge.V := hd_struct (t := 182) Tryd.underlying182 (by kernel_rfl) (hf_cons (k := 1) T.hd3 rfl (by kernel_rfl) (hf_cons (k := 1) T.hd3 rfl (by kernel_rfl) (hf_cons (k := 1) T.hd3 rfl (by kernel_rfl) hf_nil))) (fun p => ⟨p.1, p.2.1, p.2.2.1⟩) (fun p => rfl)
theorem T.hd88 : HasData Tryd.prog 88 (List D.Challenge) (fun l => [.slice 3 (l.map D.Challenge.V)]) := hd_slice Tryd.underlying88 (by kernel_rfl) (by decide) (fun _ => rfl) T.hd182
theorem T.hd90 : HasData Tryd.prog 90 D.ChallengeBook D.ChallengeBook.V := hd_struct (t := 90) Tryd.underlying90 (by kernel_rfl) (hf_cons (k := 1) T.hd3 rfl (by kernel_rfl) (hf_cons (k := 1) T.hd3 rfl (by kernel_rfl) (hf_cons (k := 1) T.hd88 rfl (by kernel_rfl) hf_nil))) (fun p => ⟨p.1, p.2.1, p.2.2.1⟩) (fun p => rfl)
theorem T.hd91 : HasData Tryd.prog 91 (List Int) (fun l => [.slice 1 (l.map iV)]) := hd_slice Tryd.underlying91 (by kernel_rfl) (by decide) (fun _ => rfl) T.hd3
theorem T.hd93 : HasData Tryd.prog 93 D.Site D.Site.V := hd_struct (t := 93) Tryd.underlying93 (by kernel_rfl) (hf_cons (k := 1) T.hd9 rfl (by kernel_rfl) (hf_cons (k := 1) T.hd87 rfl (by kernel_rfl) (hf_cons (k := 3) T.hd90 rfl (by kernel_rfl) (hf_cons (k := 1) T.hd91 rfl (by kernel_rfl) hf_nil)))) (fun p => ⟨p.1, p.2.1, p.2.2.1, p.2.2.2.1⟩) (fun p => rfl)
theorem T.hd153 : HasData Tryd.prog 153 D.Notice D.Notice.V := hd_struct (t := 153) Tryd.underlying153 (by kernel_rfl) (hf_cons (k := 1) T.hd3 rfl (by kernel_rfl) (hf_cons (k := 1) T.hd3 rfl (by kernel_rfl) (hf_cons (k := 1) T.hd3 rfl (by kernel_rfl) (hf_cons (k := 1) T.hd4 rfl (by kernel_rfl) hf_nil)))) (fun p => ⟨p.1, p.2.1, p.2.2.1, p.2.2.2.1⟩) (fun p => rfl)
theorem T.hd51 : HasData Tryd.prog 51 (List D.Notice) (fun l => [.slice 4 (l.map D.Notice.V)]) := hd_slice Tryd.underlying51 (by kernel_rfl) (by decide) (fun _ => rfl) T.hd153
theorem T.hd53 : HasData Tryd.prog 53 D.Mailbox D.Mailbox.V := hd_struct (t := 53) Tryd.underlying53 (by kernel_rfl) (hf_cons (k := 1) T.hd51 rfl (by kernel_rfl) hf_nil) (fun p => ⟨p.1⟩) (fun p => rfl)
theorem T.hd129 : HasData Tryd.prog 129 D.LogEntry D.LogEntry.V := hd_struct (t := 129) Tryd.underlying129 (by kernel_rfl) (hf_cons (k := 1) T.hd3 rfl (by kernel_rfl) (hf_cons (k := 1) T.hd3 rfl (by kernel_rfl) (hf_cons (k := 1) T.hd3 rfl (by kernel_rfl) (hf_cons (k := 1) T.hd3 rfl (by kernel_rfl) (hf_cons (k := 1) T.hd3 rfl (by kernel_rfl) (hf_cons (k := 1) T.hd3 rfl (by kernel_rfl) hf_nil)))))) (fun p => ⟨p.1, p.2.1, p.2.2.1, p.2.2.2.1, p.2.2.2.2.1, p.2.2.2.2.2.1⟩) (fun p => rfl)
theorem T.hd70 : HasData Tryd.prog 70 D.KeyStore D.KeyStore.V := hd_struct (t := 70) Tryd.underlying70 (by kernel_rfl) (hf_cons (k := 1) T.hd3 rfl (by kernel_rfl) (hf_cons (k := 1) T.hd3 rfl (by kernel_rfl) (hf_cons (k := 1) T.hd3 rfl (by kernel_rfl) (hf_cons (k := 1) T.hd3 rfl (by kernel_rfl) hf_nil)))) (fun p => ⟨p.1, p.2.1, p.2.2.1, p.2.2.2.1⟩) (fun p => rfl)
theorem T.hd62 : HasData Tryd.prog 62 (List D.LogEntry) (fun l => [.slice 6 (l.map D.LogEntry.V)]) := hd_slice Tryd.underlying62 (by kernel_rfl) (by decide) (fun _ => rfl) T.hd129
theorem T.hd177 : HasData Tryd.prog 177 D.Entry D.Entry.V := hd_struct (t := 177) Tryd.underlying177 (by kernel_rfl) (hf_cons (k := 1) T.hd3 rfl (by kernel_rfl) (hf_cons (k := 1) T.hd3 rfl (by kernel_rfl) (hf_cons (k := 1) T.hd3 rfl (by kernel_rfl) (hf_cons (k := 1) T.hd4 rfl (by kernel_rfl) hf_nil)))) (fun p => ⟨p.1, p.2.1, p.2.2.1, p.2.2.2.1⟩) (fun p => rfl)
theorem T.hd71 : HasData Tryd.prog 71 (List D.Entry) (fun l => [.slice 4 (l.map D.Entry.V)]) := hd_slice Tryd.underlying71 (by kernel_rfl) (by decide) (fun _ => rfl) T.hd177
theorem T.hd73 : HasData Tryd.prog 73 D.Bundle D.Bundle.V := hd_struct (t := 73) Tryd.underlying73 (by kernel_rfl) (hf_cons (k := 1) T.hd71 rfl (by kernel_rfl) hf_nil) (fun p => ⟨p.1⟩) (fun p => rfl)
theorem T.hd75 : HasData Tryd.prog 75 D.Device D.Device.V := hd_struct (t := 75) Tryd.underlying75 (by kernel_rfl) (hf_cons (k := 4) T.hd70 rfl (by kernel_rfl) (hf_cons (k := 1) T.hd62 rfl (by kernel_rfl) (hf_cons (k := 1) T.hd3 rfl (by kernel_rfl) (hf_cons (k := 1) T.hd3 rfl (by kernel_rfl) (hf_cons (k := 1) T.hd3 rfl (by kernel_rfl) (hf_cons (k := 1) T.hd73 rfl (by kernel_rfl) hf_nil)))))) (fun p => ⟨p.1, p.2.1, p.2.2.1, p.2.2.2.1, p.2.2.2.2.1, p.2.2.2.2.2.1⟩) (fun p => rfl)
theorem T.tab {W : World} (h : laidMet Tryd.prog [("math/bits.deBruijn32tab", YtaicmnffahjdgaaDoor.Rows.laid_math_bits_deBruijn32tab), ("math/bits.deBruijn64tab", YtaicmnffahjdgaaDoor.Rows.laid_math_bits_deBruijn64tab), ("internal/strconv.uint64pow10", YtaicmnffahjdgaaDoor.Rows.laid_internal_strconv_uint64pow10)] W) : G0.G W :=
  tabIs_of_reads (g := 1) (by kernel_rfl) (by kernel_rfl) Tryd.underlying197 Tryd.underlying191 (by kernel_rfl) (by kernel_rfl) (Lib.laidMet.reads h (.tail _ (.tail _ (.head _))))
end Go.VK
