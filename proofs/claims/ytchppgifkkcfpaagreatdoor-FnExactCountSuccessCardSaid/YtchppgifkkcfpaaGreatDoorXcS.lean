import Derived.Test.YtchppgifkkcfpaaGreatDoorEVztor
/- Printed by wip/tools: models, walks, proofs. -/
set_option linter.all false
set_option maxRecDepth 100000
set_option maxHeartbeats 4000000
namespace Go.VK
open Go.RowKit Go.Proofs
structure D.AK where
 To:Int
 Ephemeral:Int
 Data:List Int
 MAC:Int
def D.AK.V (x:D.AK):List V:=[.int .i64 x.To, .int .i64 x.Ephemeral, .slice 1 (x.Data.map y8), .int .i64 x.MAC]
instance:Inhabited D.AK:=⟨⟨default,default,default,default⟩⟩
def D.AK.sz (x:D.AK):Nat:=x.Data.length
structure D.AO where
 Epoch:Int
 Boxes:List D.AK
def D.AO.V (x:D.AO):List V:=[.int .i64 x.Epoch, .slice 4 (x.Boxes.map D.AK.V)]
instance:Inhabited D.AO:=⟨⟨default,default⟩⟩
def D.AO.sz (x:D.AO):Nat:=x.Boxes.length+(x.Boxes.map D.AK.sz).sum
structure D.AG where
 Index:Int
 Kind:Int
 Device:Int
 By:Int
 Previous:Int
 Signature:Int
def D.AG.V (x:D.AG):List V:=[.int .i64 x.Index, .int .i64 x.Kind, .int .i64 x.Device, .int .i64 x.By, .int .i64 x.Previous, .int .i64 x.Signature]
instance:Inhabited D.AG:=⟨⟨default,default,default,default,default,default⟩⟩
def D.AG.sz (x:D.AG):Nat:=0
structure D.AJ where
 Epoch:Int
 Version:Int
 Data:List Int
 MAC:Int
def D.AJ.V (x:D.AJ):List V:=[.int .i64 x.Epoch, .int .i64 x.Version, .slice 1 (x.Data.map y8), .int .i64 x.MAC]
instance:Inhabited D.AJ:=⟨⟨default,default,default,default⟩⟩
def D.AJ.sz (x:D.AJ):Nat:=x.Data.length
structure D.AP where
 Log:List D.AG
 Boxes:D.AO
 History:List D.AJ
def D.AP.V (x:D.AP):List V:=[.slice 6 (x.Log.map D.AG.V), .int .i64 x.Boxes.Epoch, .slice 4 (x.Boxes.Boxes.map D.AK.V), .slice 4 (x.History.map D.AJ.V)]
instance:Inhabited D.AP:=⟨⟨default,default,default⟩⟩
def D.AP.sz (x:D.AP):Nat:=x.Log.length+x.Boxes.Boxes.length+(x.Boxes.Boxes.map D.AK.sz).sum+x.History.length+(x.History.map D.AJ.sz).sum
structure D.A3 where
 Salt:Int
 Threshold:Int
 Check:Int
 Masked:Int
def D.A3.V (x:D.A3):List V:=[.int .i64 x.Salt, .int .i64 x.Threshold, .int .i64 x.Check, .int .i64 x.Masked]
instance:Inhabited D.A3:=⟨⟨default,default,default,default⟩⟩
def D.A3.sz (x:D.A3):Nat:=0
structure D.AR where
 Kind:Int
 aAF:Int
 Time:Int
 Seen:Bool
def D.AR.V (x:D.AR):List V:=[.int .i64 x.Kind, .int .i64 x.aAF, .int .i64 x.Time, .bool x.Seen]
instance:Inhabited D.AR:=⟨⟨default,default,default,default⟩⟩
def D.AR.sz (x:D.AR):Nat:=0
structure D.AU where
 Notices:List D.AR
def D.AU.V (x:D.AU):List V:=[.slice 4 (x.Notices.map D.AR.V)]
instance:Inhabited D.AU:=⟨⟨default⟩⟩
def D.AU.sz (x:D.AU):Nat:=x.Notices.length
structure D.AN where
 Vendor:Int
 Serial:Int
 Seed:Int
 Counter:Int
def D.AN.V (x:D.AN):List V:=[.int .i64 x.Vendor, .int .i64 x.Serial, .int .i64 x.Seed, .int .i64 x.Counter]
instance:Inhabited D.AN:=⟨⟨default,default,default,default⟩⟩
def D.AN.sz (x:D.AN):Nat:=0
structure D.AI where
 Site:Int
 Handle:Int
 Version:Int
 Deleted:Bool
def D.AI.V (x:D.AI):List V:=[.int .i64 x.Site, .int .i64 x.Handle, .int .i64 x.Version, .bool x.Deleted]
instance:Inhabited D.AI:=⟨⟨default,default,default,default⟩⟩
def D.AI.sz (x:D.AI):Nat:=0
structure D.AD where
 Entries:List D.AI
def D.AD.V (x:D.AD):List V:=[.slice 4 (x.Entries.map D.AI.V)]
instance:Inhabited D.AD:=⟨⟨default⟩⟩
def D.AD.sz (x:D.AD):Nat:=x.Entries.length
structure D.AF where
 Store:D.AN
 Log:List D.AG
 Key:Int
 Epoch:Int
 Version:Int
 aAE:D.AD
def D.AF.V (x:D.AF):List V:=[.int .i64 x.Store.Vendor, .int .i64 x.Store.Serial, .int .i64 x.Store.Seed, .int .i64 x.Store.Counter, .slice 6 (x.Log.map D.AG.V), .int .i64 x.Key, .int .i64 x.Epoch, .int .i64 x.Version, .slice 4 (x.aAE.Entries.map D.AI.V)]
instance:Inhabited D.AF:=⟨⟨default,default,default,default,default,default⟩⟩
def D.AF.sz (x:D.AF):Nat:=x.Log.length+x.aAE.Entries.length
structure D.AV where
 Handle:Int
 Public:Int
 Counter:Int
 Cut:Bool
def D.AV.V (x:D.AV):List V:=[.int .i64 x.Handle, .int .i64 x.Public, .int .i64 x.Counter, .bool x.Cut]
instance:Inhabited D.AV:=⟨⟨default,default,default,default⟩⟩
def D.AV.sz (x:D.AV):Nat:=0
structure D.AH where
 Id:Int
 Minimum:Int
 Credentials:List D.AV
def D.AH.V (x:D.AH):List V:=[.int .i64 x.Id, .int .i64 x.Minimum, .slice 4 (x.Credentials.map D.AV.V)]
instance:Inhabited D.AH:=⟨⟨default,default,default⟩⟩
def D.AH.sz (x:D.AH):Nat:=x.Credentials.length
structure D.AY where
 Id:Int
 aAF:Int
 Until:Int
def D.AY.V (x:D.AY):List V:=[.int .i64 x.Id, .int .i64 x.aAF, .int .i64 x.Until]
instance:Inhabited D.AY:=⟨⟨default,default,default⟩⟩
def D.AY.sz (x:D.AY):Nat:=0
structure D.AM where
 Seed:Int
 Next:Int
 Open:List D.AY
def D.AM.V (x:D.AM):List V:=[.int .i64 x.Seed, .int .i64 x.Next, .slice 3 (x.Open.map D.AY.V)]
instance:Inhabited D.AM:=⟨⟨default,default,default⟩⟩
def D.AM.sz (x:D.AM):Nat:=x.Open.length
structure D.AB where
 Name:ByteArray
 Accounts:List D.AH
 Book:D.AM
 Logins:List Int
def D.AB.V (x:D.AB):List V:=[.str x.Name, .slice 3 (x.Accounts.map D.AH.V), .int .i64 x.Book.Seed, .int .i64 x.Book.Next, .slice 3 (x.Book.Open.map D.AY.V), .slice 1 (x.Logins.map iV)]
instance:Inhabited D.AB:=⟨⟨default,default,default,default⟩⟩
def D.AB.sz (x:D.AB):Nat:=x.Name.size+x.Accounts.length+(x.Accounts.map D.AH.sz).sum+x.Book.Open.length+x.Logins.length
structure D.AX where
 Index:Int
 Value:Int
def D.AX.V (x:D.AX):List V:=[.int .i64 x.Index, .int .i64 x.Value]
instance:Inhabited D.AX:=⟨⟨default,default⟩⟩
def D.AX.sz (x:D.AX):Nat:=0
structure D.AZ where
 aAQ:D.AX
 Epoch:Int
 Guesses:Int
 Limit:Int
def D.AZ.V (x:D.AZ):List V:=[.int .i64 x.aAQ.Index, .int .i64 x.aAQ.Value, .int .i64 x.Epoch, .int .i64 x.Guesses, .int .i64 x.Limit]
instance:Inhabited D.AZ:=⟨⟨default,default,default,default⟩⟩
def D.AZ.sz (x:D.AZ):Nat:=0
structure D.AC where
 State:D.AZ
 Saved:List D.AZ
 Monotonic:Int
def D.AC.V (x:D.AC):List V:=[.int .i64 x.State.aAQ.Index, .int .i64 x.State.aAQ.Value, .int .i64 x.State.Epoch, .int .i64 x.State.Guesses, .int .i64 x.State.Limit, .slice 5 (x.Saved.map D.AZ.V), .int .i64 x.Monotonic]
instance:Inhabited D.AC:=⟨⟨default,default,default⟩⟩
def D.AC.sz (x:D.AC):Nat:=x.Saved.length
structure D.AA where
 Now:Int
 Seed:Int
 Devices:List D.AF
 Stolen:List Bool
 aAH:D.AP
 Sites:List D.AB
 aAP:D.A3
 Hosts:List D.AC
 Pin:Int
 Mail:D.AU
def D.AA.V (x:D.AA):List V:=[.int .i64 x.Now, .int .i64 x.Seed, .slice 9 (x.Devices.map D.AF.V), .slice 1 (x.Stolen.map bV), .slice 6 (x.aAH.Log.map D.AG.V), .int .i64 x.aAH.Boxes.Epoch, .slice 4 (x.aAH.Boxes.Boxes.map D.AK.V), .slice 4 (x.aAH.History.map D.AJ.V), .slice 6 (x.Sites.map D.AB.V), .int .i64 x.aAP.Salt, .int .i64 x.aAP.Threshold, .int .i64 x.aAP.Check, .int .i64 x.aAP.Masked, .slice 7 (x.Hosts.map D.AC.V), .int .i64 x.Pin, .slice 4 (x.Mail.Notices.map D.AR.V)]
instance:Inhabited D.AA:=⟨⟨default,default,default,default,default,default,default,default,default,default⟩⟩
def D.AA.sz (x:D.AA):Nat:=x.Devices.length+(x.Devices.map D.AF.sz).sum+x.Stolen.length+x.aAH.Log.length+x.aAH.Boxes.Boxes.length+(x.aAH.Boxes.Boxes.map D.AK.sz).sum+x.aAH.History.length+(x.aAH.History.map D.AJ.sz).sum+x.Sites.length+(x.Sites.map D.AB.sz).sum+x.Hosts.length+(x.Hosts.map D.AC.sz).sum+x.Mail.Notices.length
structure D.AS where
 Kind:Int
 Device:Int
 Other:Int
 Value:Int
 Flag:Bool
def D.AS.V (x:D.AS):List V:=[.int .i64 x.Kind, .int .i64 x.Device, .int .i64 x.Other, .int .i64 x.Value, .bool x.Flag]
instance:Inhabited D.AS:=⟨⟨default,default,default,default,default⟩⟩
def D.AS.sz (x:D.AS):Nat:=0
structure D.AQ where
 Secure:Bool
 Host:ByteArray
 Port:Int
def D.AQ.V (x:D.AQ):List V:=[.bool x.Secure, .str x.Host, .int .i64 x.Port]
instance:Inhabited D.AQ:=⟨⟨default,default,default⟩⟩
def D.AQ.sz (x:D.AQ):Nat:=x.Host.size
structure D.A0 where
 Site:ByteArray
 aAL:ByteArray
 aAK:Int
 Handle:Int
 Present:Bool
 Counter:Int
 Signature:Int
def D.A0.V (x:D.A0):List V:=[.str x.Site, .str x.aAL, .int .i64 x.aAK, .int .i64 x.Handle, .bool x.Present, .int .i64 x.Counter, .int .i64 x.Signature]
instance:Inhabited D.A0:=⟨⟨default,default,default,default,default,default,default⟩⟩
def D.A0.sz (x:D.A0):Nat:=x.Site.size+x.aAL.size
end Go.VK
