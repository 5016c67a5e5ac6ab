import Derived.Test.YtbaeclcknbiehaaGreatDoorEVztod
/- Printed by wip/tools: models, walks, proofs. -/
set_option linter.all false
set_option maxRecDepth 100000
set_option maxHeartbeats 4000000
namespace Go.VK
open Go.RowKit Go.Proofs
structure D.AQ where
 To:Int
 Ephemeral:Int
 Data:List Int
 MAC:Int
def D.AQ.V (x:D.AQ):List V:=[.int .i64 x.To, .int .i64 x.Ephemeral, .slice 1 (x.Data.map y8), .int .i64 x.MAC]
instance:Inhabited D.AQ:=⟨⟨default,default,default,default⟩⟩
def D.AQ.sz (x:D.AQ):Nat:=x.Data.length
structure D.AP where
 Epoch:Int
 Boxes:List D.AQ
def D.AP.V (x:D.AP):List V:=[.int .i64 x.Epoch, .slice 4 (x.Boxes.map D.AQ.V)]
instance:Inhabited D.AP:=⟨⟨default,default⟩⟩
def D.AP.sz (x:D.AP):Nat:=x.Boxes.length+(x.Boxes.map D.AQ.sz).sum
structure D.AG where
 Index:Int
 Kind:Int
 Device:Int
 By:Int
 Previous:Int
 Signature:Int
def D.AG.V (x:D.AG):List V:=[.int .i64 x.Index, .int .i64 x.Kind, .int .i64 x.Device, .int .i64 x.By, .int .i64 x.Previous, .int .i64 x.Signature]
instance:Inhabited D.AG:=⟨⟨default,default,default,default,default,default⟩⟩
def D.AG.sz (x:D.AG):Nat:=0
structure D.AK where
 Epoch:Int
 Version:Int
 Data:List Int
 MAC:Int
def D.AK.V (x:D.AK):List V:=[.int .i64 x.Epoch, .int .i64 x.Version, .slice 1 (x.Data.map y8), .int .i64 x.MAC]
instance:Inhabited D.AK:=⟨⟨default,default,default,default⟩⟩
def D.AK.sz (x:D.AK):Nat:=x.Data.length
structure D.AR where
 Log:List D.AG
 Boxes:D.AP
 History:List D.AK
def D.AR.V (x:D.AR):List V:=[.slice 6 (x.Log.map D.AG.V), .int .i64 x.Boxes.Epoch, .slice 4 (x.Boxes.Boxes.map D.AQ.V), .slice 4 (x.History.map D.AK.V)]
instance:Inhabited D.AR:=⟨⟨default,default,default⟩⟩
def D.AR.sz (x:D.AR):Nat:=x.Log.length+x.Boxes.Boxes.length+(x.Boxes.Boxes.map D.AQ.sz).sum+x.History.length+(x.History.map D.AK.sz).sum
structure D.A4 where
 Salt:Int
 Threshold:Int
 Check:Int
 Masked:Int
def D.A4.V (x:D.A4):List V:=[.int .i64 x.Salt, .int .i64 x.Threshold, .int .i64 x.Check, .int .i64 x.Masked]
instance:Inhabited D.A4:=⟨⟨default,default,default,default⟩⟩
def D.A4.sz (x:D.A4):Nat:=0
structure D.AU where
 Kind:Int
 aAH:Int
 Time:Int
 Seen:Bool
def D.AU.V (x:D.AU):List V:=[.int .i64 x.Kind, .int .i64 x.aAH, .int .i64 x.Time, .bool x.Seen]
instance:Inhabited D.AU:=⟨⟨default,default,default,default⟩⟩
def D.AU.sz (x:D.AU):Nat:=0
structure D.AV where
 Notices:List D.AU
def D.AV.V (x:D.AV):List V:=[.slice 4 (x.Notices.map D.AU.V)]
instance:Inhabited D.AV:=⟨⟨default⟩⟩
def D.AV.sz (x:D.AV):Nat:=x.Notices.length
structure D.AJ where
 Vendor:Int
 Serial:Int
 Seed:Int
 Counter:Int
def D.AJ.V (x:D.AJ):List V:=[.int .i64 x.Vendor, .int .i64 x.Serial, .int .i64 x.Seed, .int .i64 x.Counter]
instance:Inhabited D.AJ:=⟨⟨default,default,default,default⟩⟩
def D.AJ.sz (x:D.AJ):Nat:=0
structure D.AH where
 Site:Int
 Handle:Int
 Version:Int
 Deleted:Bool
def D.AH.V (x:D.AH):List V:=[.int .i64 x.Site, .int .i64 x.Handle, .int .i64 x.Version, .bool x.Deleted]
instance:Inhabited D.AH:=⟨⟨default,default,default,default⟩⟩
def D.AH.sz (x:D.AH):Nat:=0
structure D.AF where
 Entries:List D.AH
def D.AF.V (x:D.AF):List V:=[.slice 4 (x.Entries.map D.AH.V)]
instance:Inhabited D.AF:=⟨⟨default⟩⟩
def D.AF.sz (x:D.AF):Nat:=x.Entries.length
structure D.AD where
 Store:D.AJ
 Log:List D.AG
 Key:Int
 Epoch:Int
 Version:Int
 aAE:D.AF
def D.AD.V (x:D.AD):List V:=[.int .i64 x.Store.Vendor, .int .i64 x.Store.Serial, .int .i64 x.Store.Seed, .int .i64 x.Store.Counter, .slice 6 (x.Log.map D.AG.V), .int .i64 x.Key, .int .i64 x.Epoch, .int .i64 x.Version, .slice 4 (x.aAE.Entries.map D.AH.V)]
instance:Inhabited D.AD:=⟨⟨default,default,default,default,default,default⟩⟩
def D.AD.sz (x:D.AD):Nat:=x.Log.length+x.aAE.Entries.length
structure D.AZ where
 Handle:Int
 Public:Int
 Counter:Int
 Cut:Bool
def D.AZ.V (x:D.AZ):List V:=[.int .i64 x.Handle, .int .i64 x.Public, .int .i64 x.Counter, .bool x.Cut]
instance:Inhabited D.AZ:=⟨⟨default,default,default,default⟩⟩
def D.AZ.sz (x:D.AZ):Nat:=0
structure D.AI where
 Id:Int
 Minimum:Int
 Credentials:List D.AZ
def D.AI.V (x:D.AI):List V:=[.int .i64 x.Id, .int .i64 x.Minimum, .slice 4 (x.Credentials.map D.AZ.V)]
instance:Inhabited D.AI:=⟨⟨default,default,default⟩⟩
def D.AI.sz (x:D.AI):Nat:=x.Credentials.length
structure D.A0 where
 Id:Int
 aAH:Int
 Until:Int
def D.A0.V (x:D.A0):List V:=[.int .i64 x.Id, .int .i64 x.aAH, .int .i64 x.Until]
instance:Inhabited D.A0:=⟨⟨default,default,default⟩⟩
def D.A0.sz (x:D.A0):Nat:=0
structure D.AN where
 Seed:Int
 Next:Int
 Open:List D.A0
def D.AN.V (x:D.AN):List V:=[.int .i64 x.Seed, .int .i64 x.Next, .slice 3 (x.Open.map D.A0.V)]
instance:Inhabited D.AN:=⟨⟨default,default,default⟩⟩
def D.AN.sz (x:D.AN):Nat:=x.Open.length
structure D.AB where
 Name:ByteArray
 Accounts:List D.AI
 Book:D.AN
 Logins:List Int
def D.AB.V (x:D.AB):List V:=[.str x.Name, .slice 3 (x.Accounts.map D.AI.V), .int .i64 x.Book.Seed, .int .i64 x.Book.Next, .slice 3 (x.Book.Open.map D.A0.V), .slice 1 (x.Logins.map iV)]
instance:Inhabited D.AB:=⟨⟨default,default,default,default⟩⟩
def D.AB.sz (x:D.AB):Nat:=x.Name.size+x.Accounts.length+(x.Accounts.map D.AI.sz).sum+x.Book.Open.length+x.Logins.length
structure D.AX where
 Index:Int
 Value:Int
def D.AX.V (x:D.AX):List V:=[.int .i64 x.Index, .int .i64 x.Value]
instance:Inhabited D.AX:=⟨⟨default,default⟩⟩
def D.AX.sz (x:D.AX):Nat:=0
structure D.A3 where
 aAP:D.AX
 Epoch:Int
 Guesses:Int
 Limit:Int
def D.A3.V (x:D.A3):List V:=[.int .i64 x.aAP.Index, .int .i64 x.aAP.Value, .int .i64 x.Epoch, .int .i64 x.Guesses, .int .i64 x.Limit]
instance:Inhabited D.A3:=⟨⟨default,default,default,default⟩⟩
def D.A3.sz (x:D.A3):Nat:=0
structure D.AC where
 State:D.A3
 Saved:List D.A3
 Monotonic:Int
def D.AC.V (x:D.AC):List V:=[.int .i64 x.State.aAP.Index, .int .i64 x.State.aAP.Value, .int .i64 x.State.Epoch, .int .i64 x.State.Guesses, .int .i64 x.State.Limit, .slice 5 (x.Saved.map D.A3.V), .int .i64 x.Monotonic]
instance:Inhabited D.AC:=⟨⟨default,default,default⟩⟩
def D.AC.sz (x:D.AC):Nat:=x.Saved.length
structure D.AA where
 Now:Int
 Seed:Int
 Devices:List D.AD
 Stolen:List Bool
 aAF:D.AR
 Sites:List D.AB
 aAO:D.A4
 Hosts:List D.AC
 Pin:Int
 Mail:D.AV
def D.AA.V (x:D.AA):List V:=[.int .i64 x.Now, .int .i64 x.Seed, .slice 9 (x.Devices.map D.AD.V), .slice 1 (x.Stolen.map bV), .slice 6 (x.aAF.Log.map D.AG.V), .int .i64 x.aAF.Boxes.Epoch, .slice 4 (x.aAF.Boxes.Boxes.map D.AQ.V), .slice 4 (x.aAF.History.map D.AK.V), .slice 6 (x.Sites.map D.AB.V), .int .i64 x.aAO.Salt, .int .i64 x.aAO.Threshold, .int .i64 x.aAO.Check, .int .i64 x.aAO.Masked, .slice 7 (x.Hosts.map D.AC.V), .int .i64 x.Pin, .slice 4 (x.Mail.Notices.map D.AU.V)]
instance:Inhabited D.AA:=⟨⟨default,default,default,default,default,default,default,default,default,default⟩⟩
def D.AA.sz (x:D.AA):Nat:=x.Devices.length+(x.Devices.map D.AD.sz).sum+x.Stolen.length+x.aAF.Log.length+x.aAF.Boxes.Boxes.length+(x.aAF.Boxes.Boxes.map D.AQ.sz).sum+x.aAF.History.length+(x.aAF.History.map D.AK.sz).sum+x.Sites.length+(x.Sites.map D.AB.sz).sum+x.Hosts.length+(x.Hosts.map D.AC.sz).sum+x.Mail.Notices.length
structure D.AS where
 Kind:Int
 Device:Int
 Other:Int
 Value:Int
 Flag:Bool
def D.AS.V (x:D.AS):List V:=[.int .i64 x.Kind, .int .i64 x.Device, .int .i64 x.Other, .int .i64 x.Value, .bool x.Flag]
instance:Inhabited D.AS:=⟨⟨default,default,default,default,default⟩⟩
def D.AS.sz (x:D.AS):Nat:=0
structure D.AM where
 b:List Int
 i:Int
 h:Int
def D.AM.V (x:D.AM):List V:=[.slice 1 (x.b.map y8), .int .i64 x.i, .int .i64 x.h]
instance:Inhabited D.AM:=⟨⟨default,default,default⟩⟩
def D.AM.sz (x:D.AM):Nat:=x.b.length
structure D.AO where
 Secure:Bool
 Host:ByteArray
 Port:Int
def D.AO.V (x:D.AO):List V:=[.bool x.Secure, .str x.Host, .int .i64 x.Port]
instance:Inhabited D.AO:=⟨⟨default,default,default⟩⟩
def D.AO.sz (x:D.AO):Nat:=x.Host.size
structure D.AY where
 Site:ByteArray
 aAJ:ByteArray
 aAM:Int
 Handle:Int
 Present:Bool
 Counter:Int
 Signature:Int
def D.AY.V (x:D.AY):List V:=[.str x.Site, .str x.aAJ, .int .i64 x.aAM, .int .i64 x.Handle, .bool x.Present, .int .i64 x.Counter, .int .i64 x.Signature]
instance:Inhabited D.AY:=⟨⟨default,default,default,default,default,default,default⟩⟩
def D.AY.sz (x:D.AY):Nat:=x.Site.size+x.aAJ.size
end Go.VK
