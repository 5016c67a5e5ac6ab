import Derived.Test.YtahdlpfokhapfaaGreatDoorEVyltod
/- Printed by wip/tools: models, walks, proofs. -/
set_option linter.all false
set_option maxRecDepth 100000
set_option maxHeartbeats 4000000
namespace Go.VK
open Go.RowKit Go.Proofs
structure D.AN where
 To:Int
 Ephemeral:Int
 Data:List Int
 MAC:Int
def D.AN.V (x:D.AN):List V:=[.int .i64 x.To, .int .i64 x.Ephemeral, .slice 1 (x.Data.map y8), .int .i64 x.MAC]
instance:Inhabited D.AN:=⟨⟨default,default,default,default⟩⟩
def D.AN.sz (x:D.AN):Nat:=x.Data.length
structure D.AM where
 Epoch:Int
 Boxes:List D.AN
def D.AM.V (x:D.AM):List V:=[.int .i64 x.Epoch, .slice 4 (x.Boxes.map D.AN.V)]
instance:Inhabited D.AM:=⟨⟨default,default⟩⟩
def D.AM.sz (x:D.AM):Nat:=x.Boxes.length+(x.Boxes.map D.AN.sz).sum
structure D.AC where
 Index:Int
 Kind:Int
 Device:Int
 By:Int
 Previous:Int
 Signature:Int
def D.AC.V (x:D.AC):List V:=[.int .i64 x.Index, .int .i64 x.Kind, .int .i64 x.Device, .int .i64 x.By, .int .i64 x.Previous, .int .i64 x.Signature]
instance:Inhabited D.AC:=⟨⟨default,default,default,default,default,default⟩⟩
def D.AC.sz (x:D.AC):Nat:=0
structure D.AI where
 Epoch:Int
 Version:Int
 Data:List Int
 MAC:Int
def D.AI.V (x:D.AI):List V:=[.int .i64 x.Epoch, .int .i64 x.Version, .slice 1 (x.Data.map y8), .int .i64 x.MAC]
instance:Inhabited D.AI:=⟨⟨default,default,default,default⟩⟩
def D.AI.sz (x:D.AI):Nat:=x.Data.length
structure D.AO where
 Log:List D.AC
 Boxes:D.AM
 History:List D.AI
def D.AO.V (x:D.AO):List V:=[.slice 6 (x.Log.map D.AC.V), .int .i64 x.Boxes.Epoch, .slice 4 (x.Boxes.Boxes.map D.AN.V), .slice 4 (x.History.map D.AI.V)]
instance:Inhabited D.AO:=⟨⟨default,default,default⟩⟩
def D.AO.sz (x:D.AO):Nat:=x.Log.length+x.Boxes.Boxes.length+(x.Boxes.Boxes.map D.AN.sz).sum+x.History.length+(x.History.map D.AI.sz).sum
structure D.A3 where
 Salt:Int
 Threshold:Int
 Check:Int
 Masked:Int
def D.A3.V (x:D.A3):List V:=[.int .i64 x.Salt, .int .i64 x.Threshold, .int .i64 x.Check, .int .i64 x.Masked]
instance:Inhabited D.A3:=⟨⟨default,default,default,default⟩⟩
def D.A3.sz (x:D.A3):Nat:=0
structure D.AS where
 Kind:Int
 aAH:Int
 Time:Int
 Seen:Bool
def D.AS.V (x:D.AS):List V:=[.int .i64 x.Kind, .int .i64 x.aAH, .int .i64 x.Time, .bool x.Seen]
instance:Inhabited D.AS:=⟨⟨default,default,default,default⟩⟩
def D.AS.sz (x:D.AS):Nat:=0
structure D.AR where
 Notices:List D.AS
def D.AR.V (x:D.AR):List V:=[.slice 4 (x.Notices.map D.AS.V)]
instance:Inhabited D.AR:=⟨⟨default⟩⟩
def D.AR.sz (x:D.AR):Nat:=x.Notices.length
structure D.AK where
 Vendor:Int
 Serial:Int
 Seed:Int
 Counter:Int
def D.AK.V (x:D.AK):List V:=[.int .i64 x.Vendor, .int .i64 x.Serial, .int .i64 x.Seed, .int .i64 x.Counter]
instance:Inhabited D.AK:=⟨⟨default,default,default,default⟩⟩
def D.AK.sz (x:D.AK):Nat:=0
structure D.AG where
 Site:Int
 Handle:Int
 Version:Int
 Deleted:Bool
def D.AG.V (x:D.AG):List V:=[.int .i64 x.Site, .int .i64 x.Handle, .int .i64 x.Version, .bool x.Deleted]
instance:Inhabited D.AG:=⟨⟨default,default,default,default⟩⟩
def D.AG.sz (x:D.AG):Nat:=0
structure D.AF where
 Entries:List D.AG
def D.AF.V (x:D.AF):List V:=[.slice 4 (x.Entries.map D.AG.V)]
instance:Inhabited D.AF:=⟨⟨default⟩⟩
def D.AF.sz (x:D.AF):Nat:=x.Entries.length
structure D.AB where
 Store:D.AK
 Log:List D.AC
 Key:Int
 Epoch:Int
 Version:Int
 aAD:D.AF
def D.AB.V (x:D.AB):List V:=[.int .i64 x.Store.Vendor, .int .i64 x.Store.Serial, .int .i64 x.Store.Seed, .int .i64 x.Store.Counter, .slice 6 (x.Log.map D.AC.V), .int .i64 x.Key, .int .i64 x.Epoch, .int .i64 x.Version, .slice 4 (x.aAD.Entries.map D.AG.V)]
instance:Inhabited D.AB:=⟨⟨default,default,default,default,default,default⟩⟩
def D.AB.sz (x:D.AB):Nat:=x.Log.length+x.aAD.Entries.length
structure D.AP where
 Handle:Int
 Public:Int
 Counter:Int
 Cut:Bool
def D.AP.V (x:D.AP):List V:=[.int .i64 x.Handle, .int .i64 x.Public, .int .i64 x.Counter, .bool x.Cut]
instance:Inhabited D.AP:=⟨⟨default,default,default,default⟩⟩
def D.AP.sz (x:D.AP):Nat:=0
structure D.AH where
 Id:Int
 Minimum:Int
 Credentials:List D.AP
def D.AH.V (x:D.AH):List V:=[.int .i64 x.Id, .int .i64 x.Minimum, .slice 4 (x.Credentials.map D.AP.V)]
instance:Inhabited D.AH:=⟨⟨default,default,default⟩⟩
def D.AH.sz (x:D.AH):Nat:=x.Credentials.length
structure D.AY where
 Id:Int
 aAH:Int
 Until:Int
def D.AY.V (x:D.AY):List V:=[.int .i64 x.Id, .int .i64 x.aAH, .int .i64 x.Until]
instance:Inhabited D.AY:=⟨⟨default,default,default⟩⟩
def D.AY.sz (x:D.AY):Nat:=0
structure D.AQ where
 Seed:Int
 Next:Int
 Open:List D.AY
def D.AQ.V (x:D.AQ):List V:=[.int .i64 x.Seed, .int .i64 x.Next, .slice 3 (x.Open.map D.AY.V)]
instance:Inhabited D.AQ:=⟨⟨default,default,default⟩⟩
def D.AQ.sz (x:D.AQ):Nat:=x.Open.length
structure D.AD where
 Name:ByteArray
 Accounts:List D.AH
 Book:D.AQ
 Logins:List Int
def D.AD.V (x:D.AD):List V:=[.str x.Name, .slice 3 (x.Accounts.map D.AH.V), .int .i64 x.Book.Seed, .int .i64 x.Book.Next, .slice 3 (x.Book.Open.map D.AY.V), .slice 1 (x.Logins.map iV)]
instance:Inhabited D.AD:=⟨⟨default,default,default,default⟩⟩
def D.AD.sz (x:D.AD):Nat:=x.Name.size+x.Accounts.length+(x.Accounts.map D.AH.sz).sum+x.Book.Open.length+x.Logins.length
structure D.AV where
 Index:Int
 Value:Int
def D.AV.V (x:D.AV):List V:=[.int .i64 x.Index, .int .i64 x.Value]
instance:Inhabited D.AV:=⟨⟨default,default⟩⟩
def D.AV.sz (x:D.AV):Nat:=0
structure D.AU where
 aAQ:D.AV
 Epoch:Int
 Guesses:Int
 Limit:Int
def D.AU.V (x:D.AU):List V:=[.int .i64 x.aAQ.Index, .int .i64 x.aAQ.Value, .int .i64 x.Epoch, .int .i64 x.Guesses, .int .i64 x.Limit]
instance:Inhabited D.AU:=⟨⟨default,default,default,default⟩⟩
def D.AU.sz (x:D.AU):Nat:=0
structure D.AJ where
 State:D.AU
 Saved:List D.AU
 Monotonic:Int
def D.AJ.V (x:D.AJ):List V:=[.int .i64 x.State.aAQ.Index, .int .i64 x.State.aAQ.Value, .int .i64 x.State.Epoch, .int .i64 x.State.Guesses, .int .i64 x.State.Limit, .slice 5 (x.Saved.map D.AU.V), .int .i64 x.Monotonic]
instance:Inhabited D.AJ:=⟨⟨default,default,default⟩⟩
def D.AJ.sz (x:D.AJ):Nat:=x.Saved.length
structure D.AA where
 Now:Int
 Seed:Int
 Devices:List D.AB
 Stolen:List Bool
 aAB:D.AO
 Sites:List D.AD
 aAP:D.A3
 Hosts:List D.AJ
 Pin:Int
 Mail:D.AR
def D.AA.V (x:D.AA):List V:=[.int .i64 x.Now, .int .i64 x.Seed, .slice 9 (x.Devices.map D.AB.V), .slice 1 (x.Stolen.map bV), .slice 6 (x.aAB.Log.map D.AC.V), .int .i64 x.aAB.Boxes.Epoch, .slice 4 (x.aAB.Boxes.Boxes.map D.AN.V), .slice 4 (x.aAB.History.map D.AI.V), .slice 6 (x.Sites.map D.AD.V), .int .i64 x.aAP.Salt, .int .i64 x.aAP.Threshold, .int .i64 x.aAP.Check, .int .i64 x.aAP.Masked, .slice 7 (x.Hosts.map D.AJ.V), .int .i64 x.Pin, .slice 4 (x.Mail.Notices.map D.AS.V)]
instance:Inhabited D.AA:=⟨⟨default,default,default,default,default,default,default,default,default,default⟩⟩
def D.AA.sz (x:D.AA):Nat:=x.Devices.length+(x.Devices.map D.AB.sz).sum+x.Stolen.length+x.aAB.Log.length+x.aAB.Boxes.Boxes.length+(x.aAB.Boxes.Boxes.map D.AN.sz).sum+x.aAB.History.length+(x.aAB.History.map D.AI.sz).sum+x.Sites.length+(x.Sites.map D.AD.sz).sum+x.Hosts.length+(x.Hosts.map D.AJ.sz).sum+x.Mail.Notices.length
structure D.AZ where
 Kind:Int
 Device:Int
 Other:Int
 Value:Int
 Flag:Bool
def D.AZ.V (x:D.AZ):List V:=[.int .i64 x.Kind, .int .i64 x.Device, .int .i64 x.Other, .int .i64 x.Value, .bool x.Flag]
instance:Inhabited D.AZ:=⟨⟨default,default,default,default,default⟩⟩
def D.AZ.sz (x:D.AZ):Nat:=0
structure D.A0 where
 b:List Int
 i:Int
 h:Int
def D.A0.V (x:D.A0):List V:=[.slice 1 (x.b.map y8), .int .i64 x.i, .int .i64 x.h]
instance:Inhabited D.A0:=⟨⟨default,default,default⟩⟩
def D.A0.sz (x:D.A0):Nat:=x.b.length
structure D.AX where
 Secure:Bool
 Host:ByteArray
 Port:Int
instance:Inhabited D.AX:=⟨⟨default,default,default⟩⟩
def D.AX.sz (x:D.AX):Nat:=x.Host.size
structure D.A4 where
 Site:ByteArray
 aAS:ByteArray
 aAM:Int
 Handle:Int
 Present:Bool
 Counter:Int
 Signature:Int
instance:Inhabited D.A4:=⟨⟨default,default,default,default,default,default,default⟩⟩
def D.A4.sz (x:D.A4):Nat:=x.Site.size+x.aAS.size
end Go.VK
