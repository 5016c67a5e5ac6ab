import Derived.Test.YtfllllgehgablaaGreatDoorEVyltod
/- Printed by wip/tools: models, walks, proofs. -/
set_option linter.all false
set_option maxRecDepth 100000
set_option maxHeartbeats 4000000
namespace Go.VK
open Go.RowKit Go.Proofs
structure D.Box where
 To:Int
 Ephemeral:Int
 Data:List Int
 MAC:Int
def D.Box.V (x:D.Box):List V:=[.int .i64 x.To, .int .i64 x.Ephemeral, .slice 1 (x.Data.map y8), .int .i64 x.MAC]
instance:Inhabited D.Box:=⟨⟨default,default,default,default⟩⟩
def D.Box.sz (x:D.Box):Nat:=x.Data.length
structure D.aAF where
 Epoch:Int
 Boxes:List D.Box
def D.aAF.V (x:D.aAF):List V:=[.int .i64 x.Epoch, .slice 4 (x.Boxes.map D.Box.V)]
instance:Inhabited D.aAF:=⟨⟨default,default⟩⟩
def D.aAF.sz (x:D.aAF):Nat:=x.Boxes.length+(x.Boxes.map D.Box.sz).sum
structure D.aAC where
 Index:Int
 Kind:Int
 Device:Int
 By:Int
 Previous:Int
 Signature:Int
def D.aAC.V (x:D.aAC):List V:=[.int .i64 x.Index, .int .i64 x.Kind, .int .i64 x.Device, .int .i64 x.By, .int .i64 x.Previous, .int .i64 x.Signature]
instance:Inhabited D.aAC:=⟨⟨default,default,default,default,default,default⟩⟩
def D.aAC.sz (x:D.aAC):Nat:=0
structure D.aAA where
 Epoch:Int
 Version:Int
 Data:List Int
 MAC:Int
def D.aAA.V (x:D.aAA):List V:=[.int .i64 x.Epoch, .int .i64 x.Version, .slice 1 (x.Data.map y8), .int .i64 x.MAC]
instance:Inhabited D.aAA:=⟨⟨default,default,default,default⟩⟩
def D.aAA.sz (x:D.aAA):Nat:=x.Data.length
structure D.aAD where
 Log:List D.aAC
 Boxes:D.aAF
 History:List D.aAA
def D.aAD.V (x:D.aAD):List V:=[.slice 6 (x.Log.map D.aAC.V), .int .i64 x.Boxes.Epoch, .slice 4 (x.Boxes.Boxes.map D.Box.V), .slice 4 (x.History.map D.aAA.V)]
instance:Inhabited D.aAD:=⟨⟨default,default,default⟩⟩
def D.aAD.sz (x:D.aAD):Nat:=x.Log.length+x.Boxes.Boxes.length+(x.Boxes.Boxes.map D.Box.sz).sum+x.History.length+(x.History.map D.aAA.sz).sum
structure D.aAO where
 Salt:Int
 Threshold:Int
 Check:Int
 Masked:Int
def D.aAO.V (x:D.aAO):List V:=[.int .i64 x.Salt, .int .i64 x.Threshold, .int .i64 x.Check, .int .i64 x.Masked]
instance:Inhabited D.aAO:=⟨⟨default,default,default,default⟩⟩
def D.aAO.sz (x:D.aAO):Nat:=0
structure D.aAR where
 Kind:Int
 aAH:Int
 Time:Int
 Seen:Bool
def D.aAR.V (x:D.aAR):List V:=[.int .i64 x.Kind, .int .i64 x.aAH, .int .i64 x.Time, .bool x.Seen]
instance:Inhabited D.aAR:=⟨⟨default,default,default,default⟩⟩
def D.aAR.sz (x:D.aAR):Nat:=0
structure D.aAJ where
 Notices:List D.aAR
def D.aAJ.V (x:D.aAJ):List V:=[.slice 4 (x.Notices.map D.aAR.V)]
instance:Inhabited D.aAJ:=⟨⟨default⟩⟩
def D.aAJ.sz (x:D.aAJ):Nat:=x.Notices.length
structure D.aAI where
 Vendor:Int
 Serial:Int
 Seed:Int
 Counter:Int
def D.aAI.V (x:D.aAI):List V:=[.int .i64 x.Vendor, .int .i64 x.Serial, .int .i64 x.Seed, .int .i64 x.Counter]
instance:Inhabited D.aAI:=⟨⟨default,default,default,default⟩⟩
def D.aAI.sz (x:D.aAI):Nat:=0
structure D.Entry where
 Site:Int
 Handle:Int
 Version:Int
 Deleted:Bool
def D.Entry.V (x:D.Entry):List V:=[.int .i64 x.Site, .int .i64 x.Handle, .int .i64 x.Version, .bool x.Deleted]
instance:Inhabited D.Entry:=⟨⟨default,default,default,default⟩⟩
def D.Entry.sz (x:D.Entry):Nat:=0
structure D.aAB where
 Entries:List D.Entry
def D.aAB.V (x:D.aAB):List V:=[.slice 4 (x.Entries.map D.Entry.V)]
instance:Inhabited D.aAB:=⟨⟨default⟩⟩
def D.aAB.sz (x:D.aAB):Nat:=x.Entries.length
structure D.Device where
 Store:D.aAI
 Log:List D.aAC
 Key:Int
 Epoch:Int
 Version:Int
 aAB:D.aAB
def D.Device.V (x:D.Device):List V:=[.int .i64 x.Store.Vendor, .int .i64 x.Store.Serial, .int .i64 x.Store.Seed, .int .i64 x.Store.Counter, .slice 6 (x.Log.map D.aAC.V), .int .i64 x.Key, .int .i64 x.Epoch, .int .i64 x.Version, .slice 4 (x.aAB.Entries.map D.Entry.V)]
instance:Inhabited D.Device:=⟨⟨default,default,default,default,default,default⟩⟩
def D.Device.sz (x:D.Device):Nat:=x.Log.length+x.aAB.Entries.length
structure D.aAK where
 Handle:Int
 Public:Int
 Counter:Int
 Cut:Bool
def D.aAK.V (x:D.aAK):List V:=[.int .i64 x.Handle, .int .i64 x.Public, .int .i64 x.Counter, .bool x.Cut]
instance:Inhabited D.aAK:=⟨⟨default,default,default,default⟩⟩
def D.aAK.sz (x:D.aAK):Nat:=0
structure D.aAH where
 Id:Int
 Minimum:Int
 Credentials:List D.aAK
def D.aAH.V (x:D.aAH):List V:=[.int .i64 x.Id, .int .i64 x.Minimum, .slice 4 (x.Credentials.map D.aAK.V)]
instance:Inhabited D.aAH:=⟨⟨default,default,default⟩⟩
def D.aAH.sz (x:D.aAH):Nat:=x.Credentials.length
structure D.aAM where
 Id:Int
 aAH:Int
 Until:Int
def D.aAM.V (x:D.aAM):List V:=[.int .i64 x.Id, .int .i64 x.aAH, .int .i64 x.Until]
instance:Inhabited D.aAM:=⟨⟨default,default,default⟩⟩
def D.aAM.sz (x:D.aAM):Nat:=0
structure D.aAE where
 Seed:Int
 Next:Int
 Open:List D.aAM
def D.aAE.V (x:D.aAE):List V:=[.int .i64 x.Seed, .int .i64 x.Next, .slice 3 (x.Open.map D.aAM.V)]
instance:Inhabited D.aAE:=⟨⟨default,default,default⟩⟩
def D.aAE.sz (x:D.aAE):Nat:=x.Open.length
structure D.Site where
 Name:ByteArray
 Accounts:List D.aAH
 Book:D.aAE
 Logins:List Int
def D.Site.V (x:D.Site):List V:=[.str x.Name, .slice 3 (x.Accounts.map D.aAH.V), .int .i64 x.Book.Seed, .int .i64 x.Book.Next, .slice 3 (x.Book.Open.map D.aAM.V), .slice 1 (x.Logins.map iV)]
instance:Inhabited D.Site:=⟨⟨default,default,default,default⟩⟩
def D.Site.sz (x:D.Site):Nat:=x.Name.size+x.Accounts.length+(x.Accounts.map D.aAH.sz).sum+x.Book.Open.length+x.Logins.length
structure D.aAS where
 Index:Int
 Value:Int
def D.aAS.V (x:D.aAS):List V:=[.int .i64 x.Index, .int .i64 x.Value]
instance:Inhabited D.aAS:=⟨⟨default,default⟩⟩
def D.aAS.sz (x:D.aAS):Nat:=0
structure D.aAV where
 aAS:D.aAS
 Epoch:Int
 Guesses:Int
 Limit:Int
def D.aAV.V (x:D.aAV):List V:=[.int .i64 x.aAS.Index, .int .i64 x.aAS.Value, .int .i64 x.Epoch, .int .i64 x.Guesses, .int .i64 x.Limit]
instance:Inhabited D.aAV:=⟨⟨default,default,default,default⟩⟩
def D.aAV.sz (x:D.aAV):Nat:=0
structure D.aAG where
 State:D.aAV
 Saved:List D.aAV
 Monotonic:Int
def D.aAG.V (x:D.aAG):List V:=[.int .i64 x.State.aAS.Index, .int .i64 x.State.aAS.Value, .int .i64 x.State.Epoch, .int .i64 x.State.Guesses, .int .i64 x.State.Limit, .slice 5 (x.Saved.map D.aAV.V), .int .i64 x.Monotonic]
instance:Inhabited D.aAG:=⟨⟨default,default,default⟩⟩
def D.aAG.sz (x:D.aAG):Nat:=x.Saved.length
structure D.World where
 Now:Int
 Seed:Int
 Devices:List D.Device
 Stolen:List Bool
 aAD:D.aAD
 Sites:List D.Site
 aAO:D.aAO
 Hosts:List D.aAG
 Pin:Int
 Mail:D.aAJ
def D.World.V (x:D.World):List V:=[.int .i64 x.Now, .int .i64 x.Seed, .slice 9 (x.Devices.map D.Device.V), .slice 1 (x.Stolen.map bV), .slice 6 (x.aAD.Log.map D.aAC.V), .int .i64 x.aAD.Boxes.Epoch, .slice 4 (x.aAD.Boxes.Boxes.map D.Box.V), .slice 4 (x.aAD.History.map D.aAA.V), .slice 6 (x.Sites.map D.Site.V), .int .i64 x.aAO.Salt, .int .i64 x.aAO.Threshold, .int .i64 x.aAO.Check, .int .i64 x.aAO.Masked, .slice 7 (x.Hosts.map D.aAG.V), .int .i64 x.Pin, .slice 4 (x.Mail.Notices.map D.aAR.V)]
instance:Inhabited D.World:=⟨⟨default,default,default,default,default,default,default,default,default,default⟩⟩
def D.World.sz (x:D.World):Nat:=x.Devices.length+(x.Devices.map D.Device.sz).sum+x.Stolen.length+x.aAD.Log.length+x.aAD.Boxes.Boxes.length+(x.aAD.Boxes.Boxes.map D.Box.sz).sum+x.aAD.History.length+(x.aAD.History.map D.aAA.sz).sum+x.Sites.length+(x.Sites.map D.Site.sz).sum+x.Hosts.length+(x.Hosts.map D.aAG.sz).sum+x.Mail.Notices.length
structure D.aAQ where
 b:List Int
 i:Int
 h:Int
def D.aAQ.V (x:D.aAQ):List V:=[.slice 1 (x.b.map y8), .int .i64 x.i, .int .i64 x.h]
instance:Inhabited D.aAQ:=⟨⟨default,default,default⟩⟩
def D.aAQ.sz (x:D.aAQ):Nat:=x.b.length
structure D.aAN where
 Secure:Bool
 Host:ByteArray
 Port:Int
def D.aAN.V (x:D.aAN):List V:=[.bool x.Secure, .str x.Host, .int .i64 x.Port]
instance:Inhabited D.aAN:=⟨⟨default,default,default⟩⟩
def D.aAN.sz (x:D.aAN):Nat:=x.Host.size
structure D.aAL where
 Site:ByteArray
 aAN:ByteArray
 aAM:Int
 Handle:Int
 Present:Bool
 Counter:Int
 Signature:Int
def D.aAL.V (x:D.aAL):List V:=[.str x.Site, .str x.aAN, .int .i64 x.aAM, .int .i64 x.Handle, .bool x.Present, .int .i64 x.Counter, .int .i64 x.Signature]
instance:Inhabited D.aAL:=⟨⟨default,default,default,default,default,default,default⟩⟩
def D.aAL.sz (x:D.aAL):Nat:=x.Site.size+x.aAN.size
structure D.Event where
 Kind:Int
 Device:Int
 Other:Int
 Value:Int
 Flag:Bool
def D.Event.V (x:D.Event):List V:=[.int .i64 x.Kind, .int .i64 x.Device, .int .i64 x.Other, .int .i64 x.Value, .bool x.Flag]
instance:Inhabited D.Event:=⟨⟨default,default,default,default,default⟩⟩
def D.Event.sz (x:D.Event):Nat:=0
end Go.VK
