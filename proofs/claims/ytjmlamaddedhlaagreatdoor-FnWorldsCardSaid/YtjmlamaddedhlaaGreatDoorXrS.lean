import Derived.Test.YtjmlamaddedhlaaGreatDoorEVzbtod
/- Printed by wip/tools: models, walks, proofs. -/
set_option linter.all false
set_option maxRecDepth 100000
set_option maxHeartbeats 4000000
namespace Go.VK
open Go.RowKit Go.Proofs
structure D.Box where
 To:Int
 Ephemeral:Int
 Data:List Int
 MAC:Int
def D.Box.V (x:D.Box):List V:=[.int .i64 x.To, .int .i64 x.Ephemeral, .slice 1 (x.Data.map y8), .int .i64 x.MAC]
instance:Inhabited D.Box:=⟨⟨default,default,default,default⟩⟩
def D.Box.sz (x:D.Box):Nat:=x.Data.length
structure D.aAD where
 Epoch:Int
 Boxes:List D.Box
def D.aAD.V (x:D.aAD):List V:=[.int .i64 x.Epoch, .slice 4 (x.Boxes.map D.Box.V)]
instance:Inhabited D.aAD:=⟨⟨default,default⟩⟩
def D.aAD.sz (x:D.aAD):Nat:=x.Boxes.length+(x.Boxes.map D.Box.sz).sum
structure D.aAB where
 Index:Int
 Kind:Int
 Device:Int
 By:Int
 Previous:Int
 Signature:Int
def D.aAB.V (x:D.aAB):List V:=[.int .i64 x.Index, .int .i64 x.Kind, .int .i64 x.Device, .int .i64 x.By, .int .i64 x.Previous, .int .i64 x.Signature]
instance:Inhabited D.aAB:=⟨⟨default,default,default,default,default,default⟩⟩
def D.aAB.sz (x:D.aAB):Nat:=0
structure D.aAA where
 Epoch:Int
 Version:Int
 Data:List Int
 MAC:Int
def D.aAA.V (x:D.aAA):List V:=[.int .i64 x.Epoch, .int .i64 x.Version, .slice 1 (x.Data.map y8), .int .i64 x.MAC]
instance:Inhabited D.aAA:=⟨⟨default,default,default,default⟩⟩
def D.aAA.sz (x:D.aAA):Nat:=x.Data.length
structure D.aAI where
 Log:List D.aAB
 Boxes:D.aAD
 History:List D.aAA
def D.aAI.V (x:D.aAI):List V:=[.slice 6 (x.Log.map D.aAB.V), .int .i64 x.Boxes.Epoch, .slice 4 (x.Boxes.Boxes.map D.Box.V), .slice 4 (x.History.map D.aAA.V)]
instance:Inhabited D.aAI:=⟨⟨default,default,default⟩⟩
def D.aAI.sz (x:D.aAI):Nat:=x.Log.length+x.Boxes.Boxes.length+(x.Boxes.Boxes.map D.Box.sz).sum+x.History.length+(x.History.map D.aAA.sz).sum
structure D.aAQ where
 Salt:Int
 Threshold:Int
 Check:Int
 Masked:Int
def D.aAQ.V (x:D.aAQ):List V:=[.int .i64 x.Salt, .int .i64 x.Threshold, .int .i64 x.Check, .int .i64 x.Masked]
instance:Inhabited D.aAQ:=⟨⟨default,default,default,default⟩⟩
def D.aAQ.sz (x:D.aAQ):Nat:=0
structure D.aAX where
 Kind:Int
 aAG:Int
 Time:Int
 Seen:Bool
def D.aAX.V (x:D.aAX):List V:=[.int .i64 x.Kind, .int .i64 x.aAG, .int .i64 x.Time, .bool x.Seen]
instance:Inhabited D.aAX:=⟨⟨default,default,default,default⟩⟩
def D.aAX.sz (x:D.aAX):Nat:=0
structure D.aAM where
 Notices:List D.aAX
def D.aAM.V (x:D.aAM):List V:=[.slice 4 (x.Notices.map D.aAX.V)]
instance:Inhabited D.aAM:=⟨⟨default⟩⟩
def D.aAM.sz (x:D.aAM):Nat:=x.Notices.length
structure D.aAH where
 Vendor:Int
 Serial:Int
 Seed:Int
 Counter:Int
def D.aAH.V (x:D.aAH):List V:=[.int .i64 x.Vendor, .int .i64 x.Serial, .int .i64 x.Seed, .int .i64 x.Counter]
instance:Inhabited D.aAH:=⟨⟨default,default,default,default⟩⟩
def D.aAH.sz (x:D.aAH):Nat:=0
structure D.Entry where
 Site:Int
 Handle:Int
 Version:Int
 Deleted:Bool
def D.Entry.V (x:D.Entry):List V:=[.int .i64 x.Site, .int .i64 x.Handle, .int .i64 x.Version, .bool x.Deleted]
instance:Inhabited D.Entry:=⟨⟨default,default,default,default⟩⟩
def D.Entry.sz (x:D.Entry):Nat:=0
def D.Entry.eqB (x y:D.Entry):Bool:=((x.Site==y.Site)&&((x.Handle==y.Handle)&&((x.Version==y.Version)&&((x.Deleted==y.Deleted)&&true))))
structure D.aAC where
 Entries:List D.Entry
def D.aAC.V (x:D.aAC):List V:=[.slice 4 (x.Entries.map D.Entry.V)]
instance:Inhabited D.aAC:=⟨⟨default⟩⟩
def D.aAC.sz (x:D.aAC):Nat:=x.Entries.length
structure D.Device where
 Store:D.aAH
 Log:List D.aAB
 Key:Int
 Epoch:Int
 Version:Int
 aAC:D.aAC
def D.Device.V (x:D.Device):List V:=[.int .i64 x.Store.Vendor, .int .i64 x.Store.Serial, .int .i64 x.Store.Seed, .int .i64 x.Store.Counter, .slice 6 (x.Log.map D.aAB.V), .int .i64 x.Key, .int .i64 x.Epoch, .int .i64 x.Version, .slice 4 (x.aAC.Entries.map D.Entry.V)]
instance:Inhabited D.Device:=⟨⟨default,default,default,default,default,default⟩⟩
def D.Device.sz (x:D.Device):Nat:=x.Log.length+x.aAC.Entries.length
structure D.aAJ where
 Handle:Int
 Public:Int
 Counter:Int
 Cut:Bool
def D.aAJ.V (x:D.aAJ):List V:=[.int .i64 x.Handle, .int .i64 x.Public, .int .i64 x.Counter, .bool x.Cut]
instance:Inhabited D.aAJ:=⟨⟨default,default,default,default⟩⟩
def D.aAJ.sz (x:D.aAJ):Nat:=0
structure D.aAG where
 Id:Int
 Minimum:Int
 Credentials:List D.aAJ
def D.aAG.V (x:D.aAG):List V:=[.int .i64 x.Id, .int .i64 x.Minimum, .slice 4 (x.Credentials.map D.aAJ.V)]
instance:Inhabited D.aAG:=⟨⟨default,default,default⟩⟩
def D.aAG.sz (x:D.aAG):Nat:=x.Credentials.length
structure D.aAL where
 Id:Int
 aAG:Int
 Until:Int
def D.aAL.V (x:D.aAL):List V:=[.int .i64 x.Id, .int .i64 x.aAG, .int .i64 x.Until]
instance:Inhabited D.aAL:=⟨⟨default,default,default⟩⟩
def D.aAL.sz (x:D.aAL):Nat:=0
structure D.aAE where
 Seed:Int
 Next:Int
 Open:List D.aAL
def D.aAE.V (x:D.aAE):List V:=[.int .i64 x.Seed, .int .i64 x.Next, .slice 3 (x.Open.map D.aAL.V)]
instance:Inhabited D.aAE:=⟨⟨default,default,default⟩⟩
def D.aAE.sz (x:D.aAE):Nat:=x.Open.length
structure D.Site where
 Name:ByteArray
 Accounts:List D.aAG
 Book:D.aAE
 Logins:List Int
def D.Site.V (x:D.Site):List V:=[.str x.Name, .slice 3 (x.Accounts.map D.aAG.V), .int .i64 x.Book.Seed, .int .i64 x.Book.Next, .slice 3 (x.Book.Open.map D.aAL.V), .slice 1 (x.Logins.map iV)]
instance:Inhabited D.Site:=⟨⟨default,default,default,default⟩⟩
def D.Site.sz (x:D.Site):Nat:=x.Name.size+x.Accounts.length+(x.Accounts.map D.aAG.sz).sum+x.Book.Open.length+x.Logins.length
structure D.aAN where
 Index:Int
 Value:Int
def D.aAN.V (x:D.aAN):List V:=[.int .i64 x.Index, .int .i64 x.Value]
instance:Inhabited D.aAN:=⟨⟨default,default⟩⟩
def D.aAN.sz (x:D.aAN):Nat:=0
structure D.aAP where
 aAN:D.aAN
 Epoch:Int
 Guesses:Int
 Limit:Int
def D.aAP.V (x:D.aAP):List V:=[.int .i64 x.aAN.Index, .int .i64 x.aAN.Value, .int .i64 x.Epoch, .int .i64 x.Guesses, .int .i64 x.Limit]
instance:Inhabited D.aAP:=⟨⟨default,default,default,default⟩⟩
def D.aAP.sz (x:D.aAP):Nat:=0
structure D.aAF where
 State:D.aAP
 Saved:List D.aAP
 Monotonic:Int
def D.aAF.V (x:D.aAF):List V:=[.int .i64 x.State.aAN.Index, .int .i64 x.State.aAN.Value, .int .i64 x.State.Epoch, .int .i64 x.State.Guesses, .int .i64 x.State.Limit, .slice 5 (x.Saved.map D.aAP.V), .int .i64 x.Monotonic]
instance:Inhabited D.aAF:=⟨⟨default,default,default⟩⟩
def D.aAF.sz (x:D.aAF):Nat:=x.Saved.length
structure D.World where
 Now:Int
 Seed:Int
 Devices:List D.Device
 Stolen:List Bool
 aAI:D.aAI
 Sites:List D.Site
 aAQ:D.aAQ
 Hosts:List D.aAF
 Pin:Int
 Mail:D.aAM
def D.World.V (x:D.World):List V:=[.int .i64 x.Now, .int .i64 x.Seed, .slice 9 (x.Devices.map D.Device.V), .slice 1 (x.Stolen.map bV), .slice 6 (x.aAI.Log.map D.aAB.V), .int .i64 x.aAI.Boxes.Epoch, .slice 4 (x.aAI.Boxes.Boxes.map D.Box.V), .slice 4 (x.aAI.History.map D.aAA.V), .slice 6 (x.Sites.map D.Site.V), .int .i64 x.aAQ.Salt, .int .i64 x.aAQ.Threshold, .int .i64 x.aAQ.Check, .int .i64 x.aAQ.Masked, .slice 7 (x.Hosts.map D.aAF.V), .int .i64 x.Pin, .slice 4 (x.Mail.Notices.map D.aAX.V)]
instance:Inhabited D.World:=⟨⟨default,default,default,default,default,default,default,default,default,default⟩⟩
def D.World.sz (x:D.World):Nat:=x.Devices.length+(x.Devices.map D.Device.sz).sum+x.Stolen.length+x.aAI.Log.length+x.aAI.Boxes.Boxes.length+(x.aAI.Boxes.Boxes.map D.Box.sz).sum+x.aAI.History.length+(x.aAI.History.map D.aAA.sz).sum+x.Sites.length+(x.Sites.map D.Site.sz).sum+x.Hosts.length+(x.Hosts.map D.aAF.sz).sum+x.Mail.Notices.length
structure D.aAO where
 b:List Int
 i:Int
 h:Int
def D.aAO.V (x:D.aAO):List V:=[.slice 1 (x.b.map y8), .int .i64 x.i, .int .i64 x.h]
instance:Inhabited D.aAO:=⟨⟨default,default,default⟩⟩
def D.aAO.sz (x:D.aAO):Nat:=x.b.length
structure D.Event where
 Kind:Int
 Device:Int
 Other:Int
 Value:Int
 Flag:Bool
instance:Inhabited D.Event:=⟨⟨default,default,default,default,default⟩⟩
def D.Event.sz (x:D.Event):Nat:=0
structure D.aAV where
 Secure:Bool
 Host:ByteArray
 Port:Int
instance:Inhabited D.aAV:=⟨⟨default,default,default⟩⟩
def D.aAV.sz (x:D.aAV):Nat:=x.Host.size
structure D.aAT where
 Site:ByteArray
 aAV:ByteArray
 aAL:Int
 Handle:Int
 Present:Bool
 Counter:Int
 Signature:Int
instance:Inhabited D.aAT:=⟨⟨default,default,default,default,default,default,default⟩⟩
def D.aAT.sz (x:D.aAT):Nat:=x.Site.size+x.aAV.size
end Go.VK
