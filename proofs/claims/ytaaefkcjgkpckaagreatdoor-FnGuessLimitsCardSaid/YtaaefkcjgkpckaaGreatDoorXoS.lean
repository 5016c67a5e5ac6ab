import Derived.Test.YtaaefkcjgkpckaaGreatDoorEWbtor
/- Printed by wip/tools: models, walks, proofs. -/
set_option linter.unusedVariables false
set_option linter.unusedSimpArgs false
set_option maxRecDepth 100000
set_option maxHeartbeats 4000000
namespace Go.VK
open Go.RowKit Go.Proofs
structure D.Box where
 To:Int
 Ephemeral:Int
 Data:List Int
 MAC:Int
def D.Box.V (x:D.Box):List V:=[.int .i64 x.To, .int .i64 x.Ephemeral, .slice 1 (x.Data.map y8), .int .i64 x.MAC]
instance:Inhabited D.Box:=⟨⟨default,default,default,default⟩⟩
def D.Box.sz (x:D.Box):Nat:=x.Data.length
theorem D.Box.one (x:D.Box):dB x.V=true:=rfl
structure D.aAD where
 Epoch:Int
 Boxes:List D.Box
def D.aAD.V (x:D.aAD):List V:=[.int .i64 x.Epoch, .slice 4 (x.Boxes.map D.Box.V)]
instance:Inhabited D.aAD:=⟨⟨default,default⟩⟩
def D.aAD.sz (x:D.aAD):Nat:=x.Boxes.length+(x.Boxes.map D.Box.sz).sum
theorem D.aAD.one (x:D.aAD):dB x.V=true:=rfl
structure D.aAB where
 Index:Int
 Kind:Int
 Device:Int
 By:Int
 Previous:Int
 Signature:Int
def D.aAB.V (x:D.aAB):List V:=[.int .i64 x.Index, .int .i64 x.Kind, .int .i64 x.Device, .int .i64 x.By, .int .i64 x.Previous, .int .i64 x.Signature]
instance:Inhabited D.aAB:=⟨⟨default,default,default,default,default,default⟩⟩
def D.aAB.sz (x:D.aAB):Nat:=0
def D.aAB.eqB (x y:D.aAB):Bool:=((x.Index==y.Index)&&((x.Kind==y.Kind)&&((x.Device==y.Device)&&((x.By==y.By)&&((x.Previous==y.Previous)&&((x.Signature==y.Signature)&&true))))))
theorem D.aAB.one (x:D.aAB):dB x.V=true:=rfl
structure D.aAC where
 Epoch:Int
 Version:Int
 Data:List Int
 MAC:Int
def D.aAC.V (x:D.aAC):List V:=[.int .i64 x.Epoch, .int .i64 x.Version, .slice 1 (x.Data.map y8), .int .i64 x.MAC]
instance:Inhabited D.aAC:=⟨⟨default,default,default,default⟩⟩
def D.aAC.sz (x:D.aAC):Nat:=x.Data.length
theorem D.aAC.one (x:D.aAC):dB x.V=true:=rfl
structure D.aAH where
 Log:List D.aAB
 Boxes:D.aAD
 History:List D.aAC
def D.aAH.V (x:D.aAH):List V:=[.slice 6 (x.Log.map D.aAB.V), .int .i64 x.Boxes.Epoch, .slice 4 (x.Boxes.Boxes.map D.Box.V), .slice 4 (x.History.map D.aAC.V)]
instance:Inhabited D.aAH:=⟨⟨default,default,default⟩⟩
def D.aAH.sz (x:D.aAH):Nat:=x.Log.length+x.Boxes.Boxes.length+(x.Boxes.Boxes.map D.Box.sz).sum+x.History.length+(x.History.map D.aAC.sz).sum
theorem D.aAH.one (x:D.aAH):dB x.V=true:=rfl
structure D.aAL where
 Salt:Int
 Threshold:Int
 Check:Int
 Masked:Int
def D.aAL.V (x:D.aAL):List V:=[.int .i64 x.Salt, .int .i64 x.Threshold, .int .i64 x.Check, .int .i64 x.Masked]
instance:Inhabited D.aAL:=⟨⟨default,default,default,default⟩⟩
def D.aAL.sz (x:D.aAL):Nat:=0
def D.aAL.eqB (x y:D.aAL):Bool:=((x.Salt==y.Salt)&&((x.Threshold==y.Threshold)&&((x.Check==y.Check)&&((x.Masked==y.Masked)&&true))))
theorem D.aAL.one (x:D.aAL):dB x.V=true:=rfl
structure D.aAP where
 Kind:Int
 aAG:Int
 Time:Int
 Seen:Bool
def D.aAP.V (x:D.aAP):List V:=[.int .i64 x.Kind, .int .i64 x.aAG, .int .i64 x.Time, .bool x.Seen]
instance:Inhabited D.aAP:=⟨⟨default,default,default,default⟩⟩
def D.aAP.sz (x:D.aAP):Nat:=0
def D.aAP.eqB (x y:D.aAP):Bool:=((x.Kind==y.Kind)&&((x.aAG==y.aAG)&&((x.Time==y.Time)&&((x.Seen==y.Seen)&&true))))
theorem D.aAP.one (x:D.aAP):dB x.V=true:=rfl
structure D.aAJ where
 Notices:List D.aAP
def D.aAJ.V (x:D.aAJ):List V:=[.slice 4 (x.Notices.map D.aAP.V)]
instance:Inhabited D.aAJ:=⟨⟨default⟩⟩
def D.aAJ.sz (x:D.aAJ):Nat:=x.Notices.length
theorem D.aAJ.one (x:D.aAJ):dB x.V=true:=rfl
structure D.aAI where
 Vendor:Int
 Serial:Int
 Seed:Int
 Counter:Int
def D.aAI.V (x:D.aAI):List V:=[.int .i64 x.Vendor, .int .i64 x.Serial, .int .i64 x.Seed, .int .i64 x.Counter]
instance:Inhabited D.aAI:=⟨⟨default,default,default,default⟩⟩
def D.aAI.sz (x:D.aAI):Nat:=0
def D.aAI.eqB (x y:D.aAI):Bool:=((x.Vendor==y.Vendor)&&((x.Serial==y.Serial)&&((x.Seed==y.Seed)&&((x.Counter==y.Counter)&&true))))
theorem D.aAI.one (x:D.aAI):dB x.V=true:=rfl
structure D.Entry where
 Site:Int
 Handle:Int
 Version:Int
 Deleted:Bool
def D.Entry.V (x:D.Entry):List V:=[.int .i64 x.Site, .int .i64 x.Handle, .int .i64 x.Version, .bool x.Deleted]
instance:Inhabited D.Entry:=⟨⟨default,default,default,default⟩⟩
def D.Entry.sz (x:D.Entry):Nat:=0
def D.Entry.eqB (x y:D.Entry):Bool:=((x.Site==y.Site)&&((x.Handle==y.Handle)&&((x.Version==y.Version)&&((x.Deleted==y.Deleted)&&true))))
theorem D.Entry.one (x:D.Entry):dB x.V=true:=rfl
structure D.aAE where
 Entries:List D.Entry
def D.aAE.V (x:D.aAE):List V:=[.slice 4 (x.Entries.map D.Entry.V)]
instance:Inhabited D.aAE:=⟨⟨default⟩⟩
def D.aAE.sz (x:D.aAE):Nat:=x.Entries.length
theorem D.aAE.one (x:D.aAE):dB x.V=true:=rfl
structure D.Device where
 Store:D.aAI
 Log:List D.aAB
 Key:Int
 Epoch:Int
 Version:Int
 aAE:D.aAE
def D.Device.V (x:D.Device):List V:=[.int .i64 x.Store.Vendor, .int .i64 x.Store.Serial, .int .i64 x.Store.Seed, .int .i64 x.Store.Counter, .slice 6 (x.Log.map D.aAB.V), .int .i64 x.Key, .int .i64 x.Epoch, .int .i64 x.Version, .slice 4 (x.aAE.Entries.map D.Entry.V)]
instance:Inhabited D.Device:=⟨⟨default,default,default,default,default,default⟩⟩
def D.Device.sz (x:D.Device):Nat:=x.Log.length+x.aAE.Entries.length
theorem D.Device.one (x:D.Device):dB x.V=true:=rfl
structure D.aAK where
 Handle:Int
 Public:Int
 Counter:Int
 Cut:Bool
def D.aAK.V (x:D.aAK):List V:=[.int .i64 x.Handle, .int .i64 x.Public, .int .i64 x.Counter, .bool x.Cut]
instance:Inhabited D.aAK:=⟨⟨default,default,default,default⟩⟩
def D.aAK.sz (x:D.aAK):Nat:=0
def D.aAK.eqB (x y:D.aAK):Bool:=((x.Handle==y.Handle)&&((x.Public==y.Public)&&((x.Counter==y.Counter)&&((x.Cut==y.Cut)&&true))))
theorem D.aAK.one (x:D.aAK):dB x.V=true:=rfl
structure D.aAG where
 Id:Int
 Minimum:Int
 Credentials:List D.aAK
def D.aAG.V (x:D.aAG):List V:=[.int .i64 x.Id, .int .i64 x.Minimum, .slice 4 (x.Credentials.map D.aAK.V)]
instance:Inhabited D.aAG:=⟨⟨default,default,default⟩⟩
def D.aAG.sz (x:D.aAG):Nat:=x.Credentials.length
theorem D.aAG.one (x:D.aAG):dB x.V=true:=rfl
structure D.aAO where
 Id:Int
 aAG:Int
 Until:Int
def D.aAO.V (x:D.aAO):List V:=[.int .i64 x.Id, .int .i64 x.aAG, .int .i64 x.Until]
instance:Inhabited D.aAO:=⟨⟨default,default,default⟩⟩
def D.aAO.sz (x:D.aAO):Nat:=0
def D.aAO.eqB (x y:D.aAO):Bool:=((x.Id==y.Id)&&((x.aAG==y.aAG)&&((x.Until==y.Until)&&true)))
theorem D.aAO.one (x:D.aAO):dB x.V=true:=rfl
structure D.aAF where
 Seed:Int
 Next:Int
 Open:List D.aAO
def D.aAF.V (x:D.aAF):List V:=[.int .i64 x.Seed, .int .i64 x.Next, .slice 3 (x.Open.map D.aAO.V)]
instance:Inhabited D.aAF:=⟨⟨default,default,default⟩⟩
def D.aAF.sz (x:D.aAF):Nat:=x.Open.length
theorem D.aAF.one (x:D.aAF):dB x.V=true:=rfl
structure D.Site where
 Name:ByteArray
 Accounts:List D.aAG
 Book:D.aAF
 Logins:List Int
def D.Site.V (x:D.Site):List V:=[.str x.Name, .slice 3 (x.Accounts.map D.aAG.V), .int .i64 x.Book.Seed, .int .i64 x.Book.Next, .slice 3 (x.Book.Open.map D.aAO.V), .slice 1 (x.Logins.map iV)]
instance:Inhabited D.Site:=⟨⟨default,default,default,default⟩⟩
def D.Site.sz (x:D.Site):Nat:=x.Name.size+x.Accounts.length+(x.Accounts.map D.aAG.sz).sum+x.Book.Open.length+x.Logins.length
theorem D.Site.one (x:D.Site):dB x.V=true:=rfl
structure D.aAM where
 Index:Int
 Value:Int
def D.aAM.V (x:D.aAM):List V:=[.int .i64 x.Index, .int .i64 x.Value]
instance:Inhabited D.aAM:=⟨⟨default,default⟩⟩
def D.aAM.sz (x:D.aAM):Nat:=0
def D.aAM.eqB (x y:D.aAM):Bool:=((x.Index==y.Index)&&((x.Value==y.Value)&&true))
theorem D.aAM.one (x:D.aAM):dB x.V=true:=rfl
structure D.aAQ where
 aAM:D.aAM
 Epoch:Int
 Guesses:Int
 Limit:Int
def D.aAQ.V (x:D.aAQ):List V:=[.int .i64 x.aAM.Index, .int .i64 x.aAM.Value, .int .i64 x.Epoch, .int .i64 x.Guesses, .int .i64 x.Limit]
instance:Inhabited D.aAQ:=⟨⟨default,default,default,default⟩⟩
def D.aAQ.sz (x:D.aAQ):Nat:=0
theorem D.aAQ.one (x:D.aAQ):dB x.V=true:=rfl
structure D.aAA where
 State:D.aAQ
 Saved:List D.aAQ
 Monotonic:Int
def D.aAA.V (x:D.aAA):List V:=[.int .i64 x.State.aAM.Index, .int .i64 x.State.aAM.Value, .int .i64 x.State.Epoch, .int .i64 x.State.Guesses, .int .i64 x.State.Limit, .slice 5 (x.Saved.map D.aAQ.V), .int .i64 x.Monotonic]
instance:Inhabited D.aAA:=⟨⟨default,default,default⟩⟩
def D.aAA.sz (x:D.aAA):Nat:=x.Saved.length
theorem D.aAA.one (x:D.aAA):dB x.V=true:=rfl
structure D.World where
 Now:Int
 Seed:Int
 Devices:List D.Device
 Stolen:List Bool
 aAH:D.aAH
 Sites:List D.Site
 aAL:D.aAL
 Hosts:List D.aAA
 Pin:Int
 Mail:D.aAJ
def D.World.V (x:D.World):List V:=[.int .i64 x.Now, .int .i64 x.Seed, .slice 9 (x.Devices.map D.Device.V), .slice 1 (x.Stolen.map bV), .slice 6 (x.aAH.Log.map D.aAB.V), .int .i64 x.aAH.Boxes.Epoch, .slice 4 (x.aAH.Boxes.Boxes.map D.Box.V), .slice 4 (x.aAH.History.map D.aAC.V), .slice 6 (x.Sites.map D.Site.V), .int .i64 x.aAL.Salt, .int .i64 x.aAL.Threshold, .int .i64 x.aAL.Check, .int .i64 x.aAL.Masked, .slice 7 (x.Hosts.map D.aAA.V), .int .i64 x.Pin, .slice 4 (x.Mail.Notices.map D.aAP.V)]
instance:Inhabited D.World:=⟨⟨default,default,default,default,default,default,default,default,default,default⟩⟩
def D.World.sz (x:D.World):Nat:=x.Devices.length+(x.Devices.map D.Device.sz).sum+x.Stolen.length+x.aAH.Log.length+x.aAH.Boxes.Boxes.length+(x.aAH.Boxes.Boxes.map D.Box.sz).sum+x.aAH.History.length+(x.aAH.History.map D.aAC.sz).sum+x.Sites.length+(x.Sites.map D.Site.sz).sum+x.Hosts.length+(x.Hosts.map D.aAA.sz).sum+x.Mail.Notices.length
theorem D.World.one (x:D.World):dB x.V=true:=rfl
structure D.aAS where
 Secure:Bool
 Host:ByteArray
 Port:Int
def D.aAS.V (x:D.aAS):List V:=[.bool x.Secure, .str x.Host, .int .i64 x.Port]
instance:Inhabited D.aAS:=⟨⟨default,default,default⟩⟩
def D.aAS.sz (x:D.aAS):Nat:=x.Host.size
def D.aAS.eqB (x y:D.aAS):Bool:=((x.Secure==y.Secure)&&((x.Host.toList==y.Host.toList)&&((x.Port==y.Port)&&true)))
theorem D.aAS.one (x:D.aAS):dB x.V=true:=rfl
structure D.Event where
 Kind:Int
 Device:Int
 Other:Int
 Value:Int
 Flag:Bool
def D.Event.V (x:D.Event):List V:=[.int .i64 x.Kind, .int .i64 x.Device, .int .i64 x.Other, .int .i64 x.Value, .bool x.Flag]
instance:Inhabited D.Event:=⟨⟨default,default,default,default,default⟩⟩
def D.Event.sz (x:D.Event):Nat:=0
def D.Event.eqB (x y:D.Event):Bool:=((x.Kind==y.Kind)&&((x.Device==y.Device)&&((x.Other==y.Other)&&((x.Value==y.Value)&&((x.Flag==y.Flag)&&true)))))
theorem D.Event.one (x:D.Event):dB x.V=true:=rfl
structure D.aAR where
 Site:ByteArray
 aAS:ByteArray
 aAO:Int
 Handle:Int
 Present:Bool
 Counter:Int
 Signature:Int
def D.aAR.V (x:D.aAR):List V:=[.str x.Site, .str x.aAS, .int .i64 x.aAO, .int .i64 x.Handle, .bool x.Present, .int .i64 x.Counter, .int .i64 x.Signature]
instance:Inhabited D.aAR:=⟨⟨default,default,default,default,default,default,default⟩⟩
def D.aAR.sz (x:D.aAR):Nat:=x.Site.size+x.aAS.size
def D.aAR.eqB (x y:D.aAR):Bool:=((x.Site.toList==y.Site.toList)&&((x.aAS.toList==y.aAS.toList)&&((x.aAO==y.aAO)&&((x.Handle==y.Handle)&&((x.Present==y.Present)&&((x.Counter==y.Counter)&&((x.Signature==y.Signature)&&true)))))))
theorem D.aAR.one (x:D.aAR):dB x.V=true:=rfl
end Go.VK
