import Derived.Test.YtaaefkcjgkpckaaGreatDoorLKatob
/- What holds in all worlds that events lead to: plain laws over the pure definitions, no program in sight. The conditions stand in each. -/
set_option linter.unusedVariables false
set_option maxRecDepth 100000
namespace Go.VK
structure Dv (S:List (Int×Int)) (T:Int) (log:List D.aAA) (K ep v:Int) (d:D.Device):Prop where
 pre:∃r,log=d.Log++r
 at_:d.Epoch<ep∨(d.Epoch=ep∧d.Version≤v)
 key:d.Epoch=ep→d.Key=K
 bun:BunIn S T d.aAE.Entries
structure Hs (S:List (Int×Int)) (T:Int) (K ep v:Int) (s:D.aAC):Prop where
 low:s.Epoch≤ep
 own:s.Epoch=ep→∃v' b',s=eU K ep v' b'∧0≤v'∧v'≤v∧BunIn S T b'.Entries
structure Net (S:List (Int×Int)) (t m:Nat) (w:D.World) (K v:Int) (r:List D.aAC) (b:D.aAE):Prop where
 wi:WIn m w
 bx:BoxIn w.aAB.Log w.aAB.Boxes K
 devs:∀p∈aB w.aAB.Log,∃k,k<m∧p=iZ w.Seed k
 rem:∀p,dM w.aAB.Log p=true→∃k,k<m∧p=iZ w.Seed k
 hist:w.aAB.History=r++[eU K (aD w.aAB.Log) v b]
 old:∀s∈r,Hs S (t:Int) K (aD w.aAB.Log) v s
 bun:BunIn S (t:Int) b.Entries
 ver:0≤v∧v≤(t:Int)
 dev:∀k (h:k<w.Devices.length),Dv S (t:Int) w.aAB.Log K (aD w.aAB.Log) v w.Devices[k]
theorem Dv.mono {S:List (Int×Int)}{T U:Int}{log:List D.aAA}{K ep v u:Int}{d:D.Device}(h:Dv S T log K ep v d)(hT:T≤U)(hv:v≤u):Dv S U log K ep u d:=
 ⟨h.pre,h.at_.imp id fun q=>⟨q.1,Int.le_trans q.2 hv⟩,h.key,h.bun.mono hT⟩
theorem Hs.mono {S:List (Int×Int)}{T U:Int}{K ep v u:Int}{s:D.aAC}(h:Hs S T K ep v s)(hT:T≤U)(hv:v≤u):Hs S U K ep u s:=
 ⟨h.low,fun e=>let ⟨v',b',h1,h2,h3,h4⟩:=h.own e;⟨v',b',h1,h2,Int.le_trans h3 hv,h4.mono hT⟩⟩
section
variable {S:List (Int×Int)} {t m:Nat} {w:D.World} {K v:Int} {r:List D.aAC} {b:D.aAE}
theorem Net.last (h:Net S t m w K v r b):Hs S (t:Int) K (aD w.aAB.Log) v (eU K (aD w.aAB.Log) v b):=
 ⟨Int.le_refl _,fun _=>⟨v,b,rfl,h.ver.1,Int.le_refl _,h.bun⟩⟩
theorem Net.hs (h:Net S t m w K v r b){s:D.aAC}(hs:s∈w.aAB.History):Hs S (t:Int) K (aD w.aAB.Log) v s:=by
 rw[h.hist] at hs
 rcases List.mem_append.1 hs with hs|hs
 ·exact h.old s hs
 ·rw[List.mem_singleton.1 hs];exact h.last
theorem Net.pub (h:Net S t m w K v r b){k:Nat}(hk:k<w.Devices.length):aN w.Devices[k].Store=iZ w.Seed k:=by
 unfold iZ aN gM
 rw[(h.wi.dev k hk).key]
theorem bIa {d:D.Device}{log:List D.aAA}{bx:D.aAG}{s:D.aAC}(h:(jL d log bx s==0)=true):
  cO log d.Log=true∧aN d.Store∈aB log∧aD log≤s.Epoch∧(iO (bW d.Store bx).1 s).2=true∧(iB d.aAE (iO (bW d.Store bx).1 s).1).2=true:=by
 have h:=eq_of_beq h
 unfold jL at h
 cases h1: !aT log|| !cO log d.Log with
 |true=>rw[h1] at h;cases h
 |false=>
 cases h2: !gP (aB log) (aN d.Store) with
 |true=>rw[h1,h2] at h;cases h
 |false=>
 cases h3:bx.Epoch !=aD log|| !(bW d.Store bx).2 with
 |true=>rw[h1,h2,h3] at h;cases h
 |false=>
 cases h4:decide (s.Epoch<aD log)||(decide (s.Epoch<d.Epoch)||(s.Epoch==d.Epoch&&decide (s.Version<d.Version))) with
 |true=>rw[h1,h2,h3,h4] at h;cases h
 |false=>
 cases h5: !(iO (bW d.Store bx).1 s).2|| !(iB d.aAE (iO (bW d.Store bx).1 s).1).2 with
 |true=>rw[h1,h2,h3,h4,h5] at h;cases h
 |false=>
 simp only[Bool.or_eq_false_iff,Bool.not_eq_false',decide_eq_false_iff_not] at h1 h2 h4 h5
 exact⟨h1.2,iF.1 h2,by omega,h5.1,h5.2⟩
theorem Net.set (h:Net S t m w K v r b){i:Nat}{x:D.Device}(hi:i<w.Devices.length)(hx:Dv S (t:Int) w.aAB.Log K (aD w.aAB.Log) v x):∀k (hk:k<(w.Devices.set i x).length),Dv S (t:Int) w.aAB.Log K (aD w.aAB.Log) v (w.Devices.set i x)[k]:=fun k hk=>by
 rw[List.getElem_set]
 rw[List.length_set] at hk
 split
 ·exact hx
 ·exact h.dev k hk
theorem Net.upd (h:Net S t m w K v r b){u:D.World}(h1:u.Seed=w.Seed)(h2:u.aAB=w.aAB)(h3:u.Devices.length=w.Devices.length)(h4:WIn m u)
  (h5:∀k (hk:k<u.Devices.length),Dv S (t:Int) w.aAB.Log K (aD w.aAB.Log) v u.Devices[k]):Net S t m u K v r b where
 wi:=h4
 bx:=by rw[h2];exact h.bx
 devs:=by rw[h1,h2];exact h.devs
 rem:=by rw[h1,h2];exact h.rem
 hist:=by rw[h2];exact h.hist
 old:=by rw[h2];exact h.old
 bun:=h.bun
 ver:=h.ver
 dev:=by rw[h2];exact h5
theorem Net.mono (h:Net S t m w K v r b){u:Nat}(hu:t≤u):Net S u m w K v r b where
 wi:=h.wi
 bx:=h.bx
 devs:=h.devs
 rem:=h.rem
 hist:=h.hist
 old:=fun s hs=>(h.old s hs).mono (by omega) (Int.le_refl _)
 bun:=h.bun.mono (by omega)
 ver:=by have:=h.ver;omega
 dev:=fun k hk=>(h.dev k hk).mono (by omega) (Int.le_refl _)
theorem bGr (h:Net S t m w K v r b):(fG w.aAB 0).1=eU K (aD w.aAB.Log) v b:=by
 unfold fG
 rw[decide_eq_false (show ¬(0:Int)<0 by decide),decide_eq_false (show ¬(0:Int)≥(w.aAB.History.length:Int) by rw[h.hist,List.length_append,List.length_singleton];omega)]
 show w.aAB.History.getD _ default=_
 rw[h.hist];simp
theorem Net.aDR (h:Net S t m w K v r b){d:Int}(hd:aQ w d=true):cB w d=gP (aB w.aAB.Log) (iZ w.Seed d.toNat):=by
 obtain⟨hl,e⟩:=gN hd
 unfold cB
 rw[hd,e,h.pub hl];rfl
def kE (w:D.World)(K v:Int)(b:D.aAE)(d:D.Device):D.Device:=⟨d.Store,w.aAB.Log,K,aD w.aAB.Log,v,⟨bJ d.aAE.Entries b.Entries⟩⟩
theorem Net.aBM (h:Net S t m w K v r b)(hS:KeyS S)(ht:t≤900000){d:D.Device}(h1:∃r',w.aAB.Log=d.Log++r')(h2:d.Epoch<aD w.aAB.Log∨(d.Epoch=aD w.aAB.Log∧d.Version≤v))(h3:BunIn S (t:Int) d.aAE.Entries)(h4:aN d.Store∈aB w.aAB.Log):
  cK d w.aAB.Log w.aAB.Boxes (fG w.aAB 0).1=(kE w K v b d,0):=by
 have hm:=aX0 hS (by omega) h3 h.bun
 have hv:=h.ver
 obtain⟨r',hr⟩:=h1
 have hs:cK d w.aAB.Log w.aAB.Boxes (eU K (aD w.aAB.Log) v b)=(⟨d.Store,w.aAB.Log,K,aD w.aAB.Log,v,(iB d.aAE b).1⟩,0):=
  aF6 h.bx h.wi.log (by rw[hr];exact xX _ _) h4 (by omega) (h.bun.ok hS (by omega)) rfl h2 (by rw[hm])
 rw[bGr h,hs,hm];rfl
theorem Net.aCA (h:Net S t m w K v r b)(hS:KeyS S)(ht:t≤900000){d:Int}(hd:cB w d=true):
  aV w d 0=({w with Devices:=w.Devices.set d.toNat (kE w K v b (aF w d))},0):=by
 have hd1:aQ w d=true:=by unfold cB at hd;rw[Bool.and_eq_true] at hd;exact hd.1
 obtain⟨hl,e⟩:=gN hd1
 have hD:=h.dev _ hl
 rw[←e] at hD
 have hs:=h.aBM hS ht hD.pre hD.at_ hD.bun (by
  unfold cB at hd
  rw[Bool.and_eq_true] at hd
  exact iF.1 hd.2)
 unfold aV
 rw[h.wi.ok,hd1,hs];rfl
theorem Net.aCN (h:Net S t m w K v r b){d:Int}(hd:cB w d=false)(c:Int):((aV w d c).2==0)=false:=by
 unfold aV
 cases hb:bK w&&aQ w d with
 |false=>rfl
 |true=>
  rw[Bool.and_eq_true] at hb
  unfold cK
  cases h0:jL (aF w d) w.aAB.Log w.aAB.Boxes (fG w.aAB c).1==0 with
  |false=>exact h0
  |true=>
   have:=(bIa h0).2.1
   unfold cB at hd
   rw[hb.2,iF.2 this] at hd;cases hd
def aF9 (w:D.World)(K v:Int)(b:D.aAE)(d:D.Device):D.Device:={kE w K v b d with Version:=v+1}
def aCF (w:D.World)(K v:Int)(b:D.aAE)(d:Int):D.World:=
 {w with Devices:=w.Devices.set d.toNat (aF9 w K v b (aF w d)),aAB:={w.aAB with History:=w.aAB.History++[eU K (aD w.aAB.Log) (v+1) ⟨bJ (aF w d).aAE.Entries b.Entries⟩]}}
theorem aQ1 {S:List (Int×Int)}{d:D.Device}(hS:KeyS S){T:Int}(hT:T≤1000000)(h1:bE d.Key=true)(h2:0≤d.Epoch∧d.Epoch≤1000000)(h3: -1≤d.Version∧d.Version<1000000)(h4:BunIn S T d.aAE.Entries):
  dF d=({d with Version:=d.Version+1},eU d.Key d.Epoch (d.Version+1) d.aAE,true):=by
 have hs:tJ d.Key d.Epoch (IntKind.i64.wrap (d.Version+1)) d.aAE=(eU d.Key d.Epoch (d.Version+1) d.aAE,true):=by
  rw[aK (by omega) (by omega)]
  unfold tJ
  rw[h1,gG h2.1 h2.2,gG (show 0≤d.Version+1 by omega) (by omega),show aP d.aAE=true from h4.ok hS hT];rfl
 unfold dF
 rw[hs,aK (show-9223372036854775808≤d.Version+1 by omega) (by omega)];rfl
theorem aMf {c:D.aAB}{s:D.aAC}(h1:s.Epoch=aD c.Log)(h2:c.History.length<60)(h3:∀l,c.History.getLast? =some l→sJ s l=true):cZ c s=({c with History:=c.History++[s]},true):=by
 have hf:(decide ((c.History.length:Int)>0)&& !sJ s (c.History.getD (c.History.length-1) default))=false:=by
  by_cases hp:c.History.length=0
  ·rw[decide_eq_false (by omega)];rfl
  ·have hl:c.History.getLast? =some (c.History.getD (c.History.length-1) default):=by
    rw[List.getLast?_eq_getElem?,List.getD,List.getElem?_eq_getElem (by omega),Option.getD_some]
   rw[h3 _ hl];simp
 unfold cZ
 rw[h1,bne_self_eq_false,hf,decide_eq_false (by omega)];rfl
theorem Net.aCJ (h:Net S t m w K v r b)(hS:KeyS S)(ht:t≤900000)(hr:r.length≤58){d:Int}(hd:cB w d=true):zY w d=(aCF w K v b d,true):=by
 have hd1:aQ w d=true:=by unfold cB at hd;rw[Bool.and_eq_true] at hd;exact hd.1
 obtain⟨hl,e⟩:=gN hd1
 have hs:=h.aCA hS (by omega) hd
 have hv:=h.ver
 have hep:=h.bx.eps
 have hD:=h.dev _ hl
 rw[←e] at hD
 have hat:aF (aV w d 0).1 d=kE w K v b (aF w d):=by
  rw[hs]
  unfold aF
  show(w.Devices.set d.toNat _).getD d.toNat default=_
  rw[List.getD,List.getElem?_set_self hl];rfl
 have hw:dF (kE w K v b (aF w d))=(aF9 w K v b (aF w d),eU K (aD w.aAB.Log) (v+1) ⟨bJ (aF w d).aAE.Entries b.Entries⟩,true):=
  aQ1 hS (T:=(t:Int)) (by omega) h.bx.kok (show 0≤aD w.aAB.Log∧aD w.aAB.Log≤1000000 by omega) (show-1≤v∧v<1000000 by omega) (hD.bun.merge h.bun)
 have hup:cZ w.aAB (eU K (aD w.aAB.Log) (v+1) ⟨bJ (aF w d).aAE.Entries b.Entries⟩)=({w.aAB with History:=w.aAB.History++[eU K (aD w.aAB.Log) (v+1) ⟨bJ (aF w d).aAE.Entries b.Entries⟩]},true):=by
  refine aMf rfl ?_ fun l hl=> ?_
  ·rw[h.hist];simp;omega
  ·rw[h.hist,List.getLast?_append] at hl
   have hl:eU K (aD w.aAB.Log) v b=l:=by simpa using hl
   subst hl
   unfold sJ
   show(decide (aD w.aAB.Log>aD w.aAB.Log)||(aD w.aAB.Log==aD w.aAB.Log&&decide (v+1>v)))=true
   rw[beq_self_eq_true,decide_eq_true (show v+1>v by omega)];simp
 unfold zY O1
 rw[hat,hw]
 rw[show(aV w d 0).1.aAB=w.aAB by rw[hs]]
 rw[hup,hs]
 show(bif (0:Int)==0&&(bif true&&true then _ else _:D.World×Bool).2 then _ else _)=_
 simp only[Bool.and_self,cond_true,beq_self_eq_true,List.set_set];rfl
theorem Net.aCF (h:Net S t m w K v r b)(hS:KeyS S)(ht:t≤900000)(hr:r.length≤58){d:Int}(hd:cB w d=true):
  Net S (t+1) m (VK.aCF w K v b d) K (v+1) (r++[eU K (aD w.aAB.Log) v b]) ⟨bJ (aF w d).aAE.Entries b.Entries⟩:=by
 have hd1:aQ w d=true:=by unfold cB at hd;rw[Bool.and_eq_true] at hd;exact hd.1
 obtain⟨hl,e⟩:=gN hd1
 have hwi:=h.wi.push d
 rw[h.aCJ hS ht hr hd] at hwi
 have hv:=h.ver
 have hlen:(VK.aCF w K v b d).Devices.length=w.Devices.length:=List.length_set ..
 have hD:=h.dev _ hl
 rw[←e] at hD
 refine⟨hwi,h.bx,h.devs,h.rem,?_,fun s hs=> ?_,(hD.bun.merge h.bun).mono (by omega),by omega,fun k hk=> ?_⟩
 ·show w.aAB.History++[_]=_
  rw[h.hist];rfl
 ·rcases List.mem_append.1 hs with hs|hs
  ·exact(h.old s hs).mono (by omega) (by omega)
  ·rw[List.mem_singleton.1 hs];exact h.last.mono (by omega) (by omega)
 ·have:∀k (hk:k<(w.Devices.set d.toNat (aF9 w K v b (aF w d))).length),Dv S ((t+1:Nat):Int) w.aAB.Log K (aD w.aAB.Log) (v+1) (w.Devices.set d.toNat (aF9 w K v b (aF w d)))[k]:=fun k hk=>by
   rw[List.getElem_set]
   rw[List.length_set] at hk
   split
   ·exact⟨⟨[],by show w.aAB.Log=w.aAB.Log++[];simp⟩, .inr ⟨rfl,Int.le_refl _⟩,fun _=>rfl,(hD.bun.merge h.bun).mono (by omega)⟩
   ·exact(h.dev k hk).mono (by omega) (by omega)
  exact this k hk
end
end Go.VK

set_option maxRecDepth 100000
namespace Go.VK
theorem aQ2 {l:List D.aAA}{e:D.aAA}(h:aT (l++[e])=true):iT l e=true∧(l=[]∨aT l=true)∧l.length<40:=by
 unfold aT at h
 rw[Bool.and_eq_true,Bool.not_eq_true'] at h
 have hr:=gW h.1
 have hlen:(l++[e]).length=l.length+1:=by simp
 rw[hlen] at hr
 have h1:=Sr h.2 l.length (by simp)
 rw[Nat.zero_add] at h1
 refine⟨by simpa using h1,?_,by omega⟩
 by_cases h0:l=[]
 ·exact .inl h0
 ·refine .inr ?_
  have hp:0<l.length:=List.length_pos_iff.2 h0
  unfold aT
  rw[gG (show(1:Int)≤(l.length:Int) by omega) (by omega),Bool.true_and,Bool.not_eq_true']
  exact Jt fun k hk=>by
   have:=Sr h.2 k (by simp;omega)
   rw[List.getElem_append_left hk,Nat.zero_add,List.take_append_of_le_length (by omega)] at this
   rw[Nat.zero_add];exact this
theorem aGa {α:Type}{P:List α→Prop}(h0:P [])(hs:∀l a,P l→P (l++[a])):∀(n:Nat) (l:List α),l.length=n→P l
 |0,l,h=>by rw[List.length_eq_zero_iff.1 h];exact h0
 |n+1,l,h=>by
  have hne:l≠[]:=by rintro rfl;simp at h
  rw[←List.dropLast_concat_getLast hne]
  exact hs _ _ (aGa h0 hs n _ (by rw[List.length_dropLast];omega))
theorem bGs (l:List D.aAA):(aB l).Nodup:=
 aGa (P:=fun l=>(aB l).Nodup) List.nodup_nil (fun l e h=>by rw[Yp];exact aFr h e) l.length l rfl
theorem aQ3 (l:List D.aAA):l.length≤1000→0≤aD l∧aD l≤(l.length:Int):=
 aGa (P:=fun l=>l.length≤1000→0≤aD l∧aD l≤(l.length:Int)) (fun _=>⟨Int.le_refl 0,Int.le_refl 0⟩) (fun l e h hl=>by
  rw[List.length_append] at hl
  have:=h (by omega)
  have hlen:((l++[e]).length:Int)=(l.length:Int)+1:=by simp
  have hl:l.length+1≤1000:=by simpa using hl
  rw[Dx,hlen]
  cases e.Kind==2 with
  |true=>rw[cond_true,aK (by omega) (by omega)];omega
  |false=>rw[cond_false];omega) l.length l rfl
theorem bBn (l:List D.aAA)(e:D.aAA)(h:l.length≤999)(hk:e.Kind=2):aD (l++[e])=aD l+1:=by
 have:=aQ3 l (by omega)
 rw[Dx,hk,show((2:Int)==2)=true from rfl,cond_true,aK (by omega) (by omega)]
theorem bBo {log:List D.aAA}{key eph:Int}(hl:aT log=true)(hk:bE key=true)(hp:∀p∈aB log,bE p=true)(h4:(aB log).length≤1000)(h5:1≤eph∧eph≤1000000):(aW log key eph).2=true∧BoxIn log (aW log key eph).1 key:=by
 obtain⟨m1,m2,m3,m4⟩:=O8 hl hk hp h4 h5
 have hlog:log.length≤40:=by
  unfold aT at hl
  rw[Bool.and_eq_true] at hl
  have:=gW hl.1;omega
 refine⟨m1,m2,m3,bGs log,hk,fun k hk'=> ?_,by have:=aQ3 log (by omega);omega⟩
 have hlb:(aW log key eph).1.Boxes.length=(aB log).length:=by
  have:=congrArg List.length m3
  rwa [List.length_map] at this
 have hk2:k<(aB log).length:=by omega
 have hkl:(aB log).length≤1000:=h4
 have hb:=m4 k hk' hk2
 refine⟨eph+(k:Int),gG (by omega) (by omega),?_⟩
 rw[hb];rfl
theorem aGb (l:List D.aAA):(aB l).length≤l.length:=iJ l
theorem bBp {log:List D.aAA}{k d:Int}{s:D.aAH}(h:(dD log k d s).2=true):dD log k d s=(log++[zI log k d s],true)∧aT (log++[zI log k d s])=true:=by
 unfold dD at h ⊢
 cases hb:(decide ((log.length:Int)>0)&& !aT log)|| !aT (log++[zI log k d s]) with
 |true=>rw[hb] at h;cases h
 |false=>
  rw[Bool.or_eq_false_iff,Bool.not_eq_false'] at hb
  exact⟨rfl,hb.2⟩
theorem aQ4 {log:List D.aAA}{key e:Int}(h:(aW log key e).2=true):bE key=true:=by
 unfold aW at h
 cases hb: !aT log||(!bE key|| !(fI e (gV [aD log,key]) 0 (aB log)).2) with
 |true=>rw[hb] at h;cases h
 |false=>
  simp only[Bool.or_eq_false_iff,Bool.not_eq_false'] at hb
  exact hb.2.1
theorem bDv {c:D.aAB}{log:List D.aAA}{e:D.aAG}(h:(iP c log e).2=true):iP c log e=({c with Log:=log,Boxes:=e},true):=by
 unfold iP at h ⊢
 cases hb: !aT log||(!cO log c.Log|| !iA e log) with
 |true=>rw[hb] at h;cases h
 |false=>rfl
theorem aVj {w:D.World}{b k p:Int}{key:List D.aAA→Int}{l:List D.aAA}(hl:l=w.aAB.Log++[zI w.aAB.Log k p (aF w b).Store])(h:(gJ w b k p key).2=true):
  ∃bx,gJ w b k p key=({w with aAB:={w.aAB with Log:=l,Boxes:=bx}},true)∧aT l=true∧bE (key l)=true∧((∀q∈aB l,bE q=true)→BoxIn l bx (key l))∧(dD w.aAB.Log k p (aF w b).Store).1=l:=by
 have h0:(dD w.aAB.Log k p (aF w b).Store).2=true∧(aW (dD w.aAB.Log k p (aF w b).Store).1 (key (dD w.aAB.Log k p (aF w b).Store).1) (IntKind.i64.wrap (1000+IntKind.i64.wrap (10*((dD w.aAB.Log k p (aF w b).Store).1.length:Int))))).2=true∧(iP w.aAB (dD w.aAB.Log k p (aF w b).Store).1 (aW (dD w.aAB.Log k p (aF w b).Store).1 (key (dD w.aAB.Log k p (aF w b).Store).1) (IntKind.i64.wrap (1000+IntKind.i64.wrap (10*((dD w.aAB.Log k p (aF w b).Store).1.length:Int))))).1).2=true:=by
  unfold gJ at h
  dsimp only at h
  cases hb:(dD w.aAB.Log k p (aF w b).Store).2&&((aW (dD w.aAB.Log k p (aF w b).Store).1 (key (dD w.aAB.Log k p (aF w b).Store).1) (IntKind.i64.wrap (1000+IntKind.i64.wrap (10*((dD w.aAB.Log k p (aF w b).Store).1.length:Int))))).2&&(iP w.aAB (dD w.aAB.Log k p (aF w b).Store).1 (aW (dD w.aAB.Log k p (aF w b).Store).1 (key (dD w.aAB.Log k p (aF w b).Store).1) (IntKind.i64.wrap (1000+IntKind.i64.wrap (10*((dD w.aAB.Log k p (aF w b).Store).1.length:Int))))).1).2) with
  |false=>rw[hb] at h;cases h
  |true=>simpa[Bool.and_eq_true] using hb
 obtain⟨h1,h2,h3⟩:=h0
 obtain⟨e1,e2⟩:=bBp h1
 rw[e1,←hl] at h2 h3
 rw[←hl] at e1 e2
 have e3:=bDv h3
 have hlen:l.length≤40:=by
  have:=e2
  unfold aT at this
  rw[Bool.and_eq_true] at this
  have:=gW this.1;omega
 refine⟨(aW l (key l) (IntKind.i64.wrap (1000+IntKind.i64.wrap (10*(l.length:Int))))).1,?_,e2,aQ4 h2,fun hq=> ?_,by rw[e1]⟩
 rotate_left
 ·have hw:IntKind.i64.wrap (1000+IntKind.i64.wrap (10*(l.length:Int)))=1000+10*(l.length:Int):=by
   rw[aK (show-9223372036854775808≤10*(l.length:Int) by omega) (by omega)]
   exact aK (by omega) (by omega)
  exact(bBo (eph:=IntKind.i64.wrap (1000+IntKind.i64.wrap (10*(l.length:Int)))) e2 (aQ4 h2) hq (by have:=aGb l;omega) (by rw[hw];omega)).2
 ·unfold gJ
  simp only[e1]
  rw[h2,e3];rfl
end Go.VK

set_option maxRecDepth 100000
namespace Go.VK
structure KeyD (S:List (Int×Int)):Prop where
 ks:KeyS S
 dv:∀q:Nat,q<6→(bB (aA 0),(q:Int))∈S∧(bB (aA 1),(q:Int))∈S
section
variable {S:List (Int×Int)} {t m:Nat} {w:D.World} {K v:Int} {r:List D.aAC} {b:D.aAE}
theorem Net.keys (h:Net S t m w K v r b):∀q∈aB w.aAB.Log,bE q=true:=fun q hq=>by
 obtain⟨k,_,rfl⟩:=h.devs q hq
 exact Yq _ _
theorem fJ {w:D.World}{c:Int}(h:cB w c=true):aQ w c=true:=by
 unfold cB at h;rw[Bool.and_eq_true] at h;exact h.1
theorem Net.inl (h:Net S t m w K v r b){c:Int}(hc:((aV w c 0).2==0)=true):cB w c=true:=by
 cases hl:cB w c with
 |true=>rfl
 |false=>rw[h.aCN hl 0] at hc;cases hc
def oW (w:D.World)(c:Int):List D.aAA:=w.aAB.Log++[zI w.aAB.Log 1 (iZ w.Seed w.Devices.length) (aF w c).Store]
theorem aN3 {w:D.World}{c:Int}(hl:aT (oW w c)=true):
  aB (oW w c)=aB w.aAB.Log++[iZ w.Seed w.Devices.length]∧(∀p,dM (oW w c) p=dM w.aAB.Log p)∧aD (oW w c)=aD w.aAB.Log:=by
 obtain⟨h1,_,_⟩:=aQ2 hl
 have hk:(zI w.aAB.Log 1 (iZ w.Seed w.Devices.length) (aF w c).Store).Kind=1:=rfl
 have hd:(zI w.aAB.Log 1 (iZ w.Seed w.Devices.length) (aF w c).Store).Device=iZ w.Seed w.Devices.length:=rfl
 unfold iT at h1
 simp only[Bool.and_eq_true,hk,hd] at h1
 obtain⟨_,_,_,_,h1⟩:=h1
 simp only[show((1:Int)==2)=false from rfl,cond_false,Bool.and_eq_true,Bool.not_eq_true'] at h1
 have hno:gP (aB w.aAB.Log) (iZ w.Seed w.Devices.length)=false:=h1.2.2.1
 refine⟨?_,fun p=> ?_,?_⟩
 ·unfold oW
  rw[Yp]
  unfold gZ
  rw[hk,hd]
  have hc:(aB w.aAB.Log).contains (iZ w.Seed w.Devices.length)=false:=by
   rw[Bool.eq_false_iff] at hno ⊢
   intro hc;exact hno (iF.2 (by simpa using hc))
  rw[hc];rfl
 ·unfold oW;rw[Dy,hk,hd];simp
 ·unfold oW;rw[Dx,hk];rfl
theorem Net.aAW (h:Net S t w.Devices.length w K v r b)(hS:KeyD S)(ht:t≤900000){c:Int}(h0:((aV w c 0).2==0)=true)(h1:(add1 w c).2=true)(hn:w.Devices.length<6):
  Net S (t+2) (w.Devices.length+1) (VK.aAW w c) K v r b∧(VK.aAW w c).Devices=w.Devices.set c.toNat (jZ (kE w K v b (aF w c)) (w.Devices.length:Int) false)∧(VK.aAW w c).aAB.Log=oW w c∧(VK.aAW w c).Seed=w.Seed:=by
 have hin:=h.inl h0
 have hhas:=fJ hin
 obtain⟨hl,e⟩:=gN hhas
 have hs:=h.aCA hS.ks ht hin
 have hD:=h.dev _ hl
 rw[←e] at hD
 have hat:aF (aV w c 0).1 c=kE w K v b (aF w c):=by
  rw[hs]
  unfold aF
  show(w.Devices.set c.toNat _).getD c.toNat default=_
  rw[List.getD,List.getElem?_set_self hl];rfl
 obtain⟨bx,e1,e2,e3,e4,_⟩:=aVj (w:=(aV w c 0).1) (b:=c) (k:=1) (p:=aN (aL w.Seed (w.Devices.length:Int))) (key:=fun _=>(aF (aV w c 0).1 c).Key) (l:=oW w c) (by rw[hat,hs];rfl) h1
 obtain⟨g1,g2,g3⟩:=aN3 e2
 have e1:add1 w c=({(aV w c 0).1 with aAB:={(aV w c 0).1.aAB with Log:=oW w c,Boxes:=bx}},true):=e1
 have e4:(∀q∈aB (oW w c),bE q=true)→BoxIn (oW w c) bx (aF (aV w c 0).1 c).Key:=e4
 rw[hat] at e4
 have hbox:=e4 fun q hq=>by
  rw[g1] at hq
  rcases List.mem_append.1 hq with hq|hq
  ·exact h.keys q hq
  ·rw[List.mem_singleton.1 hq];exact Yq _ _
 have ed:(VK.aAW w c).Devices=w.Devices.set c.toNat (jZ (kE w K v b (aF w c)) (w.Devices.length:Int) false):=by
  show(add1 w c).1.Devices.set c.toNat (jZ (aF (add1 w c).1 c) (w.Devices.length:Int) false)=_
  have:aF (add1 w c).1 c=kE w K v b (aF w c):=by rw[e1];exact hat
  rw[this,e1]
  show(aV w c 0).1.Devices.set _ _=_
  rw[hs];exact List.set_set _
 have ec:(VK.aAW w c).aAB={w.aAB with Log:=oW w c,Boxes:=bx}:=by
  show(add1 w c).1.aAB=_
  rw[e1]
  show({(aV w c 0).1.aAB with Log:=oW w c,Boxes:=bx}:D.aAB)=_
  rw[hs]
 obtain⟨w1,w2,w3⟩:=h.wi.aDH hn hhas
 have hx:ChgIn S ((t:Int)+2) (kE w K v b (aF w c)) (jZ (kE w K v b (aF w c)) (w.Devices.length:Int) false):=bBm hS.ks (by omega) (hD.bun.merge h.bun) (hS.dv _ hn).1 (hS.dv _ hn).2 false
 have hv:=h.ver
 refine⟨⟨w1,by rw[ec];exact hbox,fun p hp=> ?_,fun p hp=> ?_,?_,fun s hs=> ?_,h.bun.mono (by omega),by omega,?_⟩,ed,by rw[ec],w2⟩
 ·rw[ec] at hp
  rw[w2]
  have hp:p∈aB (oW w c):=hp
  rw[g1] at hp
  rcases List.mem_append.1 hp with hp|hp
  ·obtain⟨k,hk,e⟩:=h.devs p hp;exact⟨k,by omega,e⟩
  ·exact⟨_,Nat.lt_succ_self _,List.mem_singleton.1 hp⟩
 ·rw[ec] at hp
  rw[w2]
  have hp:dM (oW w c) p=true:=hp
  rw[g2] at hp
  obtain⟨k,hk,e⟩:=h.rem p hp;exact⟨k,by omega,e⟩
 ·rw[ec]
  show w.aAB.History=r++[eU K (aD (oW w c)) v b]
  rw[g3];exact h.hist
 ·rw[ec]
  show Hs S _ K (aD (oW w c)) v s
  rw[g3];exact(h.old s hs).mono (by omega) (Int.le_refl _)
 ·rw[ec]
  show ∀k (hk:k<(VK.aAW w c).Devices.length),Dv S _ (oW w c) K (aD (oW w c)) v (VK.aAW w c).Devices[k]
  rw[g3]
  have:∀k (hk:k<(w.Devices.set c.toNat (jZ (kE w K v b (aF w c)) (w.Devices.length:Int) false)).length),Dv S ((t+2:Nat):Int) (oW w c) K (aD w.aAB.Log) v (w.Devices.set c.toNat (jZ (kE w K v b (aF w c)) (w.Devices.length:Int) false))[k]:=fun k hk=>by
   rw[List.getElem_set]
   rw[List.length_set] at hk
   split
   ·refine⟨⟨[zI w.aAB.Log 1 (iZ w.Seed w.Devices.length) (aF w c).Store],?_⟩, .inr ⟨?_,?_⟩,fun _=> ?_,hx.bun.mono (by omega)⟩
    ·rw[hx.log];rfl
    ·rw[hx.ep];rfl
    ·rw[hx.ver];exact Int.le_refl _
    ·rw[hx.key];rfl
   ·have q:=(h.dev k hk).mono (U:=((t+2:Nat):Int)) (by omega) (Int.le_refl v)
    obtain⟨r',hr⟩:=q.pre
    exact⟨⟨r'++[zI w.aAB.Log 1 (iZ w.Seed w.Devices.length) (aF w c).Store],by unfold oW;rw[←List.append_assoc,←hr]⟩,q.at_,q.key,q.bun⟩
  rw[←ed] at this
  exact this
def bGt (U:D.World)(K v:Int)(B:D.aAE)(n:Nat):D.Device:=⟨aL U.Seed (n:Int),U.aAB.Log,K,aD U.aAB.Log,v,⟨bJ [] B.Entries⟩⟩
def aX1 (U:D.World)(K v:Int)(B:D.aAE):D.World:={U with Devices:=U.Devices++[bGt U K v B U.Devices.length],Stolen:=U.Stolen++[false]}
theorem Net.app (h:Net S t (w.Devices.length+1) w K v r b)(hS:KeyS S)(ht:t≤900000)(hn:w.Devices.length<6)(hin:iZ w.Seed w.Devices.length∈aB w.aAB.Log):
  aV (appW w (bG (aL w.Seed (w.Devices.length:Int)))) (w.Devices.length:Int) 0=(aX1 w K v b,0)∧Net S t (w.Devices.length+1) (aX1 w K v b) K v r b:=by
 have hv:=h.ver
 have hep:=h.bx.eps
 have hwi:=h.wi.app hn
 have hs:=h.aBM hS ht (d:=bG (aL w.Seed (w.Devices.length:Int))) ⟨w.aAB.Log,rfl⟩ (by
  show(0:Int)<_∨((0:Int)=_∧(0:Int)≤v);omega) (BunIn.nil S _) hin
 have hhas:aQ (appW w (bG (aL w.Seed (w.Devices.length:Int)))) (w.Devices.length:Int)=true:=by
  unfold aQ appW
  simp;omega
 have hat:aF (appW w (bG (aL w.Seed (w.Devices.length:Int)))) (w.Devices.length:Int)=bG (aL w.Seed (w.Devices.length:Int)):=by
  unfold aF appW;simp
 have hset:∀x,(w.Devices++[bG (aL w.Seed (w.Devices.length:Int))]).set w.Devices.length x=w.Devices++[x]:=fun x=>by
  rw[List.set_append_right _ _ (Nat.le_refl _)];simp
 have he:aV (appW w (bG (aL w.Seed (w.Devices.length:Int)))) (w.Devices.length:Int) 0=(aX1 w K v b,0):=by
  unfold aV
  rw[hwi.ok,hhas,hat]
  show(({appW w (bG (aL w.Seed (w.Devices.length:Int))) with Devices:=(w.Devices++[bG (aL w.Seed (w.Devices.length:Int))]).set ((w.Devices.length:Int)).toNat (cK (bG (aL w.Seed (w.Devices.length:Int))) w.aAB.Log w.aAB.Boxes (fG w.aAB 0).1).1}:D.World),(cK (bG (aL w.Seed (w.Devices.length:Int))) w.aAB.Log w.aAB.Boxes (fG w.aAB 0).1).2)=_
  rw[hs,Int.toNat_natCast,hset];rfl
 have hw2:=hwi.sync (w.Devices.length:Int) 0
 rw[he] at hw2
 refine⟨he,⟨hw2,h.bx,h.devs,h.rem,h.hist,h.old,h.bun,h.ver,fun k hk=> ?_⟩⟩
 have hk':k<(w.Devices++[bGt w K v b w.Devices.length]).length:=hk
 show Dv S _ w.aAB.Log K (aD w.aAB.Log) v ((w.Devices++[bGt w K v b w.Devices.length])[k]'hk')
 rw[List.getElem_append]
 split
 ·rename_i hk1;exact h.dev k hk1
 ·rw[List.getElem_singleton]
  exact⟨⟨[],by show w.aAB.Log=w.aAB.Log++[];simp⟩, .inr ⟨rfl,Int.le_refl _⟩,fun _=>rfl,(BunIn.nil S _).merge h.bun⟩
theorem Net.tell (h:Net S t m w K v r b)(k:Int):Net S t m (mO w k) K v r b:=h.upd rfl rfl rfl (h.wi.tell k) h.dev
def Jw (w:D.World)(K v:Int)(b:D.aAE)(c:Int):D.World:=VK.aCF (VK.aAW w c) K v b c
def aTb (w:D.World)(K v:Int)(b:D.aAE)(c:Int):D.aAE:=⟨bJ (jZ (kE w K v b (aF w c)) (w.Devices.length:Int) false).aAE.Entries b.Entries⟩
theorem Net.add (h:Net S t w.Devices.length w K v r b)(hS:KeyD S)(ht:t≤800000)(hr:r.length≤58){c:Int}(hok:Yk w c=true):
  Net S (t+3) (w.Devices.length+1) (Jw w K v b c) K (v+1) (r++[eU K (aD w.aAB.Log) v b]) (aTb w K v b c)∧(Jw w K v b c).Devices.length=w.Devices.length∧(Jw w K v b c).Seed=w.Seed∧
  Net S (t+3) (w.Devices.length+1) (iW w c).1 K (v+1) (r++[eU K (aD w.aAB.Log) v b]) (aTb w K v b c)∧(iW w c).1=mO (aX1 (Jw w K v b c) K (v+1) (aTb w K v b c)) 2∧(Jw w K v b c).aAB.Log=oW w c∧cB w c=true∧
  (Jw w K v b c).Devices=w.Devices.set c.toNat (aF9 (VK.aAW w c) K v b (jZ (kE w K v b (aF w c)) (w.Devices.length:Int) false)):=by
 have hok':=hok
 unfold Yk at hok
 simp only[Bool.and_eq_true,Bool.not_eq_true',decide_eq_false_iff_not] at hok
 obtain⟨⟨k1,k2,k3,k4⟩,k5,k6,k7,k8,k9⟩:=hok
 have hn:w.Devices.length<6:=by omega
 obtain⟨n1,n2,n3,n4⟩:=h.aAW hS (by omega) k5 k6 hn
 have hin:=h.inl k5
 obtain⟨hl,e⟩:=gN (fJ hin)
 have n5:(VK.aAW w c).Devices.length=w.Devices.length:=by rw[n2,List.length_set]
 have hl2:c.toNat<(VK.aAW w c).Devices.length:=by rw[n5];exact hl
 have hlog:aT (oW w c)=true:=by rw[←n3];exact n1.wi.log
 obtain⟨g1,g2,g3⟩:=aN3 hlog
 have hhas2:aQ (VK.aAW w c) c=true:=Sw (fJ hin) n5
 have hin2:cB (VK.aAW w c) c=true:=by
  rw[n1.aDR hhas2,n3,n4,g1,iF]
  rw[h.aDR (fJ hin),iF] at hin
  exact List.mem_append_left _ hin
 have hat:aF (VK.aAW w c) c=jZ (kE w K v b (aF w c)) (w.Devices.length:Int) false:=by
  unfold aF
  rw[n2,List.getD,List.getElem?_set_self hl];rfl
 have hp:=n1.aCJ hS.ks (by omega) hr hin2
 have hN:=n1.aCF hS.ks (by omega) hr hin2
 rw[hat,n3,g3] at hN
 have e3:aFo w c=(Jw w K v b c,true):=hp
 have u1:(Jw w K v b c).Devices.length=w.Devices.length:=by
  show((VK.aAW w c).Devices.set _ _).length=_
  rw[List.length_set,n5]
 have u2:(Jw w K v b c).Seed=w.Seed:=n4
 have u3:(Jw w K v b c).aAB.Log=oW w c:=n3
 have u4:(Jw w K v b c).Devices=w.Devices.set c.toNat (aF9 (VK.aAW w c) K v b (jZ (kE w K v b (aF w c)) (w.Devices.length:Int) false)):=by
  show(VK.aAW w c).Devices.set c.toNat (aF9 (VK.aAW w c) K v b (aF (VK.aAW w c) c))=_
  rw[hat,n2,List.set_set]
 have hN:Net S (t+3) (w.Devices.length+1) (Jw w K v b c) K (v+1) (r++[eU K (aD w.aAB.Log) v b]) (aTb w K v b c):=hN
 have hN':=hN
 rw[←u1] at hN'
 obtain⟨s1,s2⟩:=hN'.app hS.ks (by omega) (by omega) (by rw[u1,u2,u3,g1];simp)
 have e4:aQf w c=(aX1 (Jw w K v b c) K (v+1) (aTb w K v b c),0):=by
  unfold aQf
  rw[e3,←u2,←u1];exact s1
 have eA:(iW w c).1=mO (aX1 (Jw w K v b c) K (v+1) (aTb w K v b c)) 2:=by
  unfold iW
  rw[hok',cond_true,e4]
 rw[u1] at s2
 exact⟨hN,u1,u2,by rw[eA];exact s2.tell 2,eA,u3,hin,u4⟩
end
end Go.VK

set_option maxRecDepth 100000
namespace Go.VK
def eG (w:D.World)(c x:Int):List D.aAA:=w.aAB.Log++[zI w.aAB.Log 2 (aN (aF w x).Store) (aF w c).Store]
def Gn (w:D.World)(c x:Int):Int:=iX (aF w c).Store (eG w c x)
theorem Yu {w:D.World}{c x:Int}(hl:aT (eG w c x)=true):
  aB (eG w c x)=(aB w.aAB.Log).filter (fun d=>d !=aN (aF w x).Store)∧(∀p,dM (eG w c x) p=(dM w.aAB.Log p||aN (aF w x).Store==p))∧aD (eG w c x)=aD w.aAB.Log+1:=by
 obtain⟨_,_,h1⟩:=aQ2 hl
 have hk:(zI w.aAB.Log 2 (aN (aF w x).Store) (aF w c).Store).Kind=2:=rfl
 have hd:(zI w.aAB.Log 2 (aN (aF w x).Store) (aF w c).Store).Device=aN (aF w x).Store:=rfl
 refine⟨?_,fun p=> ?_,?_⟩
 ·unfold eG;rw[Yp];unfold gZ;rw[hk,hd];rfl
 ·unfold eG;rw[Dy,hk,hd];rfl
 ·unfold eG;exact bBn _ _ (by omega) hk
theorem bDw {d:D.Device}{log:List D.aAA}{key:Int}(h:(kD d log key).2=true):(kD d log key).1={d with Log:=log,Key:=key,Epoch:=aD log,Version:=0}:=by
 unfold kD at h ⊢
 cases hb: !aT log||(!cO log d.Log||(decide (aD log<d.Epoch)|| !bE key)) with
 |true=>rw[hb] at h;cases h
 |false=>rfl
section
variable {S:List (Int×Int)} {t m:Nat} {w:D.World} {K v:Int} {r:List D.aAC} {b:D.aAE}
def sM (w:D.World)(K v:Int)(b:D.aAE)(c x:Int):D.Device:=jZ {kE w K v b (aF w c) with Log:=eG w c x,Key:=Gn w c x,Epoch:=aD (eG w c x),Version:=0} x true
def aGc (w:D.World)(K v:Int)(b:D.aAE)(bx:D.aAG)(c x:Int):D.World:=
 {w with Devices:=w.Devices.set c.toNat {sM w K v b c x with Version:=1},Sites:=w.Sites.map (eH x),aAB:=⟨eG w c x,bx,w.aAB.History++[eU (Gn w c x) (aD (eG w c x)) 1 (sM w K v b c x).aAE]⟩}
theorem aTc {w:D.World}{c x:Int}(h:(dJ w c x).2=false):dJ w c x=(w,false):=by
 unfold dJ at h ⊢
 cases hq:(aV w c 0).2==0&&(!bM w c&&(!(c==x)&&cB w x)) with
 |false=>rfl
 |true=>
  rw[hq] at h
  rw[cond_true] at h ⊢
  unfold mE at h ⊢
  cases hb:(kI w c x).2&&((zJ w c x).2&&(Dk w c x).2) with
  |false=>rfl
  |true=>rw[hb] at h;cases h
theorem aN4 {w:D.World}{c x:Int}(h:(dJ w c x).2=true):((aV w c 0).2==0)=true∧bM w c=false∧(c==x)=false∧cB w x=true∧(kI w c x).2=true∧(zJ w c x).2=true∧(Dk w c x).2=true∧dJ w c x=(mO (Dk w c x).1 4,true):=by
 unfold dJ at h ⊢
 cases hq:(aV w c 0).2==0&&(!bM w c&&(!(c==x)&&cB w x)) with
 |false=>rw[hq] at h;cases h
 |true=>
  rw[hq] at h
  rw[cond_true] at h ⊢
  unfold mE at h ⊢
  cases hb:(kI w c x).2&&((zJ w c x).2&&(Dk w c x).2) with
  |false=>rw[hb] at h;cases h
  |true=>
   simp only[Bool.and_eq_true,Bool.not_eq_true'] at hq hb
   exact⟨hq.1,hq.2.1,hq.2.2.1,hq.2.2.2,hb.1,hb.2.1,hb.2.2,rfl⟩
theorem Net.cutAt (h:Net S t m w K v r b)(hS:KeyD S)(ht:t≤900000){c:Int}(hin:cB w c=true):aV w c 0=({w with Devices:=w.Devices.set c.toNat (kE w K v b (aF w c))},0)∧aF (fK w c) c=kE w K v b (aF w c):=by
 have hs:=h.aCA hS.ks ht hin
 obtain⟨hl,e⟩:=gN (fJ hin)
 refine⟨hs,?_⟩
 unfold fK
 rw[hs]
 unfold aF
 show(w.Devices.set c.toNat _).getD c.toNat default=_
 rw[List.getD,List.getElem?_set_self hl];rfl
theorem Net.aDT (h:Net S t m w K v r b)(hS:KeyD S){T:Int}(hT:0≤T∧T≤900000)(ht:(t:Int)≤T){c x:Int}(hin:cB w c=true)(hx:cB w x=true):
  ChgIn S (T+2) {kE w K v b (aF w c) with Log:=eG w c x,Key:=Gn w c x,Epoch:=aD (eG w c x),Version:=0} (sM w K v b c x):=by
 obtain⟨hl,e⟩:=gN (fJ hin)
 obtain⟨hl2,e2⟩:=gN (fJ hx)
 have hD:=h.dev _ hl
 rw[←e] at hD
 obtain⟨x0,_,_⟩:=nL (fJ hx)
 have hd:=h.wi.dlen
 have hk:=hS.dv x.toNat (by omega)
 rw[Int.toNat_of_nonneg x0] at hk
 exact bBm hS.ks (by omega) ((hD.bun.merge h.bun).mono (by omega)) hk.1 hk.2 true
theorem Net.aDL (h:Net S t m w K v r b)(hS:KeyD S)(ht:t≤800000)(hr:r.length≤58){c x:Int}(hin:cB w c=true)(k2:bM w c=false)(k3:(c==x)=false)(k4:cB w x=true)(k5:(kI w c x).2=true)(k6:(zJ w c x).2=true):
  ∃bx,dJ w c x=(mO (aGc w K v b bx c x) 4,true)∧Net S (t+3) m (mO (aGc w K v b bx c x) 4) (Gn w c x) 1 (r++[eU K (aD w.aAB.Log) v b]) (sM w K v b c x).aAE:=by
 obtain⟨hl,e⟩:=gN (fJ hin)
 obtain⟨hl2,e2⟩:=gN (fJ k4)
 obtain⟨hs,hat⟩:=h.cutAt hS (by omega) hin
 have hco:fK w c={w with Devices:=w.Devices.set c.toNat (kE w K v b (aF w c))}:=by unfold fK;rw[hs]
 obtain⟨bx,e1,e3,e4,e5,e6⟩:=aVj (w:=fK w c) (b:=c) (k:=2) (p:=aN (aF w x).Store) (key:=iX (aF (fK w c) c).Store) (l:=eG w c x) (by rw[hat,hco];rfl) k5
 obtain⟨g1,g2,g3⟩:=Yu e3
 have hsub:∀q∈aB (eG w c x),q∈aB w.aAB.Log:=fun q hq=>by
  rw[g1] at hq;exact(List.mem_filter.1 hq).1
 have hbox:BoxIn (eG w c x) bx (Gn w c x):=by
  have:=e5 fun q hq=>h.keys q (hsub q hq)
  rw[hat] at this;exact this
 have hcl:Js w c x=eG w c x:=e6
 have h2:(zJ w c x).1={kE w K v b (aF w c) with Log:=eG w c x,Key:=Gn w c x,Epoch:=aD (eG w c x),Version:=0}:=by
  have:=bDw k6
  unfold zJ
  rw[this,hcl,hat];rfl
 have hE:=h.aDT hS (T:=(t:Int)) (by omega) (Int.le_refl _) hin k4
 have hep:=hbox.eps
 have hv:=h.ver
 have hw:dF (sM w K v b c x)=({sM w K v b c x with Version:=1},eU (Gn w c x) (aD (eG w c x)) 1 (sM w K v b c x).aAE,true):=by
  have:=aQ1 (d:=sM w K v b c x) hS.ks (T:=(t:Int)+2) (by omega) (by rw[hE.key];exact hbox.kok) (by rw[hE.ep];exact(show 0≤aD (eG w c x)∧aD (eG w c x)≤1000000 by omega)) (by rw[hE.ver];exact(show-1≤(0:Int)∧(0:Int)<1000000 by omega)) hE.bun
  have f1:(sM w K v b c x).Key=Gn w c x:=hE.key
  have f2:(sM w K v b c x).Epoch=aD (eG w c x):=hE.ep
  have f3:(sM w K v b c x).Version+1=1:=by rw[show(sM w K v b c x).Version=0 from hE.ver];rfl
  refine this.trans ?_
  rw[f3,←f1,←f2]
 have hup:cZ {w.aAB with Log:=eG w c x,Boxes:=bx} (eU (Gn w c x) (aD (eG w c x)) 1 (sM w K v b c x).aAE)=({w.aAB with Log:=eG w c x,Boxes:=bx,History:=w.aAB.History++[eU (Gn w c x) (aD (eG w c x)) 1 (sM w K v b c x).aAE]},true):=by
  refine aMf rfl ?_ fun l hl=> ?_
  ·show w.aAB.History.length<60
   rw[h.hist];simp;omega
  ·have hl:w.aAB.History.getLast? =some l:=hl
   rw[h.hist,List.getLast?_append] at hl
   have hl:eU K (aD w.aAB.Log) v b=l:=by simpa using hl
   subst hl
   unfold sJ
   show(decide (aD (eG w c x)>aD w.aAB.Log)||_)=true
   rw[decide_eq_true (by omega)];rfl
 have hcW:Ot w c x={w with Devices:=w.Devices.set c.toNat (sM w K v b c x),Sites:=w.Sites.map (eH x),aAB:={w.aAB with Log:=eG w c x,Boxes:=bx}}:=by
  unfold Ot
  rw[h2]
  have e1:kI w c x=({fK w c with aAB:={(fK w c).aAB with Log:=eG w c x,Boxes:=bx}},true):=e1
  rw[e1,hco]
  show(D.World.mk _ _ ((w.Devices.set c.toNat _).set c.toNat _) _ _ _ _ _ _ _)=_
  rw[List.set_set];rfl
 have h3:Dk w c x=(aGc w K v b bx c x,true):=by
  unfold Dk O1
  have:aF (Ot w c x) c=sM w K v b c x:=by
   rw[hcW];unfold aF
   show(w.Devices.set c.toNat _).getD c.toNat default=_
   rw[List.getD,List.getElem?_set_self hl];rfl
  rw[this,hw,hcW]
  show(bif true&&(cZ {w.aAB with Log:=eG w c x,Boxes:=bx} _).2 then(({w with Devices:=(w.Devices.set c.toNat _).set c.toNat _,Sites:=_,aAB:=(cZ {w.aAB with Log:=eG w c x,Boxes:=bx} _).1}:D.World),true) else _)=_
  rw[hup,List.set_set];rfl
 have hF:dJ w c x=(mO (aGc w K v b bx c x) 4,true):=by
  unfold dJ mE
  rw[show((aV w c 0).2==0)=true by rw[hs];rfl,k2,k3,k4,k5,k6,h3];rfl
 have hwi:=(h.wi.cut c x).1
 rw[hF] at hwi
 refine⟨bx,hF,hwi,hbox,fun p hp=>h.devs p (hsub p hp),fun p hp=> ?_,?_,fun s hs=> ?_,hE.bun.mono (by omega),by omega,?_⟩
 ·have hp:dM (eG w c x) p=true:=hp
  rw[g2,Bool.or_eq_true] at hp
  rcases hp with hp|hp
  ·exact h.rem p hp
  ·rw[←eq_of_beq hp]
   have:=(h.aDR (fJ k4)).symm.trans k4
   rw[iF] at this
   rw[e2,h.pub hl2]
   exact h.devs _ this
 ·show w.aAB.History++[_]=_
  rw[h.hist];rfl
 ·have hle:s.Epoch≤aD w.aAB.Log:=by
   rcases List.mem_append.1 hs with hs|hs
   ·exact(h.old s hs).low
   ·rw[List.mem_singleton.1 hs];exact Int.le_refl _
  refine⟨?_,fun he=> ?_⟩
  ·show s.Epoch≤aD (eG w c x);omega
  ·have he:s.Epoch=aD (eG w c x):=he
   omega
 ·have:∀k (hk:k<(w.Devices.set c.toNat {sM w K v b c x with Version:=1}).length),Dv S ((t+3:Nat):Int) (eG w c x) (Gn w c x) (aD (eG w c x)) 1 (w.Devices.set c.toNat {sM w K v b c x with Version:=1})[k]:=fun k hk=>by
   rw[List.getElem_set]
   rw[List.length_set] at hk
   split
   ·exact⟨⟨[],by show eG w c x=(sM w K v b c x).Log++[];rw[hE.log];simp⟩, .inr ⟨hE.ep,Int.le_refl 1⟩,fun _=>hE.key,hE.bun.mono (by omega)⟩
   ·have q:=h.dev k hk
    obtain⟨r',hr⟩:=q.pre
    have hlt:w.Devices[k].Epoch<aD (eG w c x):=by
     rcases q.at_ with q|q<;>omega
    exact⟨⟨r'++[zI w.aAB.Log 2 (aN (aF w x).Store) (aF w c).Store],by unfold eG;rw[←List.append_assoc,←hr]⟩, .inl hlt,fun he=>by omega,q.bun.mono (by omega)⟩
  exact this
theorem Net.cut (h:Net S t m w K v r b)(hS:KeyD S)(ht:t≤800000)(hr:r.length≤58){c x:Int}(hok:(dJ w c x).2=true):
  ∃bx,dJ w c x=(mO (aGc w K v b bx c x) 4,true)∧Net S (t+3) m (mO (aGc w K v b bx c x) 4) (Gn w c x) 1 (r++[eU K (aD w.aAB.Log) v b]) (sM w K v b c x).aAE:=by
 obtain⟨k1,k2,k3,k4,k5,k6,k7,k8⟩:=aN4 hok
 exact h.aDL hS ht hr (h.inl k1) k2 k3 k4 k5 k6
theorem Net.aDM (h:Net S t m w K v r b)(hS:KeyD S)(ht:t≤800000)(hr:r.length≤58){c x:Int}(hin:cB w c=true)(k2:bM w c=false)(k3:(c==x)=false)(k4:cB w x=true)(hlog:w.aAB.Log.length<40):(dJ w c x).2=true:=by
 obtain⟨hl,e⟩:=gN (fJ hin)
 obtain⟨hl2,e2⟩:=gN (fJ k4)
 obtain⟨c0,_,_⟩:=nL (fJ hin)
 obtain⟨x0,_,_⟩:=nL (fJ k4)
 obtain⟨hs,hat⟩:=h.cutAt hS (by omega) hin
 have hco:fK w c={w with Devices:=w.Devices.set c.toNat (kE w K v b (aF w c))}:=by unfold fK;rw[hs]
 have hcp:=h.pub hl
 have hxp:=h.pub hl2
 rw[←e] at hcp
 rw[←e2] at hxp
 have mc:aN (aF w c).Store∈aB w.aAB.Log:=by
  unfold cB at hin;rw[Bool.and_eq_true] at hin;exact iF.1 hin.2
 have mx:aN (aF w x).Store∈aB w.aAB.Log:=by
  unfold cB at k4;rw[Bool.and_eq_true] at k4;exact iF.1 k4.2
 have hd:=h.wi.dlen
 have hne:aN (aF w c).Store≠aN (aF w x).Store:=by
  rw[hcp,hxp]
  exact Oh (by omega) (by omega) (fun q=>by
   have:c=x:=by omega
   rw[this,beq_self_eq_true] at k3;cases k3)
 have h2:1<(aB w.aAB.Log).length:=by
  obtain⟨i,hi,ei⟩:=List.mem_iff_getElem.1 mc
  obtain⟨j,hj,ej⟩:=List.mem_iff_getElem.1 mx
  have:i≠j:=fun q=>by subst q;exact hne (ei.symm.trans ej)
  omega
 have hst:iT w.aAB.Log (zI w.aAB.Log 2 (aN (aF w x).Store) (aF w c).Store)=true:=by
  unfold iT
  have hv:fA (aN (aF w c).Store) [bN (aFn w.aAB.Log 2 (aN (aF w x).Store) (aF w c).Store)] (kQ (aF w c).Store [bN (aFn w.aAB.Log 2 (aN (aF w x).Store) (aF w c).Store)])=true:=by
   unfold kQ aN;exact aF1 (Dz _) _
  show((w.aAB.Log.length:Int)==(w.aAB.Log.length:Int)&&(fH w.aAB.Log==fH w.aAB.Log&&((gP (aB w.aAB.Log) (aN (aF w c).Store)||((w.aAB.Log.length:Int)==0&&aN (aF w c).Store==aN (aF w x).Store))&&(fA (aN (aF w c).Store) [bN (aFn w.aAB.Log 2 (aN (aF w x).Store) (aF w c).Store)] (kQ (aF w c).Store [bN (aFn w.aAB.Log 2 (aN (aF w x).Store) (aF w c).Store)])&&
   (gP (aB w.aAB.Log) (aN (aF w x).Store)&&decide (((aB w.aAB.Log).length:Int)>1))))))=true
  rw[hv,iF.2 mc,iF.2 mx,decide_eq_true (show((aB w.aAB.Log).length:Int)>1 by omega)]
  simp
 have hL:aT (eG w c x)=true:=aQq (.inr h.wi.log) hst hlog
 obtain⟨g1,g2,g3⟩:=Yu hL
 have hkeys:∀q∈aB (eG w c x),bE q=true:=fun q hq=>by
  rw[g1] at hq;exact h.keys q (List.mem_filter.1 hq).1
 have hkk:bE (Gn w c x)=true:=by unfold Gn iX bP;exact eZ _ _
 have hlen:(eG w c x).length≤40:=by unfold eG;rw[List.length_append,List.length_singleton];omega
 have hw:IntKind.i64.wrap (1000+IntKind.i64.wrap (10*((eG w c x).length:Int)))=1000+10*((eG w c x).length:Int):=by
  rw[aK (show-9223372036854775808≤10*((eG w c x).length:Int) by omega) (by omega)]
  exact aK (by omega) (by omega)
 obtain⟨b1,b2⟩:=bBo (eph:=IntKind.i64.wrap (1000+IntKind.i64.wrap (10*((eG w c x).length:Int)))) hL hkk hkeys (by have:=aGb (eG w c x);omega) (by rw[hw];omega)
 have hent:dD w.aAB.Log 2 (aN (aF w x).Store) (aF w c).Store=(eG w c x,true):=by
  unfold dD
  rw[h.wi.log,show aT (w.aAB.Log++[zI w.aAB.Log 2 (aN (aF w x).Store) (aF w c).Store])=true from hL]
  simp;rfl
 have hup:iP w.aAB (eG w c x) (aW (eG w c x) (Gn w c x) (IntKind.i64.wrap (1000+IntKind.i64.wrap (10*((eG w c x).length:Int))))).1=({w.aAB with Log:=eG w c x,Boxes:=(aW (eG w c x) (Gn w c x) (IntKind.i64.wrap (1000+IntKind.i64.wrap (10*((eG w c x).length:Int))))).1},true):=by
  unfold iP
  rw[hL,show cO (eG w c x) w.aAB.Log=true from xX _ _,aMa b2.ep b2.to b2.nd (by have:=aGb (eG w c x);omega)];rfl
 have hol:(fK w c).aAB=w.aAB:=by rw[hco]
 have hst2:(aF (fK w c) c).Store=(aF w c).Store:=by rw[hat];rfl
 have hcl:Js w c x=eG w c x:=by unfold Js;rw[hol,hst2,hent]
 have k5:(kI w c x).2=true:=by
  unfold kI gJ
  simp only[hol,hst2,hent]
  rw[show iX (aF w c).Store (eG w c x)=Gn w c x from rfl,b1,hup];rfl
 have k6:(zJ w c x).2=true:=by
  unfold zJ
  rw[hcl,hat]
  unfold kD
  rw[hL,show cO (eG w c x) (kE w K v b (aF w c)).Log=true from xX _ _,show bE (iX (kE w K v b (aF w c)).Store (eG w c x))=true from hkk,decide_eq_false (show ¬aD (eG w c x)<(kE w K v b (aF w c)).Epoch by show ¬aD (eG w c x)<aD w.aAB.Log;omega)];rfl
 obtain⟨bx,e,_⟩:=h.aDL hS ht hr hin k2 k3 k4 k5 k6
 rw[e]
end
end Go.VK

set_option maxRecDepth 100000
namespace Go.VK
theorem nX (w:D.World)(d j:Int)(o:D.aAK):((dY w d j o).1=w∧(dY w d j o).2.2=1)∨(bU w d j=true∧(eT w j).2.2.2=true∧(dY w d j o).1=aB1 w d j o∧(dY w d j o).2.2=2∧((xQ w d j o).2.1==0)=false)∨
  (bU w d j=true∧(eT w j).2.2.2=true∧(dY w d j o).1=mO (aB1 w d j o) 1∧(dY w d j o).2.2=0∧((xQ w d j o).2.1==0)=true):=by
 unfold dY
 cases h1:bU w d j with
 |false=>exact .inl ⟨rfl,rfl⟩
 |true=>
  cases h2:(eT w j).2.2.2 with
  |false=>exact .inl ⟨rfl,rfl⟩
  |true=>
   cases h3:(xQ w d j o).2.1==0 with
   |false=>exact .inr (.inl ⟨rfl,rfl,rfl,rfl,rfl⟩)
   |true=>exact .inr (.inr ⟨rfl,rfl,rfl,rfl,rfl⟩)
theorem nY {w:D.World}{d j:Int}(h:bU w d j=true):bK w=true∧aQ w d=true∧iE w j=true:=by
 unfold bU at h
 simp only[Bool.and_eq_true] at h
 exact h
section
variable {S:List (Int×Int)} {t m:Nat} {w:D.World} {K v:Int} {r:List D.aAC} {b:D.aAE}
theorem Net.visit (h:Net S t m w K v r b)(d j:Int)(o:D.aAK):Net S t m (dY w d j o).1 K v r b:=by
 have hw:=h.wi.visit d j o
 have key:∀u,WIn m u→bU w d j=true→u.Seed=w.Seed→u.aAB=w.aAB→u.Devices=(aB1 w d j o).Devices→Net S t m u K v r b:=fun u hu ht e1 e2 e3=>by
  obtain⟨hl,e⟩:=gN (nY ht).2.1
  have hD:=h.dev _ hl
  rw[←e] at hD
  refine h.upd e1 e2 (by rw[e3];exact List.length_set ..) hu (by rw[e3];exact h.set hl ⟨hD.pre,hD.at_,hD.key,hD.bun⟩)
 rcases nX w d j o with⟨e,_⟩|⟨ht,_,e,_,_⟩|⟨ht,_,e,_,_⟩
 ·rw[e];exact h
 ·rw[e] at hw ⊢;exact key _ hw ht rfl rfl rfl
 ·rw[e] at hw ⊢;exact key _ hw ht rfl rfl rfl
theorem Net.same (h:Net S t m w K v r b){u:D.World}(hu:WIn m u)(e1:u.Seed=w.Seed)(e2:u.aAB=w.aAB)(e3:u.Devices=w.Devices):Net S t m u K v r b:=
 h.upd e1 e2 (by rw[e3]) hu (by rw[e3];exact h.dev)
theorem Net.aBS (h:Net S t m w K v r b)(d:Int):Net S t m (gU w d).1 K v r b:=by
 have:=(h.wi.aBS d).1
 unfold gU at this ⊢
 cases hb:bU w d 0&& !bM w d with
 |false=>exact h
 |true=>rw[hb] at this;exact h.same this rfl rfl rfl
end
def vQ (Q:D.aAJ→Prop)(s:D.Site):Prop:=∀a∈s.Accounts,∀c∈a.Credentials,Q c
def aN5 (P:Int→Prop)(s:D.Site):Prop:=vQ (fun c=>P c.Handle→c.Cut=true) s
def P6 (log:List D.aAA)(seed q:Int):Prop:=dM log (iZ seed q.toNat)=true
def zK (w:D.World):Prop:=∀s∈w.Sites,aN5 (P6 w.aAB.Log w.Seed) s
theorem bDx {a:D.aAF}{x:D.aAL}{z:ByteArray}{q:Int}{c':D.aAJ}(h:c'∈(eQ a x z q).1.Credentials):∃c∈a.Credentials,c.Handle=c'.Handle∧(c.Cut=true→c'.Cut=true):=by
 unfold eQ at h
 cases hb: !aU a||(decide (aM a x.Handle<0)||(dU a (aM a x.Handle)).Cut) with
 |true=>rw[hb] at h;exact⟨c',h,rfl,id⟩
 |false=>
  rw[hb] at h
  simp only[Bool.or_eq_false_iff] at hb
  obtain⟨k,hk,e1,e2⟩:=rV (l:=a.Credentials) hb.2.1
  have ef:aM a x.Handle=(k:Int):=e1.trans (by simp)
  have ec:dU a (k:Int)=a.Credentials[k]:=by unfold dU;simp[List.getD,List.getElem?_eq_getElem hk]
  rw[ef,ec,cond_false,Int.toNat_natCast] at h
  have key:∀y,y.Handle=a.Credentials[k].Handle→(a.Credentials[k].Cut=true→y.Cut=true)→c'∈a.Credentials.set k y→∃c∈a.Credentials,c.Handle=c'.Handle∧(c.Cut=true→c'.Cut=true):=fun y y1 y2 hm=>by
   rcases List.mem_or_eq_of_mem_set hm with hm|rfl
   ·exact⟨c',hm,rfl,id⟩
   ·exact⟨a.Credentials[k],List.getElem_mem hk,y1.symm,y2⟩
  cases h0:dQ a.Credentials[k].Public x z q a.Credentials[k].Counter==0 with
  |true=>simp only[h0,cond_true] at h;exact key {a.Credentials[k] with Counter:=x.Counter} rfl id h
  |false=>
   cases h4:dQ a.Credentials[k].Public x z q a.Credentials[k].Counter==4 with
   |true=>simp only[h0,h4,cond_true,cond_false] at h;exact key {a.Credentials[k] with Cut:=true} rfl (fun _=>rfl) h
   |false=>simp only[h0,h4,cond_false] at h;exact⟨c',h,rfl,id⟩
theorem aN5.finish {P:Int→Prop}{seed j:Int}{n:Nat}{s:D.Site}(hs:SiteIn seed j n s)(h:aN5 P s)(c t:Int)(x:D.aAL):aN5 P (jN s 1 c t x).1:=by
 have hf:=hs.find
 obtain⟨l,e,hl,hn⟩:=hs.acc
 have ea:dK s 0=⟨1,3,l⟩:=by unfold dK;rw[e];rfl
 have hset:aN5 P {s with Accounts:=s.Accounts.set (0:Int).toNat (eQ ⟨1,3,l⟩ x s.Name (dH s.Book c)).1}:=fun a ha c' hc' hp=>by
  have ha:a∈s.Accounts.set (0:Int).toNat (eQ ⟨1,3,l⟩ x s.Name (dH s.Book c)).1:=ha
  rw[e] at ha
  have ha:a=(eQ ⟨1,3,l⟩ x s.Name (dH s.Book c)).1:=by simpa using ha
  subst ha
  obtain⟨c0,m0,m1,m2⟩:=bDx hc'
  exact m2 (h ⟨1,3,l⟩ (by rw[e];simp) c0 m0 (by rw[m1];exact hp))
 unfold jN
 rw[hf]
 cases !bL s||decide ((0:Int)<0) with
 |true=>exact h
 |false=>
  simp only[cond_false]
  cases !(kS s.Book c 1 t).2 with
  |true=>exact h
  |false=>
   simp only[cond_false]
   cases !mF (dK s 0) 3 with
   |true=>exact h
   |false=>
    simp only[cond_false,ea]
    cases !((eQ ⟨1,3,l⟩ x s.Name (dH s.Book c)).2==0) with
    |true=>exact hset
    |false=>exact hset
theorem Ta (s:D.Site)(i n:Int):(gT s i n).1.Accounts=s.Accounts∧(gT s i n).1.Logins=s.Logins∧(gT s i n).1.Name=s.Name:=by
 unfold gT
 cases bL s&&(!decide (aC s i<0)&&(dO s.Book i n).2.2)<;>exact⟨rfl,rfl,rfl⟩
section
variable {m:Nat} {w:D.World}
theorem Eb (h:WIn m w){j:Int}(hj:iE w j=true):∃hl:j.toNat<w.Sites.length,dA w j=w.Sites[j.toNat]∧(j=0∨j=1)∧SiteIn w.Seed j m (dA w j):=by
 simp only[iE,Bool.and_eq_true,decide_eq_true_eq] at hj
 have h2:=h.two
 have hl:j.toNat<w.Sites.length:=by omega
 have e:dA w j=w.Sites[j.toNat]:=by unfold dA;rw[List.getD,List.getElem?_eq_getElem hl,Option.getD_some]
 refine⟨hl,e,by omega,?_⟩
 have:=h.site _ hl
 rw[Int.toNat_of_nonneg hj.1] at this
 rw[e];exact this
theorem zK.visit (h:WIn m w)(hc:zK w)(d j:Int)(o:D.aAK):zK (dY w d j o).1:=by
 have key:bU w d j=true→zK (aB1 w d j o):=fun ht=>by
  obtain⟨hl,e,hj,hs⟩:=Eb h (nY ht).2.2
  intro s hm
  have hm:s∈w.Sites.set j.toNat (xQ w d j o).1:=hm
  show aN5 (P6 w.aAB.Log w.Seed) s
  rcases List.mem_or_eq_of_mem_set hm with hm|rfl
  ·exact hc s hm
  ·have hb:=hs.begin 1 w.Now
   refine aN5.finish hb (fun a ha=> ?_) _ _ _
   have ha:a∈(gT (dA w j) 1 w.Now).1.Accounts:=ha
   rw[(Ta _ _ _).1] at ha
   exact hc (dA w j) (by rw[e];exact List.getElem_mem hl) a ha
 rcases nX w d j o with⟨e,_⟩|⟨ht,_,e,_,_⟩|⟨ht,_,e,_,_⟩
 ·rw[e];exact hc
 ·rw[e];exact key ht
 ·rw[e];exact key ht
theorem zK.same (hc:zK w){u:D.World}(e1:u.Seed=w.Seed)(e2:u.aAB.Log=w.aAB.Log)(e3:∀s∈u.Sites,∃s'∈w.Sites,s.Accounts=s'.Accounts):zK u:=fun s hs=>by
 obtain⟨s',hm,e⟩:=e3 s hs
 rw[e1,e2]
 intro a ha
 rw[e] at ha
 exact hc s' hm a ha
theorem zK.keep (hc:zK w){u:D.World}(e1:u.Seed=w.Seed)(e2:u.aAB.Log=w.aAB.Log)(e3:u.Sites=w.Sites):zK u:=hc.same e1 e2 fun s hs=>⟨s,by rw[←e3];exact hs,rfl⟩
theorem aVk {Q:D.aAJ→Prop}{s:D.Site}(h:vQ Q s){id q p:Int}(hq:Q ⟨q,p,0,false⟩):vQ Q (fV s id q p).1:=by
 unfold fV
 cases hb: !bL s||decide (aC s id<0) with
 |true=>exact h
 |false=>
  rw[cond_false]
  cases h2:(fE (s.Accounts.getD (aC s id).toNat default) q p).2 with
  |false=>exact h
  |true=>
   intro a ha c hc
   rw[Bool.or_eq_false_iff] at hb
   obtain⟨k,hk,e1,e2⟩:=rV (l:=s.Accounts) hb.2
   have ef:aC s id=(k:Int):=e1.trans (by simp)
   have ea:s.Accounts.getD (aC s id).toNat default=s.Accounts[k]:=by rw[ef,Int.toNat_natCast,List.getD,List.getElem?_eq_getElem hk,Option.getD_some]
   have ha:a∈s.Accounts.set (aC s id).toNat (fE (s.Accounts.getD (aC s id).toNat default) q p).1:=ha
   rcases List.mem_or_eq_of_mem_set ha with ha|ha
   ·exact h a ha c hc
   ·rw[ea] at ha
    have hm:c∈s.Accounts[k].Credentials∨c=⟨q,p,0,false⟩:=by
     rw[ha] at hc
     unfold fE at hc
     cases hz: !aU s.Accounts[k]|| !aU {s.Accounts[k] with Credentials:=O3 s.Accounts[k].Credentials q p} with
     |true=>rw[hz] at hc;exact .inl hc
     |false=>
      rw[hz] at hc
      have hc:c∈s.Accounts[k].Credentials.take (Jq q s.Accounts[k].Credentials)++[⟨q,p,0,false⟩]++s.Accounts[k].Credentials.drop (Jq q s.Accounts[k].Credentials):=hc
      rw[List.mem_append,List.mem_append,List.mem_singleton] at hc
      rcases hc with(hc|hc)|hc
      ·exact .inl (List.mem_of_mem_take hc)
      ·exact .inr hc
      ·exact .inl (List.mem_of_mem_drop hc)
    rcases hm with hm|rfl
    ·exact h _ (List.getElem_mem hk) c hm
    ·exact hq
theorem aGd {Q:D.aAJ→Prop}{st:D.aAH}{q:Int}(hq:∀p,Q ⟨q,p,0,false⟩):∀{l:List D.Site} {j:Nat},(∀s∈l,vQ Q s)→∀s∈(kC st q j l).1,vQ Q s
 |[],j,_,s,hs=>by simp[kC] at hs
 |x::l,j,h,s,hs=>by
  unfold kC at hs
  cases hb:(fV x 1 q (fT st (aA (j:Int)) q)).2&&(kC st q (j+1) l).2 with
  |false=>rw[hb] at hs;simp at hs
  |true=>
   rw[hb,cond_true] at hs
   rcases List.mem_cons.1 hs with rfl|hs
   ·exact aVk (h x (List.mem_cons_self ..)) (hq _)
   ·exact aGd hq (fun s hs=>h s (List.mem_cons_of_mem _ hs)) s hs
theorem aVl {seed j:Int}{l:List D.aAJ}(h:Dq seed j l){k:Nat}(hk:k<l.length):aM ⟨1,3,l⟩ (k:Int)=(k:Int):=by
 have hd:decide (aM ⟨1,3,l⟩ (k:Int)<0)=false:=by
  rw[decide_eq_false_iff_not]
  intro hn
  have:=Jm (p:=fun c:D.aAJ=>c.Handle==(k:Int)) hn l[k] (List.getElem_mem hk)
  rw[(h k hk).1,beq_self_eq_true] at this;cases this
 obtain⟨i,hi,e1,e2⟩:=rV (l:=l) hd
 have:=(h i hi).1
 have e2:(l[i].Handle==(k:Int))=true:=e2
 have:=eq_of_beq e2
 have e1:aM ⟨1,3,l⟩ (k:Int)=((0+i:Nat):Int):=e1
 rw[e1];omega
theorem aQ5 {seed j:Int}{n:Nat}{s:D.Site}(hj:j=0∨j=1)(hn:n≤6)(hs:SiteIn seed j n s){k:Nat}(hk:k<n):∃l l',s.Accounts=[⟨1,3,l⟩]∧(eH (k:Int) s).Accounts=[⟨1,3,l'⟩]∧l'.length=l.length∧Dq seed j l∧Dq seed j l'∧
  (∀c∈l',c.Handle=(k:Int)→c.Cut=true)∧(∀i (h1:i<l.length) (h2:i<l'.length),i≠k→l'[i]=l[i])∧(∀c'∈l',∃c∈l,c.Handle=c'.Handle∧c.Counter=c'.Counter∧(c.Cut=true→c'.Cut=true))∧(eH (k:Int) s).Logins=s.Logins∧(eH (k:Int) s).Book=s.Book:=by
 have hf:=hs.find
 obtain⟨l,e,hl,hln⟩:=hs.acc
 subst hln
 have ea:dK s 0=⟨1,3,l⟩:=by unfold dK;rw[e];rfl
 have hfc:=aVl hl hk
 have hca:dU ⟨1,3,l⟩ (k:Int)=l[k]:=by unfold dU;simp[List.getD,List.getElem?_eq_getElem hk]
 have hok:=aFy (m:=3) hj hl hn ⟨by decide,by decide⟩
 have hC:eH (k:Int) s={s with Accounts:=[(kR ⟨1,3,l⟩ (k:Int)).1]}:=by
  unfold eH
  rw[hf,show decide ((0:Int)≥0)=true from rfl,cond_true,ea,show(0:Int).toNat=0 from rfl,e];rfl
 have hat:∀{l':List D.aAJ},Dq seed j l'→∀c∈l',c.Handle=(k:Int)→∃h:k<l'.length,c=l'[k]:=fun hl' c hc hh=>by
  obtain⟨i,hi,e⟩:=List.mem_iff_getElem.1 hc
  have:=(hl' i hi).1
  rw[e,hh] at this
  have:i=k:=by omega
  subst this
  exact⟨hi,e.symm⟩
 rw[hC]
 unfold kR
 rw[hok,hfc,hca,decide_eq_false (show ¬(k:Int)<0 by omega)]
 cases hcut:l[k].Cut with
 |true=>
  refine⟨l,l,e,rfl,rfl,hl,hl,fun c hc hh=> ?_,fun i _ _ _=>rfl,fun c' hc'=>⟨c',hc',rfl,rfl,id⟩,rfl,rfl⟩
  obtain⟨_,rfl⟩:=hat hl c hc hh
  exact hcut
 |false=>
  have hl':Dq seed j (l.set k {l[k] with Cut:=true}):=hl.set hk rfl rfl (hl k hk).2.2
  refine⟨l,l.set k {l[k] with Cut:=true},e,rfl,List.length_set,hl,hl',fun c hc hh=> ?_,fun i h1 h2 hne=> ?_,fun c' hc'=> ?_,rfl,rfl⟩
  ·obtain⟨h,rfl⟩:=hat hl' c hc hh
   rw[List.getElem_set_self]
  ·rw[List.getElem_set_ne (fun q=>hne q.symm)]
  ·rcases List.mem_or_eq_of_mem_set hc' with hm|rfl
   ·exact⟨c',hm,rfl,rfl,id⟩
   ·exact⟨l[k],List.getElem_mem hk,rfl,rfl,fun _=>rfl⟩
end
end Go.VK

set_option maxRecDepth 100000
namespace Go.VK
def aB4:List (Int×Int):=[(1941999745,0),(1941999745,1),(1941999745,2),(1941999745,3),(1941999745,4),(1941999745,5),(1464438180,0),(1464438180,1),(1464438180,2),(1464438180,3),(1464438180,4),(1464438180,5)]
theorem bDy {x:List (Int×Int)}(h:x.length≤8)(hx:∀p∈x,(0≤p.1∧p.1≤2147483646)∧(0≤p.2∧p.2≤1000000)):KeyD (aB4++x):=by
 refine⟨⟨by rw[List.length_append];show 12+x.length≤20;omega,fun p hp=> ?_⟩,fun q hq=> ?_⟩
 ·rcases List.mem_append.1 hp with hp|hp
  ·have:∀p∈aB4,(0≤p.1∧p.1≤2147483646)∧(0≤p.2∧p.2≤1000000):=by decide
   exact this p hp
  ·exact hx p hp
 ·rw[bH6,bH7]
  have:∀q:Nat,q<6→((1941999745:Int),(q:Int))∈aB4∧((1464438180:Int),(q:Int))∈aB4:=by decide
  exact⟨List.mem_append_left _ (this q hq).1,List.mem_append_left _ (this q hq).2⟩
theorem bBq {x:List (Int×Int)}{n:Nat}(h:n=1∨n=2∨n=3):BunIn (aB4++x) 3 (nwB n).Entries:=by
 refine⟨(aSr (aS9 h).1).2,fun e he=>List.mem_append_left _ ?_,fun e he=> ?_⟩
 ·rcases h with rfl|rfl|rfl<;>revert e<;>decide
 ·rcases h with rfl|rfl|rfl<;>revert e<;>decide
theorem bDz {x:List (Int×Int)}{n k t pin seed:Int}(h:Dp n k t pin seed=true):Net (aB4++x) 3 (aZ n k t pin seed).Devices.length (aZ n k t pin seed) (bP seed 0) 1 [] (nwB n.toNat):=by
 obtain⟨w1,w2,w3⟩:=aBh h
 have hn:n.toNat=1∨n.toNat=2∨n.toNat=3:=by
  unfold Dp at h
  simp only[Bool.and_eq_true] at h
  have:=gW h.1;omega
 obtain⟨h1,h2,h3,h4,h5⟩:=iK seed n.toNat (by omega)
 have ec:(aZ n k t pin seed).aAB=⟨aO seed n.toNat,gB seed n.toNat,[eU (bP seed 0) 0 1 (nwB n.toNat)]⟩:=by
  unfold aZ;rw[h];exact P5 hn
 have ed:(aZ n k t pin seed).Devices=(List.range n.toNat).map fun k=>Er seed n.toNat k 1 (nwB n.toNat):=by
  unfold aZ;rw[h];exact aBi hn
 rw[w2]
 refine⟨w1,by rw[ec];exact aQw (by omega) (by omega),fun p hp=> ?_,fun p hp=> ?_,?_,fun s hs=>by simp at hs,bBq hn,by decide,fun i hi=> ?_⟩
 ·rw[ec] at hp
  have hp:p∈aB (aO seed n.toNat):=hp
  rw[h2] at hp
  obtain⟨i,hi,rfl⟩:=List.mem_map.1 hp
  rw[w3]
  exact⟨i,List.mem_range.1 hi,rfl⟩
 ·rw[ec] at hp
  have hp:dM (aO seed n.toNat) p=true:=hp
  rw[h3] at hp;cases hp
 ·rw[ec]
  show[_]=[]++[eU _ (aD (aO seed n.toNat)) 1 _]
  rw[h4];rfl
 ·rw[ec]
  show Dv _ _ (aO seed n.toNat) _ (aD (aO seed n.toNat)) 1 (aZ n k t pin seed).Devices[i]
  have hi':i<((List.range n.toNat).map fun k=>Er seed n.toNat k 1 (nwB n.toNat)).length:=by rw[←ed];exact hi
  have e:(aZ n k t pin seed).Devices[i]=Er seed n.toNat i 1 (nwB n.toNat):=by
   have:(aZ n k t pin seed).Devices[i]=((List.range n.toNat).map fun k=>Er seed n.toNat k 1 (nwB n.toNat))[i]:=by simp only[ed]
   rw[this];simp
  rw[e,h4]
  exact⟨⟨[],by show _=aO seed n.toNat++[];simp⟩, .inr ⟨rfl,Int.le_refl _⟩,fun _=>rfl,bBq hn⟩
theorem bD0 {n k t pin seed:Int}(h:Dp n k t pin seed=true):zK (aZ n k t pin seed):=fun s hs a ha c hc hp=>by
 have hn:n.toNat=1∨n.toNat=2∨n.toNat=3:=by
  unfold Dp at h
  simp only[Bool.and_eq_true] at h
  have:=gW h.1;omega
 have ec:(aZ n k t pin seed).aAB.Log=aO seed n.toNat:=by
  unfold aZ;rw[h]
  show(gH seed n.toNat).Log=_
  rw[P5 hn]
 unfold P6 at hp
 rw[ec,(iK seed n.toNat (by omega)).rem] at hp;cases hp
section
variable {S:List (Int×Int)} {t m:Nat} {w:D.World} {K v:Int} {r:List D.aAC} {b:D.aAE}
theorem aVm {w:D.World}{c:Int}(h:(iW w c).2=false):iW w c=(w,false):=by
 unfold iW at h ⊢
 cases hk:Yk w c with
 |false=>rfl
 |true=>rw[hk] at h;cases h
theorem aGe {w:D.World}{c:Int}(h:(iW w c).2=true):Yk w c=true:=by
 unfold iW at h
 cases hk:Yk w c with
 |true=>rfl
 |false=>rw[hk] at h;cases h
theorem zK.add (h:Net S t w.Devices.length w K v r b)(hS:KeyD S)(ht:t≤800000)(hr:r.length≤58)(hc:zK w)(c0:Int):zK (iW w c0).1:=by
 cases hk:(iW w c0).2 with
 |false=>rw[aVm hk];exact hc
 |true=>
  obtain⟨n1,u1,u2,n2,eA,u3,hin,u4⟩:=h.add hS ht hr (aGe hk)
  have hlog:aT (oW w c0)=true:=by rw[←u3];exact n1.wi.log
  obtain⟨g1,g2,g3⟩:=aN3 hlog
  have hd:=h.wi.dlen
  have hn1:=n1.wi.mle
  have eP:P6 (oW w c0) w.Seed=P6 w.aAB.Log w.Seed:=by funext q;unfold P6;rw[g2]
  have hno:¬P6 (oW w c0) w.Seed (w.Devices.length:Int):=fun hq=>by
   rw[eP] at hq
   obtain⟨k,hk,e⟩:=h.rem _ hq
   rw[Int.toNat_natCast] at e
   exact Oh (by omega) (by omega) (by omega) e
  rw[eA]
  intro s hs
  show aN5 (P6 (Jw w K v b c0).aAB.Log (Jw w K v b c0).Seed) s
  rw[u3,u2]
  have hs:s∈(aSw w c0).1:=hs
  have es:(add1 w c0).1.Sites=w.Sites:=by
   obtain⟨a1,a2,a3,a4,_⟩:=Du (aV w c0 0).1 c0 1 (aN (aL w.Seed (w.Devices.length:Int))) (fun _=>(aF (aV w c0 0).1 c0).Key)
   exact a4.trans (Og w c0 0).2.2.2.1
  unfold aSw at hs
  rw[es] at hs
  exact aGd (Q:=fun c=>P6 (oW w c0) w.Seed c.Handle→c.Cut=true) (fun p hp=>absurd hp hno) (fun s hs=>by rw[eP];exact hc s hs) s hs
theorem zK.cut (h:Net S t m w K v r b)(hm:m=w.Devices.length)(hS:KeyD S)(ht:t≤800000)(hr:r.length≤58)(hc:zK w)(c x:Int):zK (dJ w c x).1:=by
 cases hk:(dJ w c x).2 with
 |false=>rw[aTc hk];exact hc
 |true=>
  obtain⟨bx,e,n1⟩:=h.cut hS ht hr hk
  obtain⟨k1,k2,k3,k4,_⟩:=aN4 hk
  obtain⟨hl2,e2⟩:=gN (fJ k4)
  obtain⟨x0,_,_⟩:=nL (fJ k4)
  have hlog:aT (eG w c x)=true:=n1.wi.log
  obtain⟨g1,g2,g3⟩:=Yu hlog
  have hd:=h.wi.dlen
  have hmle:=h.wi.mle
  rw[e]
  intro s hs
  have hs:s∈w.Sites.map (eH x):=hs
  obtain⟨s',hs',rfl⟩:=List.mem_map.1 hs
  obtain⟨j,hj,es⟩:=List.mem_iff_getElem.1 hs'
  have h2:=h.wi.two
  have hsi:=h.wi.site j hj
  rw[es] at hsi
  obtain⟨l,l',q1,q2,q3,q4,q5,q6,q7,q8,_⟩:=aQ5 (j:=(j:Int)) (by omega) h.wi.mle hsi (k:=x.toNat) (by omega)
  rw[Int.toNat_of_nonneg x0] at q2 q6
  show aN5 (P6 (eG w c x) w.Seed) _
  intro a ha c' hc' hp
  rw[q2] at ha
  have ha:a=⟨1,3,l'⟩:=by simpa using ha
  subst ha
  have hc':c'∈l':=hc'
  unfold P6 at hp
  rw[g2,Bool.or_eq_true] at hp
  rcases hp with hp|hp
  ·obtain⟨c0,m0,m1,_,m2⟩:=q8 c' hc'
   exact m2 (hc s' hs' ⟨1,3,l⟩ (by rw[q1];simp) c0 m0 (by unfold P6;rw[m1];exact hp))
  ·have hp:=eq_of_beq hp
   rw[e2,h.pub hl2] at hp
   obtain⟨i,hi,ei⟩:=List.mem_iff_getElem.1 hc'
   have hh:=(q5 i hi).1
   rw[ei] at hh
   have hl:=hsi.acc
   obtain⟨l0,p1,p2,p3⟩:=hl
   rw[q1] at p1
   have:l=l0:=by simpa using p1
   subst this
   rw[hh,Int.toNat_natCast] at hp
   have hxi:x.toNat=i:=Decidable.byContradiction fun hne=>Oh (by omega) (by omega) hne hp
   exact q6 c' hc' (by rw[hh];omega)
end
def bBr (M:Int)(k:D.aAS):Prop:=k.Guesses≤k.Limit∧aE9 k≤M
def bBs (h:D.aAI):Prop:=bBr h.Monotonic h.State∧∀k∈h.Saved,bBr h.Monotonic k
theorem bBr.mono {M N:Int}{k:D.aAS}(h:bBr M k)(hm:M≤N):bBr N k:=⟨h.1,Int.le_trans h.2 hm⟩
def aN6 (l:List D.aAI):Prop:=∀h∈l,bBs h
theorem aX2 {k:D.aAS}(h:k.Guesses≤k.Limit):bBs (xW k):=⟨⟨h,Int.le_refl _⟩,fun k hk=>by simp[xW] at hk⟩
end Go.VK

set_option maxRecDepth 100000
namespace Go.VK
structure All (S:List (Int×Int)) (t:Nat) (w:D.World):Prop where
 net:∃K v r b,Net S (3+3*t) w.Devices.length w K v r b∧r.length≤t
 cut:zK w
 hosts:aN6 w.Hosts
theorem All.wi {S:List (Int×Int)}{t:Nat}{w:D.World}(h:All S t w):WIn w.Devices.length w:=let ⟨_,_,_,_,n,_⟩:=h.net;n.wi
theorem All.mono {S:List (Int×Int)}{t u:Nat}{w:D.World}(h:All S t w)(hu:t≤u):All S u w:=
 let ⟨K,v,r,b,n,hr⟩:=h.net;⟨⟨K,v,r,b,n.mono (by omega),by omega⟩,h.cut,h.hosts⟩
theorem aX3 {n k t pin seed:Int}:aN6 (aZ n k t pin seed).Hosts:=by
 unfold aZ
 cases Dp n k t pin seed with
 |false=>intro h hh;simp[aVc] at hh
 |true=>
  intro h hh
  have hh:h∈(Oc seed t pin k).2.1:=hh
  unfold Oc Dm at hh
  generalize IntKind.i64.wrap (1+(bA seed [293]).tmod 1018)=q at hh
  cases hb:aD0 pin 7 (bA seed [283]) q 5&& !((qV q (Sm seed t) k).length==0) with
  |false=>rw[hb] at hh;simp at hh
  |true=>
   rw[hb] at hh
   have hh:h∈(qV q (Sm seed t) k).map (fun s=>xW ⟨s,0,0,5⟩):=hh
   obtain⟨s,_,rfl⟩:=List.mem_map.1 hh
   exact aX2 (by show(0:Int)≤5;decide)
theorem bD1 {x:List (Int×Int)}{n k t pin seed:Int}(h:Dp n k t pin seed=true):All (aB4++x) 0 (aZ n k t pin seed):=
 ⟨⟨_,_,_,_,bDz (x:=x) h,Nat.le_refl _⟩,bD0 h,aX3⟩
section
variable {S:List (Int×Int)} {t:Nat} {w:D.World}
theorem All.of (h:All S t w){u:D.World}{t':Nat}(ht:t≤t')(hn:∀K v r b,Net S (3+3*t) w.Devices.length w K v r b→Net S (3+3*t') w.Devices.length u K v r b)(hl:u.Devices.length=w.Devices.length)(hc:zK u)(hh:aN6 u.Hosts):All S t' u:=
 let ⟨K,v,r,b,n,hr⟩:=h.net;⟨⟨K,v,r,b,by rw[hl];exact hn K v r b n,by omega⟩,hc,hh⟩
theorem All.visit (h:All S t w)(d j:Int)(o:D.aAK):All S t (dY w d j o).1:=
 h.of (Nat.le_refl _) (fun K v r b n=>n.visit d j o) (aF2 w d j o).2 (h.cut.visit h.wi d j o) (by rw[aQx];exact h.hosts)
theorem All.aBS (h:All S t w)(d:Int):All S t (gU w d).1:=
 h.of (Nat.le_refl _) (fun K v r b n=>n.aBS d) (h.wi.aBS d).2.2 (by
  unfold gU
  cases bU w d 0&& !bM w d with
  |false=>exact h.cut
  |true=>exact h.cut.keep rfl rfl rfl) (by rw[aQz];exact h.hosts)
theorem All.add (h:All S t w)(hS:KeyD S)(ht:t≤58)(d:Int):All S (t+1) (iW w d).1:=by
 obtain⟨K,v,r,b,n,hr⟩:=h.net
 cases hk:(iW w d).2 with
 |false=>rw[aVm hk];exact h.mono (by omega)
 |true=>
  obtain⟨n1,u1,u2,n2,eA,u3,hin,u4⟩:=n.add hS (by omega) (by omega) (aGe hk)
  refine⟨⟨K,v+1,r++[eU K (aD w.aAB.Log) v b],aTb w K v b d,?_,by simp;omega⟩,zK.add n hS (by omega) (by omega) h.cut d,by rw[aXx];exact h.hosts⟩
  ·have hl:(iW w d).1.Devices.length=w.Devices.length+1:=by
    rw[eA]
    show((Jw w K v b d).Devices++[_]).length=_
    rw[List.length_append,u1];rfl
   rw[hl];exact n2.mono (by omega)
theorem All.aDZ (h:All S t w)(hS:KeyD S)(ht:t≤58)(d x:Int):All S (t+1) (dJ w d x).1:=by
 obtain⟨K,v,r,b,n,hr⟩:=h.net
 cases hk:(dJ w d x).2 with
 |false=>rw[aTc hk];exact h.mono (by omega)
 |true=>
  obtain⟨bx,e,n1⟩:=n.cut hS (by omega) (by omega) hk
  refine⟨⟨Gn w d x,1,r++[eU K (aD w.aAB.Log) v b],(sM w K v b d x).aAE,?_,by simp;omega⟩,zK.cut n rfl hS (by omega) (by omega) h.cut d x,by rw[aXy];exact h.hosts⟩
  rw[(h.wi.cut d x).2.2,e];exact n1.mono (by omega)
theorem aVn {k:Nat}(h:k<w.Devices.length):aQ w (k:Int)=true:=by
 unfold aQ
 rw[decide_eq_true (by omega),decide_eq_true (by omega)];rfl
end
end Go.VK

set_option maxRecDepth 100000
namespace Go.VK
section
variable {S:List (Int×Int)} {t m:Nat} {w:D.World} {K v:Int} {r:List D.aAC} {b:D.aAE}
structure Settled (S:List (Int×Int)) (t:Nat) (w:D.World) (K:Int) (r:List D.aAC) (b:D.aAE) (y:D.World) (v':Int) (r':List D.aAC) (b':D.aAE):Prop where
 eq:bDi w=(y,true)
 net:Net S (t+w.Devices.length) w.Devices.length y K v' r' b'
 rlen:r'.length≤r.length+w.Devices.length
 log:y.aAB.Log=w.aAB.Log
 seed:y.Seed=w.Seed
 stolen:y.Stolen=w.Stolen
 len:y.Devices.length=w.Devices.length
 sites:y.Sites=w.Sites
 hosts:y.Hosts=w.Hosts
 reach:vL y=vL w
 own:∀d∈vL w,(aF y d).aAE=b'∧(aF y d).Epoch=aD w.aAB.Log∧(aF y d).Version=v'∧(aF y d).Key=K
 other:∀d,aQ w d=true→(aF y d).Store=(aF w d).Store∧(d∉vL w→aF y d=aF w d)
 sub:∀d∈vL w,Sub (aF w d).aAE.Entries b'.Entries
 last:Sub b.Entries b'.Entries
 mem:∀e∈b'.Entries,e∈b.Entries∨∃d∈vL w,e∈(aF w d).aAE.Entries
end
end Go.VK

set_option maxRecDepth 100000
namespace Go.VK
theorem aGf (s:D.aAH)(o:D.aAK)(z:ByteArray)(i c:Int)(p:Bool):fZ s o z i c p=(s,aFq,false)∨(iI o z=true∧jM s=true∧s.Counter<1000000∧fZ s o z i c p=({s with Counter:=s.Counter+1},{xP s o z i c p with Counter:=s.Counter+1,Signature:=oN (bS s z i) (aY (xP s o z i c p)++[s.Counter+1])},true)):=by
 unfold fZ
 cases hm:iI o z with
 |false=>exact .inl rfl
 |true=>
  unfold fC
  cases hs:jM s&& !(s.Counter==1000000) with
  |false=>exact .inl rfl
  |true=>
   simp only[Bool.and_eq_true,Bool.not_eq_true',beq_eq_false_iff_ne] at hs
   have hc:=hs.1
   unfold jM at hc
   simp only[Bool.and_eq_true] at hc
   have hr:=gW hc.2.2.2
   have hn:aVa s={s with Counter:=s.Counter+1}:=by unfold aVa;rw[aK (by omega) (by omega)]
   refine .inr ⟨rfl,hs.1,by omega,?_⟩
   simp only[Bool.true_and,cond_true,hn]
theorem bD2 {s:D.aAH}{o:D.aAK}{z:ByteArray}{i c:Int}{p:Bool}(h1:iI o z=true)(h2:jM s=true)(h3:s.Counter<1000000):fZ s o z i c p=({s with Counter:=s.Counter+1},{xP s o z i c p with Counter:=s.Counter+1,Signature:=oN (bS s z i) (aY (xP s o z i c p)++[s.Counter+1])},true):=by
 rcases aGf s o z i c p with e|⟨_,_,_,e⟩
 ·have:(fZ s o z i c p).2.2=true:=by
   unfold fZ fC
   rw[h1,h2,beq_eq_false_iff_ne.2 (show s.Counter≠1000000 by omega)];rfl
  rw[e] at this;cases this
 ·exact e
theorem bIb {seed:Int}{k:Nat}{s:D.aAH}(h:StIn seed k s)(hk:k<6):jM s=true:=by
 unfold jM
 rw[h.ven,h.ser,h.key,gG (show(0:Int)≤(k:Int) by omega) (by omega),gG h.cnt.1 h.cnt.2]
 show(true&&(true&&(bE (bA seed [277,(k:Int)])&&true)))=true
 rw[eZ];rfl
theorem aQ6 (pub:Int){z:ByteArray}(hz:0<z.size)(c n:Int):dQ pub aFq z c n=1:=by
 unfold dQ
 have:((aFq.Site.toList==z.toList):Bool)=false:=by
  rw[beq_eq_false_iff_ne]
  intro e
  have:=congrArg List.length e
  simp only[ByteArray.toList_eq] at this
  have h1:(aFq.Site.data.toList).length=0:=rfl
  rw[h1] at this
  have h2:z.data.toList.length=z.size:=Array.length_toList
  omega
 rw[this];rfl
theorem aQ7 {j:Int}(hj:j=0∨j=1):0<(aA j).size:=by
 rcases hj with rfl|rfl<;>decide
theorem aQ8 {a:D.aAF}{x:D.aAL}{z:ByteArray}{c:Int}:((eQ a x z c).1=a∧(eQ a x z c).2≠0)∨(∃k,∃h:k<a.Credentials.length,aM a x.Handle=(k:Int)∧a.Credentials[k].Handle=x.Handle∧a.Credentials[k].Cut=false∧(eQ a x z c).2=dQ a.Credentials[k].Public x z c a.Credentials[k].Counter∧
  (eQ a x z c).1={a with Credentials:=bif dQ a.Credentials[k].Public x z c a.Credentials[k].Counter==0 then a.Credentials.set k {a.Credentials[k] with Counter:=x.Counter} else bif dQ a.Credentials[k].Public x z c a.Credentials[k].Counter==4 then a.Credentials.set k {a.Credentials[k] with Cut:=true} else a.Credentials}):=by
 unfold eQ
 cases hb: !aU a||(decide (aM a x.Handle<0)||(dU a (aM a x.Handle)).Cut) with
 |true=>exact .inl ⟨rfl,by show(5:Int)≠0;decide⟩
 |false=>
  simp only[Bool.or_eq_false_iff] at hb
  obtain⟨k,hk,e1,e2⟩:=rV (l:=a.Credentials) hb.2.1
  have ef:aM a x.Handle=(k:Int):=e1.trans (by simp)
  have ec:dU a (k:Int)=a.Credentials[k]:=by unfold dU;simp[List.getD,List.getElem?_eq_getElem hk]
  have hcut:=hb.2.2
  rw[ef,ec] at hcut
  refine .inr ⟨k,hk,ef,eq_of_beq e2,hcut,?_,?_⟩
  ·rw[ef,ec];rfl
  ·rw[ef,ec,cond_false,Int.toNat_natCast]
theorem aGg {b:D.aAD}(h:BookIn b)(hn:b.Next<1000000){now:Int}(ht:0≤now∧now≤999900):dO b 1 now=((dO b 1 now).1,⟨b.Next,1,now+5⟩,true)∧(dO b 1 now).1.Next=b.Next+1∧(kS (dO b 1 now).1 b.Next 1 now).2=true:=by
 have hbk:=Dt h.ok
 have hq:=(aF0 h 1 now).1
 have hw:IntKind.i64.wrap (now+5)=now+5:=aK (by omega) (by omega)
 have hnr:0≤b.Next:=by
  have:=h.ok
  unfold dV at this
  simp only[Bool.and_eq_true] at this
  exact(gW this.1.1).1
 have hI:dO b 1 now=(⟨b.Seed,b.Next+1,(bif decide ((b.Open.length:Int)≥16) then b.Open.drop 1 else b.Open)++[⟨b.Next,1,now+5⟩]⟩,⟨b.Next,1,now+5⟩,true):=by
  unfold dO Yl
  rw[h.ok,beq_eq_false_iff_ne.2 (show b.Next≠1000000 by omega),gG (show(0:Int)≤1 by decide) (by decide),gG ht.1 (by omega),hw,aK (show-9223372036854775808≤b.Next+1 by omega) (by omega)];rfl
 refine⟨by rw[hI],by rw[hI],?_⟩
 have hlow:∀c∈b.Open,c.Id≤b.Next-1:=fun c hc=>by
  have:=h.ok
  unfold dV at this
  simp only[Bool.and_eq_true,Bool.not_eq_true'] at this
  obtain⟨i,hi,e⟩:=List.mem_iff_getElem.1 hc
  have h2:=Sr this.2 i hi
  unfold fP at h2
  simp only[Bool.or_eq_false_iff,Bool.not_eq_false'] at h2
  have:=(gW h2.1).2
  rw[aK (by omega) (by omega),e] at this;exact this
 have hm:∀c∈(dO b 1 now).1.Open,c.Id=b.Next→c=⟨b.Next,1,now+5⟩:=fun c hc he=>by
  rw[hI] at hc
  have hc:c∈(bif decide ((b.Open.length:Int)≥16) then b.Open.drop 1 else b.Open)++[(⟨b.Next,1,now+5⟩:D.aAM)]:=hc
  rcases List.mem_append.1 hc with hc|hc
  ·have:c∈b.Open:=by
    cases hd:decide ((b.Open.length:Int)≥16) with
    |true=>rw[hd] at hc;exact List.mem_of_mem_drop hc
    |false=>rw[hd] at hc;exact hc
   have:=hlow c this;omega
  ·exact List.mem_singleton.1 hc
 have hin:(⟨b.Next,1,now+5⟩:D.aAM)∈(dO b 1 now).1.Open:=by rw[hI];show _∈_++[_];simp
 have hf:decide (dC (dO b 1 now).1 b.Next<0)=false:=by
  rw[decide_eq_false_iff_not]
  intro hneg
  have:=Jm (p:=fun c:D.aAM=>c.Id==b.Next) hneg _ hin
  simp at this
 obtain⟨k,hk,e1,e2⟩:=rV (l:=(dO b 1 now).1.Open) hf
 have ec:O6 (dO b 1 now).1 (dC (dO b 1 now).1 b.Next)=⟨b.Next,1,now+5⟩:=by
  have e1:dC (dO b 1 now).1 b.Next=((0+k:Nat):Int):=e1
  rw[e1];unfold O6
  rw[Nat.zero_add,Int.toNat_natCast,List.getD,List.getElem?_eq_getElem hk,Option.getD_some]
  exact hm _ (List.getElem_mem hk) (eq_of_beq e2)
 unfold kS
 rw[hq.ok,hf,ec]
 show((1:Int)==1&&decide (now≤now+5))=true
 rw[decide_eq_true (by omega)];rfl
section
variable {m:Nat} {w:D.World}
theorem aX4 (h:WIn m w){d j:Int}(ht:bU w d j=true)(o:D.aAK):SiteIn w.Seed j m (eT w j).1∧(eT w j).1.Name=aA j∧(j=0∨j=1):=by
 obtain⟨hl,e,hj,hs⟩:=Eb h (nY ht).2.2
 have hb:=hs.begin 1 w.Now
 exact⟨hb,hb.name,hj⟩
theorem bBt (h:WIn m w){d j:Int}{o:D.aAK}(ht:bU w d j=true)(hm:d.toNat<m)(ho:iI o (aA j)=true)(hn:(dA w j).Book.Next<1000000)(hc:(aF w d).Store.Counter<1000000)
  (hu:∀a∈(dA w j).Accounts,∀(hk:d.toNat<a.Credentials.length),a.Credentials[d.toNat].Cut=false∧a.Credentials[d.toNat].Counter≤(aF w d).Store.Counter):(dY w d j o).2.2=0:=by
 obtain⟨t1,t2,t3⟩:=nY ht
 obtain⟨hl,es,hj,hs⟩:=Eb h t3
 obtain⟨d0,d1,_⟩:=nL t2
 have hmle:=h.mle
 have hb:=Dt hs.book
 obtain⟨i1,i2,i3⟩:=aGg hb hn h.now
 have hB:eT w j=({dA w j with Book:=(dO (dA w j).Book 1 w.Now).1},(dA w j).Book.Next,dH (dO (dA w j).Book 1 w.Now).1 (dA w j).Book.Next,true):=by
  unfold eT gT
  rw[hs.ok hj h.mle,hs.find,i1];rfl
 have hst:=h.aCE t2
 have hsok:=bIb hst (by omega)
 have hA:mQ w d j o=({(aF w d).Store with Counter:=(aF w d).Store.Counter+1},{xP (aF w d).Store o (aA j) d (eT w j).2.2.1 true with Counter:=(aF w d).Store.Counter+1,Signature:=oN (bS (aF w d).Store (aA j) d) (aY (xP (aF w d).Store o (aA j) d (eT w j).2.2.1 true)++[(aF w d).Store.Counter+1])},true):=bD2 ho hsok hc
 have hbi:=hs.begin 1 w.Now
 rw[show(gT (dA w j) 1 w.Now)=eT w j from rfl] at hbi
 obtain⟨l,e,hl2,hln⟩:=hs.acc
 subst hln
 have hcr:=hl2 d.toNat hm
 obtain⟨u1,u2⟩:=hu ⟨1,3,l⟩ (by rw[e];simp) hm
 have u2:l[d.toNat].Counter≤(aF w d).Store.Counter:=u2
 have u1:l[d.toNat].Cut=false:=u1
 have hac:dK (eT w j).1 0=⟨1,3,l⟩:=by rw[hB];unfold dK;show((dA w j).Accounts.getD _ _)=_;rw[e];rfl
 have hok:=aFy (m:=3) hj hl2 h.mle ⟨by decide,by decide⟩
 have hfc:aM ⟨1,3,l⟩ d=(d.toNat:Int):=by
  have:=aVl hl2 hm
  rwa [Int.toNat_of_nonneg d0] at this ⊢
 have hca:dU ⟨1,3,l⟩ (d.toNat:Int)=l[d.toNat]:=by
  unfold dU
  rw[Int.toNat_natCast]
  show l.getD d.toNat default=_
  rw[List.getD,List.getElem?_eq_getElem hm,Option.getD_some]
 have hkey:bS (aF w d).Store (aA j) d=bS (aL w.Seed (d.toNat:Int)) (aA j) (d.toNat:Int):=by
  rw[bS,bS,hst.key,Int.toNat_of_nonneg d0]
 have hv:∀M,fA (dI (bS (aL w.Seed (d.toNat:Int)) (aA j) (d.toNat:Int))) M (oN (bS (aL w.Seed (d.toNat:Int)) (aA j) (d.toNat:Int)) M)=true:=fun M=>aF1 (by unfold bS;exact eZ _ _) M
 have hchk:dQ l[d.toNat].Public (mQ w d j o).2.1 (eT w j).1.Name (dH (eT w j).1.Book (eT w j).2.1) l[d.toNat].Counter=0:=by
  rw[hbi.name,hA,hB]
  unfold dQ
  show(bif !((aA j).toList==(aA j).toList) then(1:Int) else bif !true then 2 else bif !(dH (dO (dA w j).Book 1 w.Now).1 (dA w j).Book.Next==dH (dO (dA w j).Book 1 w.Now).1 (dA w j).Book.Next) then 3 else bif !fA l[d.toNat].Public (aY (xP (aF w d).Store o (aA j) d (dH (dO (dA w j).Book 1 w.Now).1 (dA w j).Book.Next) true)++[(aF w d).Store.Counter+1]) (oN (bS (aF w d).Store (aA j) d) (aY (xP (aF w d).Store o (aA j) d (dH (dO (dA w j).Book 1 w.Now).1 (dA w j).Book.Next) true)++[(aF w d).Store.Counter+1])) then 5 else bif decide ((aF w d).Store.Counter+1≤l[d.toNat].Counter) then 4 else 0)=0
  rw[hcr.2.1,hkey,show Gm w.Seed j d.toNat=dI (bS (aL w.Seed (d.toNat:Int)) (aA j) (d.toNat:Int)) from rfl,hv,decide_eq_false (show ¬(aF w d).Store.Counter+1≤l[d.toNat].Counter by omega)]
  simp
 have hE:(xQ w d j o).2.1=0:=by
  unfold xQ jN
  rw[hbi.ok hj h.mle,hbi.find]
  have htk:(kS (eT w j).1.Book (eT w j).2.1 1 w.Now).2=true:=by rw[hB];exact i3
  have hal:mF (dK (eT w j).1 0) 3=true:=by
   rw[hac];unfold mF
   rw[hok]
   have:(l.any fun c=> !c.Cut)=true:=List.any_eq_true.2 ⟨l[d.toNat],List.getElem_mem hm,by rw[u1];rfl⟩
   show(true&&(true&&(true&&(false||l.any fun c=> !c.Cut))))=true
   rw[this];rfl
  have hH:(mQ w d j o).2.1.Handle=d:=by rw[hA];rfl
  have huse:(eQ (dK (eT w j).1 0) (mQ w d j o).2.1 (eT w j).1.Name (dH (eT w j).1.Book (eT w j).2.1)).2=0:=by
   rw[hac];unfold eQ
   rw[hok,hH,hfc,hca,u1,decide_eq_false (show ¬(d.toNat:Int)<0 by omega)]
   exact hchk
  rw[htk,hal,huse];rfl
 unfold dY
 rw[ht,hE,hB];rfl
theorem bBu (h:WIn m w){d j:Int}{o:D.aAK}(hq:iI o (aA j)=false∨∀a∈(dA w j).Accounts,∀c∈a.Credentials,c.Handle=d→c.Cut=true):(dY w d j o).2.2≠0:=by
 rcases nX w d j o with⟨_,e⟩|⟨_,_,_,e,_⟩|⟨ht,_,_,e,hz⟩
 ·rw[e];decide
 ·rw[e];decide
 ·exfalso
  obtain⟨hb,hnm,hj⟩:=aX4 h ht o
  have hz:=eq_of_beq hz
  unfold xQ jN at hz
  rw[hb.find] at hz
  cases h1: !bL (eT w j).1||decide ((0:Int)<0) with
  |true=>rw[h1] at hz;cases hz
  |false=>
  rw[h1] at hz
  simp only[cond_false] at hz
  cases h2: !(kS (eT w j).1.Book (eT w j).2.1 1 w.Now).2 with
  |true=>rw[h2] at hz;cases hz
  |false=>
  rw[h2] at hz
  simp only[cond_false] at hz
  cases h3: !mF (dK (eT w j).1 0) 3 with
  |true=>rw[h3] at hz;cases hz
  |false=>
  rw[h3] at hz
  simp only[cond_false] at hz
  have hne:(eQ (dK (eT w j).1 0) (mQ w d j o).2.1 (eT w j).1.Name (dH (eT w j).1.Book (eT w j).2.1)).2≠0:=by
   rcases aQ8 (a:=dK (eT w j).1 0) (x:=(mQ w d j o).2.1) (z:=(eT w j).1.Name) (c:=dH (eT w j).1.Book (eT w j).2.1) with⟨_,q⟩|⟨k,hk,e1,e2,e3,e4,_⟩
   ·exact q
   ·rw[e4]
    rcases aGf (aF w d).Store o (aA j) d (eT w j).2.2.1 true with e|⟨mu,_,_,e⟩
    ·have:(mQ w d j o).2.1=aFq:=by unfold mQ;rw[e]
     rw[this,hnm,aQ6 _ (aQ7 hj)];decide
    ·rcases hq with hq|hq
     ·rw[hq] at mu;cases mu
     ·exfalso
      have hH:(mQ w d j o).2.1.Handle=d:=by unfold mQ;rw[e];rfl
      rw[hH] at e2
      obtain⟨l,el,_,_⟩:=hb.acc
      have ha:dK (eT w j).1 0∈(eT w j).1.Accounts:=by unfold dK;rw[el];simp
      have ha2:dK (eT w j).1 0∈(dA w j).Accounts:=by
       have:=(Ta (dA w j) 1 w.Now).1
       rw[←this];exact ha
      have:=hq _ ha2 _ (List.getElem_mem hk) e2
      rw[e3] at this;cases this
  rw[beq_eq_false_iff_ne.2 hne] at hz
  cases hz
end
end Go.VK

set_option maxRecDepth 100000
namespace Go.VK
def pV (w:D.World)(k:Nat):Int:=(w.Devices.getD k default).Store.Counter
def pW (w:D.World)(k:Nat):Prop:=dM w.aAB.Log (iZ w.Seed k)=true
def CrU (cnt:Nat→Int)(rem:Nat→Prop)(c:D.aAJ):Prop:=c.Counter≤cnt c.Handle.toNat∧(c.Cut=true→rem c.Handle.toNat)
structure Us (B:Int) (w:D.World):Prop where
 cnt:∀k,k<w.Devices.length→pV w k≤B
 next:∀s∈w.Sites,s.Book.Next≤B
 cred:∀s∈w.Sites,vQ (CrU (pV w) (pW w)) s
theorem CrU.mono {cnt cnt':Nat→Int}{rem rem':Nat→Prop}(hc:∀k,cnt k≤cnt' k)(hr:∀k,rem k→rem' k){c:D.aAJ}(h:CrU cnt rem c):CrU cnt' rem' c:=⟨Int.le_trans h.1 (hc _),fun q=>hr _ (h.2 q)⟩
theorem bJ2 {pub:Int}{a:D.aAL}{z:ByteArray}{ch n:Int}(h:dQ pub a z ch n=4):a.Counter≤n:=by
 unfold dQ at h
 cases h1: !(a.Site.toList==z.toList) with
 |true=>rw[h1] at h;cases h
 |false=>
 cases h2: !a.Present with
 |true=>rw[h1,h2] at h;cases h
 |false=>
 cases h3: !(a.aAM==ch) with
 |true=>rw[h1,h2,h3] at h;cases h
 |false=>
 cases h4: !fA pub (aY a++[a.Counter]) a.Signature with
 |true=>rw[h1,h2,h3,h4] at h;cases h
 |false=>
 cases h5:decide (a.Counter≤n) with
 |true=>exact of_decide_eq_true h5
 |false=>rw[h1,h2,h3,h4,h5] at h;cases h
theorem bBv {cnt cnt':Nat→Int}{rem:Nat→Prop}{a:D.aAF}{x:D.aAL}{z:ByteArray}{q:Int}(h:∀c∈a.Credentials,CrU cnt rem c)(hm:∀k,cnt k≤cnt' k)
  (hx:(∀pub n,dQ pub x z q n=1)∨(x.Counter=cnt' x.Handle.toNat∧cnt x.Handle.toNat<x.Counter)):∀c∈(eQ a x z q).1.Credentials,CrU cnt' rem c:=fun c hc=>by
 rcases aQ8 (a:=a) (x:=x) (z:=z) (c:=q) with⟨e,_⟩|⟨k,hk,e1,e2,e3,e4,e5⟩
 ·rw[e] at hc;exact(h c hc).mono hm (fun _ q=>q)
 ·rw[e5] at hc
  have hk0:=h _ (List.getElem_mem hk)
  have hold:∀c∈a.Credentials,CrU cnt' rem c:=fun c hc=>(h c hc).mono hm (fun _ q=>q)
  rcases hx with hx|⟨hx1,hx2⟩
  ·rw[hx] at hc;exact hold c hc
  ·cases h0:dQ a.Credentials[k].Public x z q a.Credentials[k].Counter==0 with
   |true=>
    simp only[h0,cond_true] at hc
    rcases List.mem_or_eq_of_mem_set hc with hc|rfl
    ·exact hold c hc
    ·refine⟨?_,fun hq=> ?_⟩
     ·show x.Counter≤cnt' a.Credentials[k].Handle.toNat
      rw[e2,hx1];exact Int.le_refl _
     ·have hq:a.Credentials[k].Cut=true:=hq
      rw[e3] at hq;cases hq
   |false=>
    cases h4:dQ a.Credentials[k].Public x z q a.Credentials[k].Counter==4 with
    |true=>
     have:=bJ2 (eq_of_beq h4)
     have:=hk0.1
     rw[e2] at this;omega
    |false=>simp only[h0,h4,cond_false] at hc;exact hold c hc
theorem aX6 (b:D.aAD)(i a n:Int):(kS b i a n).1.Next=b.Next:=by
 unfold kS
 cases !dV b||decide (dC b i<0)<;>rfl
theorem aQ9 {cnt cnt':Nat→Int}{rem:Nat→Prop}{seed j:Int}{n:Nat}{s:D.Site}(hs:SiteIn seed j n s)(h:vQ (CrU cnt rem) s)(hm:∀k,cnt k≤cnt' k)(c t:Int){x:D.aAL}
  (hx:(∀pub q n,dQ pub x s.Name q n=1)∨(x.Counter=cnt' x.Handle.toNat∧cnt x.Handle.toNat<x.Counter)):vQ (CrU cnt' rem) (jN s 1 c t x).1∧(jN s 1 c t x).1.Book.Next=s.Book.Next:=by
 have hf:=hs.find
 obtain⟨l,e,hl,hn⟩:=hs.acc
 have ea:dK s 0=⟨1,3,l⟩:=by unfold dK;rw[e];rfl
 have hold:vQ (CrU cnt' rem) s:=fun a ha c hc=>(h a ha c hc).mono hm (fun _ q=>q)
 have htk:=aX6 s.Book c 1 t
 have hset:vQ (CrU cnt' rem) {s with Accounts:=s.Accounts.set (0:Int).toNat (eQ ⟨1,3,l⟩ x s.Name (dH s.Book c)).1}:=fun a ha c' hc'=>by
  have ha:a∈s.Accounts.set (0:Int).toNat (eQ ⟨1,3,l⟩ x s.Name (dH s.Book c)).1:=ha
  rw[e] at ha
  have ha:a=(eQ ⟨1,3,l⟩ x s.Name (dH s.Book c)).1:=by simpa using ha
  subst ha
  exact bBv (h ⟨1,3,l⟩ (by rw[e];simp)) hm (hx.imp (fun q pub n=>q pub _ n) id) c' hc'
 unfold jN
 rw[hf]
 cases !bL s||decide ((0:Int)<0) with
 |true=>exact⟨hold,rfl⟩
 |false=>
  simp only[cond_false]
  cases !(kS s.Book c 1 t).2 with
  |true=>exact⟨hold,htk⟩
  |false=>
   simp only[cond_false]
   cases !mF (dK s 0) 3 with
   |true=>exact⟨hold,htk⟩
   |false=>
    simp only[cond_false,ea]
    cases !((eQ ⟨1,3,l⟩ x s.Name (dH s.Book c)).2==0) with
    |true=>exact⟨hset,htk⟩
    |false=>exact⟨hset,htk⟩
theorem aTd {s:D.Site}(h:BookIn s.Book)(i n:Int):(gT s i n).1.Book.Next≤s.Book.Next+1:=by
 unfold gT
 cases bL s&&(!decide (aC s i<0)&&(dO s.Book i n).2.2) with
 |false=>show s.Book.Next≤_;omega
 |true=>exact(aF0 h i n).2.2.2
section
variable {m:Nat} {w:D.World} {B:Int}
theorem Us.visit (hw:WIn m w)(h:Us B w)(d j:Int)(o:D.aAK):Us (B+1) (dY w d j o).1:=by
 have key:∀u:D.World,bU w d j=true→u.Seed=w.Seed→u.aAB=w.aAB→u.Devices=(aB1 w d j o).Devices→u.Sites=(aB1 w d j o).Sites→Us (B+1) u:=fun u ht e1 e2 e3 e4=>by
  obtain⟨t1,t2,t3⟩:=nY ht
  obtain⟨hl,es,hj,hs⟩:=Eb hw t3
  obtain⟨hdl,ed⟩:=gN t2
  obtain⟨d0,_,_⟩:=nL t2
  have hcd:pV w d.toNat=(aF w d).Store.Counter:=by unfold pV aF;rfl
  have hrem:pW u=pW w:=by funext k;unfold pW;rw[e1,e2]
  have hget:∀k,pV u k=if k=d.toNat then(mQ w d j o).1.Counter else pV w k:=fun k=>by
   unfold pV
   rw[e3]
   show((w.Devices.set d.toNat {aF w d with Store:=(mQ w d j o).1}).getD k default).Store.Counter=_
   rw[List.getD,List.getElem?_set]
   by_cases hk:d.toNat=k
   ·subst hk;rw[if_pos rfl,if_pos hdl,if_pos rfl];rfl
   ·rw[if_neg hk,if_neg (fun q=>hk q.symm)];rfl
  have hcases:(mQ w d j o).1=(aF w d).Store∧(mQ w d j o).2.1=aFq∨((mQ w d j o).1.Counter=(aF w d).Store.Counter+1∧(mQ w d j o).2.1.Counter=(aF w d).Store.Counter+1∧(mQ w d j o).2.1.Handle=d):=by
   rcases aGf (aF w d).Store o (aA j) d (eT w j).2.2.1 true with e|⟨_,_,_,e⟩
   ·exact .inl ⟨by unfold mQ;rw[e],by unfold mQ;rw[e]⟩
   ·exact .inr ⟨by unfold mQ;rw[e],by unfold mQ;rw[e],by unfold mQ;rw[e];rfl⟩
  have hmono:∀k,pV w k≤pV u k:=fun k=>by
   rw[hget]
   split
   ·rename_i hk;subst hk
    rcases hcases with⟨q,_⟩|⟨q,_,_⟩
    ·rw[q,hcd];exact Int.le_refl _
    ·rw[q,hcd];omega
   ·exact Int.le_refl _
  have hb:=hs.begin 1 w.Now
  obtain⟨bk1,_,bk3⟩:=Ta (dA w j) 1 w.Now
  have hcb:vQ (CrU (pV w) (pW w)) (eT w j).1:=fun a ha=>by
   have ha:a∈(gT (dA w j) 1 w.Now).1.Accounts:=ha
   rw[bk1] at ha
   exact h.cred (dA w j) (by rw[es];exact List.getElem_mem hl) a ha
  have hfin:=aQ9 (cnt':=pV u) (x:=(mQ w d j o).2.1) hb hcb hmono (eT w j).2.1 w.Now (by
   rcases hcases with⟨_,q⟩|⟨q1,q2,q3⟩
   ·refine .inl fun pub c n=> ?_
    rw[q,show(gT (dA w j) 1 w.Now).1.Name=aA j from hb.name]
    exact aQ6 _ (aQ7 hj) _ _
   ·refine .inr ⟨?_,?_⟩
    ·rw[q2,q3,hget,if_pos rfl,q1]
    ·rw[q2,q3,hcd];omega)
  have hnx:=aTd (Dt hs.book) 1 w.Now
  have hnB:=h.next (dA w j) (by rw[es];exact List.getElem_mem hl)
  refine⟨fun k hk=> ?_,fun s hm=> ?_,fun s hm=> ?_⟩
  ·rw[hget]
   have hlen:u.Devices.length=w.Devices.length:=by rw[e3];exact List.length_set ..
   have:=h.cnt k (by omega)
   split
   ·rename_i hk';subst hk'
    rw[hcd] at this
    rcases hcases with⟨q,_⟩|⟨q,_,_⟩
    ·rw[q];omega
    ·rw[q];omega
   ·omega
  ·rw[e4] at hm
   have hm:s∈w.Sites.set j.toNat (xQ w d j o).1:=hm
   rcases List.mem_or_eq_of_mem_set hm with hm|rfl
   ·have:=h.next s hm;omega
   ·have:(xQ w d j o).1.Book.Next=(eT w j).1.Book.Next:=hfin.2
    rw[this]
    show(gT (dA w j) 1 w.Now).1.Book.Next≤_
    omega
  ·rw[e4] at hm
   rw[hrem]
   have hm:s∈w.Sites.set j.toNat (xQ w d j o).1:=hm
   rcases List.mem_or_eq_of_mem_set hm with hm|rfl
   ·exact fun a ha c hc=>(h.cred s hm a ha c hc).mono hmono (fun _ q=>q)
   ·exact hfin.1
 have up:Us (B+1) w:=⟨fun k hk=>by have:=h.cnt k hk;omega,fun s hs=>by have:=h.next s hs;omega,h.cred⟩
 rcases nX w d j o with⟨e,_⟩|⟨ht,_,e,_,_⟩|⟨ht,_,e,_,_⟩
 ·rw[e];exact up
 ·rw[e];exact key _ ht rfl rfl rfl rfl
 ·rw[e];exact key _ ht rfl rfl rfl rfl
theorem Us.keep (h:Us B w){u:D.World}(e1:u.Devices.length=w.Devices.length)(e2:∀k,pV u k=pV w k)(e3:u.Sites=w.Sites)(e4:∀k,pW w k→pW u k):Us B u:=
 ⟨fun k hk=>by rw[e2];exact h.cnt k (by omega),fun s hs=>h.next s (by rw[←e3];exact hs),fun s hs a ha c hc=>(h.cred s (by rw[←e3];exact hs) a ha c hc).mono (fun k=>by rw[e2];exact Int.le_refl _) e4⟩
theorem aVo {l:List D.Device}{i:Nat}{x:D.Device}(hi:i<l.length)(hx:x.Store=(l.getD i default).Store)(k:Nat):((l.set i x).getD k default).Store.Counter=(l.getD k default).Store.Counter:=by
 rw[List.getD,List.getElem?_set]
 by_cases hk:i=k
 ·subst hk;rw[if_pos rfl,if_pos hi];show x.Store.Counter=_;rw[hx]
 ·rw[if_neg hk];rfl
theorem Us.aBS (h:Us B w)(d:Int):Us B (gU w d).1:=by
 unfold gU
 cases bU w d 0&& !bM w d with
 |false=>exact h
 |true=>exact h.keep rfl (fun _=>rfl) rfl (fun _ q=>q)
theorem Us.up (h:Us B w){d:Int}(hd:aQ w d=true):Us B (O1 w d).1:=by
 unfold O1
 cases(dF (aF w d)).2.2&&(cZ w.aAB (dF (aF w d)).2.1).2 with
 |false=>exact h
 |true=>
  obtain⟨hl,e⟩:=gN hd
  exact h.keep (List.length_set ..) (fun k=>aVo hl (by rw[Ju];rfl) k) rfl (fun k q=>by
   unfold pW at q ⊢
   show dM (cZ w.aAB (dF (aF w d)).2.1).1.Log _=true
   rw[(nI _ _).2];exact q)
end
section
variable {S:List (Int×Int)} {t m:Nat} {w:D.World} {K v:Int} {r:List D.aAC} {b:D.aAE} {B:Int}
theorem Us.cut (n:Net S t m w K v r b)(hm:m=w.Devices.length)(hS:KeyD S)(ht:t≤800000)(hr:r.length≤58)(h:Us B w)(c x:Int):Us B (dJ w c x).1:=by
 cases hk:(dJ w c x).2 with
 |false=>rw[aTc hk];exact h
 |true=>
  obtain⟨bx,e,n1⟩:=n.cut hS ht hr hk
  obtain⟨k1,k2,k3,k4,_⟩:=aN4 hk
  obtain⟨hl2,e2⟩:=gN (fJ k4)
  obtain⟨hl,ec⟩:=gN (fJ (n.inl k1))
  obtain⟨x0,_,_⟩:=nL (fJ k4)
  have hlog:aT (eG w c x)=true:=n1.wi.log
  obtain⟨g1,g2,g3⟩:=Yu hlog
  have hd:=n.wi.dlen
  have hmle:=n.wi.mle
  rw[e]
  have hE:(sM w K v b c x).Store=(aF w c).Store:=by unfold sM;rw[Su];rfl
  have hcnt:∀k,pV (mO (aGc w K v b bx c x) 4) k=pV w k:=fun k=>aVo (i:=c.toNat) hl (by rw[show({sM w K v b c x with Version:=1}:D.Device).Store=(sM w K v b c x).Store from rfl,hE];rfl) k
  have hrem:∀k,pW w k→pW (mO (aGc w K v b bx c x) 4) k:=fun k q=>by
   show dM (eG w c x) (iZ w.Seed k)=true
   rw[g2,show dM w.aAB.Log (iZ w.Seed k)=true from q];rfl
  have hx:pW (mO (aGc w K v b bx c x) 4) x.toNat:=by
   show dM (eG w c x) (iZ w.Seed x.toNat)=true
   rw[g2,e2,n.pub hl2];simp
  refine⟨fun k hk=>by rw[hcnt];exact h.cnt k (by rw[show(mO (aGc w K v b bx c x) 4).Devices.length=w.Devices.length from List.length_set ..] at hk;exact hk),fun s hs=> ?_,fun s hs=> ?_⟩
  ·have hs:s∈w.Sites.map (eH x):=hs
   obtain⟨s',hs',rfl⟩:=List.mem_map.1 hs
   have:(eH x s').Book=s'.Book:=by
    unfold eH
    cases decide (aC s' 1≥0)<;>rfl
   rw[this];exact h.next s' hs'
  ·have hs:s∈w.Sites.map (eH x):=hs
   obtain⟨s',hs',rfl⟩:=List.mem_map.1 hs
   obtain⟨j,hj,es⟩:=List.mem_iff_getElem.1 hs'
   have h2:=n.wi.two
   have hsi:=n.wi.site j hj
   rw[es] at hsi
   obtain⟨l,l',q1,q2,q3,q4,q5,q6,q7,q8,_⟩:=aQ5 (j:=(j:Int)) (by omega) n.wi.mle hsi (k:=x.toNat) (by omega)
   rw[Int.toNat_of_nonneg x0] at q2 q6
   intro a ha c' hc'
   rw[q2] at ha
   have ha:a=⟨1,3,l'⟩:=by simpa using ha
   subst ha
   have hc':c'∈l':=hc'
   obtain⟨i,hi,ei⟩:=List.mem_iff_getElem.1 hc'
   have hh:=(q5 i hi).1
   rw[ei] at hh
   have hil:i<l.length:=by rw[←q3];exact hi
   obtain⟨c0,m0,m1,m2,_⟩:=q8 c' hc'
   have hold:=h.cred s' hs' ⟨1,3,l⟩ (by rw[q1];simp) c0 m0
   refine⟨by rw[hcnt,←m1,←m2];exact hold.1,fun hcut=> ?_⟩
   by_cases hix:i=x.toNat
   ·rw[hh,Int.toNat_natCast,hix];exact hx
   ·have e0:=q7 i hil hi hix
    rw[ei] at e0
    have:=h.cred s' hs' ⟨1,3,l⟩ (by rw[q1];simp) c' (by rw[e0];exact List.getElem_mem _)
    exact hrem _ (this.2 hcut)
end
theorem aX7 {n k t pin seed:Int}(h:Dp n k t pin seed=true):(∀i,pV (aZ n k t pin seed) i=0)∧∀s∈(aZ n k t pin seed).Sites,s.Book.Next=0∧s.Logins=[]∧vQ (fun c=>c.Counter=0∧c.Cut=false) s:=by
 have hn:n.toNat=1∨n.toNat=2∨n.toNat=3:=by
  unfold Dp at h
  simp only[Bool.and_eq_true] at h
  have:=gW h.1;omega
 have ed:(aZ n k t pin seed).Devices=(List.range n.toNat).map fun k=>Er seed n.toNat k 1 (nwB n.toNat):=by
  unfold aZ;rw[h];exact aBi hn
 refine⟨fun i=> ?_,fun s hs=> ?_⟩
 ·unfold pV
  rw[ed,List.getD,List.getElem?_map]
  cases hq:(List.range n.toNat)[i]? with
  |none=>rfl
  |some q=>rfl
 ·have reg:∀(nm:ByteArray) (l:List D.Device) (i:Nat) (s:D.Site),(s.Book.Next=0∧s.Logins=[]∧vQ (fun c=>c.Counter=0∧c.Cut=false) s)→((mG nm i l s).Book.Next=0∧(mG nm i l s).Logins=[]∧vQ (fun c=>c.Counter=0∧c.Cut=false) (mG nm i l s)):=by
   intro nm l
   induction l with
   |nil=>intro i s hs;exact hs
   |cons d l ih=>
    intro i s hs
    refine ih _ _ ⟨?_,?_,aVk hs.2.2 ⟨rfl,rfl⟩⟩
    ·unfold fV
     cases !bL s||decide (aC s 1<0) with
     |true=>exact hs.1
     |false=>
      simp only[cond_false]
      cases(fE (s.Accounts.getD (aC s 1).toNat default) _ _).2<;>exact hs.1
    ·unfold fV
     cases !bL s||decide (aC s 1<0) with
     |true=>exact hs.2.1
     |false=>
      simp only[cond_false]
      cases(fE (s.Accounts.getD (aC s 1).toNat default) _ _).2<;>exact hs.2.1
  have one:∀j:Int,j=0∨j=1→((rT seed (bX seed n.toNat) j).Book.Next=0∧(rT seed (bX seed n.toNat) j).Logins=[]∧vQ (fun c=>c.Counter=0∧c.Cut=false) (rT seed (bX seed n.toNat) j)):=fun j hj=>by
   refine reg _ _ _ _ ?_
   have hk:=eZ seed [281,j]
   generalize bA seed [281,j]=q at*
   have hN:fD (aA j) q=⟨aA j,[],⟨q,0,[]⟩,[]⟩:=by
    unfold fD iU
    rw[Oe hj,hk];rfl
   rw[hN]
   unfold kU
   cases bL ⟨aA j,[],⟨q,0,[]⟩,[]⟩&&bL (lV ⟨aA j,[],⟨q,0,[]⟩,[]⟩ 1 3) with
   |false=>exact⟨rfl,rfl,fun a ha=>by simp at ha⟩
   |true=>
    refine⟨rfl,rfl,fun a ha c hc=> ?_⟩
    have ha:a∈[(⟨1,3,[]⟩:D.aAF)]:=ha
    rw[List.mem_singleton.1 ha] at hc
    simp at hc
  unfold aZ at hs
  rw[h] at hs
  have hs:s∈oU (bX seed n.toNat) seed:=hs
  unfold oU at hs
  rcases List.mem_cons.1 hs with rfl|hs
  ·exact one 0 (.inl rfl)
  ·rw[List.mem_singleton.1 hs];exact one 1 (.inr rfl)
theorem bGu {n k t pin seed:Int}(h:Dp n k t pin seed=true):Us 0 (aZ n k t pin seed):=by
 obtain⟨h1,h2⟩:=aX7 (k:=k) h
 exact⟨fun i _=>by rw[h1];exact Int.le_refl _,fun s hs=>by rw[(h2 s hs).1];exact Int.le_refl _,fun s hs a ha c hc=>⟨by rw[((h2 s hs).2.2 a ha c hc).1,h1];exact Int.le_refl _,fun q=>by rw[((h2 s hs).2.2 a ha c hc).2] at q;cases q⟩⟩
section
variable {m:Nat} {w:D.World} {B:Int}
theorem Us.ok (hw:WIn m w)(h:Us B w)(hB:B<1000000){d j:Int}{o:D.aAK}(ht:bU w d j=true)(hm:d.toNat<m)(ho:iI o (aA j)=true)(hr:¬pW w d.toNat):(dY w d j o).2.2=0:=by
 obtain⟨t1,t2,t3⟩:=nY ht
 obtain⟨hl,es,hj,hs⟩:=Eb hw t3
 obtain⟨hdl,ed⟩:=gN t2
 have hcd:pV w d.toNat=(aF w d).Store.Counter:=rfl
 have hm1:dA w j∈w.Sites:=by rw[es];exact List.getElem_mem hl
 have hn:=h.next _ hm1
 have hc:=h.cnt _ hdl
 rw[hcd] at hc
 refine bBt hw ht hm ho (by omega) (by omega) fun a ha hk=> ?_
 have hq:=h.cred _ hm1 a ha _ (List.getElem_mem hk)
 obtain⟨l,el,hl2,_⟩:=hs.acc
 rw[el] at ha
 have ha:a=⟨1,3,l⟩:=by simpa using ha
 subst ha
 have hh:(D.aAF.mk 1 3 l).Credentials[d.toNat].Handle=(d.toNat:Int):=(hl2 d.toNat hk).1
 unfold CrU at hq
 rw[hh,Int.toNat_natCast] at hq
 refine⟨?_,by have:=hq.1;rw[hcd] at this;exact this⟩
 cases hcut:(D.aAF.mk 1 3 l).Credentials[d.toNat].Cut with
 |false=>rfl
 |true=>exact absurd (hq.2 hcut) hr
end
end Go.VK

set_option maxRecDepth 100000
namespace Go.VK
theorem aTe (w:D.World)(d j:Int)(o:D.aAK)(h:(eT w j).2.2.2=true)(ht:bU w d j=true):(dY w d j o).2.2=0∨(dY w d j o).2.2=2:=by
 unfold dY
 rw[ht,h]
 cases(xQ w d j o).2.1==0
 ·exact .inr rfl
 ·exact .inl rfl
theorem bBw {m:Nat}{w:D.World}{B:Int}(hw:WIn m w)(h:Us B w)(hB:B<1000000){d j:Int}(ht:bU w d j=true):(eT w j).2.2.2=true:=by
 obtain⟨t1,t2,t3⟩:=nY ht
 obtain⟨hl,es,hj,hs⟩:=Eb hw t3
 have hn:=h.next (dA w j) (by rw[es];exact List.getElem_mem hl)
 obtain⟨i1,_,_⟩:=aGg (Dt hs.book) (by omega) hw.now
 unfold eT gT
 rw[hs.ok hj hw.mle,hs.find,i1];rfl
theorem Us.no {S:List (Int×Int)}{t:Nat}{w:D.World}{B:Int}(ha:All S t w)(h:Us B w)(hB:B<1000000){d j:Int}(o:D.aAK)(ht:bU w d j=true)(hr:pW w d.toNat):(dY w d j o).2.2=2:=by
 obtain⟨t1,t2,t3⟩:=nY ht
 obtain⟨hl,es,hj,hs⟩:=Eb ha.wi t3
 obtain⟨d0,_,_⟩:=nL t2
 refine(aTe w d j o (bBw ha.wi h hB ht) ht).resolve_left (bBu ha.wi (.inr fun a hm c hc he=> ?_))
 exact ha.cut (dA w j) (by rw[es];exact List.getElem_mem hl) a hm c hc (by unfold P6;rw[he];exact hr)
theorem aTf {l:List Bool}{i:Nat}(hi:i<l.length):(l.set i true).getD i false=true:=by
 rw[List.getD,List.getElem?_set_self hi];rfl
theorem aX8 {n k t pin seed:Int}(h:Dp n k t pin seed=true):(aZ n k t pin seed).Stolen=List.replicate n.toNat false∧(aZ n k t pin seed).aAB.Log=aO seed n.toNat∧(aZ n k t pin seed).Devices.length=n.toNat∧(aZ n k t pin seed).Seed=seed:=by
 have hn:n.toNat=1∨n.toNat=2∨n.toNat=3:=by
  unfold Dp at h
  simp only[Bool.and_eq_true] at h
  have:=gW h.1;omega
 obtain⟨_,h2,h3⟩:=aBh h
 refine⟨by unfold aZ;rw[h];rfl,?_,h2,h3⟩
 unfold aZ;rw[h]
 show(gH seed n.toNat).Log=_
 rw[P5 hn]
theorem aGh {S:List (Int×Int)}{t:Nat}{w:D.World}(ha:All S t w){d:Nat}(hd:d<w.Devices.length){j:Int}(hj:j=0∨j=1):bU w (d:Int) j=true:=by
 have h2:=ha.wi.two
 unfold bU
 rw[ha.wi.ok,aVn hd]
 unfold iE
 rw[decide_eq_true (show 0≤j by omega),decide_eq_true (show j<(w.Sites.length:Int) by omega)];rfl
theorem bD3 {n seed:Int}(hn:n=2∨n=3){w s a c:D.World}(hA:All (aB4++[]) 0 w)(hU:Us 0 w)(p1:w.Stolen=List.replicate n.toNat false)(p2:w.aAB.Log=aO seed n.toNat)(p3:w.Devices.length=n.toNat)(p4:w.Seed=seed)(hz0:w.sz≤100000)
  {j j3 j4:Int} (hj:j=0∨j=1) (hj3:j3=0∨j3=1) (hj4:j4=0∨j4=1) (ds:s=(gU w 1).1) (da:a=(nK s 1 j).1) (dc:c=(dJ a 0 1).1):
  (gU w 1).2=true∧(gU s 1).2=false∧(nK s 1 j).2=0∧(uR s 1 0).2=1∧(nK w 1 0).2=1∧(dJ a 0 1).2=true∧(nK c 1 j3).2=2∧(uR c 0 j4).2=0∧(nD c 1 j3 (Ab 0)).2=2∧bK (nD c 1 j3 (Ab 0)).1=true∧s.sz≤100000∧a.sz≤100003∧c.sz≤102503∧(nD c 1 j3 (Ab 0)).1.sz≤102506:=by
 have hS:KeyD (aB4++[]):=bDy (x:=[]) (by decide) (fun p hp=>by simp at hp)
 have hwl:w.Devices.length=n.toNat:=p3
 have hst:∀d:Int,bM w d=false:=fun d=>by
  unfold bM
  rw[p1,List.getD]
  cases hq:(List.replicate n.toNat false)[d.toNat]? with
  |none=>rfl
  |some b=>
   have:=List.mem_of_getElem? hq
   rw[List.mem_replicate] at this
   exact this.2
 have ht1:∀j:Int,j=0∨j=1→bU w 1 j=true:=fun j hj=>aGh hA (d:=1) (by omega) hj
 have es:gU w 1=({w with Stolen:=w.Stolen.set 1 true},true):=by
  unfold gU
  rw[ht1 0 (.inl rfl),hst];rfl
 have hs1:s={w with Stolen:=w.Stolen.set 1 true}:=by rw[ds,es]
 have hAs:All (aB4++[]) 0 s:=by rw[ds];exact hA.aBS 1
 have hUs:Us 0 s:=by rw[ds];exact hU.aBS 1
 have hsl:s.Devices.length=n.toNat:=by rw[hs1];exact hwl
 have hs_st:bM s 1=true:=by
  rw[hs1];unfold bM
  exact aTf (by rw[p1,List.length_replicate];omega)
 have ht2:∀j:Int,j=0∨j=1→bU s 1 j=true:=fun j hj=>aGh hAs (d:=1) (by omega) hj
 have hnr:∀k,¬pW s k:=fun k q=>by
  unfold pW at q
  rw[show s.aAB.Log=w.aAB.Log by rw[hs1],p2,(iK seed n.toNat (by omega)).rem] at q;cases q
 have may:iI (nU 0) (aA 0)=true∧iI (nU 1) (aA 1)=true:=by decide
 have mayj:∀j:Int,j=0∨j=1→iI (nU j) (aA j)=true:=fun j hj=>by
  rcases hj with rfl|rfl
  ·exact may.1
  ·exact may.2
 have ea:nK s 1 j=nD s 1 j (nU j):=by unfold nK;rw[ht2 j hj,hs_st];rfl
 have hv0:(dY s 1 j (nU j)).2.2=0:=hUs.ok hAs.wi (by decide) (ht2 j hj) (by show 1<s.Devices.length;omega) (mayj j hj) (hnr _)
 have ha1:a=(dY s 1 j (nU j)).1:=by rw[da,ea];rfl
 have hAa:All (aB4++[]) 0 a:=by rw[ha1];exact hAs.visit _ _ _
 have hUa:Us 1 a:=by rw[ha1];exact hUs.visit hAs.wi _ _ _
 have hac:a.aAB=w.aAB∧a.Stolen=s.Stolen∧a.Seed=w.Seed∧a.Devices.length=w.Devices.length:=by
  rw[ha1]
  have h1:=aF2 s 1 j (nU j)
  refine⟨?_,?_,by rw[h1.1,hs1],by rw[h1.2,hs1]⟩
  ·rcases nX s 1 j (nU j) with⟨e,_⟩|⟨_,_,e,_,_⟩|⟨_,_,e,_,_⟩<;>rw[e,hs1]<;>rfl
  ·rcases nX s 1 j (nU j) with⟨e,_⟩|⟨_,_,e,_,_⟩|⟨_,_,e,_,_⟩<;>rw[e]<;>rfl
 obtain⟨c1,c2,c3,c4⟩:=hac
 have hlist:∀k:Nat,k<n.toNat→cB a (k:Int)=true:=fun k hk=>by
  obtain⟨K,v,r,b,nt,hr⟩:=hAa.net
  rw[nt.aDR (aVn (by omega)),c1,c3,p2,p4,(iK seed n.toNat (by omega)).devs,iF]
  exact List.mem_map.2 ⟨k,List.mem_range.2 hk,rfl⟩
 have ha_st:∀d:Int,d=0→bM a d=false:=fun d hd=>by
  subst hd
  unfold bM
  rw[c2,hs1]
  show(w.Stolen.set 1 true).getD 0 false=false
  rw[List.getD,List.getElem?_set_ne (by decide)]
  exact hst 0
 have hcut:(dJ a 0 1).2=true:=by
  obtain⟨K,v,r,b,nt,hr⟩:=hAa.net
  refine nt.aDM hS (by decide) (by omega) (hlist 0 (by omega)) (ha_st 0 rfl) (by decide) (hlist 1 (by omega)) ?_
  rw[c1,p2,(iK seed n.toNat (by omega)).len];omega
 have hAc:All (aB4++[]) 1 c:=by rw[dc];exact hAa.aDZ hS (by decide) 0 1
 have hUc:Us 1 c:=by
  obtain⟨K,v,r,b,nt,hr⟩:=hAa.net
  rw[dc];exact Us.cut nt rfl hS (by decide) (by omega) hUa 0 1
 have hcl:c.Devices.length=n.toNat:=by
  have:=(hAa.wi.cut 0 1).2.2
  rw[dc];omega
 have hcz:∃K v b bx,c=mO (aGc a K v b bx 0 1) 4∧aT (eG a 0 1)=true:=by
  obtain⟨K,v,r,b,nt,hr⟩:=hAa.net
  obtain⟨bx,e,n1⟩:=nt.cut hS (by decide) (by omega) hcut
  exact⟨K,v,b,bx,by rw[dc,e],n1.wi.log⟩
 have hpub:∀k:Nat,k<n.toNat→aN (aF a (k:Int)).Store=iZ a.Seed k:=fun k hk=>by
  obtain⟨K,v,r,b,nt,hr⟩:=hAa.net
  have hk':k<a.Devices.length:=by omega
  have:aF a (k:Int)=a.Devices[k]:=by unfold aF;rw[Int.toNat_natCast,List.getD,List.getElem?_eq_getElem hk',Option.getD_some]
  rw[this];exact nt.pub hk'
 have hrem:pW c 1∧¬pW c 0:=by
  obtain⟨K,v,b,bx,e,hl⟩:=hcz
  obtain⟨g1,g2,g3⟩:=Yu hl
  have hr:∀k,pW c k↔dM (eG a 0 1) (iZ a.Seed k)=true:=fun k=>by rw[e];exact Iff.rfl
  rw[hr,hr,g2,g2,show aN (aF a 1).Store=iZ a.Seed 1 from hpub 1 (by omega),c1,p2,(iK seed n.toNat (by omega)).rem,(iK seed n.toNat (by omega)).rem]
  refine⟨by simp,fun q=> ?_⟩
  rw[Bool.false_or] at q
  exact Oh (by decide) (by decide) (by decide) (eq_of_beq q)
 have hc_st:c.Stolen=a.Stolen:=by
  obtain⟨K,v,b,bx,e,_⟩:=hcz
  rw[e];rfl
 have ht3:∀(d:Nat),d<2→∀j:Int,j=0∨j=1→bU c (d:Int) j=true:=fun d hd j hj=>aGh hAc (by omega) hj
 have hcs1:bM c 1=true:=by unfold bM;rw[hc_st,c2];exact hs_st
 have hcs0:bM c 0=false:=by unfold bM;rw[hc_st];exact ha_st 0 rfl
 have hzs:s.sz≤100000:=by rw[ds,bBh];exact hz0
 have hza:a.sz≤100003:=by
  have:=aMb hAs.wi 1 j (nU j)
  rw[ha1];omega
 have hzc:c.sz≤102503:=by
  have:=bDr hAa.wi 0 1
  rw[dc];omega
 refine⟨by rw[es],?_,?_,?_,?_,hcut,?_,?_,?_,?_,hzs,hza,hzc,?_⟩
 ·unfold gU
  rw[hs_st,Bool.not_true,Bool.and_false];rfl
 ·rw[ea];exact hv0
 ·unfold uR
  rw[hs_st,Bool.not_true,Bool.and_false];rfl
 ·unfold nK
  rw[hst,Bool.and_false];rfl
 ·unfold nK
  rw[show bU c 1 j3=true from ht3 1 (by decide) j3 hj3,hcs1]
  exact hUc.no hAc (by decide) (nU j3) (ht3 1 (by decide) j3 hj3) hrem.1
 ·unfold uR
  rw[show bU c 0 j4=true from ht3 0 (by decide) j4 hj4,hcs0]
  exact hUc.ok hAc.wi (by decide) (ht3 0 (by decide) j4 hj4) (by show 0<c.Devices.length;omega) (mayj j4 hj4) hrem.2
 ·exact hUc.no hAc (by decide) (Ab 0) (ht3 1 (by decide) j3 hj3) hrem.1
 ·exact(hAc.visit 1 j3 (Ab 0)).wi.ok
 ·have:=aMb hAc.wi 1 j3 (Ab 0)
  show(dY c 1 j3 (Ab 0)).1.sz≤_;omega
end Go.VK
