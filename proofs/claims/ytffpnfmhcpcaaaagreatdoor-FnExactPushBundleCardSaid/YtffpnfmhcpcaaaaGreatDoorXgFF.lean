import Derived.Test.YtffpnfmhcpcaaaaGreatDoorEWptor
import Derived.Test.YtffpnfmhcpcaaaaGreatDoorXgS
/-
  Printed by wip/tools (own work of this part): models of functions, walks over the value kit, and proofs.
-/
set_option linter.unusedVariables false
set_option linter.unusedSimpArgs false
set_option maxRecDepth 100000
set_option maxHeartbeats 4000000
namespace Go.VK
open Go.RowKit Go.Proofs
theorem hstep_range {h v:Int}(h0:0≤h)(h1:h<2147483647):0≤hstep h v∧hstep h v<2147483647:=by
 have hm:=modI_range (p:=v) (q:=2147483647) (by omega)
 unfold hstep
 generalize modI v 2147483647=z at*
 have e1:IntKind.i64.wrap (h*1000003)=h*1000003:=wrap64_id (by omega) (by omega)
 have e2:IntKind.i64.wrap (h*1000003+z)=h*1000003+z:=wrap64_id (by omega) (by omega)
 have e3:IntKind.i64.wrap (h*1000003+z+13)=h*1000003+z+13:=wrap64_id (by omega) (by omega)
 rw[e1,e2,e3]
 exact⟨Int.tmod_nonneg _ (by omega),Int.tmod_lt_of_pos _ (by decide)⟩
theorem hashI_range (l:List Int):0≤hashI l∧hashI l<2147483647:=by
 unfold hashI
 suffices ∀(l:List Int) (h:Int),0≤h→h<2147483647→0≤l.foldl hstep h∧l.foldl hstep h<2147483647 from this l 11 (by omega) (by omega)
 intro l
 induction l with
 |nil=>intro h h0 h1;exact⟨h0,h1⟩
 |cons x xs ih=>intro h h0 h1;exact ih _ (hstep_range h0 h1).1 (hstep_range h0 h1).2
theorem keyedI_range (k:Int)(l:List Int):0≤keyedI k l∧keyedI k l<2147483647:=hashI_range _
def maxF (a b:Int):Int:=bif decide (b>a) then b else a
def joinF (a:List Int)(r:List (List Int)):List Int:=a++r.flatten
def orOneF (n:Int):Int:=bif n==0 then 1 else n
def keyF (n:Int):Bool:=inR n 1 2147483646
def b2iF (b:List Int):List Int:=[(b.length:Int)]++b.map IntKind.i64.wrap
def deriveF (seed:Int)(l:List Int):Int:=orOneF (keyedI seed ([151]++l))
def publicF (p:Int):Int:=bif !(keyF p) then 0 else(IntKind.i64.wrap (p*48271)).tmod 2147483647
def devKeyF (s:D.KeyStore):Int:=deriveF s.Seed [181]
def devPubF (s:D.KeyStore):Int:=publicF (devKeyF s)
def hasF (l:List Int)(x:Int):Bool:=l.any fun e=>e==x
def removedF (log:List D.LogEntry)(p:Int):Bool:=log.any fun e=>e.Kind==2&&e.Device==p
def stepDev (s:List Int)(e:D.LogEntry):List Int:=
 bif e.Kind==1 then(bif s.contains e.Device then s else s++[e.Device]) else bif e.Kind==2 then s.filter (fun d=>d !=e.Device) else s
def devicesOfF (log:List D.LogEntry):List Int:=log.foldl stepDev []
def epochOfF (log:List D.LogEntry):Int:=log.foldl (fun n e=>bif e.Kind==2 then IntKind.i64.wrap (n+1) else n) 0
def findEntryF (b:D.Bundle)(site handle:Int):Int:=findP (fun e=>e.Site==site&&e.Handle==handle) 0 b.Entries
theorem stepDev_len (s:List Int)(x:D.LogEntry):(stepDev s x).length≤s.length+1:=by
 unfold stepDev
 cases x.Kind==1 with
 |true=>cases s.contains x.Device<;>simp
 |false=>
  cases x.Kind==2 with
  |true=>have:=List.length_filter_le (fun d=>d !=x.Device) s;simp;omega
  |false=>simp
theorem devicesOf_len (log:List D.LogEntry):(devicesOfF log).length≤log.length:=by
 suffices ∀(l:List D.LogEntry) (s:List Int),(l.foldl stepDev s).length≤s.length+l.length from by simpa[devicesOfF] using this log []
 intro l
 induction l with
 |nil=>intro s;simp
 |cons x xs ih=>
  intro s
  simp only[List.foldl_cons,List.length_cons]
  have h1:=ih (stepDev s x)
  have h2:(stepDev s x).length≤s.length+1:=by
   unfold stepDev
   cases x.Kind==1 with
   |true=>cases s.contains x.Device<;>simp
   |false=>
    cases x.Kind==2 with
    |true=>have:=List.length_filter_le (fun d=>d !=x.Device) s;simp;omega
    |false=>simp
  omega
theorem maxF_one {n:Int}(h:0≤n):maxF 1 n=orOneF n:=by
 unfold maxF orOneF
 rcases(show n=0∨n=1∨n>1 by omega) with rfl|rfl|h1
 ·rfl
 ·rfl
 ·have:(n==0)=false:=by simp;omega
  simp[h1,this]
def WOk (w:D.World):Prop:=w.Devices.length≤34359738368∧w.Stolen.length≤34359738368∧w.Cloud.Log.length≤34359738368∧w.Sites.length≤34359738368
instance (w:D.World):Decidable (WOk w):=inferInstanceAs (Decidable (_∧_))
def hasDevF (w:D.World)(d:Int):Bool:=decide (0≤d)&&decide (d<w.Devices.length)
theorem hasDev_in {w:D.World}(h:WOk w)(d:Int):inR d 0 (IntKind.i64.wrap ((w.Devices.length:Int)-1))=hasDevF w d:=by
 have:=h.1
 rw[wrap64_id (by omega) (by omega)]
 unfold inR hasDevF
 congr 1
 exact decide_eq_decide.2 (by omega)
def devAt (w:D.World)(d:Int):D.Device:=w.Devices.getD d.toNat default
theorem atq_dev {w:D.World}{d:Int}(h:hasDevF w d=true):atq w.Devices d=some (devAt w d):=by
 simp only[hasDevF,Bool.and_eq_true,decide_eq_true_eq] at h
 rw[atq_int h.1 (by omega)]
 simp[devAt,List.getD,List.getElem?_eq_getElem (show d.toNat<w.Devices.length by omega)]
theorem WOk.of {w:D.World}(h:w.sz≤1048576):WOk w:=by
 simp only[D.World.sz,D.Cloud.sz] at h
 unfold WOk
 omega
def decB (k:Int)(i:Nat)(z:Int):Int:=IntKind.u8.wrap ((z-keyedI k [(i:Int)])%256)
def decF (k:Int)(b:List Int):List Int:=catI (fun i z=>[decB k i z]) 0 b
theorem modI_256 (x:Int):modI (IntKind.i64.wrap x) 256=x%256:=by
 rw[modI,if_pos (by omega),IntKind.wrap_i64];omega
theorem dec_impl (k:Int)(i:Nat)(z:Int):IntKind.u8.wrap (modI (IntKind.i64.wrap (IntKind.i64.wrap z-keyedI k [(i:Int)])) 256)=decB k i z:=by
 rw[modI_256,decB,IntKind.wrap_i64];congr 1;omega
theorem dec_spec (k:Int)(i:Nat)(z:Int):IntKind.u8.wrap (modI (IntKind.i64.wrap (IntKind.i64.wrap z-(keyedI k [(i:Int)]).tmod 256)) 256)=decB k i z:=by
 rw[modI_256,decB,IntKind.wrap_i64,Int.tmod_eq_emod_of_nonneg (keyedI_range _ _).1];congr 1;omega
theorem catI_len {α β:Type}{y:Nat→α→β}:∀{i:Nat} {l:List α},(catI (fun i x=>[y i x]) i l).length=l.length
 |i,[]=>rfl
 |i,x::xs=>by simp[catI,catI_len]
def boxKeyF (p e:Int):Int:=deriveF p [163,e]
def macF (k:Int)(b:D.Box):Int:=keyedI k ([167,b.To,b.Ephemeral]++b2iF b.Data)
def openBoxF (p:Int)(b:D.Box):List Int×Bool:=
 bif !keyF p||(b.To !=publicF p||(!keyF b.Ephemeral||decide ((b.Data.length:Int)>200))) then([],false)
 else bif b.MAC !=macF (boxKeyF p b.Ephemeral) b then([],false) else(decF (boxKeyF p b.Ephemeral) b.Data,true)
def findBoxF:List D.Box→Int→List Int×Bool
 |[],_=>([],false)
 |b::bs,p=>bif (openBoxF p b).2 then((openBoxF p b).1,true) else findBoxF bs p
def bytesOk (b:List Int):Prop:=b.length≤34359738368∧b.all (fun z=>decide (0≤z)&&decide (z≤255))=true
instance (b:List Int):Decidable (bytesOk b):=inferInstanceAs (Decidable (_∧_))
theorem bytesOk_get {b:List Int}(h:bytesOk b){i:Nat}(hi:i<b.length):0≤b[i]∧b[i]≤255:=by
 have:=List.all_eq_true.1 h.2 b[i] (List.getElem_mem hi)
 simpa using this
def uvG (b:List Int)(p:Nat):Nat→Nat→Int→Int×Int×Bool
 |0,_,_=>(0,0,false)
 |k+1,i,n=>
  if p+i<b.length then
   bif decide (b.getD (p+i) 0<128) then
    (bif (decide (0<i)&&b.getD (p+i) 0==0)||decide (n+b.getD (p+i) 0%128*128^i>1000000000000) then(0,0,false) else(n+b.getD (p+i) 0%128*128^i,((p+i+1:Nat):Int),true))
   else uvG b p k (i+1) (n+b.getD (p+i) 0%128*128^i)
  else(0,0,false)
def uvF (b:List Int)(at_:Int):Int×Int×Bool:=if at_<0 then(0,0,false) else uvG b at_.toNat 6 0 0
theorem pow128 {i:Nat}(h:i≤6):(1:Int)≤128^i∧(128:Int)^i≤4398046511104:=by
 match i,h with
 |0,_|1,_|2,_|3,_|4,_|5,_|6,_=>decide
theorem uv_step {z n:Int}{i:Nat}(hi:i≤5)(hz:0≤z)(hn:0≤n)(hn':n<128^i):0≤n+z%128*128^i∧n+z%128*128^i<128^(i+1)∧0≤z%128*128^i∧z%128*128^i≤127*128^i:=by
 have hp:=pow128 (i:=i) (by omega)
 have h1:0≤z%128*128^i:=Int.mul_nonneg (by omega) (by omega)
 have h2:z%128*128^i≤127*128^i:=Int.mul_le_mul_of_nonneg_right (by omega) (by omega)
 rw[Int.pow_succ]
 refine⟨by omega,by omega,h1,h2⟩
theorem or_step {z n:Int}{i:Nat}(hi:i≤5)(hz:0≤z)(hz':z≤255)(hn:0≤n)(hn':n<128^i):
  orI .i64 n (shlI .i64 (andI .i64 z 127) (IntKind.i64.wrap (7*(i:Int))))=n+z%128*128^i:=by
 obtain⟨m,rfl⟩:=Int.eq_ofNat_of_zero_le hz
 obtain⟨q,rfl⟩:=Int.eq_ofNat_of_zero_le hn
 have hp:=pow128 (i:=i) (by omega)
 have hs:=uv_step (z:=(m:Int)) (n:=(q:Int)) hi (by omega) (by omega) hn'
 have ha:andI .i64 (m:Int) 127=((m%128:Nat):Int):=by
  have e:((BitVec.ofInt 64 (m:Int))&&&(BitVec.ofInt 64 127)).toNat=m%128:=by
   rw[BitVec.toNat_and]
   have e1:(BitVec.ofInt 64 (m:Int)).toNat=m:=by
    rw[BitVec.toNat_ofInt];omega
   have e2:(BitVec.ofInt 64 127).toNat=2^7-1:=by decide
   rw[e1,e2,Nat.and_two_pow_sub_one_eq_mod]
  show IntKind.i64.wrap (((BitVec.ofInt 64 (m:Int))&&&(BitVec.ofInt 64 127)).toNat:Int)=_
  rw[e];exact wrap64_id (by omega) (by omega)
 have hw:IntKind.i64.wrap (7*(i:Int))=((7*i:Nat):Int):=by rw[wrap64_id (by omega) (by omega)];omega
 have hpn:(2:Nat)^(7*i)=128^i:=by rw[Nat.pow_mul]
 have hpi:((128^i:Nat):Int)=(128:Int)^i:=by simp
 have hb:shlI .i64 (andI .i64 (m:Int) 127) (IntKind.i64.wrap (7*(i:Int)))=((m%128*128^i:Nat):Int):=by
  rw[ha,hw]
  unfold shlI
  rw[Int.toNat_natCast,show min (7*i) IntKind.i64.bits=7*i from Nat.min_eq_left (by simp[IntKind.bits];omega)]
  have e3:((m%128:Nat):Int)*2^(7*i)=((m%128*128^i:Nat):Int):=by
   rw[←hpn];simp
  rw[e3]
  have:((m%128*128^i:Nat):Int)=(m:Int)%128*128^i:=by simp
  rw[this]
  exact wrap64_id (by omega) (by omega)
 rw[hb]
 have hqlt:q<128^i:=by rw[←hpi] at hn';exact_mod_cast hn'
 have hor:(m%128*128^i)|||q=m%128*128^i+q:=by
  have:=Nat.shiftLeft_add_eq_or_of_lt (b:=q) (i:=7*i) (by rw[hpn];exact hqlt) (m%128)
  rw[Nat.shiftLeft_eq,hpn] at this
  exact this.symm
 have hle:m%128*128^i+q<2^63:=by
  have:((m%128*128^i+q:Nat):Int)=q+(m:Int)%128*128^i:=by simp;omega
  omega
 have e4:((BitVec.ofInt 64 (q:Int))|||(BitVec.ofInt 64 ((m%128*128^i:Nat):Int))).toNat=m%128*128^i+q:=by
  rw[BitVec.toNat_or]
  have e5:(BitVec.ofInt 64 (q:Int)).toNat=q:=by rw[BitVec.toNat_ofInt];omega
  have e6:(BitVec.ofInt 64 ((m%128*128^i:Nat):Int)).toNat=m%128*128^i:=by rw[BitVec.toNat_ofInt];omega
  rw[e5,e6,Nat.or_comm,hor]
 show IntKind.i64.wrap (((BitVec.ofInt 64 (q:Int))|||(BitVec.ofInt 64 ((m%128*128^i:Nat):Int))).toNat:Int)=_
 rw[e4,wrap64_id (by omega) (by omega)]
 simp
 omega
def decG (b:List Int):Nat→Int→List Int→List Int×Int×Bool
 |0,a,s=>(s,a,true)
 |k+1,a,s=>bif (uvF b a).2.2 then decG b k (uvF b a).2.1 (s++[(uvF b a).1]) else([],0,false)
def decodeF (b:List Int)(a c:Int):List Int×Int×Bool:=bif !inR c 0 100|| !inR a 0 b.length then([],0,false) else decG b c.toNat a []
theorem decG_len (b:List Int):∀(k:Nat) (a:Int) (s:List Int),(decG b k a s).2.2=true→(decG b k a s).1.length=s.length+k
 |0,a,s,_=>rfl
 |k+1,a,s,h=>by
  unfold decG at h ⊢
  cases hu:(uvF b a).2.2 with
  |false=>rw[hu] at h;simp at h
  |true=>
   rw[hu] at h
   simp only[cond_true] at h ⊢
   rw[decG_len b k _ _ h];simp;omega
theorem decode_len {b:List Int}{a c:Int}(hc:0≤c)(h:(decodeF b a c).2.2=true):(decodeF b a c).1.length=c.toNat:=by
 unfold decodeF at h ⊢
 cases hx:(!inR c 0 100|| !inR a 0 b.length) with
 |true=>rw[hx] at h;simp at h
 |false=>
  rw[hx] at h
  simp only[cond_false] at h ⊢
  rw[decG_len _ _ _ _ h];simp
theorem decF_ok {k:Int}{b:List Int}(h:b.length≤34359738368):bytesOk (decF k b):=by
 refine⟨by unfold decF;rw[catI_len];exact h,?_⟩
 rw[List.all_eq_true]
 intro z hz
 have:∀(b:List Int) (i:Nat),z∈catI (fun i z=>[decB k i z]) i b→0≤z∧z≤255:=by
  intro b
  induction b with
  |nil=>intro i h;simp[catI] at h
  |cons x xs ih=>
   intro i h
   simp only[catI,List.mem_append,List.mem_singleton] at h
   rcases h with rfl|h
   ·have:=wrap_range .u8 ((x-keyedI k [(i:Int)])%256)
    simpa[decB,IntKind.min,IntKind.max,IntKind.signed,IntKind.bits] using this
   ·exact ih _ h
 have:=this b 0 hz
 simp[this.1,this.2]
theorem openBox_ok (p:Int)(b:D.Box):bytesOk (openBoxF p b).1:=by
 unfold openBoxF
 have h0:bytesOk ([]:List Int):=by decide
 by_cases hl:b.Data.length≤200
 ·cases(!keyF p||(b.To !=publicF p||(!keyF b.Ephemeral||decide ((b.Data.length:Int)>200))))<;>cases(b.MAC !=macF (boxKeyF p b.Ephemeral) b)<;>first|exact h0|exact decF_ok (by omega)
 ·have e1:decide ((b.Data.length:Int)>200)=true:=by simp;omega
  rw[e1];simpa using h0
theorem findBox_ok (p:Int):∀bs,bytesOk (findBoxF bs p).1
 |[]=>show bytesOk [] by decide
 |b::bs=>by
  unfold findBoxF
  cases(openBoxF p b).2 with
  |true=>exact openBox_ok p b
  |false=>exact findBox_ok p bs
def openEpochG (e:D.EpochBoxes)(x:List Int×Bool)(y:List Int×Int×Bool):Int×Bool:=
 bif !x.2||(!y.2.2||(y.2.1 !=(x.1.length:Int)||(y.1.getD 0 0 !=e.Epoch|| !keyF (y.1.getD 1 0)))) then(0,false) else(y.1.getD 1 0,true)
def openEpochF (s:D.KeyStore)(e:D.EpochBoxes):Int×Bool:=openEpochG e (findBoxF e.Boxes (devKeyF s)) (decodeF (findBoxF e.Boxes (devKeyF s)).1 0 2)
theorem and_one {n:Int}(h0:0≤n)(h1:n<9223372036854775808):andI .i64 n 1=n%2:=by
 obtain⟨m,rfl⟩:=Int.eq_ofNat_of_zero_le h0
 have e:((BitVec.ofInt 64 (m:Int))&&&(BitVec.ofInt 64 1)).toNat=m%2:=by
  rw[BitVec.toNat_and]
  have e1:(BitVec.ofInt 64 (m:Int)).toNat=m:=by rw[BitVec.toNat_ofInt];omega
  have e2:(BitVec.ofInt 64 1).toNat=2^1-1:=by decide
  rw[e1,e2,Nat.and_two_pow_sub_one_eq_mod]
 show IntKind.i64.wrap (((BitVec.ofInt 64 (m:Int))&&&(BitVec.ofInt 64 1)).toNat:Int)=_
 rw[e,wrap64_id (by omega) (by omega)];omega
theorem shr_one {n:Int}(h0:0≤n):shrI .i64 n 1=n/2:=by
 unfold shrI
 rw[show min (Int.toNat 1) IntKind.i64.bits=1 from by decide,Int.fdiv_eq_ediv_of_nonneg _ (by decide)];rfl
def powG:Nat→Int→Int→Int→Int
 |0,_,_,s=>s
 |k+1,b,n,s=>if n>0 then powG k ((IntKind.i64.wrap (b*b)).tmod 2147483647) (n/2) (bif n%2==1 then(IntKind.i64.wrap (s*b)).tmod 2147483647 else s) else s
theorem powG_c1:powG 31 48271 2147483645 1=1899818559:=by decide+kernel
def privF (q:Int):Int:=bif !keyF q then 0 else q*1899818559%2147483647
def signF (p:Int)(l:List Int):Int:=bif !keyF p then 0 else keyedI p ([139,(l.length:Int)]++l)
def verifyF (q:Int)(l:List Int)(g:Int):Bool:=privF q !=0&&signF (privF q) l==g
theorem atq_prev {α:Type}[Inhabited α]{l:List α}{i:Nat}(h0:0<i)(hi:i<l.length)(hl:l.length≤34359738368):atq l (IntKind.i64.wrap ((i:Int)-1))=some (l.getD (i-1) default):=by
 rw[wrap64_id (by omega) (by omega),show(i:Int)-1=((i-1:Nat):Int) by omega,atq_nat (by omega)]
 simp[List.getD,List.getElem?_eq_getElem (show i-1<l.length by omega)]
def noticeBad (l:List D.Notice)(i:Nat)(n:D.Notice):Bool:= !inR n.Kind 1 5||(!inR n.Account 0 1000000||(!inR n.Time 0 1000000||(decide (0<i)&&decide ((l.getD (i-1) default).Time>n.Time))))
def mailOkF (m:D.Mailbox):Bool:=decide (m.Notices.length≤30)&& !anyI (noticeBad m.Notices) 0 m.Notices
def challengeBad (b:D.ChallengeBook)(i:Nat)(n:D.Challenge):Bool:= !inR n.Id 0 (IntKind.i64.wrap (b.Next-1))||((decide (0<i)&&decide ((b.Open.getD (i-1) default).Id≥n.Id))||(!inR n.Account 0 1000005|| !inR n.Until 0 1000005))
def bookOkF (b:D.ChallengeBook):Bool:=inR b.Next 0 1000000&&decide (b.Open.length≤16)&& !anyI (challengeBad b) 0 b.Open
def credBad (a:D.Account)(i:Nat)(n:D.Credential):Bool:=(!inR n.Handle 0 1000000||((decide (0<i)&&decide ((a.Credentials.getD (i-1) default).Handle≥n.Handle))||(privF n.Public==0|| !inR n.Counter 0 1000000)))||(a.Credentials.take i).any fun q=>q.Public==n.Public
def accountOkF (a:D.Account):Bool:=inR a.Id 0 1000000&&inR a.Minimum 1 3&&decide (a.Credentials.length≤8)&& !anyI (credBad a) 0 a.Credentials
def entryHashF (e:D.LogEntry):Int:=hashI [229,e.Index,e.Kind,e.Device,e.By,e.Previous]
def logHeadF (l:List D.LogEntry):Int:=bif (l.length:Int)==0 then 0 else entryHashF (l.getD (l.length-1) default)
def stepOkF (l:List D.LogEntry)(e:D.LogEntry):Bool:=
 e.Index==(l.length:Int)&&(e.Previous==logHeadF l&&((hasF (devicesOfF l) e.By||((l.length:Int)==0&&e.By==e.Device))&&(verifyF e.By [entryHashF e] e.Signature&&
  (bif e.Kind==2 then hasF (devicesOfF l) e.Device&&decide (((devicesOfF l).length:Int)>1) else !removedF l e.Device&&(e.Kind==1&&(!hasF (devicesOfF l) e.Device&&decide (((devicesOfF l).length:Int)<6)))))))
def logOkF (l:List D.LogEntry):Bool:=inR (l.length:Int) 1 40&& !anyI (fun i e=> !stepOkF (l.take i) e) 0 l
theorem hasF_pos {l:List Int}{x:Int}(h:hasF l x=true):0<l.length:=by
 cases l with
 |nil=>simp[hasF] at h
 |cons a r=>simp
def splitA:List UInt8→List UInt8→List (List UInt8)
 |cur,[]=>[cur]
 |cur,b::r=>bif b==46 then cur::splitA [] r else splitA (cur++[b]) r
theorem occ46 (s:List UInt8)(i:Nat):Lib.occAt s [46] i=decide (s[i]? =some 46):=by
 unfold Lib.occAt
 cases h:s.drop i with
 |nil=>
  have:s.length≤i:=List.drop_eq_nil_iff.1 h
  simp[List.getElem?_eq_none this,List.isPrefixOf]
 |cons b r=>
  have e:s[i]? =some b:=by
   have:=List.getElem?_drop (xs:=s) (i:=i) (j:=0)
   rw[h] at this;simpa using this.symm
  rw[e];simp only[List.isPrefixOf,Bool.and_true,Option.some.injEq]
  rw[Bool.eq_iff_iff];simp only[beq_iff_eq,decide_eq_true_eq];exact eq_comm
theorem splitA_app:∀(a cur r:List UInt8),(∀b∈a,b≠46)→splitA cur (a++46::r)=(cur++a)::splitA [] r
 |[],cur,r,_=>by simp[splitA]
 |b::a,cur,r,h=>by
  have hb:(b==46)=false:=by simpa using h b (by simp)
  rw[List.cons_append,splitA,hb,cond_false,splitA_app a _ r (fun x hx=>h x (List.mem_cons_of_mem _ hx))];simp
theorem splitA_none:∀(a cur:List UInt8),(∀b∈a,b≠46)→splitA cur a=[cur++a]
 |[],cur,_=>by simp[splitA]
 |b::a,cur,h=>by
  have hb:(b==46)=false:=by simpa using h b (by simp)
  rw[splitA,hb,cond_false,splitA_none a _ (fun x hx=>h x (List.mem_cons_of_mem _ hx))];simp
theorem splitK_A:∀(n:Nat) (s:List UInt8),s.length<n→Lib.splitK [46] 0 (Lib.count s [46]) s=splitA [] s
 |0,s,h=>absurd h (Nat.not_lt_zero _)
 |n+1,s,h=>by
  rcases Lib.index_spec s [46] with⟨h1,h2⟩|⟨i,h1,h2,h3,h4⟩
  ·rw[Lib.count_miss h1,splitA_none s [] (fun b hb e=>by
    obtain⟨j,hj,ej⟩:=List.getElem_of_mem hb
    have:=h2 j (by omega)
    rw[occ46,List.getElem?_eq_getElem hj,ej,e] at this;simp at this)];rfl
  ·rw[occ46] at h3
   have h3:s[i]? =some 46:=by simpa using h3
   have hi:i<s.length:=by
    rcases Nat.lt_or_ge i s.length with hlt|hge
    ·exact hlt
    ·rw[List.getElem?_eq_none hge] at h3;cases h3
   rw[Lib.count_hit (by simp) h1,Nat.add_comm,Lib.splitK,h1]
   have hne:((i:Int)== -1)=false:=by simp
   rw[hne]
   simp only[Int.toNat_natCast,Nat.add_zero,List.length_cons,List.length_nil,Nat.zero_add]
   rw[if_neg (by simp),splitK_A n (s.drop (i+1)) (by rw[List.length_drop];omega)]
   have es:s=s.take i++46::s.drop (i+1):=by
    have e2:s[i]=46:=by rw[List.getElem?_eq_getElem hi] at h3;exact Option.some.inj h3
    rw[←e2,List.getElem_cons_drop hi,List.take_append_drop]
   conv=>rhs;rw[es]
   rw[splitA_app (s.take i) [] _ (fun b hb e=>by
    obtain⟨j,hj,ej⟩:=List.getElem_of_mem hb
    rw[List.length_take] at hj
    have:=h4 j (by omega)
    rw[occ46,List.getElem?_eq_getElem (by omega)] at this
    rw[List.getElem_take] at ej
    rw[ej,e] at this;simp at this)];simp
def labelsF (s:ByteArray):List ByteArray:=(splitA [] s.data.toList).map fun l=>⟨l.toArray⟩
theorem splitF_dot (s:ByteArray):splitF s ⟨#[46]⟩=labelsF s:=by
 have h1:(splitF s ⟨#[46]⟩).map (·.data.toList)=splitA [] s.data.toList:=by
  rw[splitF,Lib.splitB_data];exact splitK_A _ _ (Nat.lt_succ_self _)
 unfold labelsF
 rw[←h1,List.map_map]
 conv=>lhs;rw[←List.map_id (splitF s ⟨#[46]⟩)]
 congr 1
def charOkF (b:Int):Bool:=inR b 97 122||inR b 48 57||b==45
def labelOkF (s:ByteArray):Bool:=decide (1≤s.size)&&decide (s.size≤20)&& !((bytesI s).getD 0 0==45)&& !((bytesI s).getD (s.size-1) 0==45)&& !((bytesI s).any fun b=> !charOkF b)
def isHostF (s:ByteArray):Bool:=decide (s.size≤60)&& !((labelsF s).any fun l=> !labelOkF l)
theorem bytesI_len (s:ByteArray):(bytesI s).length=s.size:=by simp only[bytesI,List.length_map];rfl
theorem atqB {s:ByteArray}{i:Nat}(h:i<s.size):atq (bytesI s) (i:Int)=some ((bytesI s)[i]'(by rw[bytesI_len];exact h)):=atq_nat _
theorem ext_list (s:ByteArray)(a b:Nat):s.extract a b=⟨((s.data.toList.drop a).take (b-a)).toArray⟩:=by
 apply ByteArray.ext
 apply Array.toList_inj.1
 rw[Lib.extract_data]
theorem splitA_len:∀(s cur:List UInt8),(splitA cur s).length≤s.length+1
 |[],_=>by simp[splitA]
 |b::r,cur=>by
  rw[splitA]
  cases b==46 with
  |true=>have:=splitA_len r [];simp;omega
  |false=>have:=splitA_len r (cur++[b]);simp at this ⊢;omega
theorem splitA_size:∀(s cur:List UInt8) (l:List UInt8),l∈splitA cur s→l.length≤cur.length+s.length
 |[],cur,l,h=>by simp[splitA] at h;subst h;simp
 |b::r,cur,l,h=>by
  rw[splitA] at h
  cases hb:b==46 with
  |true=>
   rw[hb,cond_true] at h
   rcases List.mem_cons.1 h with rfl|h
   ·omega
   ·have:=splitA_size r [] l h;simp at this ⊢;omega
  |false=>rw[hb,cond_false] at h;have:=splitA_size r _ l h;simp at this ⊢;omega
theorem labelsF_len (s:ByteArray):(labelsF s).length≤s.size+1:=by
 unfold labelsF;rw[List.length_map];exact splitA_len _ _
theorem labelsF_size (s l:ByteArray)(h:l∈labelsF s):l.size≤s.size:=by
 unfold labelsF at h
 obtain⟨q,hq,rfl⟩:=List.mem_map.1 h
 have:=splitA_size _ _ q hq
 have h2:(⟨q.toArray⟩:ByteArray).size=q.length:=rfl
 have h3:s.data.toList.length=s.size:=rfl
 have h4:([]:List UInt8).length=0:=rfl
 omega
theorem toL0 (z:ByteArray):(z.toList==(⟨#[]⟩:ByteArray).toList)=decide (z.size=0):=by
 rw[ByteArray.toList_eq,ByteArray.toList_eq,Bool.eq_iff_iff]
 simp only[beq_iff_eq,decide_eq_true_eq]
 constructor
 ·intro h
  show z.data.size=0
  rw[←Array.length_toList,h];rfl
 ·intro h
  exact List.eq_nil_of_length_eq_zero h
theorem splitA_count:∀(s cur:List UInt8),(splitA cur s).length=s.countP (·==46)+1
 |[],_=>rfl
 |b::r,cur=>by
  rw[splitA,List.countP_cons]
  cases b==46 with
  |true=>rw[cond_true,List.length_cons,splitA_count r []];simp
  |false=>rw[cond_false,splitA_count r _];simp
theorem labelsF_pos (s:ByteArray):0<(labelsF s).length:=by
 unfold labelsF;rw[List.length_map,splitA_count];omega
def hasDotF (s:ByteArray):Bool:=(bytesI s).any fun b=>b==46
theorem hasDot_labels (s:ByteArray):hasDotF s=decide (2≤(labelsF s).length):=by
 unfold hasDotF labelsF bytesI
 rw[List.length_map,splitA_count,List.any_map]
 have e:(fun b:Int=>b==46)∘(fun b:UInt8=>(b.toNat:Int))=fun b:UInt8=>b==46:=by
  funext b
  rw[Bool.eq_iff_iff]
  simp only[Function.comp,beq_iff_eq]
  constructor
  ·intro q;apply UInt8.toNat_inj.1;show _=46;omega
  ·intro q;rw[q];rfl
 rw[e,Bool.eq_iff_iff,List.any_eq_true,decide_eq_true_eq]
 have:=List.countP_pos_iff (p:=fun b:UInt8=>b==46) (l:=s.data.toList)
 constructor
 ·intro h;have:=this.2 h;omega
 ·intro h;exact this.1 (by omega)
def regF (s:ByteArray):ByteArray:=bif isHostF s then(bif (labelsF s).length==1 then s else joinB ⟨#[46]⟩ ((labelsF s).drop ((labelsF s).length-2))) else⟨#[]⟩
theorem join2 {l:List ByteArray}(h:2≤l.length):∃a∈l,∃b∈l,joinB ⟨#[46]⟩ (l.drop (l.length-2))=a++⟨#[46]⟩++b:=by
 have hl:(l.drop (l.length-2)).length=2:=by rw[List.length_drop];omega
 match hm:l.drop (l.length-2),hl with
 |[a,b],_=>
  refine⟨a,List.mem_of_mem_drop (i:=l.length-2) (by rw[hm];simp),b,List.mem_of_mem_drop (i:=l.length-2) (by rw[hm];simp),?_⟩
  rw[show[a,b]=[a]++[b] from rfl,joinB_s _ _ _ (by simp),joinB_1]
theorem isHost_size {s:ByteArray}(h:isHostF s=true):s.size≤60∧0<s.size:=by
 unfold isHostF at h
 rw[Bool.and_eq_true,decide_eq_true_eq] at h
 refine⟨h.1,Nat.pos_of_ne_zero fun e=> ?_⟩
 have e2:s.data.toList=[]:=List.eq_nil_of_length_eq_zero e
 have e3:labelsF s=[⟨#[]⟩]:=by unfold labelsF;rw[e2];rfl
 rw[e3] at h
 exact absurd h.2 (by decide)
theorem regF_ne {s:ByteArray}(h:isHostF s=true):decide ((regF s).size=0)=false:=by
 have hs:=isHost_size h
 have hp:=labelsF_pos s
 unfold regF
 rw[h,cond_true]
 refine decide_eq_false ?_
 cases h1:(labelsF s).length==1 with
 |true=>rw[cond_true];omega
 |false=>
  rw[cond_false]
  have:(labelsF s).length≠1:=by simpa using h1
  obtain⟨a,_,b,_,e⟩:=join2 (l:=labelsF s) (by omega)
  rw[e,ByteArray.size_append,ByteArray.size_append]
  have:(⟨#[46]⟩:ByteArray).size=1:=rfl
  omega
def nameOkF (s:ByteArray)(seed:Int):Bool:=isHostF s&&decide (2≤(labelsF s).length)&&keyF seed
def accBad (l:List D.Account)(i:Nat)(n:D.Account):Bool:= !accountOkF n||(decide (0<i)&&decide ((l.getD (i-1) default).Id≥n.Id))
def siteOkF (s:D.Site):Bool:=nameOkF s.Name s.Book.Seed&&decide (s.Accounts.length≤8)&&bookOkF s.Book&& !anyI (accBad s.Accounts) 0 s.Accounts
def SOk (s:D.Site):Prop:=s.Name.size≤34359738368∧s.Accounts.length≤34359738368∧s.Book.Open.length≤34359738368∧∀a∈s.Accounts,a.Credentials.length≤34359738368
instance (s:D.Site):Decidable (SOk s):=inferInstanceAs (Decidable (_∧_))
def newSiteF (name:ByteArray)(seed:Int):D.Site:=bif nameOkF name seed then⟨name,[],⟨seed,0,[]⟩,[]⟩ else⟨⟨#[]⟩,[],⟨0,0,[]⟩,[]⟩
theorem newSite_ne (name:ByteArray)(seed:Int):decide ((newSiteF name seed).Name.size=0)= !nameOkF name seed:=by
 unfold newSiteF
 cases h:nameOkF name seed with
 |false=>rfl
 |true=>
  have:isHostF name=true:=by unfold nameOkF at h;rw[Bool.and_eq_true,Bool.and_eq_true] at h;exact h.1.1
  have:=isHost_size this
  exact decide_eq_false (by show ¬name.size=0;omega)
def siteNameF (i:Int):ByteArray:=bif i==0 then⟨#[98,97,110,107,46,99,111,109]⟩ else bif i==1 then⟨#[115,104,111,112,46,111,114,103]⟩ else⟨#[]⟩
def siteBadW (i:Nat)(s:D.Site):Bool:= !siteOkF s|| !(s.Name.toList==(siteNameF (i:Int)).toList)
def worldOkF (w:D.World):Bool:=inR w.Now 0 999900&&inR (w.Devices.length:Int) 1 6&&(w.Stolen.length:Int)==(w.Devices.length:Int)&&(w.Sites.length:Int)==2&&mailOkF w.Mail&&logOkF w.Cloud.Log&&keyF w.Seed&& !anyI siteBadW 0 w.Sites
def WOk2 (w:D.World):Prop:=WOk w∧w.Mail.Notices.length≤34359738368∧w.Hosts.length≤34359738368∧∀s∈w.Sites,SOk s
instance (w:D.World):Decidable (WOk2 w):=inferInstanceAs (Decidable (_∧_))
theorem le_sum {α:Type}{g:α→Nat}{x:α}:∀{l:List α},x∈l→g x≤(l.map g).sum
 |y::r,h=>by
  rw[List.map_cons,List.sum_cons]
  rcases List.mem_cons.1 h with rfl|h
  ·omega
  ·have:=le_sum (g:=g) h;omega
theorem SOk.of {s:D.Site}(h:s.sz≤1048576):SOk s:=by
 simp only[D.Site.sz] at h
 refine⟨by omega,by omega,by omega,fun a ha=> ?_⟩
 have:=le_sum (g:=D.Account.sz) ha
 simp only[D.Account.sz] at this h
 omega
theorem WOk2.of {w:D.World}(h:w.sz≤1048576):WOk2 w:=by
 refine⟨WOk.of h,?_,?_,fun s hs=>SOk.of ?_⟩
 ·simp only[D.World.sz] at h;omega
 ·simp only[D.World.sz] at h;omega
 ·have:=le_sum (g:=D.Site.sz) hs
  simp only[D.World.sz] at h;omega
abbrev joinP (a:List Int)(r:List (List Int)):Prop:=a.length+r.flatten.length≤68719476736∧r.length≤1099511627776
def kless (a b:D.Entry):Bool:=decide (a.Site<b.Site)||(a.Site==b.Site&&decide (a.Handle<b.Handle))
def lessF (a:D.Entry)(s h:Int):Bool:=decide (a.Site<s)||(a.Site==s&&decide (a.Handle<h))
def newerE (x e:D.Entry):Bool:=decide (x.Version>e.Version)||(x.Version==e.Version&&x.Deleted)
def pickE (e x:D.Entry):D.Entry:=bif newerE x e then x else e
def mergeL:List D.Entry→List D.Entry→List D.Entry
 |[],bs=>bs
 |a::xs,[]=>a::xs
 |a::xs,b::bs=>bif kless a b then a::mergeL xs (b::bs) else bif kless b a then b::mergeL (a::xs) bs else pickE a b::mergeL xs bs
termination_by xs bs=>xs.length+bs.length
def badE (l:List D.Entry)(i:Nat)(e:D.Entry):Bool:= !inR e.Site 0 2147483646||(!inR e.Handle 0 1000000||(!inR e.Version 1 1000000||(decide ((i:Int)>0)&& !kless (l.getD (i-1) default) e)))
def bundleOkF (b:D.Bundle):Bool:=decide ((b.Entries.length:Int)≤20)&& !anyI (badE b.Entries) 0 b.Entries
def mergeF (a b:D.Bundle):D.Bundle×Bool:=bif bundleOkF a&&bundleOkF b then(bif bundleOkF ⟨mergeL a.Entries b.Entries⟩ then(⟨mergeL a.Entries b.Entries⟩,true) else(a,false)) else(a,false)
def setF (b:D.Bundle)(x:D.Entry):D.Bundle:=bif decide (findEntryF b x.Site x.Handle≥0) then⟨b.Entries.set (findEntryF b x.Site x.Handle).toNat x⟩ else⟨b.Entries.takeWhile (fun e=>lessF e x.Site x.Handle)++[x]++b.Entries.dropWhile (fun e=>lessF e x.Site x.Handle)⟩
theorem kless_iff {a b:D.Entry}:kless a b=true↔a.Site<b.Site∨(a.Site=b.Site∧a.Handle<b.Handle):=by
 simp[kless]
theorem less_kless {a x:D.Entry}:lessF a x.Site x.Handle=kless a x:=rfl
theorem kless_trans {a b c:D.Entry}(h:kless a b=true)(k:kless b c=true):kless a c=true:=by
 rw[kless_iff] at*;omega
theorem kless_same {a b:D.Entry}(h:kless a b=false)(k:kless b a=false):a.Site=b.Site∧a.Handle=b.Handle:=by
 have h1:¬(a.Site<b.Site∨(a.Site=b.Site∧a.Handle<b.Handle)):=fun q=>by rw[kless_iff.2 q] at h;cases h
 have h2:¬(b.Site<a.Site∨(b.Site=a.Site∧b.Handle<a.Handle)):=fun q=>by rw[kless_iff.2 q] at k;cases k
 omega
theorem kless_key {a b c:D.Entry}(h:a.Site=b.Site∧a.Handle=b.Handle):kless a c=kless b c:=by
 unfold kless;rw[h.1,h.2]
theorem kless_key' {a b c:D.Entry}(h:a.Site=b.Site∧a.Handle=b.Handle):kless c a=kless c b:=by
 unfold kless;rw[h.1,h.2]
theorem pick_key {a b:D.Entry}(h:a.Site=b.Site∧a.Handle=b.Handle):(pickE a b).Site=b.Site∧(pickE a b).Handle=b.Handle:=by
 unfold pickE
 cases newerE b a
 ·exact h
 ·exact⟨rfl,rfl⟩
theorem pick_or (a b:D.Entry):pickE a b=a∨pickE a b=b:=by
 unfold pickE
 cases newerE b a
 ·exact .inl rfl
 ·exact .inr rfl
theorem merge_nil (l:List D.Entry):mergeL l []=l:=by cases l<;>rw[mergeL]
theorem merge_nil0 (l:List D.Entry):mergeL [] l=l:=by rw[mergeL]
theorem merge_len:∀(n:Nat) (a b:List D.Entry),a.length+b.length≤n→(mergeL a b).length≤a.length+b.length
 |_,[],b,_=>by rw[merge_nil0];simp
 |_,a::xs,[],_=>by rw[merge_nil];simp
 |0,a::xs,b::bs,h=>by simp at h
 |n+1,a::xs,b::bs,h=>by
  simp only[List.length_cons] at h
  rw[mergeL]
  cases kless a b with
  |true=>have:=merge_len n xs (b::bs) (by simp only[List.length_cons];omega);simp only[cond_true,List.length_cons] at*;omega
  |false=>
   cases kless b a with
   |true=>have:=merge_len n (a::xs) bs (by simp only[List.length_cons];omega);simp only[cond_false,cond_true,List.length_cons] at*;omega
   |false=>have:=merge_len n xs bs (by omega);simp only[cond_false,List.length_cons] at*;omega
theorem merge_cons (a b:D.Entry)(xs bs:List D.Entry):mergeL (a::xs) (b::bs)=bif kless a b then a::mergeL xs (b::bs) else bif kless b a then b::mergeL (a::xs) bs else pickE a b::mergeL xs bs:=by rw[mergeL]
def srt (l:List D.Entry):Prop:=l.Pairwise fun a b=>kless a b=true
theorem merge_ins:∀(A:List D.Entry) {b:D.Entry} {bs:List D.Entry},srt (b::bs)→mergeL (mergeL A [b]) bs=mergeL A (b::bs)
 |[],b,bs,h=>by
  rw[merge_nil0,merge_nil0]
  cases bs with
  |nil=>rw[merge_nil]
  |cons c cs=>rw[mergeL,(List.pairwise_cons.1 h).1 c (by simp),cond_true,merge_nil0]
 |a::xs,b,bs,h=>by
  have hc:=(List.pairwise_cons.1 h).1
  rw[merge_cons a b xs [],merge_cons a b xs bs]
  cases h1:kless a b with
  |true=>
   simp only[cond_true]
   cases bs with
   |nil=>rw[merge_nil]
   |cons c cs=>rw[mergeL,kless_trans h1 (hc c (by simp)),cond_true,merge_ins xs h]
  |false=>
   cases h2:kless b a with
   |true=>
    simp only[cond_true,cond_false]
    rw[merge_nil]
    cases bs with
    |nil=>rw[merge_nil,merge_nil]
    |cons c cs=>rw[mergeL,hc c (by simp),cond_true]
   |false=>
    simp only[cond_false]
    rw[merge_nil]
    cases bs with
    |nil=>rw[merge_nil,merge_nil]
    |cons c cs=>rw[mergeL,kless_key (pick_key (kless_same h1 h2)),hc c (by simp),cond_true]
theorem ins_mem:∀{l:List D.Entry} {x y:D.Entry},y∈mergeL l [x]→y∈l∨y=x
 |[],x,y,h=>by rw[merge_nil0] at h;simp at h;exact .inr h
 |a::xs,x,y,h=>by
  rw[mergeL] at h
  cases h1:kless a x with
  |true=>
   rw[h1,cond_true] at h
   rcases List.mem_cons.1 h with rfl|h
   ·exact .inl (by simp)
   ·exact(ins_mem h).imp (fun h=>by simp[h]) id
  |false=>
   rw[h1,cond_false] at h
   cases h2:kless x a with
   |true=>
    rw[h2,cond_true,merge_nil] at h
    rcases List.mem_cons.1 h with rfl|h
    ·exact .inr rfl
    ·exact .inl h
   |false=>
    rw[h2,cond_false,merge_nil] at h
    rcases List.mem_cons.1 h with rfl|h
    ·rcases pick_or a x with e|e
     ·rw[e];exact .inl (by simp)
     ·exact .inr e
    ·exact .inl (by simp[h])
theorem ins_srt:∀{l:List D.Entry} {x:D.Entry},srt l→srt (mergeL l [x])
 |[],x,h=>by rw[merge_nil0];exact List.pairwise_singleton _ _
 |a::xs,x,h=>by
  obtain⟨ha,hs⟩:=List.pairwise_cons.1 h
  rw[mergeL]
  cases h1:kless a x with
  |true=>
   rw[cond_true]
   refine List.pairwise_cons.2 ⟨fun y hy=> ?_,ins_srt hs⟩
   rcases ins_mem hy with hy|rfl
   ·exact ha y hy
   ·exact h1
  |false=>
   cases h2:kless x a with
   |true=>
    rw[cond_false,cond_true,merge_nil]
    refine List.pairwise_cons.2 ⟨fun y hy=> ?_,h⟩
    rcases List.mem_cons.1 hy with rfl|hy
    ·exact h2
    ·exact kless_trans h2 (ha y hy)
   |false=>
    rw[cond_false,cond_false,merge_nil]
    have hk:=kless_same h1 h2
    refine List.pairwise_cons.2 ⟨fun y hy=> ?_,hs⟩
    rw[kless_key (pick_key hk),←kless_key hk];exact ha y hy
theorem fold_merge:∀(B A:List D.Entry),srt B→B.foldl (fun o x=>mergeL o [x]) A=mergeL A B
 |[],A,_=>by rw[merge_nil];rfl
 |b::bs,A,h=>by rw[List.foldl_cons,fold_merge bs _ (List.pairwise_cons.1 h).2,merge_ins A h]
theorem findP_no {α:Type}{p:α→Bool}:∀{l:List α} {i:Nat},findP p i l<0→∀y∈l,p y=false
 |[],i,_,y,hy=>by simp at hy
 |x::l,i,h,y,hy=>by
  simp only[findP] at h
  cases hp:p x with
  |true=>rw[hp,cond_true] at h;omega
  |false=>
   rw[hp,cond_false] at h
   rcases List.mem_cons.1 hy with rfl|hy
   ·exact hp
   ·exact findP_no h y hy
theorem findP_yes {α:Type}{p:α→Bool}:∀{l:List α} {i:Nat},0≤findP p i l→∃l1 e l2,l=l1++e::l2∧p e=true∧findP p i l=((i+l1.length:Nat):Int)
 |[],i,h=>by simp[findP] at h
 |x::l,i,h=>by
  simp only[findP] at h ⊢
  cases hp:p x with
  |true=>exact⟨[],x,l,rfl,hp,by simp⟩
  |false=>
   rw[hp,cond_false] at h
   obtain⟨l1,e,l2,h1,h2,h3⟩:=findP_yes h
   exact⟨x::l1,e,l2,by rw[h1];rfl,h2,by rw[cond_false,h3];simp only[List.length_cons];omega⟩
theorem ins_new:∀{l:List D.Entry} {x:D.Entry},(∀y∈l,(y.Site==x.Site&&y.Handle==x.Handle)=false)→mergeL l [x]=l.takeWhile (fun e=>lessF e x.Site x.Handle)++[x]++l.dropWhile (fun e=>lessF e x.Site x.Handle)
 |[],x,_=>by rw[merge_nil0];rfl
 |a::xs,x,h=>by
  rw[mergeL,List.takeWhile_cons,List.dropWhile_cons,less_kless]
  cases h1:kless a x with
  |true=>simp only[cond_true,if_true];rw[ins_new (fun y hy=>h y (by simp[hy]))];rfl
  |false=>
   cases h2:kless x a with
   |true=>simp only[cond_false,cond_true];rw[merge_nil];rfl
   |false=>
    have:=kless_same h1 h2
    have:=h a (by simp)
    simp_all
theorem ins_old {e x:D.Entry}{l2:List D.Entry}(he:(e.Site==x.Site&&e.Handle==x.Handle)=true):∀{l1:List D.Entry},srt (l1++e::l2)→mergeL (l1++e::l2) [x]=l1++pickE e x::l2
 |[],_=>by
  have hk:e.Site=x.Site∧e.Handle=x.Handle:=by simpa using he
  have h1:kless e x=false:=by
   cases h:kless e x with
   |false=>rfl
   |true=>rw[kless_iff] at h;omega
  have h2:kless x e=false:=by
   cases h:kless x e with
   |false=>rfl
   |true=>rw[kless_iff] at h;omega
  rw[List.nil_append,mergeL,h1,cond_false,h2,cond_false,merge_nil];rfl
 |a::l1,h=>by
  obtain⟨ha,hs⟩:=List.pairwise_cons.1 h
  have hk:e.Site=x.Site∧e.Handle=x.Handle:=by simpa using he
  have h1:kless a x=true:=by rw[←kless_key' hk];exact ha e (by simp)
  rw[List.cons_append,mergeL,h1,cond_true,ins_old he hs];rfl
theorem step_ins {l:List D.Entry}{x:D.Entry}(h:srt l):(bif (decide (findEntryF ⟨l⟩ x.Site x.Handle<0)||newerE x (l.getD (findEntryF ⟨l⟩ x.Site x.Handle).toNat default)) then(setF ⟨l⟩ x).Entries else l)=mergeL l [x]:=by
 unfold setF
 by_cases hf:findEntryF ⟨l⟩ x.Site x.Handle<0
 ·rw[decide_eq_true hf,Bool.true_or,cond_true,show decide (findEntryF ⟨l⟩ x.Site x.Handle≥0)=false from decide_eq_false (by omega),cond_false]
  exact(ins_new (findP_no hf)).symm
 ·obtain⟨l1,e,l2,h1,h2,h3⟩:=findP_yes (show 0≤findP (fun e=>e.Site==x.Site&&e.Handle==x.Handle) 0 l from by unfold findEntryF at hf;simp only at hf;omega)
  have h3':findEntryF ⟨l⟩ x.Site x.Handle=(l1.length:Int):=by unfold findEntryF;rw[h3];simp
  rw[h3',decide_eq_false (by omega),Bool.false_or,show decide ((l1.length:Int)≥0)=true from decide_eq_true (by omega),cond_true,Int.toNat_natCast]
  subst h1
  rw[ins_old h2 h]
  have g:(l1++e::l2).getD l1.length default=e:=by simp[List.getD]
  have st:(l1++e::l2).set l1.length x=l1++x::l2:=by simp
  rw[g]
  show(bif newerE x e then(l1++e::l2).set l1.length x else l1++e::l2)=_
  rw[st]
  unfold pickE
  cases newerE x e<;>rfl
theorem anyI_no {α:Type}{p:Nat→α→Bool}:∀{l:List α} {j:Nat},anyI p j l=false→∀(i:Nat) (hi:i<l.length),p (j+i) l[i]=false
 |[],j,_,i,hi=>by simp at hi
 |x::l,j,h,i,hi=>by
  simp only[anyI,Bool.or_eq_false_iff] at h
  cases i with
  |zero=>exact h.1
  |succ i=>have:=anyI_no h.2 i (by simpa using hi);rw[show j+(i+1)=j+1+i by omega];exact this
theorem ok_srt {b:D.Bundle}(h:bundleOkF b=true):b.Entries.length≤20∧srt b.Entries:=by
 simp only[bundleOkF,Bool.and_eq_true,decide_eq_true_eq,Bool.not_eq_true'] at h
 refine⟨by omega,?_⟩
 have adj:∀i (hi:i+1<b.Entries.length),kless b.Entries[i] b.Entries[i+1]=true:=fun i hi=>by
  have:=anyI_no h.2 (i+1) hi
  simp only[badE,Bool.or_eq_false_iff,Nat.zero_add] at this
  have h4:=this.2.2.2
  rw[decide_eq_true (by omega),Bool.true_and] at h4
  have h5:(b.Entries.getD (i+1-1) default)=b.Entries[i]:=by rw[Nat.add_sub_cancel,List.getD,List.getElem?_eq_getElem (by omega),Option.getD_some]
  rw[h5] at h4;simpa using h4
 have far:∀d i (hi:i+d+1<b.Entries.length),kless b.Entries[i] b.Entries[i+d+1]=true:=fun d=>by
  induction d with
  |zero=>exact fun i hi=>adj i hi
  |succ d ih=>exact fun i hi=>kless_trans (ih i (by omega)) (adj (i+d+1) (by omega))
 refine List.pairwise_iff_getElem.2 fun i j hi hj hij=> ?_
 obtain⟨d,rfl⟩:∃d,j=i+d+1:=⟨j-i-1,by omega⟩
 exact far d i hj
theorem gd_ap1 {α β:Type}{s:List α}(hs:s.length≤34359738368)(x:α)(k:Option β):gd (apOk s [x]) k=k:=gd_t (by unfold apOk;simp only[List.length_singleton];omega)
theorem gd_ap0 {α β:Type}{s:List α}(hs:s.length≤34359738368)(k:Option β):gd (apOk [] s) k=k:=gd_t (by unfold apOk;simp only[List.length_nil];omega)
theorem foldl_id {α:Type}{l s:List α}:l.foldl (fun s x=>s++[x]) s=s++l:=by
 have:=foldl_app (f:=fun x:α=>[x]) (l:=l) (s:=s)
 rw[this];congr 1
 induction l with
 |nil=>rfl
 |cons x l ih=>simp[ih]
theorem copyL {α:Type}{l:List α}{F:(Nat×List α→Option (List α))→Nat×List α→Option (List α)}(hl:l.length≤34359738368)
  (hF:∀rec i s (hi:i<l.length),s.length≤34359738368→F rec (i,s)=rec (i+1,s++[l[i]])) (hE:∀rec s,F rec (l.length,s)=some s):EV.itr FUEL F (0,[])=some l:=by
 rw[foldLoopL (l:=l) (fun s x=>s++[x]) (fun i s=>s.length=i) (fun s=>some s) (by omega) rfl (fun i s hi hv=>by simp;omega) (fun rec i s hi hv=>hF rec i s hi (by omega)) (fun rec s _=>hE rec s),foldl_id,List.nil_append]
theorem copyR {α:Type}{l:List α}{F:(List α×Nat→Option (List α))→List α×Nat→Option (List α)}(hl:l.length≤34359738368)
  (hF:∀rec i s (hi:i<l.length),s.length≤34359738368→F rec (s,i)=rec (s++[l[i]],i+1)) (hE:∀rec s,F rec (s,l.length)=some s):EV.itr FUEL F ([],0)=some l:=by
 rw[foldLoopR (l:=l) (fun s x=>s++[x]) (fun i s=>s.length=i) (fun s=>some s) (by omega) rfl (fun i s hi hv=>by simp;omega) (fun rec i s hi hv=>hF rec i s hi (by omega)) (fun rec s _=>hE rec s),foldl_id,List.nil_append]
abbrev szL {α:Type}(f:α→Nat)(l:List α):Nat:=l.length+(l.map f).sum
theorem itr_s {S τ:Type}{F:(S→Option τ)→S→Option τ}{n:Nat}{s:S}:EV.itr (n+1) F s=F (EV.itr n F) s:=rfl
theorem bb_some {α:Type}{c:Bool}{x y:α}:(bif c then some x else some y)=some (bif c then x else y):=by cases c<;>rfl
theorem if_or {c d:Bool}:(bif c then some true else some d)=some (c||d):=by cases c<;>rfl
theorem mapR1 {α β:Type}{l:List α}(f:α→β){s0:List β}{F:(List β×Nat→Option (List β))→List β×Nat→Option (List β)}(hl:s0.length+l.length≤34359738368)
  (hF:∀rec i s (hi:i<l.length),s.length≤34359738368→F rec (s,i)=rec (s++[f l[i]],i+1)) (hE:∀rec s,F rec (s,l.length)=some s):EV.itr FUEL F (s0,0)=some (s0++l.map f):=by
 rw[foldLoopR (l:=l) (fun s x=>s++[f x]) (fun i s=>s.length=s0.length+i) (fun s=>some s) (by omega) (by simp) (fun i s hi hv=>by simp;omega) (fun rec i s hi hv=>hF rec i s hi (by omega)) (fun rec s _=>hE rec s),foldl_one]
theorem inR_neg {i:Int}{n:Nat}(h:n≤34359738368):(!inR i 0 (IntKind.i64.wrap ((n:Int)-1)))=(decide (i<0)||decide (i≥(n:Int))):=by
 rw[wrap64_id (by omega) (by omega)]
 unfold inR
 by_cases h0:i<0
 ·rw[decide_eq_true h0,decide_eq_false (show ¬0≤i by omega)];rfl
 ·rw[decide_eq_false h0,decide_eq_true (show 0≤i by omega)]
  by_cases h1:i≥(n:Int)
  ·rw[decide_eq_true h1,decide_eq_false (show ¬i≤(n:Int)-1 by omega)];rfl
  ·rw[decide_eq_false h1,decide_eq_true (show i≤(n:Int)-1 by omega)];rfl
theorem atq_getD {α:Type}[Inhabited α]{l:List α}{i:Int}(h0:0≤i)(h1:i<(l.length:Int)):atq l i=some (l.getD i.toNat default):=by
 rw[atq_int h0 (by omega)];simp[List.getD,List.getElem?_eq_getElem (show i.toNat<l.length by omega)]
theorem out_no {i:Int}{n:Nat}(h:(decide (i<0)||decide (i≥(n:Int)))=false):0≤i∧i<(n:Int):=by
 simp only[Bool.or_eq_false_iff,decide_eq_false_iff_not] at h;omega
theorem getD_sz {α:Type}[Inhabited α]{f:α→Nat}{l:List α}{i:Nat}(h:i<l.length):f (l.getD i default)≤(l.map f).sum:=by
 rw[List.getD,List.getElem?_eq_getElem h];exact le_sumI h
theorem gd_eqz {α:Type}{n:Nat}{x:α}{β:Type}{k:Option β}(h:n≤68719476736):gd (EqZ n x x) k=k:=gd_t ⟨rfl,by omega⟩
theorem not_self {α:Type}[BEq α][ReflBEq α]{r:α}:(!r==r)=false:=by rw[beq_self_eq_true];rfl
def cS (l:List D.Share)(i:Nat)(k:Int):Bool:=(l.take i).any fun q=>q.Index==k
theorem bb_and {c d:Bool}:(bif c then some d else some false)=some (c&&d):=by cases c<;>rfl
theorem map_idI (l:List Int):List.map (fun(n:Int)=>n) l=l:=List.map_id l
def fetchF (c:D.Cloud)(b:Int):D.SealedBundle×Bool:=bif decide (b<0)||decide (b≥(c.History.length:Int)) then(⟨0,0,[],0⟩,false) else(c.History.getD (c.History.length-1-b.toNat) default,true)
def eqLE (a b:D.LogEntry):Bool:=a.Index==b.Index&&(a.Kind==b.Kind&&(a.Device==b.Device&&(a.By==b.By&&(a.Previous==b.Previous&&(a.Signature==b.Signature&&true)))))
def extendsF (a b:List D.LogEntry):Bool:=decide (b.length≤a.length)&& !anyI (fun i e=> !eqLE (a.getD i default) e) 0 b
def sealMacF (k:Int)(b:D.SealedBundle):Int:=keyedI k ([227,b.Epoch,b.Version]++b2iF b.Data)
def sealKeyF (k e v:Int):Int:=deriveF k [223,e,v]
def uvE:Nat→Int→List Int
 |0,n=>[n]
 |k+1,n=>bif decide (n>127) then(n%128+128)::uvE k (n/128) else[n]
theorem uvE_len:∀(k:Nat) (n:Int),1≤(uvE k n).length∧(uvE k n).length≤k+1
 |0,n=>by simp[uvE]
 |k+1,n=>by
  have:=uvE_len k (n/128)
  unfold uvE
  cases decide (n>127)<;>simp<;>omega
theorem uvE_one {k:Nat}{z:Int}(h:z≤127):uvE k z=[z]:=by
 cases k with
 |zero=>rfl
 |succ k=>unfold uvE;rw[decide_eq_false (by omega)];rfl
theorem uvE_inj:∀(k:Nat) (m n:Int) (x y:List Int),0≤m→0≤n→uvE k m++x=uvE k n++y→m=n∧x=y
 |0,m,n,x,y,_,_,h=>by simpa[uvE] using h
 |k+1,m,n,x,y,h0,h1,h=>by
  unfold uvE at h
  by_cases hm:m>127<;>by_cases hn:n>127
  ·simp only[decide_eq_true hm,decide_eq_true hn,cond_true,List.cons_append,List.cons.injEq] at h
   have:=uvE_inj k (m/128) (n/128) x y (by omega) (by omega) h.2
   exact⟨by omega,this.2⟩
  ·simp only[decide_eq_true hm,decide_eq_false hn,cond_true,cond_false,List.cons_append,List.cons.injEq] at h;omega
  ·simp only[decide_eq_false hm,decide_eq_true hn,cond_true,cond_false,List.cons_append,List.cons.injEq] at h;omega
  ·simpa only[decide_eq_false hm,decide_eq_false hn,cond_false,List.cons_append,List.nil_append,List.cons.injEq] using h
theorem uvE_loop {F:(Int×List Int→Option (Int×List Int))→Int×List Int→Option (Int×List Int)}
  (hF:∀rec (n:Int) (s:List Int),0≤n→n<9223372036854775807→s.length≤34359738368→F rec (n,s)=bif decide (n>127) then rec (n/128,s++[n%128+128]) else some (n,s)):
  ∀(k:Nat) (n:Int) (s:List Int) (f:Nat),k<f→0≤n→n<128^(k+1)→k≤6→s.length+k≤34359738368→∃m q,EV.itr f F (n,s)=some (m,q)∧q++[m]=s++uvE k n∧0≤m∧m≤127
 |0,n,s,f+1,hf,h0,h1,_,hs=>by
  refine⟨n,s,?_,rfl,h0,by simp at h1;omega⟩
  rw[itr_s,hF _ _ _ h0 (by simp at h1;omega) (by omega),decide_eq_false (by simp at h1;omega)];rfl
 |k+1,n,s,f+1,hf,h0,h1,hk,hs=>by
  have h2:(128:Int)^(k+1+1)=128*128^(k+1):=by rw[Int.pow_succ];omega
  have h3:(128:Int)^(k+1+1)≤128^8:=by exact_mod_cast Nat.pow_le_pow_right (by omega) (by omega)
  have h4:(128:Int)^8=72057594037927936:=by decide
  rw[itr_s,hF _ _ _ h0 (by omega) (by omega)]
  unfold uvE
  by_cases hn:n>127
  ·rw[decide_eq_true hn,cond_true,cond_true]
   obtain⟨m,q,e1,e2,e3⟩:=uvE_loop hF k (n/128) (s++[n%128+128]) f (by omega) (by omega) (by omega) (by omega) (by simp;omega)
   exact⟨m,q,e1,by rw[e2];simp,e3⟩
  ·rw[decide_eq_false hn,cond_false,cond_false]
   exact⟨n,s,rfl,rfl,h0,by omega⟩
theorem and_127 {n:Int}(h0:0≤n)(h1:n<9223372036854775808):andI .i64 n 127=n%128:=by
 obtain⟨m,rfl⟩:=Int.eq_ofNat_of_zero_le h0
 have e:((BitVec.ofInt 64 (m:Int))&&&(BitVec.ofInt 64 127)).toNat=m%128:=by
  rw[BitVec.toNat_and]
  have e1:(BitVec.ofInt 64 (m:Int)).toNat=m:=by rw[BitVec.toNat_ofInt];omega
  have e2:(BitVec.ofInt 64 127).toNat=2^7-1:=by decide
  rw[e1,e2,Nat.and_two_pow_sub_one_eq_mod]
 show IntKind.i64.wrap (((BitVec.ofInt 64 (m:Int))&&&(BitVec.ofInt 64 127)).toNat:Int)=_
 rw[e,wrap64_id (by omega) (by omega)];omega
theorem or_128 {n:Int}(h0:0≤n)(h1:n<128):orI .i64 n 128=n+128:=by
 obtain⟨m,rfl⟩:=Int.eq_ofNat_of_zero_le h0
 have e:((BitVec.ofInt 64 (m:Int))|||(BitVec.ofInt 64 128)).toNat=m+128:=by
  rw[BitVec.toNat_or]
  have e1:(BitVec.ofInt 64 (m:Int)).toNat=m:=by rw[BitVec.toNat_ofInt];omega
  have e2:(BitVec.ofInt 64 128).toNat=1<<<7:=by decide
  have:=Nat.shiftLeft_add_eq_or_of_lt (b:=m) (i:=7) (by omega) 1
  rw[e1,e2,Nat.or_comm,←this];omega
 show IntKind.i64.wrap (((BitVec.ofInt 64 (m:Int))|||(BitVec.ofInt 64 128)).toNat:Int)=_
 rw[e,wrap64_id (by omega) (by omega)];omega
theorem shr_7 {n:Int}(h0:0≤n):shrI .i64 n 7=n/128:=by
 unfold shrI
 rw[show min (Int.toNat 7) IntKind.i64.bits=7 from by decide,Int.fdiv_eq_ediv_of_nonneg _ (by decide)];rfl
theorem wrap8_id {n:Int}(h0:0≤n)(h1:n≤255):IntKind.u8.wrap n=n:=by rw[IntKind.wrap_u8];omega
def enc1 (n:Int):List Int:=bif inR n 0 1000000000000 then uvE 5 n else[]
def appUvF (b:List Int)(n:Int):List Int:=b++enc1 n
def encF (l:List Int):List Int:=(l.map enc1).flatten
theorem enc1_len (n:Int):(enc1 n).length≤6:=by
 have:=(uvE_len 5 n).2
 unfold enc1;cases inR n 0 1000000000000<;>simp<;>omega
theorem enc1_in {n:Int}(h:0≤n∧n≤1000000000000):enc1 n=uvE 5 n:=by
 unfold enc1 inR;rw[decide_eq_true h.1,decide_eq_true h.2];rfl
theorem encF_cons (n:Int)(l:List Int):encF (n::l)=enc1 n++encF l:=rfl
theorem encF_len:∀l:List Int,(encF l).length≤6*l.length
 |[]=>by simp[encF]
 |n::l=>by
  have:=encF_len l
  have:=enc1_len n
  rw[encF_cons,List.length_append,List.length_cons];omega
def okVs (l:List Int):Prop:=∀v∈l,0≤v∧v≤(1000000000000:Int)
theorem encF_inj:∀(s t x y:List Int),okVs s→okVs t→s.length=t.length→encF s++x=encF t++y→s=t∧x=y
 |[],[],x,y,_,_,_,h=>⟨rfl,h⟩
 |m::s,n::t,x,y,hs,ht,hl,h=>by
  have hm:=hs m (by simp)
  have hn:=ht n (by simp)
  rw[encF_cons,encF_cons,List.append_assoc,List.append_assoc,enc1_in hm,enc1_in hn] at h
  obtain⟨h1,h2⟩:=uvE_inj 5 m n _ _ hm.1 hn.1 h
  obtain⟨h3,h4⟩:=encF_inj s t x y (fun v hv=>hs v (by simp[hv])) (fun v hv=>ht v (by simp[hv])) (by simpa using hl) h2
  exact⟨by rw[h1,h3],h4⟩
theorem uvG_enc {b:List Int}(hb:bytesOk b){p:Nat}:∀(k i:Nat) (n m e:Int),uvG b p (k+1) i n=(m,e,true)→∃(r:Int) (q:Nat),(0≤r∧m=n+r*128^i∧m≤1000000000000∧e=(q:Int)∧q≤b.length∧(0<i→r≠0))∧b.drop (p+i)=uvE k r++b.drop q
 |k,i,n,m,e,h=>by
  unfold uvG at h
  by_cases hlt:p+i<b.length
  ·rw[if_pos hlt] at h
   have hz:=bytesOk_get hb hlt
   have hg:b.getD (p+i) 0=b[p+i]:=by simp[List.getD,List.getElem?_eq_getElem hlt]
   rw[hg] at h
   have hd:b.drop (p+i)=b[p+i]::b.drop (p+i+1):=List.drop_eq_getElem_cons hlt
   generalize b[p+i]=z at hz h hd
   by_cases h128:z<128
   ·rw[decide_eq_true h128,cond_true] at h
    have hzz:z%128=z:=by omega
    rw[hzz] at h
    cases hc:(decide (0<i)&&z==0)||decide (n+z*128^i>1000000000000) with
    |true=>rw[hc] at h;simp at h
    |false=>
     rw[hc,cond_false] at h
     rw[Bool.or_eq_false_iff] at hc
     have h1:=of_decide_eq_false hc.2
     injection h with e1 e2
     injection e2 with e2 e3
     refine⟨z,p+i+1,⟨hz.1,e1.symm,by omega,e2.symm,by omega,fun hi h0=> ?_⟩,by rw[hd,uvE_one (by omega)];rfl⟩
     subst h0
     simp[hi] at hc
   ·rw[decide_eq_false h128,cond_false] at h
    match k,h with
    |0,h=>simp[uvG] at h
    |k+1,h=>
     obtain⟨r,q,⟨h1,h2,h3,h4,h5,h6⟩,h7⟩:=uvG_enc hb k (i+1) _ m e h
     have hr:=h6 (by omega)
     refine⟨z%128+128*r,q,⟨by omega,?_,h3,h4,h5,fun _=>by omega⟩,?_⟩
     ·rw[h2,Int.pow_succ,Int.add_mul,←Int.add_assoc]
      congr 1
      rw[Int.mul_comm 128 r,Int.mul_assoc,Int.mul_comm 128]
     ·rw[hd,show p+i+1=p+(i+1) from by omega,h7]
      have e1:uvE (k+1) (z%128+128*r)=z::uvE k r:=by
       rw[uvE,decide_eq_true (show z%128+128*r>127 by omega),cond_true,show(z%128+128*r)%128+128=z by omega,show(z%128+128*r)/128=r by omega]
      rw[e1];rfl
  ·rw[if_neg hlt] at h;simp at h
theorem uvF_enc {b:List Int}(hb:bytesOk b){a m e:Int}(h:uvF b a=(m,e,true)):∃q:Nat,(0≤a∧0≤m∧m≤1000000000000∧e=(q:Int)∧q≤b.length)∧b.drop a.toNat=enc1 m++b.drop q:=by
 unfold uvF at h
 by_cases h0:a<0
 ·rw[if_pos h0] at h;simp at h
 ·rw[if_neg h0] at h
  obtain⟨r,q,⟨h1,h2,h3,h4,h5,_⟩,h7⟩:=uvG_enc hb 5 0 0 m e h
  have hm:m=r:=by rw[h2];simp
  subst hm
  exact⟨q,⟨by omega,h1,h3,h4,h5⟩,by rw[enc1_in ⟨h1,h3⟩];exact h7⟩
theorem decG_enc {b:List Int}(hb:bytesOk b):∀(k:Nat) (a:Int) (s v:List Int) (e:Int),0≤a→a≤b.length→decG b k a s=(v,e,true)→∃(t:List Int) (q:Nat),(v=s++t∧t.length=k∧e=(q:Int)∧q≤b.length∧okVs t)∧b.drop a.toNat=encF t++b.drop q
 |0,a,s,v,e,h0,h1,h=>by
  unfold decG at h
  injection h with e1 e2
  injection e2 with e2 _
  exact⟨[],a.toNat,⟨by simp[e1],rfl,by omega,by omega,fun v hv=>by simp at hv⟩,rfl⟩
 |k+1,a,s,v,e,h0,h1,h=>by
  unfold decG at h
  cases hu:uvF b a with
  |mk m r=>
   obtain⟨e',ok⟩:=r
   rw[hu] at h
   cases ok with
   |false=>simp at h
   |true=>
    obtain⟨q,⟨g0,g1,g2,g3,g4⟩,g5⟩:=uvF_enc hb hu
    subst g3
    obtain⟨t,q',⟨k1,k2,k3,k4,k5⟩,k6⟩:=decG_enc hb k (q:Int) (s++[m]) v e (by omega) (by omega) h
    refine⟨m::t,q',⟨by rw[k1];simp,by simp[k2],k3,k4,fun x hx=> ?_⟩,by rw[g5,encF_cons,List.append_assoc];congr 1⟩
    rcases List.mem_cons.1 hx with rfl|hx
    ·exact⟨g1,g2⟩
    ·exact k5 x hx
theorem decG_split {b:List Int}:∀(j k:Nat) (a:Int) (s:List Int),decG b (j+k) a s=bif (decG b j a s).2.2 then decG b k (decG b j a s).2.1 (decG b j a s).1 else([],0,false)
 |0,k,a,s=>by rw[Nat.zero_add];rfl
 |j+1,k,a,s=>by
  have e:∀m,decG b (m+1) a s=bif (uvF b a).2.2 then decG b m (uvF b a).2.1 (s++[(uvF b a).1]) else([],0,false):=fun _=>rfl
  rw[show j+1+k=j+k+1 by omega,e,e]
  cases(uvF b a).2.2 with
  |false=>rfl
  |true=>exact decG_split j k _ _
theorem decG_acc {b:List Int}:∀(k:Nat) (a:Int) (s:List Int),decG b k a s=bif (decG b k a []).2.2 then(s++(decG b k a []).1,(decG b k a []).2.1,true) else([],0,false)
 |0,a,s=>by simp[decG]
 |k+1,a,s=>by
  unfold decG
  cases(uvF b a).2.2 with
  |false=>rfl
  |true=>
   simp only[cond_true,List.nil_append]
   rw[decG_acc k _ (s++[(uvF b a).1]),decG_acc k _ [(uvF b a).1]]
   cases(decG b k (uvF b a).2.1 []).2.2<;>simp
def ent4 (e:D.Entry):List Int:=[e.Site,e.Handle,e.Version,bif e.Deleted then 1 else 0]
def ents:List Int→List D.Entry
 |s::h::v::d::r=>⟨s,h,v,d==1⟩::ents r
 |_=>[]
def flagsOk:List Int→Bool
 |_::_::_::d::r=>decide (d≤1)&&flagsOk r
 |_=>true
def flatE (l:List D.Entry):List Int:=l.flatMap ent4
theorem flatE_len:∀l:List D.Entry,(flatE l).length=4*l.length
 |[]=>rfl
 |e::l=>by
  have:=flatE_len l
  simp only[flatE,List.flatMap_cons,List.length_append,List.length_cons] at*
  rw[this];simp[ent4];omega
theorem ents_len:∀(k:Nat) (l:List Int),l.length=4*k→(ents l).length=k
 |0,[],_=>rfl
 |k+1,s::h::v::d::r,hl=>by
  have:=ents_len k r (by simp at hl;omega)
  simp[ents,this]
theorem ents_flat:∀(k:Nat) (l:List Int),l.length=4*k→okVs l→okVs (flatE (ents l))∧(flagsOk l=true↔flatE (ents l)=l)
 |0,[],_,_=>⟨fun v h=>by simp[flatE,ents] at h,by simp[flagsOk,flatE,ents]⟩
 |k+1,s::h::v::d::r,hl,ho=>by
  obtain⟨h1,h2⟩:=ents_flat k r (by simp at hl;omega) (fun x hx=>ho x (by simp[hx]))
  have hs:=ho s (by simp)
  have hh:=ho h (by simp)
  have hv:=ho v (by simp)
  have hd:=ho d (by simp)
  have e:flatE (ents (s::h::v::d::r))=s::h::v::(bif d==1 then 1 else 0)::flatE (ents r):=by simp[ents,flatE,ent4]
  rw[e]
  refine⟨fun x hx=> ?_,?_⟩
  ·simp only[List.mem_cons] at hx
   rcases hx with rfl|rfl|rfl|rfl|hx
   ·exact hs
   ·exact hh
   ·exact hv
   ·cases(d==1)<;>simp
   ·exact h1 x hx
  ·simp only[flagsOk,Bool.and_eq_true,decide_eq_true_eq,List.cons.injEq,true_and,h2]
   refine and_congr_left' ?_
   by_cases h1:d=1
   ·subst h1;simp
   ·rw[show(d==1)=false by simpa using h1,cond_false];omega
theorem ents_app:∀(k:Nat) (l r:List Int),l.length=4*k→ents (l++r)=ents l++ents r
 |0,[],r,_=>rfl
 |k+1,s::h::v::d::l,r,hl=>by
  have:=ents_app k l r (by simp at hl;omega)
  simp[ents,this]
def valsF (b:D.Bundle):List Int:=[(b.Entries.length:Int)]++flatE b.Entries
def encBF (b:D.Bundle):List Int:=bif bundleOkF b then encF (valsF b) else[]
def decBG (d:List Int)(v:List Int×Int×Bool):D.Bundle×Bool:=bif !v.2.2||(v.2.1 !=(d.length:Int)||(!flagsOk v.1|| !bundleOkF ⟨ents v.1⟩)) then(⟨[]⟩,false) else(⟨ents v.1⟩,true)
def decBF (d:List Int):D.Bundle×Bool:=bif !(uvF d 0).2.2||decide ((uvF d 0).1>20) then(⟨[]⟩,false) else decBG d (decG d (4*(uvF d 0).1).toNat (uvF d 0).2.1 [])
def openBF (key:Int)(s:D.SealedBundle):D.Bundle×Bool:=bif !(keyF key&&(inR s.Epoch 0 1000000&&inR s.Version 0 1000000))||s.MAC !=sealMacF key s then(⟨[]⟩,false) else decBF (decF (sealKeyF key s.Epoch s.Version) s.Data)
theorem decB_iff {d:List Int}(hd:bytesOk d){n e e':Int}{v:List Int}(h:uvF d 0=(n,e,true))(hn:n≤20)(h':decG d (4*n).toNat e []=(v,e',true)):(encF (valsF ⟨ents v⟩)=d↔(e'=(d.length:Int)∧flagsOk v=true))∧v.length=4*n.toNat∧okVs v∧(ents v).length=n.toNat:=by
 obtain⟨q,⟨_,g1,g2,g3,g4⟩,g5⟩:=uvF_enc hd h
 subst g3
 obtain⟨t,q',⟨k1,k2,k3,k4,k5⟩,k6⟩:=decG_enc hd _ _ _ _ _ (by omega) (by omega) h'
 rw[List.nil_append] at k1
 subst k1
 have hl:v.length=4*n.toNat:=by omega
 obtain⟨f1,f2⟩:=ents_flat n.toNat v hl k5
 have hel:=ents_len n.toNat v hl
 refine⟨?_,hl,k5,hel⟩
 have hdd:d=encF (n::v)++d.drop q':=by
  have h0:d.drop (Int.toNat 0)=d:=rfl
  rw[encF_cons,List.append_assoc,←k6]
  exact h0▸g5
 have hv:valsF ⟨ents v⟩=n::flatE (ents v):=by
  show((ents v).length:Int)::_=_
  rw[hel];congr 1;omega
 rw[hv]
 constructor
 ·intro hq
  have hx:encF (n::flatE (ents v))++[]=encF (n::v)++d.drop q':=by rw[List.append_nil,hq];exact hdd
  have hok:∀l,okVs l→okVs (n::l):=fun l hl x hx=>by
   rcases List.mem_cons.1 hx with rfl|hx
   ·exact⟨g1,g2⟩
   ·exact hl x hx
  obtain⟨y1,y2⟩:=encF_inj _ _ _ _ (hok _ f1) (hok _ k5) (by simp[flatE_len,hel,hl]) hx
  have:=congrArg List.length y2
  simp only[List.length_nil,List.length_drop] at this
  exact⟨by omega,f2.2 (List.cons.inj y1).2⟩
 ·rintro⟨h1,h2⟩
  rw[f2.1 h2]
  have:d.drop q'=[]:=List.drop_eq_nil_of_le (by omega)
  rw[this,List.append_nil] at hdd
  exact hdd.symm
theorem bstr_list (l:List Int):(EV.bstr l).data.toList=l.map fun n=>UInt8.ofNat n.toNat:=by
 unfold EV.bstr
 have:∀(l:List Int) (r:ByteArray),(l.foldl (fun r n=>r.push (UInt8.ofNat n.toNat)) r).data.toList=r.data.toList++l.map fun n=>UInt8.ofNat n.toNat:=by
  intro l
  induction l with
  |nil=>intro r;simp
  |cons x l ih=>intro r;rw[List.foldl_cons,ih];simp
 rw[this];rfl
theorem bytes_inj:∀{a b:List Int},(∀z∈a,0≤z∧z≤255)→(∀z∈b,0≤z∧z≤255)→(a.map fun n=>UInt8.ofNat n.toNat)=(b.map fun n=>UInt8.ofNat n.toNat)→a=b
 |[],[],_,_,_=>rfl
 |[],y::b,_,_,h=>by simp at h
 |x::a,[],_,_,h=>by simp at h
 |x::a,y::b,ha,hb,h=>by
  simp only[List.map_cons,List.cons.injEq] at h
  have hx:=ha x (by simp)
  have hy:=hb y (by simp)
  have e:=congrArg UInt8.toNat h.1
  rw[UInt8.toNat_ofNat',UInt8.toNat_ofNat'] at e
  rw[bytes_inj (fun z hz=>ha z (by simp[hz])) (fun z hz=>hb z (by simp[hz])) h.2,show x=y by omega]
theorem bytesOk_mem {b:List Int}(h:bytesOk b):∀z∈b,0≤z∧z≤255:=fun z hz=>by simpa using List.all_eq_true.1 h.2 z hz
theorem bytesOk_of {b:List Int}(h:b.length≤34359738368)(h1:∀z∈b,0≤z∧z≤255):bytesOk b:=⟨h,List.all_eq_true.2 fun z hz=>by simpa using h1 z hz⟩
theorem uvE_bytes:∀(k:Nat) (n:Int),0≤n→n<128^(k+1)→∀z∈uvE k n,0≤z∧z≤255
 |0,n,h0,h1,z,hz=>by simp[uvE] at hz;subst hz;simp at h1;omega
 |k+1,n,h0,h1,z,hz=>by
  have h2:(128:Int)^(k+1+1)=128*128^(k+1):=by rw[Int.pow_succ];omega
  unfold uvE at hz
  by_cases hn:n>127
  ·rw[decide_eq_true hn,cond_true] at hz
   rcases List.mem_cons.1 hz with rfl|hz
   ·omega
   ·exact uvE_bytes k (n/128) (by omega) (by omega) z hz
  ·rw[decide_eq_false hn,cond_false] at hz
   simp at hz;subst hz;omega
theorem enc1_bytes (n:Int):∀z∈enc1 n,0≤z∧z≤255:=fun z hz=>by
 unfold enc1 at hz
 cases hr:inR n 0 1000000000000 with
 |false=>rw[hr] at hz;simp at hz
 |true=>
  rw[hr] at hz
  have:=inR_t hr
  have h7:(128:Int)^(5+1)=4398046511104:=by decide
  exact uvE_bytes 5 n this.1 (by omega) z hz
theorem encF_bytes (l:List Int):∀z∈encF l,0≤z∧z≤255:=fun z hz=>by
 unfold encF at hz
 obtain⟨x,hx,hz⟩:=List.mem_flatten.1 hz
 obtain⟨n,_,rfl⟩:=List.mem_map.1 hx
 exact enc1_bytes n z hz
theorem bundle_len {b:D.Bundle}(h:bundleOkF b=true):b.Entries.length≤20:=by
 simp only[bundleOkF,Bool.and_eq_true,decide_eq_true_eq] at h;omega
theorem encBF_ok (b:D.Bundle):bytesOk (encBF b):=by
 unfold encBF
 cases hb:bundleOkF b with
 |false=>exact⟨by simp,rfl⟩
 |true=>
  have:=bundle_len hb
  have h1:=encF_len (valsF b)
  have h2:(valsF b).length=1+4*b.Entries.length:=by simp[valsF,flatE_len];omega
  exact bytesOk_of (by rw[cond_true];omega) (encF_bytes _)
theorem decBF_sz (d:List Int):(decBF d).1.sz≤20:=by
 have h0:(D.Bundle.mk []).sz≤20:=by simp[D.Bundle.sz]
 unfold decBF
 cases !(uvF d 0).2.2||decide ((uvF d 0).1>20) with
 |true=>exact h0
 |false=>
  rw[cond_false]
  generalize decG d (4*(uvF d 0).1).toNat (uvF d 0).2.1 []=v
  unfold decBG
  cases hb:bundleOkF ⟨ents v.1⟩ with
  |false=>simp only[Bool.not_false,Bool.or_true,cond_true];exact h0
  |true=>
   have:=bundle_len hb
   cases !v.2.2||(v.2.1 !=(d.length:Int)||(!flagsOk v.1|| !true)) with
   |true=>exact h0
   |false=>simp only[cond_false,D.Bundle.sz] at*;omega
theorem openBF_sz (k:Int)(s:D.SealedBundle):(openBF k s).1.sz≤20:=by
 unfold openBF
 cases !(keyF k&&(inR s.Epoch 0 1000000&&inR s.Version 0 1000000))||s.MAC !=sealMacF k s with
 |true=>simp[D.Bundle.sz]
 |false=>exact decBF_sz _
theorem mergeF_sz {a b:D.Bundle}(h:(mergeF a b).2=true):(mergeF a b).1.sz≤20:=by
 unfold mergeF at*
 cases hc:bundleOkF a&&bundleOkF b with
 |false=>rw[hc] at h;cases h
 |true=>
  rw[hc] at h
  cases hm:bundleOkF ⟨mergeL a.Entries b.Entries⟩ with
  |false=>rw[hm] at h;cases h
  |true=>have:=bundle_len hm;simp only[cond_true,D.Bundle.sz];omega
def syncBad (d:D.Device)(log:List D.LogEntry)(bx:D.EpochBoxes)(s:D.SealedBundle):Int:=
 bif !logOkF log|| !extendsF log d.Log then 1 else bif !hasF (devicesOfF log) (devPubF d.Store) then 2 else bif bx.Epoch !=epochOfF log|| !(openEpochF d.Store bx).2 then 3
 else bif decide (s.Epoch<epochOfF log)||(decide (s.Epoch<d.Epoch)||(s.Epoch==d.Epoch&&decide (s.Version<d.Version))) then 4
 else bif !(openBF (openEpochF d.Store bx).1 s).2|| !(mergeF d.Bundle (openBF (openEpochF d.Store bx).1 s).1).2 then 5 else 0
def syncDevF (d:D.Device)(log:List D.LogEntry)(bx:D.EpochBoxes)(s:D.SealedBundle):D.Device×Int:=
 bif syncBad d log bx s==0 then(⟨d.Store,log,(openEpochF d.Store bx).1,s.Epoch,s.Version,(mergeF d.Bundle (openBF (openEpochF d.Store bx).1 s).1).1⟩,0) else(d,syncBad d log bx s)
def syncF (w:D.World)(d b:Int):D.World×Int:=bif worldOkF w&&hasDevF w d then({w with Devices:=w.Devices.set d.toNat (syncDevF (devAt w d) w.Cloud.Log w.Cloud.Boxes (fetchF w.Cloud b).1).1},(syncDevF (devAt w d) w.Cloud.Log w.Cloud.Boxes (fetchF w.Cloud b).1).2) else(w,1)
def encB (k:Int)(i:Nat)(z:Int):Int:=IntKind.u8.wrap ((z+keyedI k [(i:Int)])%256)
def encrF (k:Int)(b:List Int):List Int:=catI (fun i z=>[encB k i z]) 0 b
def sealS (k e v:Int)(b:D.Bundle):D.SealedBundle:=⟨e,v,encrF (sealKeyF k e v) (encBF b),sealMacF k ⟨e,v,encrF (sealKeyF k e v) (encBF b),0⟩⟩
def sealF (k e v:Int)(b:D.Bundle):D.SealedBundle×Bool:=bif keyF k&&(inR e 0 1000000&&inR v 0 1000000)&&bundleOkF b then(sealS k e v b,true) else(⟨0,0,[],0⟩,false)
def writeF (d:D.Device):D.Device×D.SealedBundle×Bool:=bif (sealF d.Key d.Epoch (IntKind.i64.wrap (d.Version+1)) d.Bundle).2 then({d with Version:=IntKind.i64.wrap (d.Version+1)},(sealF d.Key d.Epoch (IntKind.i64.wrap (d.Version+1)) d.Bundle).1,true) else(d,⟨0,0,[],0⟩,false)
def freshF (a b:D.SealedBundle):Bool:=decide (a.Epoch>b.Epoch)||(a.Epoch==b.Epoch&&decide (a.Version>b.Version))
def uploadF (c:D.Cloud)(s:D.SealedBundle):D.Cloud×Bool:=bif s.Epoch !=epochOfF c.Log||((decide ((c.History.length:Int)>0)&& !freshF s (c.History.getD (c.History.length-1) default))||decide ((c.History.length:Int)≥60)) then(c,false) else({c with History:=c.History++[s]},true)
def upF (w:D.World)(d:Int):D.World×Bool:=bif (writeF (devAt w d)).2.2&&(uploadF w.Cloud (writeF (devAt w d)).2.1).2 then({w with Devices:=w.Devices.set d.toNat (writeF (devAt w d)).1,Cloud:=(uploadF w.Cloud (writeF (devAt w d)).2.1).1},true) else(w,false)
def pushF (w:D.World)(d:Int):D.World×Bool:=bif (syncF w d 0).2==0&&(upF (syncF w d 0).1 d).2 then((upF (syncF w d 0).1 d).1,true) else(w,false)
theorem encBF_len (b:D.Bundle):(encBF b).length≤500:=by
 unfold encBF
 cases hb:bundleOkF b with
 |false=>simp
 |true=>
  have:=bundle_len hb
  have h1:=encF_len (valsF b)
  have h2:(valsF b).length=1+4*b.Entries.length:=by simp[valsF,flatE_len];omega
  rw[cond_true];omega
theorem encr_len (k:Int)(b:List Int):(encrF k b).length=b.length:=by unfold encrF;exact catI_len
theorem sealF_len (k e v:Int)(b:D.Bundle):(sealF k e v b).1.Data.length≤500:=by
 unfold sealF
 cases keyF k&&(inR e 0 1000000&&inR v 0 1000000)&&bundleOkF b with
 |false=>simp
 |true=>simp only[cond_true,sealS,encr_len];exact encBF_len b
theorem writeF_sz (d:D.Device):(writeF d).1.sz=d.sz∧(writeF d).2.1.Data.length≤500:=by
 unfold writeF
 have:=sealF_len d.Key d.Epoch (IntKind.i64.wrap (d.Version+1)) d.Bundle
 cases(sealF d.Key d.Epoch (IntKind.i64.wrap (d.Version+1)) d.Bundle).2 with
 |false=>exact⟨rfl,by simp⟩
 |true=>exact⟨rfl,this⟩
theorem uploadF_sz (c:D.Cloud)(s:D.SealedBundle):(uploadF c s).1.sz≤c.sz+1+s.Data.length∧(uploadF c s).1.Log=c.Log:=by
 unfold uploadF
 cases s.Epoch !=epochOfF c.Log||((decide ((c.History.length:Int)>0)&& !freshF s (c.History.getD (c.History.length-1) default))||decide ((c.History.length:Int)≥60)) with
 |true=>exact⟨by simp only[cond_true];omega,rfl⟩
 |false=>refine⟨?_,rfl⟩;simp only[cond_false,D.Cloud.sz,List.length_append,List.map_append,List.sum_append,List.length_cons,List.length_nil,List.map_cons,List.map_nil,List.sum_cons,List.sum_nil,D.SealedBundle.sz];omega
theorem sum_set_le {α:Type}{f:α→Nat}:∀{l:List α} {i:Nat} {x:α} (hi:i<l.length),((l.set i x).map f).sum+f l[i]=(l.map f).sum+f x
 |y::l,0,x,_=>by simp only[List.set_cons_zero,List.map_cons,List.sum_cons,List.getElem_cons_zero];omega
 |y::l,i+1,x,h=>by
  have:=sum_set_le (f:=f) (l:=l) (i:=i) (x:=x) (by simpa using h)
  simp only[List.set_cons_succ,List.map_cons,List.sum_cons,List.getElem_cons_succ];omega
theorem sync_ok {w:D.World}{d b:Int}(h:((syncF w d b).2==0)=true):(worldOkF w=true∧hasDevF w d=true)∧(syncF w d b).1.Cloud=w.Cloud∧(syncF w d b).1.Devices.length=w.Devices.length∧(syncF w d b).1.sz≤w.sz+w.Cloud.Log.length+20:=by
 unfold syncF at*
 cases hc:(worldOkF w&&hasDevF w d) with
 |false=>rw[hc] at h;cases h
 |true=>
  rw[hc] at h
  simp only[cond_true] at h ⊢
  rw[Bool.and_eq_true] at hc
  refine⟨hc,by first|rfl|trivial,by first|exact List.length_set|simp,?_⟩
  have hd:=hc.2
  simp only[hasDevF,Bool.and_eq_true,decide_eq_true_eq] at hd
  have hi:d.toNat<w.Devices.length:=by omega
  have hz:(syncDevF (devAt w d) w.Cloud.Log w.Cloud.Boxes (fetchF w.Cloud b).1).1.sz≤w.Cloud.Log.length+20:=by
   unfold syncDevF at*
   cases hs:syncBad (devAt w d) w.Cloud.Log w.Cloud.Boxes (fetchF w.Cloud b).1==0 with
   |false=>rw[hs] at h;simp only[cond_false] at h;rw[hs] at h;cases h
   |true=>
    have hm:(mergeF (devAt w d).Bundle (openBF (openEpochF (devAt w d).Store w.Cloud.Boxes).1 (fetchF w.Cloud b).1).1).2=true:=by
     cases hm:(mergeF (devAt w d).Bundle (openBF (openEpochF (devAt w d).Store w.Cloud.Boxes).1 (fetchF w.Cloud b).1).1).2 with
     |true=>rfl
     |false=>
      unfold syncBad at hs
      rw[hm] at hs
      revert hs
      generalize(devAt w d)=x
      generalize(fetchF w.Cloud b).1=s
      cases !logOkF w.Cloud.Log|| !extendsF w.Cloud.Log x.Log<;>cases !hasF (devicesOfF w.Cloud.Log) (devPubF x.Store)<;>cases w.Cloud.Boxes.Epoch !=epochOfF w.Cloud.Log|| !(openEpochF x.Store w.Cloud.Boxes).2<;>cases decide (s.Epoch<epochOfF w.Cloud.Log)||(decide (s.Epoch<x.Epoch)||(s.Epoch==x.Epoch&&decide (s.Version<x.Version)))<;>cases !(openBF (openEpochF x.Store w.Cloud.Boxes).1 s).2<;>simp
    have:=mergeF_sz hm
    simp only[cond_true,D.Device.sz,D.Bundle.sz] at*;omega
  have h1:=sum_set_le (f:=D.Device.sz) (l:=w.Devices) (i:=d.toNat) (x:=(syncDevF (devAt w d) w.Cloud.Log w.Cloud.Boxes (fetchF w.Cloud b).1).1) hi
  generalize(syncDevF (devAt w d) w.Cloud.Log w.Cloud.Boxes (fetchF w.Cloud b).1).1=x at*
  simp only[D.World.sz,List.length_set] at*;omega
theorem up_ok {w:D.World}{d:Int}(hd:hasDevF w d=true):(upF w d).1.Cloud.Log=w.Cloud.Log∧(upF w d).1.Devices.length=w.Devices.length∧(upF w d).1.sz≤w.sz+501:=by
 unfold upF
 cases(writeF (devAt w d)).2.2&&(uploadF w.Cloud (writeF (devAt w d)).2.1).2 with
 |false=>exact⟨rfl,rfl,by simp only[cond_false];omega⟩
 |true=>
  have hu:=uploadF_sz w.Cloud (writeF (devAt w d)).2.1
  have hw:=writeF_sz (devAt w d)
  simp only[hasDevF,Bool.and_eq_true,decide_eq_true_eq] at hd
  have hi:d.toNat<w.Devices.length:=by omega
  have h1:=sum_set_le (f:=D.Device.sz) (l:=w.Devices) (i:=d.toNat) (x:=(writeF (devAt w d)).1) hi
  have e:w.Devices[d.toNat]=devAt w d:=by simp[devAt,List.getD,List.getElem?_eq_getElem hi]
  rw[e] at h1
  refine⟨hu.2,List.length_set,?_⟩
  generalize(uploadF w.Cloud (writeF (devAt w d)).2.1).1=c at*
  generalize writeF (devAt w d)=x at*
  simp only[cond_true,D.World.sz,D.Cloud.sz,List.length_set] at*;omega
theorem push_ok {w:D.World}{d:Int}(h:(pushF w d).2=true):(pushF w d).1.Cloud.Log=w.Cloud.Log∧(pushF w d).1.sz≤w.sz+w.Cloud.Log.length+521:=by
 unfold pushF at*
 cases hc:((syncF w d 0).2==0&&(upF (syncF w d 0).1 d).2) with
 |false=>rw[hc] at h;cases h
 |true=>
  rw[Bool.and_eq_true] at hc
  obtain⟨⟨k1,k2⟩,k3,k4,k5⟩:=sync_ok hc.1
  have hd:hasDevF (syncF w d 0).1 d=true:=by simp only[hasDevF] at*;rw[k4];exact k2
  obtain⟨j1,j2,j3⟩:=up_ok hd
  simp only[cond_true]
  exact⟨by rw[j1,k3],by omega⟩
theorem enc_impl {k z:Int}(i:Nat)(h:0≤z∧z≤255):IntKind.u8.wrap ((IntKind.i64.wrap (IntKind.i64.wrap z+keyedI k [(i:Int)])).tmod 256)=encB k i z:=by
 have:=keyedI_range k [(i:Int)]
 rw[wrap64_id (n:=z) (by omega) (by omega),wrap64_id (by omega) (by omega),Int.tmod_eq_emod_of_nonneg (by omega)];rfl
theorem enc_spec {k z:Int}(i:Nat)(h:0≤z∧z≤255):IntKind.u8.wrap ((IntKind.i64.wrap (IntKind.i64.wrap z+(keyedI k [(i:Int)]).tmod 256)).tmod 256)=encB k i z:=by
 have:=keyedI_range k [(i:Int)]
 rw[wrap64_id (n:=z) (by omega) (by omega),show(keyedI k [(i:Int)]).tmod 256=keyedI k [(i:Int)]%256 from Int.tmod_eq_emod_of_nonneg this.1,wrap64_id (by omega) (by omega),Int.tmod_eq_emod_of_nonneg (by omega),encB]
 congr 1;omega
end Go.VK
