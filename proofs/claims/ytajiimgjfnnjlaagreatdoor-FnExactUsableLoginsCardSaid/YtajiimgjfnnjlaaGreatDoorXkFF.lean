import Derived.Test.YtajiimgjfnnjlaaGreatDoorEVzbtor
import Derived.Test.YtajiimgjfnnjlaaGreatDoorXkS
/- Printed by wip/tools: models, walks, proofs. -/
set_option linter.unusedVariables false
set_option linter.unusedSimpArgs false
set_option maxRecDepth 100000
set_option maxHeartbeats 4000000
namespace Go.VK
open Go.RowKit Go.Proofs
theorem K5 {h v:Int}(h0:0≤h)(h1:h<2147483647):0≤hstep h v∧hstep h v<2147483647:=by
 have hm:=aMl (p:=v) (q:=2147483647) (by omega)
 unfold hstep
 generalize Ai v 2147483647=z at*
 have e1:IntKind.i64.wrap (h*1000003)=h*1000003:=bA (by omega) (by omega)
 have e2:IntKind.i64.wrap (h*1000003+z)=h*1000003+z:=bA (by omega) (by omega)
 have e3:IntKind.i64.wrap (h*1000003+z+13)=h*1000003+z+13:=bA (by omega) (by omega)
 rw[e1,e2,e3]
 exact⟨Int.tmod_nonneg _ (by omega),Int.tmod_lt_of_pos _ (by decide)⟩
theorem aLv (l:List Int):0≤uE l∧uE l<2147483647:=by
 unfold uE
 suffices ∀(l:List Int) (h:Int),0≤h→h<2147483647→0≤l.foldl hstep h∧l.foldl hstep h<2147483647 from this l 11 (by omega) (by omega)
 intro l
 induction l with
 |nil=>intro h h0 h1;exact⟨h0,h1⟩
 |cons x xs ih=>intro h h0 h1;exact ih _ (K5 h0 h1).1 (K5 h0 h1).2
theorem Tw (k:Int)(l:List Int):0≤eD k l∧eD k l<2147483647:=aLv _
def aNh (a b:Int):Int:=bif decide (b>a) then b else a
def jK (a:List Int)(r:List (List Int)):List Int:=a++r.flatten
def xM (n:Int):Int:=bif n==0 then 1 else n
def gY (n:Int):Bool:=bI n 1 2147483646
def aB1 (b:List Int):List Int:=[(b.length:Int)]++b.map IntKind.i64.wrap
def sN (seed:Int)(l:List Int):Int:=xM (eD seed ([151]++l))
def fB (k:Int)(s:ByteArray):Int:=xM (eD k (aB1 (aO s)))
def Je (p:Int):Int:=bif !(gY p) then 0 else(IntKind.i64.wrap (p*48271)).tmod 2147483647
def gZ (l:List Int)(x:Int):Bool:=l.any fun e=>e==x
def jL (log:List D.aAE)(p:Int):Bool:=log.any fun e=>e.Kind==2&&e.Device==p
def gM (s:List Int)(e:D.aAE):List Int:=
 bif e.Kind==1 then(bif s.contains e.Device then s else s++[e.Device]) else bif e.Kind==2 then s.filter (fun d=>d !=e.Device) else s
def aN (log:List D.aAE):List Int:=log.foldl gM []
def aH (s:D.Site)(id:Int):Int:=yN (fun a=>a.Id==id) 0 s.Accounts
theorem K6 (s:List Int)(x:D.aAE):(gM s x).length≤s.length+1:=by
 unfold gM
 cases x.Kind==1 with
 |true=>cases s.contains x.Device<;>simp
 |false=>
  cases x.Kind==2 with
  |true=>have:=List.length_filter_le (fun d=>d !=x.Device) s;simp;omega
  |false=>simp
theorem Nc (log:List D.aAE):(aN log).length≤log.length:=by
 suffices ∀(l:List D.aAE) (s:List Int),(l.foldl gM s).length≤s.length+l.length from by simpa[aN] using this log []
 intro l
 induction l with
 |nil=>intro s;simp
 |cons x xs ih=>
  intro s
  simp only[List.foldl_cons,List.length_cons]
  have h1:=ih (gM s x)
  have h2:(gM s x).length≤s.length+1:=by
   unfold gM
   cases x.Kind==1 with
   |true=>cases s.contains x.Device<;>simp
   |false=>
    cases x.Kind==2 with
    |true=>have:=List.length_filter_le (fun d=>d !=x.Device) s;simp;omega
    |false=>simp
  omega
theorem aLw {n:Int}(h:0≤n):aNh 1 n=xM n:=by
 unfold aNh xM
 rcases(show n=0∨n=1∨n>1 by omega) with rfl|rfl|h1
 ·rfl
 ·rfl
 ·have:(n==0)=false:=by simp;omega
  simp[h1,this]
def fF (s:ByteArray):Int:=fB 173 s
def WOk (w:D.World):Prop:=w.Devices.length≤34359738368∧w.Stolen.length≤34359738368∧w.aAO.Log.length≤34359738368∧w.Sites.length≤34359738368
instance (w:D.World):Decidable (WOk w):=inferInstanceAs (Decidable (_∧_))
def fP (w:D.World)(d:Int):Bool:=decide (0≤d)&&decide (d<w.Devices.length)
def aIs (w:D.World)(d:Int):D.Device:=w.Devices.getD d.toNat default
theorem aOu {w:D.World}{d:Int}(h:fP w d=true):aW w.Devices d=some (aIs w d):=by
 simp only[fP,Bool.and_eq_true,decide_eq_true_eq] at h
 rw[Sg h.1 (by omega)]
 simp[aIs,List.getD,List.getElem?_eq_getElem (show d.toNat<w.Devices.length by omega)]
theorem WOk.of {w:D.World}(h:w.sz≤1048576):WOk w:=by
 simp only[D.World.sz,D.aAO.sz] at h
 unfold WOk
 omega
def aTj (b:List Int):Prop:=b.length≤34359738368∧b.all (fun z=>decide (0≤z)&&decide (z≤255))=true
instance (b:List Int):Decidable (aTj b):=inferInstanceAs (Decidable (_∧_))
theorem and_one {n:Int}(h0:0≤n)(h1:n<9223372036854775808):aPa .i64 n 1=n%2:=by
 obtain⟨m,rfl⟩:=Int.eq_ofNat_of_zero_le h0
 have e:((BitVec.ofInt 64 (m:Int))&&&(BitVec.ofInt 64 1)).toNat=m%2:=by
  rw[BitVec.toNat_and]
  have e1:(BitVec.ofInt 64 (m:Int)).toNat=m:=by rw[BitVec.toNat_ofInt];omega
  have e2:(BitVec.ofInt 64 1).toNat=2^1-1:=by decide
  rw[e1,e2,Nat.and_two_pow_sub_one_eq_mod]
 show IntKind.i64.wrap (((BitVec.ofInt 64 (m:Int))&&&(BitVec.ofInt 64 1)).toNat:Int)=_
 rw[e,bA (by omega) (by omega)];omega
theorem aTk {n:Int}(h0:0≤n):aI5 .i64 n 1=n/2:=by
 unfold aI5
 rw[show min (Int.toNat 1) IntKind.i64.bits=1 from by decide,Int.fdiv_eq_ediv_of_nonneg _ (by decide)];rfl
def aQb:Nat→Int→Int→Int→Int
 |0,_,_,s=>s
 |k+1,b,n,s=>if n>0 then aQb k ((IntKind.i64.wrap (b*b)).tmod 2147483647) (n/2) (bif n%2==1 then(IntKind.i64.wrap (s*b)).tmod 2147483647 else s) else s
theorem aOv:aQb 31 48271 2147483645 1=1899818559:=by decide+kernel
def gD (q:Int):Int:=bif !gY q then 0 else q*1899818559%2147483647
def yR (p:Int)(l:List Int):Int:=bif !gY p then 0 else eD p ([139,(l.length:Int)]++l)
def dC (q:Int)(l:List Int)(g:Int):Bool:=gD q !=0&&yR (gD q) l==g
theorem Df {α:Type}[Inhabited α]{l:List α}{i:Nat}(h0:0<i)(hi:i<l.length)(hl:l.length≤34359738368):aW l (IntKind.i64.wrap ((i:Int)-1))=some (l.getD (i-1) default):=by
 rw[bA (by omega) (by omega),show(i:Int)-1=((i-1:Nat):Int) by omega,aD (by omega)]
 simp[List.getD,List.getElem?_eq_getElem (show i-1<l.length by omega)]
def lD (l:List D.aAM)(i:Nat)(n:D.aAM):Bool:= !bI n.Kind 1 5||(!bI n.aAD 0 1000000||(!bI n.Time 0 1000000||(decide (0<i)&&decide ((l.getD (i-1) default).Time>n.Time))))
def bR (m:D.aAI):Bool:=decide (m.Notices.length≤30)&& !kE (lD m.Notices) 0 m.Notices
def eX (b:D.aAA)(i:Nat)(n:D.aAG):Bool:= !bI n.Id 0 (IntKind.i64.wrap (b.Next-1))||((decide (0<i)&&decide ((b.Open.getD (i-1) default).Id≥n.Id))||(!bI n.aAD 0 1000005|| !bI n.Until 0 1000005))
def bW (b:D.aAA):Bool:=bI b.Next 0 1000000&&decide (b.Open.length≤16)&& !kE (eX b) 0 b.Open
def xN (a:D.aAD)(i:Nat)(n:D.aAH):Bool:=(!bI n.Handle 0 1000000||((decide (0<i)&&decide ((a.Credentials.getD (i-1) default).Handle≥n.Handle))||(gD n.Public==0|| !bI n.Counter 0 1000000)))||(a.Credentials.take i).any fun q=>q.Public==n.Public
def aY (a:D.aAD):Bool:=bI a.Id 0 1000000&&bI a.Minimum 1 3&&decide (a.Credentials.length≤8)&& !kE (xN a) 0 a.Credentials
def bG (e:D.aAE):Int:=uE [229,e.Index,e.Kind,e.Device,e.By,e.Previous]
def dR (l:List D.aAE):Int:=bif (l.length:Int)==0 then 0 else bG (l.getD (l.length-1) default)
def lI (l:List D.aAE)(e:D.aAE):Bool:=
 e.Index==(l.length:Int)&&(e.Previous==dR l&&((gZ (aN l) e.By||((l.length:Int)==0&&e.By==e.Device))&&(dC e.By [bG e] e.Signature&&
  (bif e.Kind==2 then gZ (aN l) e.Device&&decide (((aN l).length:Int)>1) else !jL l e.Device&&(e.Kind==1&&(!gZ (aN l) e.Device&&decide (((aN l).length:Int)<6)))))))
def qB (l:List D.aAE):Bool:=bI (l.length:Int) 1 40&& !kE (fun i e=> !lI (l.take i) e) 0 l
theorem aSb {l:List Int}{x:Int}(h:gZ l x=true):0<l.length:=by
 cases l with
 |nil=>simp[gZ] at h
 |cons a r=>simp
def dG:List UInt8→List UInt8→List (List UInt8)
 |cur,[]=>[cur]
 |cur,b::r=>bif b==46 then cur::dG [] r else dG (cur++[b]) r
theorem aSc (s:List UInt8)(i:Nat):Lib.occAt s [46] i=decide (s[i]? =some 46):=by
 unfold Lib.occAt
 cases h:s.drop i with
 |nil=>
  have:s.length≤i:=List.drop_eq_nil_iff.1 h
  simp[List.getElem?_eq_none this,List.isPrefixOf]
 |cons b r=>
  have e:s[i]? =some b:=by
   have:=List.getElem?_drop (xs:=s) (i:=i) (j:=0)
   rw[h] at this;simpa using this.symm
  rw[e];simp only[List.isPrefixOf,Bool.and_true,Option.some.injEq]
  rw[Bool.eq_iff_iff];simp only[beq_iff_eq,decide_eq_true_eq];exact eq_comm
theorem aB2:∀(a cur r:List UInt8),(∀b∈a,b≠46)→dG cur (a++46::r)=(cur++a)::dG [] r
 |[],cur,r,_=>by simp[dG]
 |b::a,cur,r,h=>by
  have hb:(b==46)=false:=by simpa using h b (by simp)
  rw[List.cons_append,dG,hb,cond_false,aB2 a _ r (fun x hx=>h x (List.mem_cons_of_mem _ hx))];simp
theorem K7:∀(a cur:List UInt8),(∀b∈a,b≠46)→dG cur a=[cur++a]
 |[],cur,_=>by simp[dG]
 |b::a,cur,h=>by
  have hb:(b==46)=false:=by simpa using h b (by simp)
  rw[dG,hb,cond_false,K7 a _ (fun x hx=>h x (List.mem_cons_of_mem _ hx))];simp
theorem aLx:∀(n:Nat) (s:List UInt8),s.length<n→Lib.splitK [46] 0 (Lib.count s [46]) s=dG [] s
 |0,s,h=>absurd h (Nat.not_lt_zero _)
 |n+1,s,h=>by
  rcases Lib.index_spec s [46] with⟨h1,h2⟩|⟨i,h1,h2,h3,h4⟩
  ·rw[Lib.count_miss h1,K7 s [] (fun b hb e=>by
    obtain⟨j,hj,ej⟩:=List.getElem_of_mem hb
    have:=h2 j (by omega)
    rw[aSc,List.getElem?_eq_getElem hj,ej,e] at this;simp at this)];rfl
  ·rw[aSc] at h3
   have h3:s[i]? =some 46:=by simpa using h3
   have hi:i<s.length:=by
    rcases Nat.lt_or_ge i s.length with hlt|hge
    ·exact hlt
    ·rw[List.getElem?_eq_none hge] at h3;cases h3
   rw[Lib.count_hit (by simp) h1,Nat.add_comm,Lib.splitK,h1]
   have hne:((i:Int)== -1)=false:=by simp
   rw[hne]
   simp only[Int.toNat_natCast,Nat.add_zero,List.length_cons,List.length_nil,Nat.zero_add]
   rw[if_neg (by simp),aLx n (s.drop (i+1)) (by rw[List.length_drop];omega)]
   have es:s=s.take i++46::s.drop (i+1):=by
    have e2:s[i]=46:=by rw[List.getElem?_eq_getElem hi] at h3;exact Option.some.inj h3
    rw[←e2,List.getElem_cons_drop hi,List.take_append_drop]
   conv=>rhs;rw[es]
   rw[aB2 (s.take i) [] _ (fun b hb e=>by
    obtain⟨j,hj,ej⟩:=List.getElem_of_mem hb
    rw[List.length_take] at hj
    have:=h4 j (by omega)
    rw[aSc,List.getElem?_eq_getElem (by omega)] at this
    rw[List.getElem_take] at ej
    rw[ej,e] at this;simp at this)];simp
def aL (s:ByteArray):List ByteArray:=(dG [] s.data.toList).map fun l=>⟨l.toArray⟩
theorem aB3 (s:ByteArray):eF s ⟨#[46]⟩=aL s:=by
 have h1:(eF s ⟨#[46]⟩).map (·.data.toList)=dG [] s.data.toList:=by
  rw[eF,Lib.splitB_data];exact aLx _ _ (Nat.lt_succ_self _)
 unfold aL
 rw[←h1,List.map_map]
 conv=>lhs;rw[←List.map_id (eF s ⟨#[46]⟩)]
 congr 1
def Tx (b:Int):Bool:=bI b 97 122||bI b 48 57||b==45
def lU (s:ByteArray):Bool:=decide (1≤s.size)&&decide (s.size≤20)&& !((aO s).getD 0 0==45)&& !((aO s).getD (s.size-1) 0==45)&& !((aO s).any fun b=> !Tx b)
def bS (s:ByteArray):Bool:=decide (s.size≤60)&& !((aL s).any fun l=> !lU l)
theorem dH (s:ByteArray):(aO s).length=s.size:=by simp only[aO,List.length_map];rfl
theorem aLy {s:ByteArray}{i:Nat}(h:i<s.size):aW (aO s) (i:Int)=some ((aO s)[i]'(by rw[dH];exact h)):=aD _
theorem ext_list (s:ByteArray)(a b:Nat):s.extract a b=⟨((s.data.toList.drop a).take (b-a)).toArray⟩:=by
 apply ByteArray.ext
 apply Array.toList_inj.1
 rw[Lib.extract_data]
theorem Ox:∀(s cur:List UInt8),(dG cur s).length≤s.length+1
 |[],_=>by simp[dG]
 |b::r,cur=>by
  rw[dG]
  cases b==46 with
  |true=>have:=Ox r [];simp;omega
  |false=>have:=Ox r (cur++[b]);simp at this ⊢;omega
theorem Dh:∀(s cur:List UInt8) (l:List UInt8),l∈dG cur s→l.length≤cur.length+s.length
 |[],cur,l,h=>by simp[dG] at h;subst h;simp
 |b::r,cur,l,h=>by
  rw[dG] at h
  cases hb:b==46 with
  |true=>
   rw[hb,cond_true] at h
   rcases List.mem_cons.1 h with rfl|h
   ·omega
   ·have:=Dh r [] l h;simp at this ⊢;omega
  |false=>rw[hb,cond_false] at h;have:=Dh r _ l h;simp at this ⊢;omega
theorem Di (s:ByteArray):(aL s).length≤s.size+1:=by
 unfold aL;rw[List.length_map];exact Ox _ _
theorem oO (s l:ByteArray)(h:l∈aL s):l.size≤s.size:=by
 unfold aL at h
 obtain⟨q,hq,rfl⟩:=List.mem_map.1 h
 have:=Dh _ _ q hq
 have h2:(⟨q.toArray⟩:ByteArray).size=q.length:=rfl
 have h3:s.data.toList.length=s.size:=rfl
 have h4:([]:List UInt8).length=0:=rfl
 omega
theorem aWq (z:ByteArray):(z.toList==(⟨#[]⟩:ByteArray).toList)=decide (z.size=0):=by
 rw[ByteArray.toList_eq,ByteArray.toList_eq,Bool.eq_iff_iff]
 simp only[beq_iff_eq,decide_eq_true_eq]
 constructor
 ·intro h
  show z.data.size=0
  rw[←Array.length_toList,h];rfl
 ·intro h
  exact List.eq_nil_of_length_eq_zero h
theorem oP:∀(s cur:List UInt8),(dG cur s).length=s.countP (·==46)+1
 |[],_=>rfl
 |b::r,cur=>by
  rw[dG,List.countP_cons]
  cases b==46 with
  |true=>rw[cond_true,List.length_cons,oP r []];simp
  |false=>rw[cond_false,oP r _];simp
theorem K8 (s:ByteArray):0<(aL s).length:=by
 unfold aL;rw[List.length_map,oP];omega
def Jf (s:ByteArray):Bool:=(aO s).any fun b=>b==46
theorem aF1 (s:ByteArray):Jf s=decide (2≤(aL s).length):=by
 unfold Jf aL aO
 rw[List.length_map,oP,List.any_map]
 have e:(fun b:Int=>b==46)∘(fun b:UInt8=>(b.toNat:Int))=fun b:UInt8=>b==46:=by
  funext b
  rw[Bool.eq_iff_iff]
  simp only[Function.comp,beq_iff_eq]
  constructor
  ·intro q;apply UInt8.toNat_inj.1;show _=46;omega
  ·intro q;rw[q];rfl
 rw[e,Bool.eq_iff_iff,List.any_eq_true,decide_eq_true_eq]
 have:=List.countP_pos_iff (p:=fun b:UInt8=>b==46) (l:=s.data.toList)
 constructor
 ·intro h;have:=this.2 h;omega
 ·intro h;exact this.1 (by omega)
def aQc (s:ByteArray):ByteArray:=bif bS s then(bif (aL s).length==1 then s else iT ⟨#[46]⟩ ((aL s).drop ((aL s).length-2))) else⟨#[]⟩
theorem aT2 {l:List ByteArray}(h:2≤l.length):∃a∈l,∃b∈l,iT ⟨#[46]⟩ (l.drop (l.length-2))=a++⟨#[46]⟩++b:=by
 have hl:(l.drop (l.length-2)).length=2:=by rw[List.length_drop];omega
 match hm:l.drop (l.length-2),hl with
 |[a,b],_=>
  refine⟨a,List.mem_of_mem_drop (i:=l.length-2) (by rw[hm];simp),b,List.mem_of_mem_drop (i:=l.length-2) (by rw[hm];simp),?_⟩
  rw[show[a,b]=[a]++[b] from rfl,aSn _ _ _ (by simp),aSm]
theorem Dj {s:ByteArray}(h:bS s=true):s.size≤60∧0<s.size:=by
 unfold bS at h
 rw[Bool.and_eq_true,decide_eq_true_eq] at h
 refine⟨h.1,Nat.pos_of_ne_zero fun e=> ?_⟩
 have e2:s.data.toList=[]:=List.eq_nil_of_length_eq_zero e
 have e3:aL s=[⟨#[]⟩]:=by unfold aL;rw[e2];rfl
 rw[e3] at h
 exact absurd h.2 (by decide)
theorem aTl {s:ByteArray}(h:bS s=true):decide ((aQc s).size=0)=false:=by
 have hs:=Dj h
 have hp:=K8 s
 unfold aQc
 rw[h,cond_true]
 refine decide_eq_false ?_
 cases h1:(aL s).length==1 with
 |true=>rw[cond_true];omega
 |false=>
  rw[cond_false]
  have:(aL s).length≠1:=by simpa using h1
  obtain⟨a,_,b,_,e⟩:=aT2 (l:=aL s) (by omega)
  rw[e,ByteArray.size_append,ByteArray.size_append]
  have:(⟨#[46]⟩:ByteArray).size=1:=rfl
  omega
def gN (s:ByteArray)(seed:Int):Bool:=bS s&&decide (2≤(aL s).length)&&gY seed
def Oy (l:List D.aAD)(i:Nat)(n:D.aAD):Bool:= !aY n||(decide (0<i)&&decide ((l.getD (i-1) default).Id≥n.Id))
def bX (s:D.Site):Bool:=gN s.Name s.Book.Seed&&decide (s.Accounts.length≤8)&&bW s.Book&& !kE (Oy s.Accounts) 0 s.Accounts
def SOk (s:D.Site):Prop:=s.Name.size≤34359738368∧s.Accounts.length≤34359738368∧s.Book.Open.length≤34359738368∧∀a∈s.Accounts,a.Credentials.length≤34359738368
instance (s:D.Site):Decidable (SOk s):=inferInstanceAs (Decidable (_∧_))
def qC (name:ByteArray)(seed:Int):D.Site:=bif gN name seed then⟨name,[],⟨seed,0,[]⟩,[]⟩ else⟨⟨#[]⟩,[],⟨0,0,[]⟩,[]⟩
theorem aNi (name:ByteArray)(seed:Int):decide ((qC name seed).Name.size=0)= !gN name seed:=by
 unfold qC
 cases h:gN name seed with
 |false=>rfl
 |true=>
  have:bS name=true:=by unfold gN at h;rw[Bool.and_eq_true,Bool.and_eq_true] at h;exact h.1.1
  have:=Dj this
  exact decide_eq_false (by show ¬name.size=0;omega)
def aJ (i:Int):ByteArray:=bif i==0 then⟨#[98,97,110,107,46,99,111,109]⟩ else bif i==1 then⟨#[115,104,111,112,46,111,114,103]⟩ else⟨#[]⟩
def iI (i:Nat)(s:D.Site):Bool:= !bX s|| !(s.Name.toList==(aJ (i:Int)).toList)
def dI (w:D.World):Bool:=bI w.Now 0 999900&&bI (w.Devices.length:Int) 1 6&&(w.Stolen.length:Int)==(w.Devices.length:Int)&&(w.Sites.length:Int)==2&&bR w.Mail&&qB w.aAO.Log&&gY w.Seed&& !kE iI 0 w.Sites
def aVr (w:D.World):Prop:=WOk w∧w.Mail.Notices.length≤34359738368∧w.Hosts.length≤34359738368∧∀s∈w.Sites,SOk s
instance (w:D.World):Decidable (aVr w):=inferInstanceAs (Decidable (_∧_))
theorem aNj {α:Type}{g:α→Nat}{x:α}:∀{l:List α},x∈l→g x≤(l.map g).sum
 |y::r,h=>by
  rw[List.map_cons,List.sum_cons]
  rcases List.mem_cons.1 h with rfl|h
  ·omega
  ·have:=aNj (g:=g) h;omega
theorem SOk.of {s:D.Site}(h:s.sz≤1048576):SOk s:=by
 simp only[D.Site.sz] at h
 refine⟨by omega,by omega,by omega,fun a ha=> ?_⟩
 have:=aNj (g:=D.aAD.sz) ha
 simp only[D.aAD.sz] at this h
 omega
theorem aVr.of {w:D.World}(h:w.sz≤1048576):aVr w:=by
 refine⟨WOk.of h,?_,?_,fun s hs=>SOk.of ?_⟩
 ·simp only[D.World.sz] at h;omega
 ·simp only[D.World.sz] at h;omega
 ·have:=aNj (g:=D.Site.sz) hs
  simp only[D.World.sz] at h;omega
abbrev nH (a:List Int)(r:List (List Int)):Prop:=a.length+r.flatten.length≤68719476736∧r.length≤1099511627776
def fC (w:D.World)(i:Int):Bool:=decide (0≤i)&&decide (i<w.Sites.length)
theorem iA {α β:Type}{s:List α}(hs:s.length≤34359738368)(x:α)(k:Option β):gd (aU s [x]) k=k:=aC (by unfold aU;simp only[List.length_singleton];omega)
theorem iB {α β:Type}{s:List α}(hs:s.length≤34359738368)(k:Option β):gd (aU [] s) k=k:=aC (by unfold aU;simp only[List.length_nil];omega)
theorem aLz {α:Type}{l s:List α}:l.foldl (fun s x=>s++[x]) s=s++l:=by
 have:=Xz (f:=fun x:α=>[x]) (l:=l) (s:=s)
 rw[this];congr 1
 induction l with
 |nil=>rfl
 |cons x l ih=>simp[ih]
theorem Ty {α:Type}{l:List α}{F:(Nat×List α→Option (List α))→Nat×List α→Option (List α)}(hl:l.length≤34359738368)
  (hF:∀rec i s (hi:i<l.length),s.length≤34359738368→F rec (i,s)=rec (i+1,s++[l[i]])) (hE:∀rec s,F rec (l.length,s)=some s):EV.bK FUEL F (0,[])=some l:=by
 rw[aQa (l:=l) (fun s x=>s++[x]) (fun i s=>s.length=i) (fun s=>some s) (by omega) rfl (fun i s hi hv=>by simp;omega) (fun rec i s hi hv=>hF rec i s hi (by omega)) (fun rec s _=>hE rec s),aLz,List.nil_append]
theorem aSd {α:Type}{l:List α}{F:(List α×Nat→Option (List α))→List α×Nat→Option (List α)}(hl:l.length≤34359738368)
  (hF:∀rec i s (hi:i<l.length),s.length≤34359738368→F rec (s,i)=rec (s++[l[i]],i+1)) (hE:∀rec s,F rec (s,l.length)=some s):EV.bK FUEL F ([],0)=some l:=by
 rw[gL (l:=l) (fun s x=>s++[x]) (fun i s=>s.length=i) (fun s=>some s) (by omega) rfl (fun i s hi hv=>by simp;omega) (fun rec i s hi hv=>hF rec i s hi (by omega)) (fun rec s _=>hE rec s),aLz,List.nil_append]
abbrev szL {α:Type}(f:α→Nat)(l:List α):Nat:=l.length+(l.map f).sum
theorem Tz {S τ:Type}{F:(S→Option τ)→S→Option τ}{n:Nat}{s:S}:EV.bK (n+1) F s=F (EV.bK n F) s:=rfl
theorem xO {α:Type}{c:Bool}{x y:α}:(bif c then some x else some y)=some (bif c then x else y):=by cases c<;>rfl
theorem aT3 {α β:Type}{l:List α}(f:α→β){s0:List β}{F:(List β×Nat→Option (List β))→List β×Nat→Option (List β)}(hl:s0.length+l.length≤34359738368)
  (hF:∀rec i s (hi:i<l.length),s.length≤34359738368→F rec (s,i)=rec (s++[f l[i]],i+1)) (hE:∀rec s,F rec (s,l.length)=some s):EV.bK FUEL F (s0,0)=some (s0++l.map f):=by
 rw[gL (l:=l) (fun s x=>s++[f x]) (fun i s=>s.length=s0.length+i) (fun s=>some s) (by omega) (by simp) (fun i s hi hv=>by simp;omega) (fun rec i s hi hv=>hF rec i s hi (by omega)) (fun rec s _=>hE rec s),aIr]
theorem Ua {α:Type}[Inhabited α]{l:List α}{i:Int}(h0:0≤i)(h1:i<(l.length:Int)):aW l i=some (l.getD i.toNat default):=by
 rw[Sg h0 (by omega)];simp[List.getD,List.getElem?_eq_getElem (show i.toNat<l.length by omega)]
theorem aOw {α:Type}[Inhabited α]{f:α→Nat}{l:List α}{i:Nat}(h:i<l.length):f (l.getD i default)≤(l.map f).sum:=by
 rw[List.getD,List.getElem?_eq_getElem h];exact bL h
def cS (l:List D.aAT)(i:Nat)(k:Int):Bool:=(l.take i).any fun q=>q.Index==k
theorem aOx (b:List Int):(aB1 b).length=b.length+1:=by simp[aB1,Nat.add_comm]
theorem aOy (l:List Int):List.map (fun(n:Int)=>n) l=l:=List.map_id l
def jM (w:D.World)(d:Int):Bool:=w.Stolen.getD d.toNat false
def dM (s:D.aAL)(n:ByteArray)(h:Int):Int:=sN s.Seed [179,fF n,h]
def lV (l:List D.aAM):Nat:=bif l.any (fun n=>n.Seen) then(l.takeWhile fun n=> !n.Seen).length else 0
def Dk (l:List D.aAM):List D.aAM:=bif decide ((l.length:Int)>30) then l.take (lV l)++l.drop (lV l+1) else l
def Ub (m:D.aAI)(k a t:Int):D.aAI×Bool:=bif !bR m|| !bR ⟨Dk (m.Notices++[⟨k,a,t,false⟩])⟩ then(m,false) else(⟨Dk (m.Notices++[⟨k,a,t,false⟩])⟩,true)
theorem aQd (l:List D.aAM):(Dk l).length≤l.length:=by
 unfold Dk
 cases decide ((l.length:Int)>30) with
 |false=>exact Nat.le_refl _
 |true=>simp only[cond_true,List.length_append,List.length_take,List.length_drop];omega
theorem sO {α:Type}{p:α→Bool}{i:Nat}{l:List α}(h:decide (yN p i l<0)=false):(i:Int)≤yN p i l∧yN p i l<i+l.length:=by
 induction l generalizing i with
 |nil=>simp[yN] at h
 |cons x l ih=>
  unfold yN at h ⊢
  cases hp:p x with
  |true=>simp only[cond_true,List.length_cons];omega
  |false=>
   rw[hp] at h
   have:=ih (i:=i+1) h
   simp only[cond_false,List.length_cons];omega
def aWs (w:D.World)(k:Int):D.World:={w with Mail:=(Ub w.Mail k 1 w.Now).1}
theorem aIt {α:Type}{p:α→Bool}:∀{l:List α} {i:Nat} (hi:i<l.length),i<(l.takeWhile p).length→p l[i]=true
 |x::l,0,_,h=>by
  simp only[List.takeWhile_cons] at h
  cases hp:p x with
  |true=>exact hp
  |false=>rw[hp] at h;simp at h
 |x::l,i+1,hi,h=>by
  simp only[List.takeWhile_cons] at h
  cases hp:p x with
  |true=>
   have h':i<(l.takeWhile p).length:=by simpa[hp] using h
   exact aIt (l:=l) (i:=i) (by simpa using hi) h'
  |false=>rw[hp] at h;simp at h
theorem aIu {α:Type}{p:α→Bool}:∀{l:List α} (h:(l.takeWhile p).length<l.length),p (l[(l.takeWhile p).length]'h)=false
 |x::l,h=>by
  cases hp:p x with
  |true=>
   have h':(l.takeWhile p).length<l.length:=by simpa[List.takeWhile_cons,hp] using h
   simpa[List.takeWhile_cons,hp] using aIu h'
  |false=>simp[List.takeWhile_cons,hp]
theorem aB4 {α:Type}{p:α→Bool}{l:List α}:(l.takeWhile p).length≤l.length:=(List.takeWhile_prefix p).length_le
theorem aQe {α τ S:Type}{l:List α}(p:α→Bool)(fin:Nat→Option τ)(e:Nat→S){F:(S→Option τ)→S→Option τ}(hl:l.length≤34359738368)
  (hF:∀rec i (hi:i<l.length),F rec (e i)=bif p l[i] then rec (e (i+1)) else fin i) (hE:∀rec,F rec (e l.length)=fin l.length):EV.bK FUEL F (e 0)=fin (l.takeWhile p).length:=by
 have go:∀(k i n:Nat),i+k=(l.takeWhile p).length→k<n→EV.bK n F (e i)=fin (l.takeWhile p).length:=by
  intro k
  induction k with
  |zero=>
   intro i n hi hn
   obtain⟨n,rfl⟩:∃m,n=m+1:=⟨n-1,by omega⟩
   have:i=(l.takeWhile p).length:=by omega
   subst this
   rw[Tz]
   by_cases h:(l.takeWhile p).length<l.length
   ·rw[hF _ _ h,aIu h,cond_false]
   ·have h2:(l.takeWhile p).length=l.length:=by have:=aB4 (p:=p) (l:=l);omega
    rw[h2,hE]
  |succ k ih=>
   intro i n hi hn
   obtain⟨n,rfl⟩:∃m,n=m+1:=⟨n-1,by omega⟩
   have h1:i<l.length:=by have:=aB4 (p:=p) (l:=l);omega
   rw[Tz,hF _ _ h1,aIt (p:=p) h1 (by omega),cond_true]
   exact ih (i+1) n (by omega) (by omega)
 have:=aB4 (p:=p) (l:=l)
 exact go (l.takeWhile p).length 0 FUEL (by omega) (by have:=sI;omega)
def aNk (l:List D.aAM):Nat:=(l.takeWhile fun n=> !n.Seen).length
theorem aQf {l:List D.aAM}{x:D.aAM}:aNk (l++[x])=bif l.any (fun n=>n.Seen) then aNk l else bif x.Seen then l.length else l.length+1:=by
 induction l with
 |nil=>cases hx:x.Seen<;>simp[aNk,hx]
 |cons y l ih=>
  unfold aNk at*
  cases hy:y.Seen with
  |true=>simp[hy]
  |false=>
   simp only[List.cons_append,List.takeWhile_cons,hy,Bool.not_false,if_true,List.length_cons,List.any_cons,Bool.false_or,ih]
   cases l.any (fun n=>n.Seen)<;>cases x.Seen<;>simp
theorem aIv {l:List D.aAM}{F:(Int×Int→Option Int)→Int×Int→Option Int}(hF:∀rec (k:Int) (i:Nat) (hi:i<l.length),F rec (k,(i:Int))=rec (bif l[i].Seen then(i:Int) else k,(i:Int)-1))(hE:∀rec k,F rec (k,-1)=some k):
  ∀(n m:Nat) (k:Int),n≤l.length→n<m→EV.bK m F (k,(n:Int)-1)=some (bif (l.take n).any (fun x=>x.Seen) then(aNk (l.take n):Int) else k)
 |0,m+1,k,_,_=>by rw[Tz,show((0:Nat):Int)-1= -1 from rfl,hE];simp
 |n+1,m+1,k,h,hm=>by
  have hn:n<l.length:=by omega
  rw[Tz,show((n+1:Nat):Int)-1=(n:Int) by omega,hF _ _ n hn,aIv hF hE n m _ (by omega) (by omega),List.take_add_one,List.getElem?_eq_getElem hn]
  simp only[Option.toList_some,List.any_append,aQf,List.any_cons,List.any_nil,Bool.or_false,List.length_take,Nat.min_eq_left (Nat.le_of_lt hn)]
  cases(l.take n).any (fun x=>x.Seen)<;>cases l[n].Seen<;>rfl
theorem aL1 (l:List D.aAM):(lV l:Int)=bif l.any (fun x=>x.Seen) then(aNk l:Int) else 0:=by
 unfold lV aNk;cases l.any (fun n=>n.Seen)<;>rfl
theorem aL2 {l:List D.aAM}(h:0<l.length):lV l<l.length:=by
 unfold lV
 cases hs:l.any (fun n=>n.Seen) with
 |false=>exact h
 |true=>
  obtain⟨x,hx,hp⟩:=List.any_eq_true.1 hs
  have:∀l:List D.aAM,x∈l→(l.takeWhile fun n=> !n.Seen).length<l.length:=by
   intro l
   induction l with
   |nil=>intro h;cases h
   |cons y l ih=>
    intro h
    cases hy:y.Seen with
    |true=>simp[hy]
    |false=>
     rcases List.mem_cons.1 h with rfl|h
     ·rw[hp] at hy;cases hy
     ·simpa[hy] using ih h
  exact this l hx
theorem aTm {τ S:Type}{l:List D.aAM}(fin:Int→Option τ)(st:Nat→S){F:(S→Option τ)→S→Option τ}(hl:l.length≤34359738368)(hF:∀rec i (hi:i<l.length),F rec (st i)=bif l[i].Seen then fin (i:Int) else rec (st (i+1)))(hE:∀rec,F rec (st l.length)=fin 0):EV.bK FUEL F (st 0)=fin (lV l:Int):=by
 have e:=aQe (l:=l) (fun n=> !n.Seen) (fun i=>bif decide (i<l.length) then fin (i:Int) else fin 0) st (F:=F) hl (fun rec i hi=>by
  rw[hF rec i hi,decide_eq_true hi];cases l[i].Seen<;>rfl) (fun rec=>by rw[hE,decide_eq_false (by omega)];rfl)
 rw[e,aL1]
 cases hs:l.any (fun n=>n.Seen) with
 |true=>
  have h0:0<l.length:=by cases l with|nil=>simp at hs|cons=>simp
  have:=aL2 h0
  unfold lV at this
  rw[hs,cond_true] at this
  rw[decide_eq_true this];rfl
 |false=>
  have hh:∀l:List D.aAM,l.any (fun n=>n.Seen)=false→(l.takeWhile fun n=> !n.Seen).length=l.length:=by
   intro l
   induction l with
   |nil=>intro _;rfl
   |cons x l ih=>
    intro h
    simp only[List.any_cons,Bool.or_eq_false_iff] at h
    simp[h.1,ih h.2]
  have this:=hh l hs
  rw[this,decide_eq_false (by omega)];rfl
def aR (a:D.aAD)(h:Int):Int:=yN (fun c=>c.Handle==h) 0 a.Credentials
def iC (a:D.aAD)(k:Int):D.aAH:=a.Credentials.getD k.toNat default
def iD (s:D.Site)(k:Int):D.aAD:=s.Accounts.getD k.toNat default
--needs aAJ aAK aAG
def dJ (b:D.aAA)(id:Int):Int:=eD b.Seed [197,id]
def aOz (b:D.aAA)(acc now:Int):D.aAG:=⟨b.Next,acc,IntKind.i64.wrap (now+5)⟩
def fI (b:D.aAA)(acc now:Int):D.aAA×D.aAG×Bool:=bif bW b&&(!(b.Next==1000000)&&(bI acc 0 1000000&&bI now 0 1000000)) then(⟨b.Seed,IntKind.i64.wrap (b.Next+1),(bif decide ((b.Open.length:Int)≥16) then b.Open.drop 1 else b.Open)++[aOz b acc now]⟩,aOz b acc now,true) else(b,⟨0,0,0⟩,false)
def aS (b:D.aAA)(id:Int):Int:=yN (fun c=>c.Id==id) 0 b.Open
def Ya (b:D.aAA)(k:Int):D.aAG:=b.Open.getD k.toNat default
def qD (b:D.aAA)(id acc now:Int):D.aAA×Bool:=bif !bW b||decide (aS b id<0) then(b,false) else(⟨b.Seed,b.Next,b.Open.take (aS b id).toNat++b.Open.drop ((aS b id).toNat+1)⟩,(Ya b (aS b id)).aAD==acc&&decide (now≤(Ya b (aS b id)).Until))
def jN (s:D.Site)(id now:Int):D.Site×Int×Int×Bool:=bif bX s&&(!decide (aH s id<0)&&(fI s.Book id now).2.2) then({s with Book:=(fI s.Book id now).1},(fI s.Book id now).2.1.Id,dJ (fI s.Book id now).1 (fI s.Book id now).2.1.Id,true) else(s,0,0,false)
def gF (s:D.aAL):Bool:=bI s.Vendor 1 9&&(bI s.Serial 0 1000000&&(gY s.Seed&&bI s.Counter 0 1000000))
def aT4 (s:D.aAL):D.aAL:={s with Counter:=IntKind.i64.wrap (s.Counter+1)}
def dS (s:D.aAL)(site:ByteArray)(h:Int)(m:List Int):D.aAL×Int×Bool:=bif gF s&& !(s.Counter==1000000) then(aT4 s,yR (dM s site h) (m++[(aT4 s).Counter]),true) else(s,0,false)
def aI (a:D.aAJ):List Int:=[199,fF a.Site,fB 211 a.aAK,a.aAG,a.Handle,bif a.Present then 1 else 0]
def bM (j:Int):D.aAK:=⟨true,⟨#[119,119,119,46]⟩++aJ j,443⟩
def Dl (j:Int):ByteArray:=⟨#[104,116,116,112,115,58,47,47]⟩++(bM j).Host
def iW (o:D.aAK)(s:ByteArray):Prop:=∃j:Int,(j=0∨j=1)∧s=aJ j∧o=bM j
noncomputable instance (o:D.aAK) (s:ByteArray):Decidable (iW o s):=Classical.propDecidable _
def yS (o:D.aAK):Prop:=∃j:Int,(j=0∨j=1)∧o=bM j
noncomputable instance (o:D.aAK):Decidable (yS o):=Classical.propDecidable _
def fD (o:D.aAK):ByteArray:=⟨#[104,116,116,112,115,58,47,47]⟩++o.Host
def aB5 (s:ByteArray):Prop:=s=⟨#[]⟩∨∃j:Int,(j=0∨j=1)∧s=Dl j
noncomputable instance (s:ByteArray):Decidable (aB5 s):=Classical.propDecidable _
def gP (s:ByteArray):D.aAK×Bool:=bif decide (s.size=0) then(⟨false,⟨#[]⟩,0⟩,false) else(⟨true,s.extract 8 s.size,443⟩,true)
def aF2 (s:D.aAL)(o:D.aAK)(site:ByteArray)(h ch:Int)(p:Bool):D.aAJ:=⟨site,fD o,ch,h,p,0,0⟩
def aQg:D.aAJ:=⟨⟨#[]⟩,⟨#[]⟩,0,0,false,0,0⟩
def gQ (s:D.aAL)(o:D.aAK)(site:ByteArray)(h ch:Int)(p:Bool):D.aAL×D.aAJ×Bool:=bif (dS s site h (aI (aF2 s o site h ch p))).2.2 then((dS s site h (aI (aF2 s o site h ch p))).1,{aF2 s o site h ch p with Counter:=(dS s site h (aI (aF2 s o site h ch p))).1.Counter,Signature:=(dS s site h (aI (aF2 s o site h ch p))).2.1},true) else(s,aQg,false)
def N9 (a:D.aAJ)(site:ByteArray):Prop:=∃j:Int,(j=0∨j=1)∧site=aJ j∧(a=aQg∨(a.Site=site∧a.aAK=Dl j))
noncomputable instance (a:D.aAJ) (s:ByteArray):Decidable (N9 a s):=Classical.propDecidable _
def eH (pub:Int)(a:D.aAJ)(site:ByteArray)(ch cnt:Int):Int:=bif !(a.Site.toList==site.toList) then 1 else bif !a.Present then 2 else bif !(a.aAG==ch) then 3 else bif !dC pub (aI a++[a.Counter]) a.Signature then 5 else bif decide (a.Counter≤cnt) then 4 else 0
def jO (a:D.aAD)(x:D.aAJ)(site:ByteArray)(ch:Int):D.aAD×Int:=bif !aY a||(decide (aR a x.Handle<0)||(iC a (aR a x.Handle)).Cut) then(a,5) else({a with Credentials:=bif eH (iC a (aR a x.Handle)).Public x site ch (iC a (aR a x.Handle)).Counter==0 then a.Credentials.set (aR a x.Handle).toNat {iC a (aR a x.Handle) with Counter:=x.Counter} else bif eH (iC a (aR a x.Handle)).Public x site ch (iC a (aR a x.Handle)).Counter==4 then a.Credentials.set (aR a x.Handle).toNat {iC a (aR a x.Handle) with Cut:=true} else a.Credentials},eH (iC a (aR a x.Handle)).Public x site ch (iC a (aR a x.Handle)).Counter)
def jP (a:D.aAD)(m:Int):Bool:=aY a&&(decide (a.Minimum≤m)&&(decide (m≤3)&&(!(m==3)||a.Credentials.any fun c=> !c.Cut)))
def jQ (s:D.Site)(id ch now:Int)(a:D.aAJ):D.Site×Int×Int:=bif !bX s||decide (aH s id<0) then(s,1,0) else bif !(qD s.Book ch id now).2 then({s with Book:=(qD s.Book ch id now).1},2,0) else bif !jP (iD s (aH s id)) 3 then({s with Book:=(qD s.Book ch id now).1},3,0) else bif !((jO (iD s (aH s id)) a s.Name (dJ s.Book ch)).2==0) then({s with Book:=(qD s.Book ch id now).1,Accounts:=s.Accounts.set (aH s id).toNat (jO (iD s (aH s id)) a s.Name (dJ s.Book ch)).1},4,(jO (iD s (aH s id)) a s.Name (dJ s.Book ch)).2) else({s with Book:=(qD s.Book ch id now).1,Accounts:=s.Accounts.set (aH s id).toNat (jO (iD s (aH s id)) a s.Name (dJ s.Book ch)).1,Logins:=s.Logins++[id]},0,0)
def mU (w:D.World)(j:Int):D.Site:=w.Sites.getD j.toNat default
def oQ (w:D.World)(j:Int):D.Site×Int×Int×Bool:=jN (mU w j) 1 w.Now
def O0 (w:D.World)(d j:Int)(o:D.aAK):D.aAL×D.aAJ×Bool:=gQ (aIs w d).Store o (aJ j) d (oQ w j).2.2.1 true
def aQh (w:D.World)(d j:Int)(o:D.aAK):D.Site×Int×Int:=jQ (oQ w j).1 1 (oQ w j).2.1 w.Now (O0 w d j o).2.1
def aWt (w:D.World)(d j:Int)(o:D.aAK):D.World:={w with Devices:=w.Devices.set d.toNat {aIs w d with Store:=(O0 w d j o).1},Sites:=w.Sites.set j.toNat (aQh w d j o).1}
def dB (w:D.World)(d j:Int):Bool:=dI w&&(fP w d&&fC w j)
def uC (w:D.World)(d j:Int)(o:D.aAK):D.World×D.aAJ×Int:=bif !dB w d j then(w,aQg,1) else bif !(oQ w j).2.2.2 then(w,aQg,1) else bif !((aQh w d j o).2.1==0) then(aWt w d j o,(O0 w d j o).2.1,2) else(aWs (aWt w d j o) 1,(O0 w d j o).2.1,0)
def xP (w:D.World)(d j:Int)(o:D.aAK):D.World×Int:=((uC w d j o).1,(uC w d j o).2.2)
def gT (w:D.World)(d j:Int):D.World×Int:=bif dB w d j&& !jM w d then xP w d j (bM j) else(w,1)
def sP (w:D.World)(d:Int):Int:=IntKind.i64.wrap ((bif (gT w d 0).2==0 then 1 else 0)+(bif (gT w d 1).2==0 then 1 else 0))
def qE (o:D.aAK)(j:Int):Prop:=o=bM j
noncomputable instance (o:D.aAK) (j:Int):Decidable (qE o j):=Classical.propDecidable _
def dA (o:D.aAK):Bool:=bS o.Host&&bI o.Port 1 65535
end Go.VK
