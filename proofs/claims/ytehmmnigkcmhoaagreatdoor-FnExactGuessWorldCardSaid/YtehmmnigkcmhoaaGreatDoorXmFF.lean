import Derived.Test.YtehmmnigkcmhoaaGreatDoorEVzbtor
import Derived.Test.YtehmmnigkcmhoaaGreatDoorXmS
/- Printed by wip/tools: models, walks, proofs. -/
set_option linter.unusedVariables false
set_option linter.unusedSimpArgs false
set_option maxRecDepth 100000
set_option maxHeartbeats 4000000
namespace Go.VK
open Go.RowKit Go.Proofs
def uY (k:D.aAL):Int:=IntKind.i64.wrap (IntKind.i64.wrap (k.Epoch*1000)+k.Guesses)
theorem aBz {h v:Int}(h0:0≤h)(h1:h<2147483647):0≤hstep h v∧hstep h v<2147483647:=by
 have hm:=rM (p:=v) (q:=2147483647) (by omega)
 unfold hstep
 generalize bU v 2147483647=z at*
 have e1:IntKind.i64.wrap (h*1000003)=h*1000003:=bN (by omega) (by omega)
 have e2:IntKind.i64.wrap (h*1000003+z)=h*1000003+z:=bN (by omega) (by omega)
 have e3:IntKind.i64.wrap (h*1000003+z+13)=h*1000003+z+13:=bN (by omega) (by omega)
 rw[e1,e2,e3]
 exact⟨Int.tmod_nonneg _ (by omega),Int.tmod_lt_of_pos _ (by decide)⟩
theorem aRd (l:List Int):0≤wT l∧wT l<2147483647:=by
 unfold wT
 suffices ∀(l:List Int) (h:Int),0≤h→h<2147483647→0≤l.foldl hstep h∧l.foldl hstep h<2147483647 from this l 11 (by omega) (by omega)
 intro l
 induction l with
 |nil=>intro h h0 h1;exact⟨h0,h1⟩
 |cons x xs ih=>intro h h0 h1;exact ih _ (aBz h0 h1).1 (aBz h0 h1).2
theorem Xb (k:Int)(l:List Int):0≤fI k l∧fI k l<2147483647:=aRd _
def aRe (a b:Int):Int:=bif decide (b>a) then b else a
def xC (a:List Int)(r:List (List Int)):List Int:=a++r.flatten
def wG (n:Int):Int:=bif n==0 then 1 else n
def mK (n:Int):Bool:=cZ n 1 2147483646
def lF (seed:Int)(l:List Int):Int:=wG (fI seed ([151]++l))
def Na (p:Int):Int:=bif !(mK p) then 0 else(IntKind.i64.wrap (p*48271)).tmod 2147483647
def jD (l:List Int)(x:Int):Bool:=l.any fun e=>e==x
def lG (log:List D.aAD)(p:Int):Bool:=log.any fun e=>e.Kind==2&&e.Device==p
def jQ (s:List Int)(e:D.aAD):List Int:=
 bif e.Kind==1 then(bif s.contains e.Device then s else s++[e.Device]) else bif e.Kind==2 then s.filter (fun d=>d !=e.Device) else s
def bF (log:List D.aAD):List Int:=log.foldl jQ []
theorem aB0 (s:List Int)(x:D.aAD):(jQ s x).length≤s.length+1:=by
 unfold jQ
 cases x.Kind==1 with
 |true=>cases s.contains x.Device<;>simp
 |false=>
  cases x.Kind==2 with
  |true=>have:=List.length_filter_le (fun d=>d !=x.Device) s;simp;omega
  |false=>simp
theorem Qi (log:List D.aAD):(bF log).length≤log.length:=by
 suffices ∀(l:List D.aAD) (s:List Int),(l.foldl jQ s).length≤s.length+l.length from by simpa[bF] using this log []
 intro l
 induction l with
 |nil=>intro s;simp
 |cons x xs ih=>
  intro s
  simp only[List.foldl_cons,List.length_cons]
  have h1:=ih (jQ s x)
  have h2:(jQ s x).length≤s.length+1:=by
   unfold jQ
   cases x.Kind==1 with
   |true=>cases s.contains x.Device<;>simp
   |false=>
    cases x.Kind==2 with
    |true=>have:=List.length_filter_le (fun d=>d !=x.Device) s;simp;omega
    |false=>simp
  omega
theorem aXx {n:Int}(h:0≤n):aRe 1 n=wG n:=by
 unfold aRe wG
 rcases(show n=0∨n=1∨n>1 by omega) with rfl|rfl|h1
 ·rfl
 ·rfl
 ·have:(n==0)=false:=by simp;omega
  simp[h1,this]
def WOk (w:D.World):Prop:=w.Devices.length≤34359738368∧w.Stolen.length≤34359738368∧w.aAJ.Log.length≤34359738368∧w.Sites.length≤34359738368
instance (w:D.World):Decidable (WOk w):=inferInstanceAs (Decidable (_∧_))
theorem WOk.of {w:D.World}(h:w.sz≤1048576):WOk w:=by
 simp only[D.World.sz,D.aAJ.sz] at h
 unfold WOk
 omega
def aZl (b:List Int):Prop:=b.length≤34359738368∧b.all (fun z=>decide (0≤z)&&decide (z≤255))=true
instance (b:List Int):Decidable (aZl b):=inferInstanceAs (Decidable (_∧_))
theorem and_one {n:Int}(h0:0≤n)(h1:n<9223372036854775808):aP3 .i64 n 1=n%2:=by
 obtain⟨m,rfl⟩:=Int.eq_ofNat_of_zero_le h0
 have e:((BitVec.ofInt 64 (m:Int))&&&(BitVec.ofInt 64 1)).toNat=m%2:=by
  rw[BitVec.toNat_and]
  have e1:(BitVec.ofInt 64 (m:Int)).toNat=m:=by rw[BitVec.toNat_ofInt];omega
  have e2:(BitVec.ofInt 64 1).toNat=2^1-1:=by decide
  rw[e1,e2,Nat.and_two_pow_sub_one_eq_mod]
 show IntKind.i64.wrap (((BitVec.ofInt 64 (m:Int))&&&(BitVec.ofInt 64 1)).toNat:Int)=_
 rw[e,bN (by omega) (by omega)];omega
theorem aT4 {n:Int}(h0:0≤n):aFk .i64 n 1=n/2:=by
 unfold aFk
 rw[show min (Int.toNat 1) IntKind.i64.bits=1 from by decide,Int.fdiv_eq_ediv_of_nonneg _ (by decide)];rfl
def aVu:Nat→Int→Int→Int→Int
 |0,_,_,s=>s
 |k+1,b,n,s=>if n>0 then aVu k ((IntKind.i64.wrap (b*b)).tmod 2147483647) (n/2) (bif n%2==1 then(IntKind.i64.wrap (s*b)).tmod 2147483647 else s) else s
theorem aT5:aVu 31 48271 2147483645 1=1899818559:=by decide+kernel
def jM (q:Int):Int:=bif !mK q then 0 else q*1899818559%2147483647
def Xc (p:Int)(l:List Int):Int:=bif !mK p then 0 else fI p ([139,(l.length:Int)]++l)
def iZ (q:Int)(l:List Int)(g:Int):Bool:=jM q !=0&&Xc (jM q) l==g
theorem Hu {α:Type}[Inhabited α]{l:List α}{i:Nat}(h0:0<i)(hi:i<l.length)(hl:l.length≤34359738368):aV l (IntKind.i64.wrap ((i:Int)-1))=some (l.getD (i-1) default):=by
 rw[bN (by omega) (by omega),show(i:Int)-1=((i-1:Nat):Int) by omega,aD (by omega)]
 simp[List.getD,List.getElem?_eq_getElem (show i-1<l.length by omega)]
def nO (l:List D.aAM)(i:Nat)(n:D.aAM):Bool:= !cZ n.Kind 1 5||(!cZ n.aAE 0 1000000||(!cZ n.Time 0 1000000||(decide (0<i)&&decide ((l.getD (i-1) default).Time>n.Time))))
def dU (m:D.aAI):Bool:=decide (m.Notices.length≤30)&& !eU (nO m.Notices) 0 m.Notices
def iL (b:D.aAC)(i:Nat)(n:D.aAK):Bool:= !cZ n.Id 0 (IntKind.i64.wrap (b.Next-1))||((decide (0<i)&&decide ((b.Open.getD (i-1) default).Id≥n.Id))||(!cZ n.aAE 0 1000005|| !cZ n.Until 0 1000005))
def lH (b:D.aAC):Bool:=cZ b.Next 0 1000000&&decide (b.Open.length≤16)&& !eU (iL b) 0 b.Open
def Aj (a:D.aAE)(i:Nat)(n:D.aAG):Bool:=(!cZ n.Handle 0 1000000||((decide (0<i)&&decide ((a.Credentials.getD (i-1) default).Handle≥n.Handle))||(jM n.Public==0|| !cZ n.Counter 0 1000000)))||(a.Credentials.take i).any fun q=>q.Public==n.Public
def fB (a:D.aAE):Bool:=cZ a.Id 0 1000000&&cZ a.Minimum 1 3&&decide (a.Credentials.length≤8)&& !eU (Aj a) 0 a.Credentials
def dH (e:D.aAD):Int:=wT [229,e.Index,e.Kind,e.Device,e.By,e.Previous]
def gL (l:List D.aAD):Int:=bif (l.length:Int)==0 then 0 else dH (l.getD (l.length-1) default)
def nU (l:List D.aAD)(e:D.aAD):Bool:=
 e.Index==(l.length:Int)&&(e.Previous==gL l&&((jD (bF l) e.By||((l.length:Int)==0&&e.By==e.Device))&&(iZ e.By [dH e] e.Signature&&
  (bif e.Kind==2 then jD (bF l) e.Device&&decide (((bF l).length:Int)>1) else !lG l e.Device&&(e.Kind==1&&(!jD (bF l) e.Device&&decide (((bF l).length:Int)<6)))))))
def sG (l:List D.aAD):Bool:=cZ (l.length:Int) 1 40&& !eU (fun i e=> !nU (l.take i) e) 0 l
theorem aXy {l:List Int}{x:Int}(h:jD l x=true):0<l.length:=by
 cases l with
 |nil=>simp[jD] at h
 |cons a r=>simp
def fZ:List UInt8→List UInt8→List (List UInt8)
 |cur,[]=>[cur]
 |cur,b::r=>bif b==46 then cur::fZ [] r else fZ (cur++[b]) r
theorem aXz (s:List UInt8)(i:Nat):Lib.occAt s [46] i=decide (s[i]? =some 46):=by
 unfold Lib.occAt
 cases h:s.drop i with
 |nil=>
  have:s.length≤i:=List.drop_eq_nil_iff.1 h
  simp[List.getElem?_eq_none this,List.isPrefixOf]
 |cons b r=>
  have e:s[i]? =some b:=by
   have:=List.getElem?_drop (xs:=s) (i:=i) (j:=0)
   rw[h] at this;simpa using this.symm
  rw[e];simp only[List.isPrefixOf,Bool.and_true,Option.some.injEq]
  rw[Bool.eq_iff_iff];simp only[beq_iff_eq,decide_eq_true_eq];exact eq_comm
theorem aGn:∀(a cur r:List UInt8),(∀b∈a,b≠46)→fZ cur (a++46::r)=(cur++a)::fZ [] r
 |[],cur,r,_=>by simp[fZ]
 |b::a,cur,r,h=>by
  have hb:(b==46)=false:=by simpa using h b (by simp)
  rw[List.cons_append,fZ,hb,cond_false,aGn a _ r (fun x hx=>h x (List.mem_cons_of_mem _ hx))];simp
theorem aB1:∀(a cur:List UInt8),(∀b∈a,b≠46)→fZ cur a=[cur++a]
 |[],cur,_=>by simp[fZ]
 |b::a,cur,h=>by
  have hb:(b==46)=false:=by simpa using h b (by simp)
  rw[fZ,hb,cond_false,aB1 a _ (fun x hx=>h x (List.mem_cons_of_mem _ hx))];simp
theorem aRf:∀(n:Nat) (s:List UInt8),s.length<n→Lib.splitK [46] 0 (Lib.count s [46]) s=fZ [] s
 |0,s,h=>absurd h (Nat.not_lt_zero _)
 |n+1,s,h=>by
  rcases Lib.index_spec s [46] with⟨h1,h2⟩|⟨i,h1,h2,h3,h4⟩
  ·rw[Lib.count_miss h1,aB1 s [] (fun b hb e=>by
    obtain⟨j,hj,ej⟩:=List.getElem_of_mem hb
    have:=h2 j (by omega)
    rw[aXz,List.getElem?_eq_getElem hj,ej,e] at this;simp at this)];rfl
  ·rw[aXz] at h3
   have h3:s[i]? =some 46:=by simpa using h3
   have hi:i<s.length:=by
    rcases Nat.lt_or_ge i s.length with hlt|hge
    ·exact hlt
    ·rw[List.getElem?_eq_none hge] at h3;cases h3
   rw[Lib.count_hit (by simp) h1,Nat.add_comm,Lib.splitK,h1]
   have hne:((i:Int)== -1)=false:=by simp
   rw[hne]
   simp only[Int.toNat_natCast,Nat.add_zero,List.length_cons,List.length_nil,Nat.zero_add]
   rw[if_neg (by simp),aRf n (s.drop (i+1)) (by rw[List.length_drop];omega)]
   have es:s=s.take i++46::s.drop (i+1):=by
    have e2:s[i]=46:=by rw[List.getElem?_eq_getElem hi] at h3;exact Option.some.inj h3
    rw[←e2,List.getElem_cons_drop hi,List.take_append_drop]
   conv=>rhs;rw[es]
   rw[aGn (s.take i) [] _ (fun b hb e=>by
    obtain⟨j,hj,ej⟩:=List.getElem_of_mem hb
    rw[List.length_take] at hj
    have:=h4 j (by omega)
    rw[aXz,List.getElem?_eq_getElem (by omega)] at this
    rw[List.getElem_take] at ej
    rw[ej,e] at this;simp at this)];simp
def bA (s:ByteArray):List ByteArray:=(fZ [] s.data.toList).map fun l=>⟨l.toArray⟩
theorem aGo (s:ByteArray):gV s ⟨#[46]⟩=bA s:=by
 have h1:(gV s ⟨#[46]⟩).map (·.data.toList)=fZ [] s.data.toList:=by
  rw[gV,Lib.splitB_data];exact aRf _ _ (Nat.lt_succ_self _)
 unfold bA
 rw[←h1,List.map_map]
 conv=>lhs;rw[←List.map_id (gV s ⟨#[46]⟩)]
 congr 1
def Xd (b:Int):Bool:=cZ b 97 122||cZ b 48 57||b==45
def oF (s:ByteArray):Bool:=decide (1≤s.size)&&decide (s.size≤20)&& !((bO s).getD 0 0==45)&& !((bO s).getD (s.size-1) 0==45)&& !((bO s).any fun b=> !Xd b)
def gD (s:ByteArray):Bool:=decide (s.size≤60)&& !((bA s).any fun l=> !oF l)
theorem iM (s:ByteArray):(bO s).length=s.size:=by simp only[bO,List.length_map];rfl
theorem aRg {s:ByteArray}{i:Nat}(h:i<s.size):aV (bO s) (i:Int)=some ((bO s)[i]'(by rw[iM];exact h)):=aD _
theorem ext_list (s:ByteArray)(a b:Nat):s.extract a b=⟨((s.data.toList.drop a).take (b-a)).toArray⟩:=by
 apply ByteArray.ext
 apply Array.toList_inj.1
 rw[Lib.extract_data]
theorem Ru:∀(s cur:List UInt8),(fZ cur s).length≤s.length+1
 |[],_=>by simp[fZ]
 |b::r,cur=>by
  rw[fZ]
  cases b==46 with
  |true=>have:=Ru r [];simp;omega
  |false=>have:=Ru r (cur++[b]);simp at this ⊢;omega
theorem Hw:∀(s cur:List UInt8) (l:List UInt8),l∈fZ cur s→l.length≤cur.length+s.length
 |[],cur,l,h=>by simp[fZ] at h;subst h;simp
 |b::r,cur,l,h=>by
  rw[fZ] at h
  cases hb:b==46 with
  |true=>
   rw[hb,cond_true] at h
   rcases List.mem_cons.1 h with rfl|h
   ·omega
   ·have:=Hw r [] l h;simp at this ⊢;omega
  |false=>rw[hb,cond_false] at h;have:=Hw r _ l h;simp at this ⊢;omega
theorem Hy (s:ByteArray):(bA s).length≤s.size+1:=by
 unfold bA;rw[List.length_map];exact Ru _ _
theorem qU (s l:ByteArray)(h:l∈bA s):l.size≤s.size:=by
 unfold bA at h
 obtain⟨q,hq,rfl⟩:=List.mem_map.1 h
 have:=Hw _ _ q hq
 have h2:(⟨q.toArray⟩:ByteArray).size=q.length:=rfl
 have h3:s.data.toList.length=s.size:=rfl
 have h4:([]:List UInt8).length=0:=rfl
 omega
theorem bC2 (z:ByteArray):(z.toList==(⟨#[]⟩:ByteArray).toList)=decide (z.size=0):=by
 rw[ByteArray.toList_eq,ByteArray.toList_eq,Bool.eq_iff_iff]
 simp only[beq_iff_eq,decide_eq_true_eq]
 constructor
 ·intro h
  show z.data.size=0
  rw[←Array.length_toList,h];rfl
 ·intro h
  exact List.eq_nil_of_length_eq_zero h
theorem qV:∀(s cur:List UInt8),(fZ cur s).length=s.countP (·==46)+1
 |[],_=>rfl
 |b::r,cur=>by
  rw[fZ,List.countP_cons]
  cases b==46 with
  |true=>rw[cond_true,List.length_cons,qV r []];simp
  |false=>rw[cond_false,qV r _];simp
theorem aB2 (s:ByteArray):0<(bA s).length:=by
 unfold bA;rw[List.length_map,qV];omega
def Nb (s:ByteArray):Bool:=(bO s).any fun b=>b==46
theorem aK5 (s:ByteArray):Nb s=decide (2≤(bA s).length):=by
 unfold Nb bA bO
 rw[List.length_map,qV,List.any_map]
 have e:(fun b:Int=>b==46)∘(fun b:UInt8=>(b.toNat:Int))=fun b:UInt8=>b==46:=by
  funext b
  rw[Bool.eq_iff_iff]
  simp only[Function.comp,beq_iff_eq]
  constructor
  ·intro q;apply UInt8.toNat_inj.1;show _=46;omega
  ·intro q;rw[q];rfl
 rw[e,Bool.eq_iff_iff,List.any_eq_true,decide_eq_true_eq]
 have:=List.countP_pos_iff (p:=fun b:UInt8=>b==46) (l:=s.data.toList)
 constructor
 ·intro h;have:=this.2 h;omega
 ·intro h;exact this.1 (by omega)
def aVv (s:ByteArray):ByteArray:=bif gD s then(bif (bA s).length==1 then s else kU ⟨#[46]⟩ ((bA s).drop ((bA s).length-2))) else⟨#[]⟩
theorem bAf {l:List ByteArray}(h:2≤l.length):∃a∈l,∃b∈l,kU ⟨#[46]⟩ (l.drop (l.length-2))=a++⟨#[46]⟩++b:=by
 have hl:(l.drop (l.length-2)).length=2:=by rw[List.length_drop];omega
 match hm:l.drop (l.length-2),hl with
 |[a,b],_=>
  refine⟨a,List.mem_of_mem_drop (i:=l.length-2) (by rw[hm];simp),b,List.mem_of_mem_drop (i:=l.length-2) (by rw[hm];simp),?_⟩
  rw[show[a,b]=[a]++[b] from rfl,aYn _ _ _ (by simp),aYm]
theorem Hz {s:ByteArray}(h:gD s=true):s.size≤60∧0<s.size:=by
 unfold gD at h
 rw[Bool.and_eq_true,decide_eq_true_eq] at h
 refine⟨h.1,Nat.pos_of_ne_zero fun e=> ?_⟩
 have e2:s.data.toList=[]:=List.eq_nil_of_length_eq_zero e
 have e3:bA s=[⟨#[]⟩]:=by unfold bA;rw[e2];rfl
 rw[e3] at h
 exact absurd h.2 (by decide)
theorem aZm {s:ByteArray}(h:gD s=true):decide ((aVv s).size=0)=false:=by
 have hs:=Hz h
 have hp:=aB2 s
 unfold aVv
 rw[h,cond_true]
 refine decide_eq_false ?_
 cases h1:(bA s).length==1 with
 |true=>rw[cond_true];omega
 |false=>
  rw[cond_false]
  have:(bA s).length≠1:=by simpa using h1
  obtain⟨a,_,b,_,e⟩:=bAf (l:=bA s) (by omega)
  rw[e,ByteArray.size_append,ByteArray.size_append]
  have:(⟨#[46]⟩:ByteArray).size=1:=rfl
  omega
def jR (s:ByteArray)(seed:Int):Bool:=gD s&&decide (2≤(bA s).length)&&mK seed
def Rv (l:List D.aAE)(i:Nat)(n:D.aAE):Bool:= !fB n||(decide (0<i)&&decide ((l.getD (i-1) default).Id≥n.Id))
def lI (s:D.Site):Bool:=jR s.Name s.Book.Seed&&decide (s.Accounts.length≤8)&&lH s.Book&& !eU (Rv s.Accounts) 0 s.Accounts
def SOk (s:D.Site):Prop:=s.Name.size≤34359738368∧s.Accounts.length≤34359738368∧s.Book.Open.length≤34359738368∧∀a∈s.Accounts,a.Credentials.length≤34359738368
instance (s:D.Site):Decidable (SOk s):=inferInstanceAs (Decidable (_∧_))
def sH (name:ByteArray)(seed:Int):D.Site:=bif jR name seed then⟨name,[],⟨seed,0,[]⟩,[]⟩ else⟨⟨#[]⟩,[],⟨0,0,[]⟩,[]⟩
theorem aSv (name:ByteArray)(seed:Int):decide ((sH name seed).Name.size=0)= !jR name seed:=by
 unfold sH
 cases h:jR name seed with
 |false=>rfl
 |true=>
  have:gD name=true:=by unfold jR at h;rw[Bool.and_eq_true,Bool.and_eq_true] at h;exact h.1.1
  have:=Hz this
  exact decide_eq_false (by show ¬name.size=0;omega)
def gX (i:Int):ByteArray:=bif i==0 then⟨#[98,97,110,107,46,99,111,109]⟩ else bif i==1 then⟨#[115,104,111,112,46,111,114,103]⟩ else⟨#[]⟩
def sI (i:Nat)(s:D.Site):Bool:= !lI s|| !(s.Name.toList==(gX (i:Int)).toList)
def iO (w:D.World):Bool:=cZ w.Now 0 999900&&cZ (w.Devices.length:Int) 1 6&&(w.Stolen.length:Int)==(w.Devices.length:Int)&&(w.Sites.length:Int)==2&&dU w.Mail&&sG w.aAJ.Log&&mK w.Seed&& !eU sI 0 w.Sites
def bB3 (w:D.World):Prop:=WOk w∧w.Mail.Notices.length≤34359738368∧w.Hosts.length≤34359738368∧∀s∈w.Sites,SOk s
instance (w:D.World):Decidable (bB3 w):=inferInstanceAs (Decidable (_∧_))
theorem aO3 {α:Type}{g:α→Nat}{x:α}:∀{l:List α},x∈l→g x≤(l.map g).sum
 |y::r,h=>by
  rw[List.map_cons,List.sum_cons]
  rcases List.mem_cons.1 h with rfl|h
  ·omega
  ·have:=aO3 (g:=g) h;omega
theorem SOk.of {s:D.Site}(h:s.sz≤1048576):SOk s:=by
 simp only[D.Site.sz] at h
 refine⟨by omega,by omega,by omega,fun a ha=> ?_⟩
 have:=aO3 (g:=D.aAE.sz) ha
 simp only[D.aAE.sz] at this h
 omega
theorem bB3.of {w:D.World}(h:w.sz≤1048576):bB3 w:=by
 refine⟨WOk.of h,?_,?_,fun s hs=>SOk.of ?_⟩
 ·simp only[D.World.sz] at h;omega
 ·simp only[D.World.sz] at h;omega
 ·have:=aO3 (g:=D.Site.sz) hs
  simp only[D.World.sz] at h;omega
abbrev Ia (a:List Int)(r:List (List Int)):Prop:=a.length+r.flatten.length≤68719476736∧r.length≤1099511627776
theorem lJ {α β:Type}{s:List α}(hs:s.length≤34359738368)(x:α)(k:Option β):gd (bL s [x]) k=k:=aG (by unfold bL;simp only[List.length_singleton];omega)
theorem jY {α β:Type}{s:List α}(hs:s.length≤34359738368)(k:Option β):gd (bL [] s) k=k:=aG (by unfold bL;simp only[List.length_nil];omega)
theorem aRh {α:Type}{l s:List α}:l.foldl (fun s x=>s++[x]) s=s++l:=by
 have:=J3 (f:=fun x:α=>[x]) (l:=l) (s:=s)
 rw[this];congr 1
 induction l with
 |nil=>rfl
 |cons x l ih=>simp[ih]
theorem Xe {α:Type}{l:List α}{F:(Nat×List α→Option (List α))→Nat×List α→Option (List α)}(hl:l.length≤34359738368)
  (hF:∀rec i s (hi:i<l.length),s.length≤34359738368→F rec (i,s)=rec (i+1,s++[l[i]])) (hE:∀rec s,F rec (l.length,s)=some s):EV.cB FUEL F (0,[])=some l:=by
 rw[aVt (l:=l) (fun s x=>s++[x]) (fun i s=>s.length=i) (fun s=>some s) (by omega) rfl (fun i s hi hv=>by simp;omega) (fun rec i s hi hv=>hF rec i s hi (by omega)) (fun rec s _=>hE rec s),aRh,List.nil_append]
theorem aX0 {α:Type}{l:List α}{F:(List α×Nat→Option (List α))→List α×Nat→Option (List α)}(hl:l.length≤34359738368)
  (hF:∀rec i s (hi:i<l.length),s.length≤34359738368→F rec (s,i)=rec (s++[l[i]],i+1)) (hE:∀rec s,F rec (s,l.length)=some s):EV.cB FUEL F ([],0)=some l:=by
 rw[kX (l:=l) (fun s x=>s++[x]) (fun i s=>s.length=i) (fun s=>some s) (by omega) rfl (fun i s hi hv=>by simp;omega) (fun rec i s hi hv=>hF rec i s hi (by omega)) (fun rec s _=>hE rec s),aRh,List.nil_append]
abbrev uH {α:Type}(f:α→Nat)(l:List α):Nat:=l.length+(l.map f).sum
theorem Qj {S τ:Type}{F:(S→Option τ)→S→Option τ}{n:Nat}{s:S}:EV.cB (n+1) F s=F (EV.cB n F) s:=rfl
theorem kL {α:Type}{c:Bool}{x y:α}:(bif c then some x else some y)=some (bif c then x else y):=by cases c<;>rfl
theorem aNr {c d:Bool}:(bif c then some true else some d)=some (c||d):=by cases c<;>rfl
theorem sJ {α:Type}{p:Nat→α→Bool}:∀(l:List α) (j:Nat),eU p j l=true↔∃(i:Nat) (hi:i<l.length),p (j+i) l[i]=true
 |[],j=>by simp[eU]
 |x::xs,j=>by
  simp only[eU,Bool.or_eq_true,sJ xs]
  constructor
  ·rintro(h|⟨i,hi,h⟩)
   ·exact⟨0,by simp,h⟩
   ·exact⟨i+1,by simpa using hi,by rw[show j+(i+1)=j+1+i by omega];exact h⟩
  ·rintro⟨i,hi,h⟩
   cases i with
   |zero=>exact .inl h
   |succ i=>exact .inr ⟨i,by simpa using hi,by rw[show j+1+i=j+(i+1) by omega];exact h⟩
theorem aZn {α:Type}{τ:Type}{l:List α}(p:α→Bool)(a b:τ)(i:Nat)(hi:i≤l.length)(h:l.length≤34359738368){F:(Nat→Option τ)→Nat→Option τ}(hF:∀rec j (hj:j<i),F rec j=bif p (l[j]'(by omega)) then some a else rec (j+1))(hE:∀rec,F rec i=some b):
  EV.cB FUEL F 0=some (bif (l.take i).any p then a else b):=by
 have ht:(l.take i).length=i:=by rw[List.length_take];omega
 exact kK (l:=l.take i) p _ _ (by omega) (fun rec j hj=>by rw[hF rec j (by omega),List.getElem_take]) (fun rec=>by rw[ht];exact hE rec)
theorem aT6 {i:Int}{n:Nat}(h:n≤34359738368):(!cZ i 0 (IntKind.i64.wrap ((n:Int)-1)))=(decide (i<0)||decide (i≥(n:Int))):=by
 rw[bN (by omega) (by omega)]
 unfold cZ
 by_cases h0:i<0
 ·rw[decide_eq_true h0,decide_eq_false (show ¬0≤i by omega)];rfl
 ·rw[decide_eq_false h0,decide_eq_true (show 0≤i by omega)]
  by_cases h1:i≥(n:Int)
  ·rw[decide_eq_true h1,decide_eq_false (show ¬i≤(n:Int)-1 by omega)];rfl
  ·rw[decide_eq_false h1,decide_eq_true (show i≤(n:Int)-1 by omega)];rfl
theorem aSw {i:Int}{n:Nat}(h:(decide (i<0)||decide (i≥(n:Int)))=false):0≤i∧i<(n:Int):=by
 simp only[Bool.or_eq_false_iff,decide_eq_false_iff_not] at h;omega
theorem aX1 {α:Type}{n:Nat}{x:α}{β:Type}{k:Option β}(h:n≤68719476736):gd (dK n x x) k=k:=aG ⟨rfl,by omega⟩
theorem aX2 {α:Type}[BEq α][ReflBEq α]{r:α}:(!r==r)=false:=by rw[beq_self_eq_true];rfl
def Ak (l:List D.aAN)(i:Nat)(s:D.aAN):Bool:= !cZ s.Index 1 7||(!cZ s.Value 0 1018||(l.take i).any fun q=>q.Index==s.Index)
def aGp (l:List D.aAN):Bool:=cZ (l.length:Int) 1 7&& !eU (Ak l) 0 l
def cS (l:List D.aAN)(i:Nat)(k:Int):Bool:=(l.take i).any fun q=>q.Index==k
theorem bEf {l:List D.aAN}{i:Nat}{k:Int}(hi:i<l.length):cS l (i+1) k=(cS l i k||l[i].Index==k):=by
 unfold cS;rw[List.take_add_one,List.getElem?_eq_getElem hi,List.any_append];simp
theorem aX3 {c d:Bool}:(bif c then some d else some false)=some (c&&d):=by cases c<;>rfl
def gY (k:D.aAL):Bool:=aGp [k.aAN]&&(cZ k.Epoch 0 1000000&&(cZ k.Limit 1 10&&cZ k.Guesses 0 k.Limit))
def oG (l:List D.aAM):Nat:=bif l.any (fun n=>n.Seen) then(l.takeWhile fun n=> !n.Seen).length else 0
def Cw (l:List D.aAM):List D.aAM:=bif decide ((l.length:Int)>30) then l.take (oG l)++l.drop (oG l+1) else l
def Ib (m:D.aAI)(k a t:Int):D.aAI×Bool:=bif !dU m|| !dU ⟨Cw (m.Notices++[⟨k,a,t,false⟩])⟩ then(m,false) else(⟨Cw (m.Notices++[⟨k,a,t,false⟩])⟩,true)
theorem aNs (l:List D.aAM):(Cw l).length≤l.length:=by
 unfold Cw
 cases decide ((l.length:Int)>30) with
 |false=>exact Nat.le_refl _
 |true=>simp only[cond_true,List.length_append,List.length_take,List.length_drop];omega
theorem aZo (m:D.aAI)(k a t:Int):(Ib m k a t).1.sz≤m.sz+1:=by
 unfold Ib
 have:=aNs (m.Notices++[⟨k,a,t,false⟩])
 simp only[List.length_append,List.length_singleton] at this
 cases !dU m|| !dU ⟨Cw (m.Notices++[⟨k,a,t,false⟩])⟩ with
 |true=>simp only[cond_true];omega
 |false=>simp only[cond_false,D.aAI.sz];omega
def aX4 (w:D.World)(k:Int):D.World:={w with Mail:=(Ib w.Mail k 1 w.Now).1}
theorem aZp (w:D.World)(k:Int):(aX4 w k).sz≤w.sz+1:=by
 have:=aZo w.Mail k 1 w.Now
 simp only[aX4,D.World.sz,D.aAI.sz] at*;omega
theorem aNt {α:Type}{p:α→Bool}:∀{l:List α} {i:Nat} (hi:i<l.length),i<(l.takeWhile p).length→p l[i]=true
 |x::l,0,_,h=>by
  simp only[List.takeWhile_cons] at h
  cases hp:p x with
  |true=>exact hp
  |false=>rw[hp] at h;simp at h
 |x::l,i+1,hi,h=>by
  simp only[List.takeWhile_cons] at h
  cases hp:p x with
  |true=>
   have h':i<(l.takeWhile p).length:=by simpa[hp] using h
   exact aNt (l:=l) (i:=i) (by simpa using hi) h'
  |false=>rw[hp] at h;simp at h
theorem aNu {α:Type}{p:α→Bool}:∀{l:List α} (h:(l.takeWhile p).length<l.length),p (l[(l.takeWhile p).length]'h)=false
 |x::l,h=>by
  cases hp:p x with
  |true=>
   have h':(l.takeWhile p).length<l.length:=by simpa[List.takeWhile_cons,hp] using h
   simpa[List.takeWhile_cons,hp] using aNu h'
  |false=>simp[List.takeWhile_cons,hp]
theorem aGq {α:Type}{p:α→Bool}{l:List α}:(l.takeWhile p).length≤l.length:=(List.takeWhile_prefix p).length_le
theorem aVw {α τ S:Type}{l:List α}(p:α→Bool)(fin:Nat→Option τ)(e:Nat→S){F:(S→Option τ)→S→Option τ}(hl:l.length≤34359738368)
  (hF:∀rec i (hi:i<l.length),F rec (e i)=bif p l[i] then rec (e (i+1)) else fin i) (hE:∀rec,F rec (e l.length)=fin l.length):EV.cB FUEL F (e 0)=fin (l.takeWhile p).length:=by
 have go:∀(k i n:Nat),i+k=(l.takeWhile p).length→k<n→EV.cB n F (e i)=fin (l.takeWhile p).length:=by
  intro k
  induction k with
  |zero=>
   intro i n hi hn
   obtain⟨n,rfl⟩:∃m,n=m+1:=⟨n-1,by omega⟩
   have:i=(l.takeWhile p).length:=by omega
   subst this
   rw[Qj]
   by_cases h:(l.takeWhile p).length<l.length
   ·rw[hF _ _ h,aNu h,cond_false]
   ·have h2:(l.takeWhile p).length=l.length:=by have:=aGq (p:=p) (l:=l);omega
    rw[h2,hE]
  |succ k ih=>
   intro i n hi hn
   obtain⟨n,rfl⟩:∃m,n=m+1:=⟨n-1,by omega⟩
   have h1:i<l.length:=by have:=aGq (p:=p) (l:=l);omega
   rw[Qj,hF _ _ h1,aNt (p:=p) h1 (by omega),cond_true]
   exact ih (i+1) n (by omega) (by omega)
 have:=aGq (p:=p) (l:=l)
 exact go (l.takeWhile p).length 0 FUEL (by omega) (by have:=nQ;omega)
def aSx (l:List D.aAM):Nat:=(l.takeWhile fun n=> !n.Seen).length
theorem aVx {l:List D.aAM}{x:D.aAM}:aSx (l++[x])=bif l.any (fun n=>n.Seen) then aSx l else bif x.Seen then l.length else l.length+1:=by
 induction l with
 |nil=>cases hx:x.Seen<;>simp[aSx,hx]
 |cons y l ih=>
  unfold aSx at*
  cases hy:y.Seen with
  |true=>simp[hy]
  |false=>
   simp only[List.cons_append,List.takeWhile_cons,hy,Bool.not_false,if_true,List.length_cons,List.any_cons,Bool.false_or,ih]
   cases l.any (fun n=>n.Seen)<;>cases x.Seen<;>simp
theorem aNv {l:List D.aAM}{F:(Int×Int→Option Int)→Int×Int→Option Int}(hF:∀rec (k:Int) (i:Nat) (hi:i<l.length),F rec (k,(i:Int))=rec (bif l[i].Seen then(i:Int) else k,(i:Int)-1))(hE:∀rec k,F rec (k,-1)=some k):
  ∀(n m:Nat) (k:Int),n≤l.length→n<m→EV.cB m F (k,(n:Int)-1)=some (bif (l.take n).any (fun x=>x.Seen) then(aSx (l.take n):Int) else k)
 |0,m+1,k,_,_=>by rw[Qj,show((0:Nat):Int)-1= -1 from rfl,hE];simp
 |n+1,m+1,k,h,hm=>by
  have hn:n<l.length:=by omega
  rw[Qj,show((n+1:Nat):Int)-1=(n:Int) by omega,hF _ _ n hn,aNv hF hE n m _ (by omega) (by omega),List.take_add_one,List.getElem?_eq_getElem hn]
  simp only[Option.toList_some,List.any_append,aVx,List.any_cons,List.any_nil,Bool.or_false,List.length_take,Nat.min_eq_left (Nat.le_of_lt hn)]
  cases(l.take n).any (fun x=>x.Seen)<;>cases l[n].Seen<;>rfl
theorem aRi (l:List D.aAM):(oG l:Int)=bif l.any (fun x=>x.Seen) then(aSx l:Int) else 0:=by
 unfold oG aSx;cases l.any (fun n=>n.Seen)<;>rfl
theorem aRj {l:List D.aAM}(h:0<l.length):oG l<l.length:=by
 unfold oG
 cases hs:l.any (fun n=>n.Seen) with
 |false=>exact h
 |true=>
  obtain⟨x,hx,hp⟩:=List.any_eq_true.1 hs
  have:∀l:List D.aAM,x∈l→(l.takeWhile fun n=> !n.Seen).length<l.length:=by
   intro l
   induction l with
   |nil=>intro h;cases h
   |cons y l ih=>
    intro h
    cases hy:y.Seen with
    |true=>simp[hy]
    |false=>
     rcases List.mem_cons.1 h with rfl|h
     ·rw[hp] at hy;cases hy
     ·simpa[hy] using ih h
  exact this l hx
theorem aZq {τ S:Type}{l:List D.aAM}(fin:Int→Option τ)(st:Nat→S){F:(S→Option τ)→S→Option τ}(hl:l.length≤34359738368)(hF:∀rec i (hi:i<l.length),F rec (st i)=bif l[i].Seen then fin (i:Int) else rec (st (i+1)))(hE:∀rec,F rec (st l.length)=fin 0):EV.cB FUEL F (st 0)=fin (oG l:Int):=by
 have e:=aVw (l:=l) (fun n=> !n.Seen) (fun i=>bif decide (i<l.length) then fin (i:Int) else fin 0) st (F:=F) hl (fun rec i hi=>by
  rw[hF rec i hi,decide_eq_true hi];cases l[i].Seen<;>rfl) (fun rec=>by rw[hE,decide_eq_false (by omega)];rfl)
 rw[e,aRi]
 cases hs:l.any (fun n=>n.Seen) with
 |true=>
  have h0:0<l.length:=by cases l with|nil=>simp at hs|cons=>simp
  have:=aRj h0
  unfold oG at this
  rw[hs,cond_true] at this
  rw[decide_eq_true this];rfl
 |false=>
  have hh:∀l:List D.aAM,l.any (fun n=>n.Seen)=false→(l.takeWhile fun n=> !n.Seen).length=l.length:=by
   intro l
   induction l with
   |nil=>intro _;rfl
   |cons x l ih=>
    intro h
    simp only[List.any_cons,Bool.or_eq_false_iff] at h
    simp[h.1,ih h.2]
  have this:=hh l hs
  rw[this,decide_eq_false (by omega)];rfl
def Er (m:Int):Nat→Int→Int→Int→Int
 |0,_,_,s=>s
 |k+1,b,n,s=>if n>0 then Er m k ((IntKind.i64.wrap (b*b)).tmod m) (n/2) (bif n%2==1 then(IntKind.i64.wrap (s*b)).tmod m else s) else s
def gB (x:Int):Bool:=cZ x 1 2038&&Er 2039 11 x 1019 1==1
def dO (g n:Int):Int:=bif gB g then Er 2039 11 g (bU n 1019) 1 else 0
def Al (l v:Int):Int:=dO 4 (IntKind.i64.wrap (1+((IntKind.i64.wrap (fI l [89,v]*fI l [89,v])).tmod 2147483647).tmod 1018))
def qW (e l:Int):Int:=wG (fI e [157,l])
def Xf (k m:Int):Int:=bif cZ k 0 2147483647 then aUr .i64 k (lF m [251]) else 0
def qX (o s:Int):Int:=fI o [257,s]
def xD (f:Int→Int)(l:List Int)(j:Nat)(x:Int):Bool:=(l.take j).any fun q=>f q==f x
def qY (s:D.aAN)(e:Int):Int:=bif gB e&&(!(e==1)&&cZ s.Value 0 1018) then dO e s.Value else 0
def gH (k:D.aAL)(e:Int):D.aAL×Int×Bool:=bif gY k&&(!(k.Guesses==k.Limit)&&(gB e&& !(e==1))) then({k with Guesses:=IntKind.i64.wrap (k.Guesses+1)},qY k.aAN e,true) else(k,0,false)
def aZr (l:List D.aAL):List D.aAL:=bif decide ((l.length:Int)>30) then l.drop 1 else l
def jN (h:D.aAA)(e:Int):D.aAA×Int×Bool:=bif decide (uY h.State<h.Monotonic)|| !(gH h.State e).2.2 then(h,0,false) else(⟨(gH h.State e).1,aZr (h.Saved++[h.State]),uY (gH h.State e).1⟩,(gH h.State e).2.1,true)
def dI (l i b:Int):Int:=bif bU b 1019==0 then 0 else dO (Al l i) b
def Ao (hs:List D.aAA)(ch:List Int)(i:Nat)(c:Int):Bool:=(decide (c<0)||decide (c≥(hs.length:Int)))||xD (fun q=>q) ch i c
def gM (hs:List D.aAA)(ch:List Int):Bool:= !eU (Ao hs ch) 0 ch
def aO4 (e:Int)(s:List D.aAA×List Int×List Int)(c:Int):List D.aAA×List Int×List Int:=
 (s.1.set c.toNat (jN (s.1.getD c.toNat default) e).1,bif (jN (s.1.getD c.toNat default) e).2.2 then s.2.1++[(jN (s.1.getD c.toNat default) e).1.State.aAN.Index] else s.2.1,bif (jN (s.1.getD c.toNat default) e).2.2 then s.2.2++[(jN (s.1.getD c.toNat default) e).2.1] else s.2.2)
def jS (hs:List D.aAA)(ch:List Int)(e:Int):List D.aAA×List Int×List Int:=ch.foldl (aO4 e) (hs,[],[])
def mO (n:Int):Int:=bif bU n 1019==0 then 0 else Er 1019 11 (bU n 1019) 1017 1
def Xg (l:List Int)(k a w:Int)(j:Nat):Int:=bif (j:Int)==k then w else(IntKind.i64.wrap ((IntKind.i64.wrap (w*bU (IntKind.i64.wrap (bU a 1019-bU (l.getD j 0) 1019)) 1019)).tmod 1019*mO (IntKind.i64.wrap (bU (l.getD k.toNat 0) 1019-bU (l.getD j 0) 1019)))).tmod 1019
def pK (l:List Int)(k a:Int):Int:=bif (decide (k<0)||decide (k≥(l.length:Int)))||eU (xD (fun q=>bU q 1019) l) 0 l then 0 else(List.range l.length).foldl (Xg l k a) 1
def fM (a b:Int):Int:=bif gB a&&gB b then(IntKind.i64.wrap (a*b)).tmod 2039 else 0
def jT (ix vs:List Int)(i:Nat)(x:Int):Bool:= !cZ x 1 7||(!gB (vs.getD i 0)||xD (fun q=>q) ix i x)
def aT7 (ix vs:List Int):Int:=(List.range vs.length).foldl (fun o i=>fM o (dO (vs.getD i 0) (pK ix (i:Int) 0))) 1
def gZ (ix vs:List Int):Int×Bool:=bif (!(ix.length==vs.length)||ix.length==0)||eU (jT ix vs) 0 ix then(0,false) else(aT7 ix vs,true)
def Qk (c b:Int):Int:=bif bU b 1019==0 then 0 else dO c (mO b)
def wH (v:D.aAQ)(o:Int):Int×Bool:=bif qX o v.Salt==v.Check then(Xf v.Masked o,true) else(0,false)
def fC (v:D.aAQ)(hs:List D.aAA)(ch:List Int)(pin b:Int):List D.aAA×List Int×List Int:=jS hs ch (dI v.Salt pin b)
def aGr (hs:List D.aAA)(ch:List Int)(pin b:Int):Bool:=gM hs ch&&(!(bU b 1019==0)&&cZ pin 0 9999)
def oH (v:D.aAQ)(hs:List D.aAA)(ch:List Int)(pin b:Int):List D.aAA×Int×Bool:=
 bif !aGr hs ch pin b then(hs,0,false) else
 bif decide ((ch.length:Int)<v.Threshold)||(decide ((fC v hs ch pin b).2.2.length<ch.length)|| !(gZ (fC v hs ch pin b).2.1 (fC v hs ch pin b).2.2).2) then((fC v hs ch pin b).1,0,false) else
  ((fC v hs ch pin b).1,wH v (qW (Qk (gZ (fC v hs ch pin b).2.1 (fC v hs ch pin b).2.2).1 b) v.Salt))
def uZ (v:D.aAQ)(hs:List D.aAA)(ch:List Int)(pin b:Int)(i:Nat):D.aAA×Int×Bool:=jN (((ch.take i).foldl (aO4 (dI v.Salt pin b)) (hs,([]:List Int),([]:List Int))).1.getD (ch.getD i 0).toNat default) (dI v.Salt pin b)
def kP (v:D.aAQ)(hs:List D.aAA)(ch:List Int)(pin b:Int)(n:Nat):List Int:=(List.range n).map fun i=>(uZ v hs ch pin b i).1.State.aAN.Index
def kQ (v:D.aAQ)(hs:List D.aAA)(ch:List Int)(pin b:Int)(n:Nat):List Int:=(List.range n).map fun i=>(uZ v hs ch pin b i).2.1
def aT8 (v:D.aAQ)(hs:List D.aAA)(ch:List Int)(pin b:Int):List Int:=kP v hs ch pin b ch.length
def aT9 (v:D.aAQ)(hs:List D.aAA)(ch:List Int)(pin b:Int):List Int:=kQ v hs ch pin b ch.length
def aX5 (v:D.aAQ)(hs:List D.aAA)(ch:List Int)(pin b:Int):Bool:=aGr hs ch pin b&&(fC v hs ch pin b).2.2.length==ch.length
def aUa (v:D.aAQ)(hs:List D.aAA)(ch:List Int)(pin b:Int):List D.aAA×Int×Bool×Bool:=((oH v hs ch pin b).1,(oH v hs ch pin b).2.1,(oH v hs ch pin b).2.2,aX5 v hs ch pin b)
def aUb (w:D.World):Int:=IntKind.i64.wrap (1+(lF w.Seed [313,w.Now]).tmod 1018)
def fO (w:D.World)(ch:List Int)(pin:Int):D.World×Int×Bool:=bif !iO w then(w,0,false) else
 (aX4 {w with Hosts:=(oH w.aAQ w.Hosts ch pin (aUb w)).1} 5,(oH w.aAQ w.Hosts ch pin (aUb w)).2)
def sK (w:D.World):List Int:=(List.range (min w.aAQ.Threshold ((w.Hosts.length:Int)+1)).toNat).map fun(i:Nat)=>(i:Int)
def qZ (w:D.World)(pin:Int):D.World×Bool:=((fO w (sK w) pin).1,(fO w (sK w) pin).2.2)
theorem Xh {f:Int→Int}{l:List Int}{j:Nat}(hj:j<l.length)(hl:l.length≤1099511627776){τ:Type}(a b:τ){F:(Nat→Option τ)→Nat→Option τ}
  (hF:∀rec i (hi:i<j),F rec i=bif f (l[i]'(by omega))==f l[j] then some a else rec (i+1)) (hE:∀rec,F rec j=some b):EV.cB FUEL F 0=some (bif xD f l j l[j] then a else b):=by
 have hlen:(l.take j).length=j:=by rw[List.length_take];omega
 exact kK (l:=l.take j) (fun q=>f q==f l[j]) a b (by omega) (fun rec i hi=>by
  rw[hlen] at hi
  rw[hF rec i hi];simp) (fun rec=>by rw[hlen];exact hE rec)
theorem aX6 {p:Nat→Int→Bool}{l:List Int}{i:Nat}(hi:i<l.length)(h:eU p 0 (l.take i)=false)(h2:p i l[i]=false):eU p 0 (l.take (i+1))=false:=by
 rw[Bool.eq_false_iff,Ne,sJ] at h ⊢
 rintro⟨k,hk,e⟩
 rw[List.length_take] at hk
 rw[Nat.zero_add,List.getElem_take] at e
 by_cases hki:k<i
 ·exact h ⟨k,by rw[List.length_take];omega,by rw[Nat.zero_add,List.getElem_take];exact e⟩
 ·have:k=i:=by omega
  subst this
  rw[h2] at e;cases e
theorem bB4 {p:Nat→Int→Bool}{l:List Int}{i:Nat}(hi:i<l.length)(h:p i l[i]=true):eU p 0 l=true:=(sJ l 0).2 ⟨i,hi,by rw[Nat.zero_add];exact h⟩
theorem aZs:((List.range 1019).all fun(x:Nat)=>x==0||((x:Int)*Er 1019 11 (x:Int) 1017 1)%1019==1&&cZ (Er 1019 11 (x:Int) 1017 1) 1 1018)=true:=by kernel_rfl
theorem bB5 {x:Int}(h0:0<x)(h1:x<1019):(x*Er 1019 11 x 1017 1)%1019=1∧1≤Er 1019 11 x 1017 1∧Er 1019 11 x 1017 1≤1018:=by
 have:=List.all_eq_true.1 aZs x.toNat (List.mem_range.2 (by omega))
 rw[show((x.toNat:Nat):Int)=x by omega,beq_eq_false_iff_ne.2 (show x.toNat≠0 by omega),Bool.false_or,Bool.and_eq_true] at this
 have hr:=aFj this.2
 exact⟨eq_of_beq this.1,hr.1,by omega⟩
theorem aX7 {x m n:Int}(hm:0≤m∧m<1019)(hn:0≤n∧n<1019)(h1:(x*m)%1019=1)(h2:(x*n)%1019=1):m=n:=by
 have e:n*(x*m)=m*(x*n):=by rw[←Int.mul_assoc,←Int.mul_assoc,Int.mul_comm n x,Int.mul_comm m x,Int.mul_assoc,Int.mul_assoc,Int.mul_comm n m]
 have a1:x*m=1+1019*(x*m/1019):=by omega
 have a2:x*n=1+1019*(x*n/1019):=by omega
 rw[a1,a2,Int.mul_add,Int.mul_add,Int.mul_one,Int.mul_one] at e
 have b1:n*(1019*(x*m/1019))=1019*(n*(x*m/1019)):=by rw[←Int.mul_assoc,Int.mul_comm n 1019,Int.mul_assoc]
 have b2:m*(1019*(x*n/1019))=1019*(m*(x*n/1019)):=by rw[←Int.mul_assoc,Int.mul_comm m 1019,Int.mul_assoc]
 rw[b1,b2] at e
 generalize n*(x*m/1019)=p at e
 generalize m*(x*n/1019)=q at e
 omega
theorem aX8 {n:Int}:bU n 1019=n%1019:=if_pos (by decide)
theorem aVy {n m:Int}(h:bU n 1019=bU m 1019):mO n=mO m:=by unfold mO;rw[h]
end Go.VK
