import Derived.Test.YtehmmnigkcmhoaaGreatDoorEVzbtor
import Derived.Test.YtehmmnigkcmhoaaGreatDoorXmS
/- Printed by wip/tools: models, walks, proofs. -/
set_option linter.unusedVariables false
set_option linter.unusedSimpArgs false
set_option maxRecDepth 100000
set_option maxHeartbeats 4000000
namespace Go.VK
open Go.RowKit Go.Proofs
def vB (k:D.aAL):Int:=IntKind.i64.wrap (IntKind.i64.wrap (k.Epoch*1000)+k.Guesses)
theorem aBt {h v:Int}(h0:0≤h)(h1:h<2147483647):0≤hstep h v∧hstep h v<2147483647:=by
 have hm:=rO (p:=v) (q:=2147483647) (by omega)
 unfold hstep
 generalize bW v 2147483647=z at*
 have e1:IntKind.i64.wrap (h*1000003)=h*1000003:=bT (by omega) (by omega)
 have e2:IntKind.i64.wrap (h*1000003+z)=h*1000003+z:=bT (by omega) (by omega)
 have e3:IntKind.i64.wrap (h*1000003+z+13)=h*1000003+z+13:=bT (by omega) (by omega)
 rw[e1,e2,e3]
 exact⟨Int.tmod_nonneg _ (by omega),Int.tmod_lt_of_pos _ (by decide)⟩
theorem aQ3 (l:List Int):0≤wP l∧wP l<2147483647:=by
 unfold wP
 suffices ∀(l:List Int) (h:Int),0≤h→h<2147483647→0≤l.foldl hstep h∧l.foldl hstep h<2147483647 from this l 11 (by omega) (by omega)
 intro l
 induction l with
 |nil=>intro h h0 h1;exact⟨h0,h1⟩
 |cons x xs ih=>intro h h0 h1;exact ih _ (aBt h0 h1).1 (aBt h0 h1).2
theorem Xa (k:Int)(l:List Int):0≤fI k l∧fI k l<2147483647:=aQ3 _
def aQ4 (a b:Int):Int:=bif decide (b>a) then b else a
def wY (a:List Int)(r:List (List Int)):List Int:=a++r.flatten
def wH (n:Int):Int:=bif n==0 then 1 else n
def mK (n:Int):Bool:=cZ n 1 2147483646
def lF (seed:Int)(l:List Int):Int:=wH (fI seed ([151]++l))
def Mw (p:Int):Int:=bif !(mK p) then 0 else(IntKind.i64.wrap (p*48271)).tmod 2147483647
def jD (l:List Int)(x:Int):Bool:=l.any fun e=>e==x
def lG (log:List D.aAD)(p:Int):Bool:=log.any fun e=>e.Kind==2&&e.Device==p
def jS (s:List Int)(e:D.aAD):List Int:=
 bif e.Kind==1 then(bif s.contains e.Device then s else s++[e.Device]) else bif e.Kind==2 then s.filter (fun d=>d !=e.Device) else s
def bF (log:List D.aAD):List Int:=log.foldl jS []
theorem aBu (s:List Int)(x:D.aAD):(jS s x).length≤s.length+1:=by
 unfold jS
 cases x.Kind==1 with
 |true=>cases s.contains x.Device<;>simp
 |false=>
  cases x.Kind==2 with
  |true=>have:=List.length_filter_le (fun d=>d !=x.Device) s;simp;omega
  |false=>simp
theorem Qg (log:List D.aAD):(bF log).length≤log.length:=by
 suffices ∀(l:List D.aAD) (s:List Int),(l.foldl jS s).length≤s.length+l.length from by simpa[bF] using this log []
 intro l
 induction l with
 |nil=>intro s;simp
 |cons x xs ih=>
  intro s
  simp only[List.foldl_cons,List.length_cons]
  have h1:=ih (jS s x)
  have h2:(jS s x).length≤s.length+1:=by
   unfold jS
   cases x.Kind==1 with
   |true=>cases s.contains x.Device<;>simp
   |false=>
    cases x.Kind==2 with
    |true=>have:=List.length_filter_le (fun d=>d !=x.Device) s;simp;omega
    |false=>simp
  omega
theorem aXn {n:Int}(h:0≤n):aQ4 1 n=wH n:=by
 unfold aQ4 wH
 rcases(show n=0∨n=1∨n>1 by omega) with rfl|rfl|h1
 ·rfl
 ·rfl
 ·have:(n==0)=false:=by simp;omega
  simp[h1,this]
def WOk (w:D.World):Prop:=w.Devices.length≤34359738368∧w.Stolen.length≤34359738368∧w.aAJ.Log.length≤34359738368∧w.Sites.length≤34359738368
instance (w:D.World):Decidable (WOk w):=inferInstanceAs (Decidable (_∧_))
theorem WOk.of {w:D.World}(h:w.sz≤1048576):WOk w:=by
 simp only[D.World.sz,D.aAJ.sz] at h
 unfold WOk
 omega
def aY9 (b:List Int):Prop:=b.length≤34359738368∧b.all (fun z=>decide (0≤z)&&decide (z≤255))=true
instance (b:List Int):Decidable (aY9 b):=inferInstanceAs (Decidable (_∧_))
theorem and_one {n:Int}(h0:0≤n)(h1:n<9223372036854775808):aPt .i64 n 1=n%2:=by
 obtain⟨m,rfl⟩:=Int.eq_ofNat_of_zero_le h0
 have e:((BitVec.ofInt 64 (m:Int))&&&(BitVec.ofInt 64 1)).toNat=m%2:=by
  rw[BitVec.toNat_and]
  have e1:(BitVec.ofInt 64 (m:Int)).toNat=m:=by rw[BitVec.toNat_ofInt];omega
  have e2:(BitVec.ofInt 64 1).toNat=2^1-1:=by decide
  rw[e1,e2,Nat.and_two_pow_sub_one_eq_mod]
 show IntKind.i64.wrap (((BitVec.ofInt 64 (m:Int))&&&(BitVec.ofInt 64 1)).toNat:Int)=_
 rw[e,bT (by omega) (by omega)];omega
theorem aTv {n:Int}(h0:0≤n):aFc .i64 n 1=n/2:=by
 unfold aFc
 rw[show min (Int.toNat 1) IntKind.i64.bits=1 from by decide,Int.fdiv_eq_ediv_of_nonneg _ (by decide)];rfl
def aVl:Nat→Int→Int→Int→Int
 |0,_,_,s=>s
 |k+1,b,n,s=>if n>0 then aVl k ((IntKind.i64.wrap (b*b)).tmod 2147483647) (n/2) (bif n%2==1 then(IntKind.i64.wrap (s*b)).tmod 2147483647 else s) else s
theorem aTw:aVl 31 48271 2147483645 1=1899818559:=by decide+kernel
def jM (q:Int):Int:=bif !mK q then 0 else q*1899818559%2147483647
def Xb (p:Int)(l:List Int):Int:=bif !mK p then 0 else fI p ([139,(l.length:Int)]++l)
def iZ (q:Int)(l:List Int)(g:Int):Bool:=jM q !=0&&Xb (jM q) l==g
theorem Hr {α:Type}[Inhabited α]{l:List α}{i:Nat}(h0:0<i)(hi:i<l.length)(hl:l.length≤34359738368):aV l (IntKind.i64.wrap ((i:Int)-1))=some (l.getD (i-1) default):=by
 rw[bT (by omega) (by omega),show(i:Int)-1=((i-1:Nat):Int) by omega,aD (by omega)]
 simp[List.getD,List.getElem?_eq_getElem (show i-1<l.length by omega)]
def nO (l:List D.aAM)(i:Nat)(n:D.aAM):Bool:= !cZ n.Kind 1 5||(!cZ n.aAE 0 1000000||(!cZ n.Time 0 1000000||(decide (0<i)&&decide ((l.getD (i-1) default).Time>n.Time))))
def dU (m:D.aAI):Bool:=decide (m.Notices.length≤30)&& !eU (nO m.Notices) 0 m.Notices
def iL (b:D.aAC)(i:Nat)(n:D.aAK):Bool:= !cZ n.Id 0 (IntKind.i64.wrap (b.Next-1))||((decide (0<i)&&decide ((b.Open.getD (i-1) default).Id≥n.Id))||(!cZ n.aAE 0 1000005|| !cZ n.Until 0 1000005))
def lH (b:D.aAC):Bool:=cZ b.Next 0 1000000&&decide (b.Open.length≤16)&& !eU (iL b) 0 b.Open
def Ae (a:D.aAE)(i:Nat)(n:D.aAG):Bool:=(!cZ n.Handle 0 1000000||((decide (0<i)&&decide ((a.Credentials.getD (i-1) default).Handle≥n.Handle))||(jM n.Public==0|| !cZ n.Counter 0 1000000)))||(a.Credentials.take i).any fun q=>q.Public==n.Public
def fB (a:D.aAE):Bool:=cZ a.Id 0 1000000&&cZ a.Minimum 1 3&&decide (a.Credentials.length≤8)&& !eU (Ae a) 0 a.Credentials
def dH (e:D.aAD):Int:=wP [229,e.Index,e.Kind,e.Device,e.By,e.Previous]
def gL (l:List D.aAD):Int:=bif (l.length:Int)==0 then 0 else dH (l.getD (l.length-1) default)
def nU (l:List D.aAD)(e:D.aAD):Bool:=
 e.Index==(l.length:Int)&&(e.Previous==gL l&&((jD (bF l) e.By||((l.length:Int)==0&&e.By==e.Device))&&(iZ e.By [dH e] e.Signature&&
  (bif e.Kind==2 then jD (bF l) e.Device&&decide (((bF l).length:Int)>1) else !lG l e.Device&&(e.Kind==1&&(!jD (bF l) e.Device&&decide (((bF l).length:Int)<6)))))))
def sH (l:List D.aAD):Bool:=cZ (l.length:Int) 1 40&& !eU (fun i e=> !nU (l.take i) e) 0 l
theorem aXo {l:List Int}{x:Int}(h:jD l x=true):0<l.length:=by
 cases l with
 |nil=>simp[jD] at h
 |cons a r=>simp
def fV:List UInt8→List UInt8→List (List UInt8)
 |cur,[]=>[cur]
 |cur,b::r=>bif b==46 then cur::fV [] r else fV (cur++[b]) r
theorem aXp (s:List UInt8)(i:Nat):Lib.occAt s [46] i=decide (s[i]? =some 46):=by
 unfold Lib.occAt
 cases h:s.drop i with
 |nil=>
  have:s.length≤i:=List.drop_eq_nil_iff.1 h
  simp[List.getElem?_eq_none this,List.isPrefixOf]
 |cons b r=>
  have e:s[i]? =some b:=by
   have:=List.getElem?_drop (xs:=s) (i:=i) (j:=0)
   rw[h] at this;simpa using this.symm
  rw[e];simp only[List.isPrefixOf,Bool.and_true,Option.some.injEq]
  rw[Bool.eq_iff_iff];simp only[beq_iff_eq,decide_eq_true_eq];exact eq_comm
theorem aGf:∀(a cur r:List UInt8),(∀b∈a,b≠46)→fV cur (a++46::r)=(cur++a)::fV [] r
 |[],cur,r,_=>by simp[fV]
 |b::a,cur,r,h=>by
  have hb:(b==46)=false:=by simpa using h b (by simp)
  rw[List.cons_append,fV,hb,cond_false,aGf a _ r (fun x hx=>h x (List.mem_cons_of_mem _ hx))];simp
theorem aBv:∀(a cur:List UInt8),(∀b∈a,b≠46)→fV cur a=[cur++a]
 |[],cur,_=>by simp[fV]
 |b::a,cur,h=>by
  have hb:(b==46)=false:=by simpa using h b (by simp)
  rw[fV,hb,cond_false,aBv a _ (fun x hx=>h x (List.mem_cons_of_mem _ hx))];simp
theorem aQ5:∀(n:Nat) (s:List UInt8),s.length<n→Lib.splitK [46] 0 (Lib.count s [46]) s=fV [] s
 |0,s,h=>absurd h (Nat.not_lt_zero _)
 |n+1,s,h=>by
  rcases Lib.index_spec s [46] with⟨h1,h2⟩|⟨i,h1,h2,h3,h4⟩
  ·rw[Lib.count_miss h1,aBv s [] (fun b hb e=>by
    obtain⟨j,hj,ej⟩:=List.getElem_of_mem hb
    have:=h2 j (by omega)
    rw[aXp,List.getElem?_eq_getElem hj,ej,e] at this;simp at this)];rfl
  ·rw[aXp] at h3
   have h3:s[i]? =some 46:=by simpa using h3
   have hi:i<s.length:=by
    rcases Nat.lt_or_ge i s.length with hlt|hge
    ·exact hlt
    ·rw[List.getElem?_eq_none hge] at h3;cases h3
   rw[Lib.count_hit (by simp) h1,Nat.add_comm,Lib.splitK,h1]
   have hne:((i:Int)== -1)=false:=by simp
   rw[hne]
   simp only[Int.toNat_natCast,Nat.add_zero,List.length_cons,List.length_nil,Nat.zero_add]
   rw[if_neg (by simp),aQ5 n (s.drop (i+1)) (by rw[List.length_drop];omega)]
   have es:s=s.take i++46::s.drop (i+1):=by
    have e2:s[i]=46:=by rw[List.getElem?_eq_getElem hi] at h3;exact Option.some.inj h3
    rw[←e2,List.getElem_cons_drop hi,List.take_append_drop]
   conv=>rhs;rw[es]
   rw[aGf (s.take i) [] _ (fun b hb e=>by
    obtain⟨j,hj,ej⟩:=List.getElem_of_mem hb
    rw[List.length_take] at hj
    have:=h4 j (by omega)
    rw[aXp,List.getElem?_eq_getElem (by omega)] at this
    rw[List.getElem_take] at ej
    rw[ej,e] at this;simp at this)];simp
def bA (s:ByteArray):List ByteArray:=(fV [] s.data.toList).map fun l=>⟨l.toArray⟩
theorem aGg (s:ByteArray):gW s ⟨#[46]⟩=bA s:=by
 have h1:(gW s ⟨#[46]⟩).map (·.data.toList)=fV [] s.data.toList:=by
  rw[gW,Lib.splitB_data];exact aQ5 _ _ (Nat.lt_succ_self _)
 unfold bA
 rw[←h1,List.map_map]
 conv=>lhs;rw[←List.map_id (gW s ⟨#[46]⟩)]
 congr 1
def Xc (b:Int):Bool:=cZ b 97 122||cZ b 48 57||b==45
def oF (s:ByteArray):Bool:=decide (1≤s.size)&&decide (s.size≤20)&& !((bM s).getD 0 0==45)&& !((bM s).getD (s.size-1) 0==45)&& !((bM s).any fun b=> !Xc b)
def gB (s:ByteArray):Bool:=decide (s.size≤60)&& !((bA s).any fun l=> !oF l)
theorem iM (s:ByteArray):(bM s).length=s.size:=by simp only[bM,List.length_map];rfl
theorem aQ6 {s:ByteArray}{i:Nat}(h:i<s.size):aV (bM s) (i:Int)=some ((bM s)[i]'(by rw[iM];exact h)):=aD _
theorem ext_list (s:ByteArray)(a b:Nat):s.extract a b=⟨((s.data.toList.drop a).take (b-a)).toArray⟩:=by
 apply ByteArray.ext
 apply Array.toList_inj.1
 rw[Lib.extract_data]
theorem Ru:∀(s cur:List UInt8),(fV cur s).length≤s.length+1
 |[],_=>by simp[fV]
 |b::r,cur=>by
  rw[fV]
  cases b==46 with
  |true=>have:=Ru r [];simp;omega
  |false=>have:=Ru r (cur++[b]);simp at this ⊢;omega
theorem Ht:∀(s cur:List UInt8) (l:List UInt8),l∈fV cur s→l.length≤cur.length+s.length
 |[],cur,l,h=>by simp[fV] at h;subst h;simp
 |b::r,cur,l,h=>by
  rw[fV] at h
  cases hb:b==46 with
  |true=>
   rw[hb,cond_true] at h
   rcases List.mem_cons.1 h with rfl|h
   ·omega
   ·have:=Ht r [] l h;simp at this ⊢;omega
  |false=>rw[hb,cond_false] at h;have:=Ht r _ l h;simp at this ⊢;omega
theorem Hu (s:ByteArray):(bA s).length≤s.size+1:=by
 unfold bA;rw[List.length_map];exact Ru _ _
theorem qU (s l:ByteArray)(h:l∈bA s):l.size≤s.size:=by
 unfold bA at h
 obtain⟨q,hq,rfl⟩:=List.mem_map.1 h
 have:=Ht _ _ q hq
 have h2:(⟨q.toArray⟩:ByteArray).size=q.length:=rfl
 have h3:s.data.toList.length=s.size:=rfl
 have h4:([]:List UInt8).length=0:=rfl
 omega
theorem bCq (z:ByteArray):(z.toList==(⟨#[]⟩:ByteArray).toList)=decide (z.size=0):=by
 rw[ByteArray.toList_eq,ByteArray.toList_eq,Bool.eq_iff_iff]
 simp only[beq_iff_eq,decide_eq_true_eq]
 constructor
 ·intro h
  show z.data.size=0
  rw[←Array.length_toList,h];rfl
 ·intro h
  exact List.eq_nil_of_length_eq_zero h
theorem qV:∀(s cur:List UInt8),(fV cur s).length=s.countP (·==46)+1
 |[],_=>rfl
 |b::r,cur=>by
  rw[fV,List.countP_cons]
  cases b==46 with
  |true=>rw[cond_true,List.length_cons,qV r []];simp
  |false=>rw[cond_false,qV r _];simp
theorem aBw (s:ByteArray):0<(bA s).length:=by
 unfold bA;rw[List.length_map,qV];omega
def Mx (s:ByteArray):Bool:=(bM s).any fun b=>b==46
theorem aKw (s:ByteArray):Mx s=decide (2≤(bA s).length):=by
 unfold Mx bA bM
 rw[List.length_map,qV,List.any_map]
 have e:(fun b:Int=>b==46)∘(fun b:UInt8=>(b.toNat:Int))=fun b:UInt8=>b==46:=by
  funext b
  rw[Bool.eq_iff_iff]
  simp only[Function.comp,beq_iff_eq]
  constructor
  ·intro q;apply UInt8.toNat_inj.1;show _=46;omega
  ·intro q;rw[q];rfl
 rw[e,Bool.eq_iff_iff,List.any_eq_true,decide_eq_true_eq]
 have:=List.countP_pos_iff (p:=fun b:UInt8=>b==46) (l:=s.data.toList)
 constructor
 ·intro h;have:=this.2 h;omega
 ·intro h;exact this.1 (by omega)
def aVm (s:ByteArray):ByteArray:=bif gB s then(bif (bA s).length==1 then s else kU ⟨#[46]⟩ ((bA s).drop ((bA s).length-2))) else⟨#[]⟩
theorem aZ3 {l:List ByteArray}(h:2≤l.length):∃a∈l,∃b∈l,kU ⟨#[46]⟩ (l.drop (l.length-2))=a++⟨#[46]⟩++b:=by
 have hl:(l.drop (l.length-2)).length=2:=by rw[List.length_drop];omega
 match hm:l.drop (l.length-2),hl with
 |[a,b],_=>
  refine⟨a,List.mem_of_mem_drop (i:=l.length-2) (by rw[hm];simp),b,List.mem_of_mem_drop (i:=l.length-2) (by rw[hm];simp),?_⟩
  rw[show[a,b]=[a]++[b] from rfl,aYb _ _ _ (by simp),aYa]
theorem Hw {s:ByteArray}(h:gB s=true):s.size≤60∧0<s.size:=by
 unfold gB at h
 rw[Bool.and_eq_true,decide_eq_true_eq] at h
 refine⟨h.1,Nat.pos_of_ne_zero fun e=> ?_⟩
 have e2:s.data.toList=[]:=List.eq_nil_of_length_eq_zero e
 have e3:bA s=[⟨#[]⟩]:=by unfold bA;rw[e2];rfl
 rw[e3] at h
 exact absurd h.2 (by decide)
theorem aZa {s:ByteArray}(h:gB s=true):decide ((aVm s).size=0)=false:=by
 have hs:=Hw h
 have hp:=aBw s
 unfold aVm
 rw[h,cond_true]
 refine decide_eq_false ?_
 cases h1:(bA s).length==1 with
 |true=>rw[cond_true];omega
 |false=>
  rw[cond_false]
  have:(bA s).length≠1:=by simpa using h1
  obtain⟨a,_,b,_,e⟩:=aZ3 (l:=bA s) (by omega)
  rw[e,ByteArray.size_append,ByteArray.size_append]
  have:(⟨#[46]⟩:ByteArray).size=1:=rfl
  omega
def jT (s:ByteArray)(seed:Int):Bool:=gB s&&decide (2≤(bA s).length)&&mK seed
def Rv (l:List D.aAE)(i:Nat)(n:D.aAE):Bool:= !fB n||(decide (0<i)&&decide ((l.getD (i-1) default).Id≥n.Id))
def lI (s:D.Site):Bool:=jT s.Name s.Book.Seed&&decide (s.Accounts.length≤8)&&lH s.Book&& !eU (Rv s.Accounts) 0 s.Accounts
def SOk (s:D.Site):Prop:=s.Name.size≤34359738368∧s.Accounts.length≤34359738368∧s.Book.Open.length≤34359738368∧∀a∈s.Accounts,a.Credentials.length≤34359738368
instance (s:D.Site):Decidable (SOk s):=inferInstanceAs (Decidable (_∧_))
def sI (name:ByteArray)(seed:Int):D.Site:=bif jT name seed then⟨name,[],⟨seed,0,[]⟩,[]⟩ else⟨⟨#[]⟩,[],⟨0,0,[]⟩,[]⟩
theorem aSm (name:ByteArray)(seed:Int):decide ((sI name seed).Name.size=0)= !jT name seed:=by
 unfold sI
 cases h:jT name seed with
 |false=>rfl
 |true=>
  have:gB name=true:=by unfold jT at h;rw[Bool.and_eq_true,Bool.and_eq_true] at h;exact h.1.1
  have:=Hw this
  exact decide_eq_false (by show ¬name.size=0;omega)
def gY (i:Int):ByteArray:=bif i==0 then⟨#[98,97,110,107,46,99,111,109]⟩ else bif i==1 then⟨#[115,104,111,112,46,111,114,103]⟩ else⟨#[]⟩
def sJ (i:Nat)(s:D.Site):Bool:= !lI s|| !(s.Name.toList==(gY (i:Int)).toList)
def iO (w:D.World):Bool:=cZ w.Now 0 999900&&cZ (w.Devices.length:Int) 1 6&&(w.Stolen.length:Int)==(w.Devices.length:Int)&&(w.Sites.length:Int)==2&&dU w.Mail&&sH w.aAJ.Log&&mK w.Seed&& !eU sJ 0 w.Sites
def bBr (w:D.World):Prop:=WOk w∧w.Mail.Notices.length≤34359738368∧w.Hosts.length≤34359738368∧∀s∈w.Sites,SOk s
instance (w:D.World):Decidable (bBr w):=inferInstanceAs (Decidable (_∧_))
theorem aOs {α:Type}{g:α→Nat}{x:α}:∀{l:List α},x∈l→g x≤(l.map g).sum
 |y::r,h=>by
  rw[List.map_cons,List.sum_cons]
  rcases List.mem_cons.1 h with rfl|h
  ·omega
  ·have:=aOs (g:=g) h;omega
theorem SOk.of {s:D.Site}(h:s.sz≤1048576):SOk s:=by
 simp only[D.Site.sz] at h
 refine⟨by omega,by omega,by omega,fun a ha=> ?_⟩
 have:=aOs (g:=D.aAE.sz) ha
 simp only[D.aAE.sz] at this h
 omega
theorem bBr.of {w:D.World}(h:w.sz≤1048576):bBr w:=by
 refine⟨WOk.of h,?_,?_,fun s hs=>SOk.of ?_⟩
 ·simp only[D.World.sz] at h;omega
 ·simp only[D.World.sz] at h;omega
 ·have:=aOs (g:=D.Site.sz) hs
  simp only[D.World.sz] at h;omega
abbrev Hy (a:List Int)(r:List (List Int)):Prop:=a.length+r.flatten.length≤68719476736∧r.length≤1099511627776
theorem lJ {α β:Type}{s:List α}(hs:s.length≤34359738368)(x:α)(k:Option β):gd (bO s [x]) k=k:=aG (by unfold bO;simp only[List.length_singleton];omega)
theorem kC {α β:Type}{s:List α}(hs:s.length≤34359738368)(k:Option β):gd (bO [] s) k=k:=aG (by unfold bO;simp only[List.length_nil];omega)
theorem aQ7 {α:Type}{l s:List α}:l.foldl (fun s x=>s++[x]) s=s++l:=by
 have:=I4 (f:=fun x:α=>[x]) (l:=l) (s:=s)
 rw[this];congr 1
 induction l with
 |nil=>rfl
 |cons x l ih=>simp[ih]
theorem Xd {α:Type}{l:List α}{F:(Nat×List α→Option (List α))→Nat×List α→Option (List α)}(hl:l.length≤34359738368)
  (hF:∀rec i s (hi:i<l.length),s.length≤34359738368→F rec (i,s)=rec (i+1,s++[l[i]])) (hE:∀rec s,F rec (l.length,s)=some s):EV.cB FUEL F (0,[])=some l:=by
 rw[aVk (l:=l) (fun s x=>s++[x]) (fun i s=>s.length=i) (fun s=>some s) (by omega) rfl (fun i s hi hv=>by simp;omega) (fun rec i s hi hv=>hF rec i s hi (by omega)) (fun rec s _=>hE rec s),aQ7,List.nil_append]
theorem aXq {α:Type}{l:List α}{F:(List α×Nat→Option (List α))→List α×Nat→Option (List α)}(hl:l.length≤34359738368)
  (hF:∀rec i s (hi:i<l.length),s.length≤34359738368→F rec (s,i)=rec (s++[l[i]],i+1)) (hE:∀rec s,F rec (s,l.length)=some s):EV.cB FUEL F ([],0)=some l:=by
 rw[kX (l:=l) (fun s x=>s++[x]) (fun i s=>s.length=i) (fun s=>some s) (by omega) rfl (fun i s hi hv=>by simp;omega) (fun rec i s hi hv=>hF rec i s hi (by omega)) (fun rec s _=>hE rec s),aQ7,List.nil_append]
abbrev uL {α:Type}(f:α→Nat)(l:List α):Nat:=l.length+(l.map f).sum
theorem Qh {S τ:Type}{F:(S→Option τ)→S→Option τ}{n:Nat}{s:S}:EV.cB (n+1) F s=F (EV.cB n F) s:=rfl
theorem kL {α:Type}{c:Bool}{x y:α}:(bif c then some x else some y)=some (bif c then x else y):=by cases c<;>rfl
theorem aNg {c d:Bool}:(bif c then some true else some d)=some (c||d):=by cases c<;>rfl
theorem sK {α:Type}{p:Nat→α→Bool}:∀(l:List α) (j:Nat),eU p j l=true↔∃(i:Nat) (hi:i<l.length),p (j+i) l[i]=true
 |[],j=>by simp[eU]
 |x::xs,j=>by
  simp only[eU,Bool.or_eq_true,sK xs]
  constructor
  ·rintro(h|⟨i,hi,h⟩)
   ·exact⟨0,by simp,h⟩
   ·exact⟨i+1,by simpa using hi,by rw[show j+(i+1)=j+1+i by omega];exact h⟩
  ·rintro⟨i,hi,h⟩
   cases i with
   |zero=>exact .inl h
   |succ i=>exact .inr ⟨i,by simpa using hi,by rw[show j+1+i=j+(i+1) by omega];exact h⟩
theorem aZb {α:Type}{τ:Type}{l:List α}(p:α→Bool)(a b:τ)(i:Nat)(hi:i≤l.length)(h:l.length≤34359738368){F:(Nat→Option τ)→Nat→Option τ}(hF:∀rec j (hj:j<i),F rec j=bif p (l[j]'(by omega)) then some a else rec (j+1))(hE:∀rec,F rec i=some b):
  EV.cB FUEL F 0=some (bif (l.take i).any p then a else b):=by
 have ht:(l.take i).length=i:=by rw[List.length_take];omega
 exact kK (l:=l.take i) p _ _ (by omega) (fun rec j hj=>by rw[hF rec j (by omega),List.getElem_take]) (fun rec=>by rw[ht];exact hE rec)
theorem aTx {i:Int}{n:Nat}(h:n≤34359738368):(!cZ i 0 (IntKind.i64.wrap ((n:Int)-1)))=(decide (i<0)||decide (i≥(n:Int))):=by
 rw[bT (by omega) (by omega)]
 unfold cZ
 by_cases h0:i<0
 ·rw[decide_eq_true h0,decide_eq_false (show ¬0≤i by omega)];rfl
 ·rw[decide_eq_false h0,decide_eq_true (show 0≤i by omega)]
  by_cases h1:i≥(n:Int)
  ·rw[decide_eq_true h1,decide_eq_false (show ¬i≤(n:Int)-1 by omega)];rfl
  ·rw[decide_eq_false h1,decide_eq_true (show i≤(n:Int)-1 by omega)];rfl
theorem aSn {i:Int}{n:Nat}(h:(decide (i<0)||decide (i≥(n:Int)))=false):0≤i∧i<(n:Int):=by
 simp only[Bool.or_eq_false_iff,decide_eq_false_iff_not] at h;omega
theorem aOt {α:Type}{n:Nat}{x:α}{β:Type}{k:Option β}(h:n≤68719476736):gd (dJ n x x) k=k:=aG ⟨rfl,by omega⟩
theorem aXr {α:Type}[BEq α][ReflBEq α]{r:α}:(!r==r)=false:=by rw[beq_self_eq_true];rfl
def Af (l:List D.aAN)(i:Nat)(s:D.aAN):Bool:= !cZ s.Index 1 7||(!cZ s.Value 0 1018||(l.take i).any fun q=>q.Index==s.Index)
def aGh (l:List D.aAN):Bool:=cZ (l.length:Int) 1 7&& !eU (Af l) 0 l
def cS (l:List D.aAN)(i:Nat)(k:Int):Bool:=(l.take i).any fun q=>q.Index==k
theorem bD4 {l:List D.aAN}{i:Nat}{k:Int}(hi:i<l.length):cS l (i+1) k=(cS l i k||l[i].Index==k):=by
 unfold cS;rw[List.take_add_one,List.getElem?_eq_getElem hi,List.any_append];simp
def gZ (k:D.aAL):Bool:=aGh [k.aAN]&&(cZ k.Epoch 0 1000000&&(cZ k.Limit 1 10&&cZ k.Guesses 0 k.Limit))
def oG (l:List D.aAM):Nat:=bif l.any (fun n=>n.Seen) then(l.takeWhile fun n=> !n.Seen).length else 0
def Cr (l:List D.aAM):List D.aAM:=bif decide ((l.length:Int)>30) then l.take (oG l)++l.drop (oG l+1) else l
def Hz (m:D.aAI)(k a t:Int):D.aAI×Bool:=bif !dU m|| !dU ⟨Cr (m.Notices++[⟨k,a,t,false⟩])⟩ then(m,false) else(⟨Cr (m.Notices++[⟨k,a,t,false⟩])⟩,true)
theorem aNh (l:List D.aAM):(Cr l).length≤l.length:=by
 unfold Cr
 cases decide ((l.length:Int)>30) with
 |false=>exact Nat.le_refl _
 |true=>simp only[cond_true,List.length_append,List.length_take,List.length_drop];omega
theorem aZc (m:D.aAI)(k a t:Int):(Hz m k a t).1.sz≤m.sz+1:=by
 unfold Hz
 have:=aNh (m.Notices++[⟨k,a,t,false⟩])
 simp only[List.length_append,List.length_singleton] at this
 cases !dU m|| !dU ⟨Cr (m.Notices++[⟨k,a,t,false⟩])⟩ with
 |true=>simp only[cond_true];omega
 |false=>simp only[cond_false,D.aAI.sz];omega
def aXs (w:D.World)(k:Int):D.World:={w with Mail:=(Hz w.Mail k 1 w.Now).1}
theorem aZd (w:D.World)(k:Int):(aXs w k).sz≤w.sz+1:=by
 have:=aZc w.Mail k 1 w.Now
 simp only[aXs,D.World.sz,D.aAI.sz] at*;omega
theorem aNi {α:Type}{p:α→Bool}:∀{l:List α} {i:Nat} (hi:i<l.length),i<(l.takeWhile p).length→p l[i]=true
 |x::l,0,_,h=>by
  simp only[List.takeWhile_cons] at h
  cases hp:p x with
  |true=>exact hp
  |false=>rw[hp] at h;simp at h
 |x::l,i+1,hi,h=>by
  simp only[List.takeWhile_cons] at h
  cases hp:p x with
  |true=>
   have h':i<(l.takeWhile p).length:=by simpa[hp] using h
   exact aNi (l:=l) (i:=i) (by simpa using hi) h'
  |false=>rw[hp] at h;simp at h
theorem aNj {α:Type}{p:α→Bool}:∀{l:List α} (h:(l.takeWhile p).length<l.length),p (l[(l.takeWhile p).length]'h)=false
 |x::l,h=>by
  cases hp:p x with
  |true=>
   have h':(l.takeWhile p).length<l.length:=by simpa[List.takeWhile_cons,hp] using h
   simpa[List.takeWhile_cons,hp] using aNj h'
  |false=>simp[List.takeWhile_cons,hp]
theorem aGi {α:Type}{p:α→Bool}{l:List α}:(l.takeWhile p).length≤l.length:=(List.takeWhile_prefix p).length_le
theorem aVn {α τ S:Type}{l:List α}(p:α→Bool)(fin:Nat→Option τ)(e:Nat→S){F:(S→Option τ)→S→Option τ}(hl:l.length≤34359738368)
  (hF:∀rec i (hi:i<l.length),F rec (e i)=bif p l[i] then rec (e (i+1)) else fin i) (hE:∀rec,F rec (e l.length)=fin l.length):EV.cB FUEL F (e 0)=fin (l.takeWhile p).length:=by
 have go:∀(k i n:Nat),i+k=(l.takeWhile p).length→k<n→EV.cB n F (e i)=fin (l.takeWhile p).length:=by
  intro k
  induction k with
  |zero=>
   intro i n hi hn
   obtain⟨n,rfl⟩:∃m,n=m+1:=⟨n-1,by omega⟩
   have:i=(l.takeWhile p).length:=by omega
   subst this
   rw[Qh]
   by_cases h:(l.takeWhile p).length<l.length
   ·rw[hF _ _ h,aNj h,cond_false]
   ·have h2:(l.takeWhile p).length=l.length:=by have:=aGi (p:=p) (l:=l);omega
    rw[h2,hE]
  |succ k ih=>
   intro i n hi hn
   obtain⟨n,rfl⟩:∃m,n=m+1:=⟨n-1,by omega⟩
   have h1:i<l.length:=by have:=aGi (p:=p) (l:=l);omega
   rw[Qh,hF _ _ h1,aNi (p:=p) h1 (by omega),cond_true]
   exact ih (i+1) n (by omega) (by omega)
 have:=aGi (p:=p) (l:=l)
 exact go (l.takeWhile p).length 0 FUEL (by omega) (by have:=nQ;omega)
def aSo (l:List D.aAM):Nat:=(l.takeWhile fun n=> !n.Seen).length
theorem aVo {l:List D.aAM}{x:D.aAM}:aSo (l++[x])=bif l.any (fun n=>n.Seen) then aSo l else bif x.Seen then l.length else l.length+1:=by
 induction l with
 |nil=>cases hx:x.Seen<;>simp[aSo,hx]
 |cons y l ih=>
  unfold aSo at*
  cases hy:y.Seen with
  |true=>simp[hy]
  |false=>
   simp only[List.cons_append,List.takeWhile_cons,hy,Bool.not_false,if_true,List.length_cons,List.any_cons,Bool.false_or,ih]
   cases l.any (fun n=>n.Seen)<;>cases x.Seen<;>simp
theorem aNk {l:List D.aAM}{F:(Int×Int→Option Int)→Int×Int→Option Int}(hF:∀rec (k:Int) (i:Nat) (hi:i<l.length),F rec (k,(i:Int))=rec (bif l[i].Seen then(i:Int) else k,(i:Int)-1))(hE:∀rec k,F rec (k,-1)=some k):
  ∀(n m:Nat) (k:Int),n≤l.length→n<m→EV.cB m F (k,(n:Int)-1)=some (bif (l.take n).any (fun x=>x.Seen) then(aSo (l.take n):Int) else k)
 |0,m+1,k,_,_=>by rw[Qh,show((0:Nat):Int)-1= -1 from rfl,hE];simp
 |n+1,m+1,k,h,hm=>by
  have hn:n<l.length:=by omega
  rw[Qh,show((n+1:Nat):Int)-1=(n:Int) by omega,hF _ _ n hn,aNk hF hE n m _ (by omega) (by omega),List.take_add_one,List.getElem?_eq_getElem hn]
  simp only[Option.toList_some,List.any_append,aVo,List.any_cons,List.any_nil,Bool.or_false,List.length_take,Nat.min_eq_left (Nat.le_of_lt hn)]
  cases(l.take n).any (fun x=>x.Seen)<;>cases l[n].Seen<;>rfl
theorem aQ8 (l:List D.aAM):(oG l:Int)=bif l.any (fun x=>x.Seen) then(aSo l:Int) else 0:=by
 unfold oG aSo;cases l.any (fun n=>n.Seen)<;>rfl
theorem aQ9 {l:List D.aAM}(h:0<l.length):oG l<l.length:=by
 unfold oG
 cases hs:l.any (fun n=>n.Seen) with
 |false=>exact h
 |true=>
  obtain⟨x,hx,hp⟩:=List.any_eq_true.1 hs
  have:∀l:List D.aAM,x∈l→(l.takeWhile fun n=> !n.Seen).length<l.length:=by
   intro l
   induction l with
   |nil=>intro h;cases h
   |cons y l ih=>
    intro h
    cases hy:y.Seen with
    |true=>simp[hy]
    |false=>
     rcases List.mem_cons.1 h with rfl|h
     ·rw[hp] at hy;cases hy
     ·simpa[hy] using ih h
  exact this l hx
theorem aZe {τ S:Type}{l:List D.aAM}(fin:Int→Option τ)(st:Nat→S){F:(S→Option τ)→S→Option τ}(hl:l.length≤34359738368)(hF:∀rec i (hi:i<l.length),F rec (st i)=bif l[i].Seen then fin (i:Int) else rec (st (i+1)))(hE:∀rec,F rec (st l.length)=fin 0):EV.cB FUEL F (st 0)=fin (oG l:Int):=by
 have e:=aVn (l:=l) (fun n=> !n.Seen) (fun i=>bif decide (i<l.length) then fin (i:Int) else fin 0) st (F:=F) hl (fun rec i hi=>by
  rw[hF rec i hi,decide_eq_true hi];cases l[i].Seen<;>rfl) (fun rec=>by rw[hE,decide_eq_false (by omega)];rfl)
 rw[e,aQ8]
 cases hs:l.any (fun n=>n.Seen) with
 |true=>
  have h0:0<l.length:=by cases l with|nil=>simp at hs|cons=>simp
  have:=aQ9 h0
  unfold oG at this
  rw[hs,cond_true] at this
  rw[decide_eq_true this];rfl
 |false=>
  have hh:∀l:List D.aAM,l.any (fun n=>n.Seen)=false→(l.takeWhile fun n=> !n.Seen).length=l.length:=by
   intro l
   induction l with
   |nil=>intro _;rfl
   |cons x l ih=>
    intro h
    simp only[List.any_cons,Bool.or_eq_false_iff] at h
    simp[h.1,ih h.2]
  have this:=hh l hs
  rw[this,decide_eq_false (by omega)];rfl
def Eo (m:Int):Nat→Int→Int→Int→Int
 |0,_,_,s=>s
 |k+1,b,n,s=>if n>0 then Eo m k ((IntKind.i64.wrap (b*b)).tmod m) (n/2) (bif n%2==1 then(IntKind.i64.wrap (s*b)).tmod m else s) else s
def fZ (x:Int):Bool:=cZ x 1 2038&&Eo 2039 11 x 1019 1==1
def dO (g n:Int):Int:=bif fZ g then Eo 2039 11 g (bW n 1019) 1 else 0
def Ah (l v:Int):Int:=dO 4 (IntKind.i64.wrap (1+((IntKind.i64.wrap (fI l [89,v]*fI l [89,v])).tmod 2147483647).tmod 1018))
def qW (e l:Int):Int:=wH (fI e [157,l])
def Xe (k m:Int):Int:=bif cZ k 0 2147483647 then aUi .i64 k (lF m [251]) else 0
def qX (o s:Int):Int:=fI o [257,s]
def wZ (f:Int→Int)(l:List Int)(j:Nat)(x:Int):Bool:=(l.take j).any fun q=>f q==f x
def qY (s:D.aAN)(e:Int):Int:=bif fZ e&&(!(e==1)&&cZ s.Value 0 1018) then dO e s.Value else 0
def gG (k:D.aAL)(e:Int):D.aAL×Int×Bool:=bif gZ k&&(!(k.Guesses==k.Limit)&&(fZ e&& !(e==1))) then({k with Guesses:=IntKind.i64.wrap (k.Guesses+1)},qY k.aAN e,true) else(k,0,false)
def aZf (l:List D.aAL):List D.aAL:=bif decide ((l.length:Int)>30) then l.drop 1 else l
def jN (h:D.aAA)(e:Int):D.aAA×Int×Bool:=bif decide (vB h.State<h.Monotonic)|| !(gG h.State e).2.2 then(h,0,false) else(⟨(gG h.State e).1,aZf (h.Saved++[h.State]),vB (gG h.State e).1⟩,(gG h.State e).2.1,true)
def dI (l i b:Int):Int:=bif bW b 1019==0 then 0 else dO (Ah l i) b
def Ai (hs:List D.aAA)(ch:List Int)(i:Nat)(c:Int):Bool:=(decide (c<0)||decide (c≥(hs.length:Int)))||wZ (fun q=>q) ch i c
def gM (hs:List D.aAA)(ch:List Int):Bool:= !eU (Ai hs ch) 0 ch
def aOu (e:Int)(s:List D.aAA×List Int×List Int)(c:Int):List D.aAA×List Int×List Int:=
 (s.1.set c.toNat (jN (s.1.getD c.toNat default) e).1,bif (jN (s.1.getD c.toNat default) e).2.2 then s.2.1++[(jN (s.1.getD c.toNat default) e).1.State.aAN.Index] else s.2.1,bif (jN (s.1.getD c.toNat default) e).2.2 then s.2.2++[(jN (s.1.getD c.toNat default) e).2.1] else s.2.2)
def jU (hs:List D.aAA)(ch:List Int)(e:Int):List D.aAA×List Int×List Int:=ch.foldl (aOu e) (hs,[],[])
def mO (n:Int):Int:=bif bW n 1019==0 then 0 else Eo 1019 11 (bW n 1019) 1017 1
def Xf (l:List Int)(k a w:Int)(j:Nat):Int:=bif (j:Int)==k then w else(IntKind.i64.wrap ((IntKind.i64.wrap (w*bW (IntKind.i64.wrap (bW a 1019-bW (l.getD j 0) 1019)) 1019)).tmod 1019*mO (IntKind.i64.wrap (bW (l.getD k.toNat 0) 1019-bW (l.getD j 0) 1019)))).tmod 1019
def pK (l:List Int)(k a:Int):Int:=bif (decide (k<0)||decide (k≥(l.length:Int)))||eU (wZ (fun q=>bW q 1019) l) 0 l then 0 else(List.range l.length).foldl (Xf l k a) 1
def fM (a b:Int):Int:=bif fZ a&&fZ b then(IntKind.i64.wrap (a*b)).tmod 2039 else 0
def jV (ix vs:List Int)(i:Nat)(x:Int):Bool:= !cZ x 1 7||(!fZ (vs.getD i 0)||wZ (fun q=>q) ix i x)
def aTy (ix vs:List Int):Int:=(List.range vs.length).foldl (fun o i=>fM o (dO (vs.getD i 0) (pK ix (i:Int) 0))) 1
def iA (ix vs:List Int):Int×Bool:=bif (!(ix.length==vs.length)||ix.length==0)||eU (jV ix vs) 0 ix then(0,false) else(aTy ix vs,true)
def Qi (c b:Int):Int:=bif bW b 1019==0 then 0 else dO c (mO b)
def wI (v:D.aAQ)(o:Int):Int×Bool:=bif qX o v.Salt==v.Check then(Xe v.Masked o,true) else(0,false)
def fC (v:D.aAQ)(hs:List D.aAA)(ch:List Int)(pin b:Int):List D.aAA×List Int×List Int:=jU hs ch (dI v.Salt pin b)
def aGj (hs:List D.aAA)(ch:List Int)(pin b:Int):Bool:=gM hs ch&&(!(bW b 1019==0)&&cZ pin 0 9999)
def oH (v:D.aAQ)(hs:List D.aAA)(ch:List Int)(pin b:Int):List D.aAA×Int×Bool:=
 bif !aGj hs ch pin b then(hs,0,false) else
 bif decide ((ch.length:Int)<v.Threshold)||(decide ((fC v hs ch pin b).2.2.length<ch.length)|| !(iA (fC v hs ch pin b).2.1 (fC v hs ch pin b).2.2).2) then((fC v hs ch pin b).1,0,false) else
  ((fC v hs ch pin b).1,wI v (qW (Qi (iA (fC v hs ch pin b).2.1 (fC v hs ch pin b).2.2).1 b) v.Salt))
def vC (v:D.aAQ)(hs:List D.aAA)(ch:List Int)(pin b:Int)(i:Nat):D.aAA×Int×Bool:=jN (((ch.take i).foldl (aOu (dI v.Salt pin b)) (hs,([]:List Int),([]:List Int))).1.getD (ch.getD i 0).toNat default) (dI v.Salt pin b)
def kP (v:D.aAQ)(hs:List D.aAA)(ch:List Int)(pin b:Int)(n:Nat):List Int:=(List.range n).map fun i=>(vC v hs ch pin b i).1.State.aAN.Index
def kQ (v:D.aAQ)(hs:List D.aAA)(ch:List Int)(pin b:Int)(n:Nat):List Int:=(List.range n).map fun i=>(vC v hs ch pin b i).2.1
def aTz (v:D.aAQ)(hs:List D.aAA)(ch:List Int)(pin b:Int):List Int:=kP v hs ch pin b ch.length
def aT0 (v:D.aAQ)(hs:List D.aAA)(ch:List Int)(pin b:Int):List Int:=kQ v hs ch pin b ch.length
def aXt (v:D.aAQ)(hs:List D.aAA)(ch:List Int)(pin b:Int):Bool:=aGj hs ch pin b&&(fC v hs ch pin b).2.2.length==ch.length
def aT1 (v:D.aAQ)(hs:List D.aAA)(ch:List Int)(pin b:Int):List D.aAA×Int×Bool×Bool:=((oH v hs ch pin b).1,(oH v hs ch pin b).2.1,(oH v hs ch pin b).2.2,aXt v hs ch pin b)
def aT2 (w:D.World):Int:=IntKind.i64.wrap (1+(lF w.Seed [313,w.Now]).tmod 1018)
def gH (w:D.World)(ch:List Int)(pin:Int):D.World×Int×Bool:=bif !iO w then(w,0,false) else
 (aXs {w with Hosts:=(oH w.aAQ w.Hosts ch pin (aT2 w)).1} 5,(oH w.aAQ w.Hosts ch pin (aT2 w)).2)
theorem Xg {f:Int→Int}{l:List Int}{j:Nat}(hj:j<l.length)(hl:l.length≤1099511627776){τ:Type}(a b:τ){F:(Nat→Option τ)→Nat→Option τ}
  (hF:∀rec i (hi:i<j),F rec i=bif f (l[i]'(by omega))==f l[j] then some a else rec (i+1)) (hE:∀rec,F rec j=some b):EV.cB FUEL F 0=some (bif wZ f l j l[j] then a else b):=by
 have hlen:(l.take j).length=j:=by rw[List.length_take];omega
 exact kK (l:=l.take j) (fun q=>f q==f l[j]) a b (by omega) (fun rec i hi=>by
  rw[hlen] at hi
  rw[hF rec i hi];simp) (fun rec=>by rw[hlen];exact hE rec)
theorem aXu {p:Nat→Int→Bool}{l:List Int}{i:Nat}(hi:i<l.length)(h:eU p 0 (l.take i)=false)(h2:p i l[i]=false):eU p 0 (l.take (i+1))=false:=by
 rw[Bool.eq_false_iff,Ne,sK] at h ⊢
 rintro⟨k,hk,e⟩
 rw[List.length_take] at hk
 rw[Nat.zero_add,List.getElem_take] at e
 by_cases hki:k<i
 ·exact h ⟨k,by rw[List.length_take];omega,by rw[Nat.zero_add,List.getElem_take];exact e⟩
 ·have:k=i:=by omega
  subst this
  rw[h2] at e;cases e
theorem bBs {p:Nat→Int→Bool}{l:List Int}{i:Nat}(hi:i<l.length)(h:p i l[i]=true):eU p 0 l=true:=(sK l 0).2 ⟨i,hi,by rw[Nat.zero_add];exact h⟩
theorem aZg:((List.range 1019).all fun(x:Nat)=>x==0||((x:Int)*Eo 1019 11 (x:Int) 1017 1)%1019==1&&cZ (Eo 1019 11 (x:Int) 1017 1) 1 1018)=true:=by kernel_rfl
theorem bBt {x:Int}(h0:0<x)(h1:x<1019):(x*Eo 1019 11 x 1017 1)%1019=1∧1≤Eo 1019 11 x 1017 1∧Eo 1019 11 x 1017 1≤1018:=by
 have:=List.all_eq_true.1 aZg x.toNat (List.mem_range.2 (by omega))
 rw[show((x.toNat:Nat):Int)=x by omega,beq_eq_false_iff_ne.2 (show x.toNat≠0 by omega),Bool.false_or,Bool.and_eq_true] at this
 have hr:=aFb this.2
 exact⟨eq_of_beq this.1,hr.1,by omega⟩
theorem aXv {x m n:Int}(hm:0≤m∧m<1019)(hn:0≤n∧n<1019)(h1:(x*m)%1019=1)(h2:(x*n)%1019=1):m=n:=by
 have e:n*(x*m)=m*(x*n):=by rw[←Int.mul_assoc,←Int.mul_assoc,Int.mul_comm n x,Int.mul_comm m x,Int.mul_assoc,Int.mul_assoc,Int.mul_comm n m]
 have a1:x*m=1+1019*(x*m/1019):=by omega
 have a2:x*n=1+1019*(x*n/1019):=by omega
 rw[a1,a2,Int.mul_add,Int.mul_add,Int.mul_one,Int.mul_one] at e
 have b1:n*(1019*(x*m/1019))=1019*(n*(x*m/1019)):=by rw[←Int.mul_assoc,Int.mul_comm n 1019,Int.mul_assoc]
 have b2:m*(1019*(x*n/1019))=1019*(m*(x*n/1019)):=by rw[←Int.mul_assoc,Int.mul_comm m 1019,Int.mul_assoc]
 rw[b1,b2] at e
 generalize n*(x*m/1019)=p at e
 generalize m*(x*n/1019)=q at e
 omega
theorem aXw {n:Int}:bW n 1019=n%1019:=if_pos (by decide)
theorem aVp {n m:Int}(h:bW n 1019=bW m 1019):mO n=mO m:=by unfold mO;rw[h]
end Go.VK
