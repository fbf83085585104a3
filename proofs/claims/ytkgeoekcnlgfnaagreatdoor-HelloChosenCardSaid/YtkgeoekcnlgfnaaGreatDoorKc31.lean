/-
  Part 31 of the proof of what several laws share.
-/
import Derived.SizedLaws
import Derived.ChangeSlices
import Derived.SliceStrings
import Derived.WideShapes
import Derived.ChangeShapes
import Derived.ChangeSame
import Derived.ChangeMaps5
import Derived.ChangeArms
import Derived.DataReads
import Derived.DataElems
import Derived.Test.YtkgeoekcnlgfnaaGreatDoorKc1
import Derived.Test.YtkgeoekcnlgfnaaGreatDoorKc2
import Derived.Test.YtkgeoekcnlgfnaaGreatDoorKc3
import Derived.Test.YtkgeoekcnlgfnaaGreatDoorKc4
import Derived.Test.YtkgeoekcnlgfnaaGreatDoorKc5
import Derived.Test.YtkgeoekcnlgfnaaGreatDoorKc6
import Derived.Test.YtkgeoekcnlgfnaaGreatDoorKc7
import Derived.Test.YtkgeoekcnlgfnaaGreatDoorKc8
import Derived.Test.YtkgeoekcnlgfnaaGreatDoorKc9
import Derived.Test.YtkgeoekcnlgfnaaGreatDoorKc10
import Derived.Test.YtkgeoekcnlgfnaaGreatDoorKc11
import Derived.Test.YtkgeoekcnlgfnaaGreatDoorKc12
import Derived.Test.YtkgeoekcnlgfnaaGreatDoorKc13
import Derived.Test.YtkgeoekcnlgfnaaGreatDoorKc14
import Derived.Test.YtkgeoekcnlgfnaaGreatDoorKc15
import Derived.Test.YtkgeoekcnlgfnaaGreatDoorKc16
import Derived.Test.YtkgeoekcnlgfnaaGreatDoorKc17
import Derived.Test.YtkgeoekcnlgfnaaGreatDoorKc18
import Derived.Test.YtkgeoekcnlgfnaaGreatDoorKc19
import Derived.Test.YtkgeoekcnlgfnaaGreatDoorKc20
import Derived.Test.YtkgeoekcnlgfnaaGreatDoorKc21
import Derived.Test.YtkgeoekcnlgfnaaGreatDoorKc22
import Derived.Test.YtkgeoekcnlgfnaaGreatDoorKc23
import Derived.Test.YtkgeoekcnlgfnaaGreatDoorKc24
import Derived.Test.YtkgeoekcnlgfnaaGreatDoorKc25
import Derived.Test.YtkgeoekcnlgfnaaGreatDoorKc26
import Derived.Test.YtkgeoekcnlgfnaaGreatDoorKc27
import Derived.Test.YtkgeoekcnlgfnaaGreatDoorKc28
import Derived.Test.YtkgeoekcnlgfnaaGreatDoorKc29
import Derived.Test.YtkgeoekcnlgfnaaGreatDoorKc30
set_option linter.unusedVariables false
set_option linter.unusedSimpArgs false
section
namespace Go.Proofs
open Go Go.Kx
theorem ch_b0 {S mSu:List Int} {r:Int × Int × Str × Bool × Bool × Int} (hS:S.length<1152921504606846976) (hSu:mSu.length<1152921504606846976) (h : ∃ k,k<S.length∧lg S k=r.1∧r.1 ∈ mSu ∧ ∀ j,j<k → lg S j ∉ mSu):loop (halberdlaw24_HelloChosen.b0 S mSu r) BIG 0=some (.inl ()):=by
 obtain ⟨k,h1,h2,h3,h4⟩:=h
 refine loop_fn (fun j=>(j:Int)) k _ (by omega) rfl (fun j hj=>?_) ?_
 ·have e:=w64_n (n:=S.length) (show j<S.length by omega) hS
  unfold halberdlaw24_HelloChosen.b0
  rw [e,if_pos (by omega),if_pos (by omega),Int.toNat_natCast]
  clear e
  have hne:lg S j ≠ r.1:=fun q=>h4 j hj (q ▸ h3)
  exact if_i hne (if_i (by omega) (bind_i (has_eq _ hSu) (by rw [decide_eq_false (h4 j hj)]; rfl)))
 ·unfold halberdlaw24_HelloChosen.b0
  rw [if_pos (by omega),if_pos (by omega),Int.toNat_natCast]
  exact if_n (fun h=>h h2) rfl
def stp (mSh:List (Int × Str)) (g:Int) (j:Nat) (x:Str):Str:=if (lg mSh j).1=g then (lg mSh j).2 else x
def stq (mSh:List (Int × Str)) (g:Int) (j:Nat) (x:Bool):Bool:=if x=true then true else decide ((lg mSh j).1=g)
theorem ch_b1 {mSh:List (Int × Str)} {r:Int × Int × Str × Bool × Bool × Int} (hl:mSh.length<1152921504606846976):loop (halberdlaw24_HelloChosen.b1 mSh r) BIG (([]:Str),0)=some (iter (stp mSh r.2.1) mSh.length []):=by
 refine loop_pl (fun j x=>(x,(j:Int))) mSh.length (stp mSh r.2.1) [] _ hl (fun j x hj=>?_) ?_
 ·have e:=w64_n hj hl
  unfold halberdlaw24_HelloChosen.b1 stp
  rw [e,if_pos (by omega),if_pos (by omega),Int.toNat_natCast]
  clear e
  by_cases c:(lg mSh j).1=r.2.1
  ·rw [if_pos c,if_pos c]; exact if_i (by omega) rfl
  ·rw [if_neg c,if_neg c]; rfl
 ·unfold halberdlaw24_HelloChosen.b1
  exact if_neg (by omega)
theorem ch_b2 {mSh:List (Int × Str)} {r:Int × Int × Str × Bool × Bool × Int} (hl:mSh.length<1152921504606846976):loop (halberdlaw24_HelloChosen.b2 mSh r) BIG (false,0)=some (iter (stq mSh r.2.1) mSh.length false):=by
 refine loop_pl (fun j x=>(x,(j:Int))) mSh.length (stq mSh r.2.1) false _ hl (fun j x hj=>?_) ?_
 ·have e:=w64_n hj hl
  unfold halberdlaw24_HelloChosen.b2 stq
  rw [e,if_pos (by omega),Int.toNat_natCast]
  clear e
  cases x with
  | true=>rfl
  | false=>exact if_n (by simp) (if_i (by omega) rfl)
 ·unfold halberdlaw24_HelloChosen.b2
  exact if_neg (by omega)
theorem ch_found {mG:List Int} {mSh:List (Int × Str)} {g:Int} {sh:Str} {re:Bool} (h:ShOk mG mSh g sh re):iter (stp mSh g) mSh.length []=sh∧re = !(iter (stq mSh g) mSh.length false):=by
 obtain ⟨_,uniq,⟨rfl,rfl,h1⟩ | ⟨rfl,k,h1,h2,h3⟩⟩:=h
 ·have a:=iter_ind (fun j (x:Str)=>x=[]) mSh.length (step:=stp mSh g) (s0:=[]) rfl (fun j x hj hx=>by unfold stp; rw [if_neg (h1 j hj)]; exact hx) mSh.length (Nat.le_refl _)
  have b:=iter_ind (fun j (x:Bool)=>x=false) mSh.length (step:=stq mSh g) (s0:=false) rfl (fun j x hj hx=>by unfold stq; rw [hx,decide_eq_false (h1 j hj)]; rfl) mSh.length (Nat.le_refl _)
  exact ⟨a,by rw [b]; rfl⟩
 ·have ne : ∀ j,j<mSh.length → j ≠ k → (lg mSh j).1 ≠ g:=fun j hj hjk e=>by
   rcases Nat.lt_or_gt_of_ne hjk with c | c
   ·exact uniq k h1 j c (e.trans h2.symm)
   ·exact uniq j hj k c (h2.trans e.symm)
  have a:=iter_ind (fun j (x:Str)=>x=if k<j then sh else []) mSh.length (step:=stp mSh g) (s0:=[]) rfl (fun j x hj hx=>by
   unfold stp
   by_cases c:j=k
   ·subst c; rw [if_pos h2,if_pos (by omega)]; exact h3
   ·rw [if_neg (ne j hj c),hx]
    by_cases d:k<j
    ·rw [if_pos d,if_pos (by omega)]
    ·rw [if_neg d,if_neg (by omega)]) mSh.length (Nat.le_refl _)
  have b:=iter_ind (fun j (x:Bool)=>x=decide (k<j)) mSh.length (step:=stq mSh g) (s0:=false) rfl (fun j x hj hx=>by
   unfold stq
   by_cases c:j=k
   ·subst c; rw [decide_eq_true h2,decide_eq_true (show j<j+1 by omega)]; cases x <;> rfl
   ·rw [decide_eq_false (ne j hj c),hx]
    by_cases d:k<j
    ·rw [decide_eq_true d,decide_eq_true (show k<j+1 by omega)]; rfl
    ·rw [decide_eq_false d,decide_eq_false (show ¬ k<j+1 by omega)]; rfl) mSh.length (Nat.le_refl _)
  refine ⟨by rw [a,if_pos h1],?_⟩
  rw [b,decide_eq_true h1]; rfl
theorem bndm {n m:Nat} (h:n * m≤140737488351232) (hm:0<m):n<1152921504606846976:=by
 have:n * 1≤n * m:=Nat.mul_le_mul_left n hm
 omega
theorem HelloChosen_true (c_Server:Bool) (c_Suites:List (Int)) (c_Groups:List (Int)) (c_Chain:List (Str)) (c_Key:Str) (c_Roots:List (Str)) (c_Name:Str) (c_Tickets:Int) (c_Seal:Str) (c_Psk:List (Str × Str × Int × Int × Int × Int)) (c_Tape:Str) (c_Clock:Int) (c_Pad:Int) (c_Limit:Int) (c_Ring:Int) (m_Kind:Int) (m_Random:Str) (m_Session:Str) (m_Suites:List (Int)) (m_Name:Str) (m_Versions:List (Int)) (m_Groups:List (Int)) (m_Schemes:List (Int)) (m_Modes:List (Int)) (m_Shares:List (Int × Str)) (m_Identities:List (Str × Int)) (m_Binders:List (Str)) (m_Psk:Int) (m_Others:List (Int)) (m_Certs:List (Str)) (m_Scheme:Int) (m_Data:Str) (m_Life:Int) (m_Add:Int) (m_Nonce:Str) (m_Update:Int) (again:Bool) (group:Int) (hS:c_Suites.length<1152921504606846976) (hG:c_Groups.length<1152921504606846976) (hc:c_Chain.length<1152921504606846976) (hr:c_Roots.length<1152921504606846976) (hp:c_Psk.length<1152921504606846976) (hSu:m_Suites.length<1152921504606846976) (hV:m_Versions.length<1152921504606846976) (hmG:m_Groups.length<1152921504606846976) (hSc:m_Schemes.length<1152921504606846976) (hM:m_Modes.length<1152921504606846976) (hSh:m_Shares.length<1152921504606846976):halberdlaw24_HelloChosen c_Server c_Suites c_Groups c_Chain c_Key c_Roots c_Name c_Tickets c_Seal c_Psk c_Tape c_Clock c_Pad c_Limit c_Ring m_Kind m_Random m_Session m_Suites m_Name m_Versions m_Groups m_Schemes m_Modes m_Shares m_Identities m_Binders m_Psk m_Others m_Certs m_Scheme m_Data m_Life m_Add m_Nonce m_Update again group=some true:=by
 unfold halberdlaw24_HelloChosen
 refine bind_i awake24 (if_n (by decide) ?_)
 obtain ⟨r,h1,⟨a,ha,rfl⟩ | ⟨hm,hs,hk,hA,hV7,hF,hsh,hpr⟩⟩:=choose_out (s:=c_Server) (S:=c_Suites) (G:=c_Groups) (ch:=c_Chain) (key:=c_Key) (ro:=c_Roots) (nm:=c_Name) (tk:=c_Tickets) (sl:=c_Seal) (psk:=c_Psk) (tape:=c_Tape) (clock:=c_Clock) (pad:=c_Pad) (limit:=c_Limit) (ring:=c_Ring) (mK:=m_Kind) (mR:=m_Random) (mS:=m_Session) (mSu:=m_Suites) (mN:=m_Name) (mV:=m_Versions) (mG:=m_Groups) (mSc:=m_Schemes) (mM:=m_Modes) (mSh:=m_Shares) (mI:=m_Identities) (mB:=m_Binders) (mP:=m_Psk) (mO:=m_Others) (mC:=m_Certs) (mSch:=m_Scheme) (mD:=m_Data) (mL:=m_Life) (mA:=m_Add) (mNo:=m_Nonce) (mU:=m_Update) (again:=again) (group:=group) hS hG hc hr hp hSu hV hmG hSc hM hSh
 ·refine bind_i h1 (if_i ha (ltt_i fun x hx=>?_))
  rw [hx]
  simp [Lf.all,Lf.eq]
 ·obtain ⟨x,g,sh,re,p,al⟩:=r
  simp only at hA hF hsh hpr
  subst hA hs hk
  have hx:x ∈ m_Suites:=by obtain ⟨_,_,_,h,_⟩:=hF; exact h
  refine bind_i h1 (if_n (by simp) (bind_i (v:=false) (if_n (by simp) (bind_i hm (if_n (by decide) (if_n (by decide) (if_n (by simp) (bind_i (has_eq x hSu) (if_n (by rw [decide_eq_true hx]; decide) (bind_i (has_eq g hmG) (if_n (by rw [decide_eq_true hsh.1]; decide) (bind_i (has_eq 772 hV) (by rw [decide_eq_true hV7]; rfl))))))))))) (if_n (by decide) (bind_i (ch_b0 (r:=(x,g,sh,re,p, -1)) hS hSu hF) (bind_i (ch_b1 hSh) (bind_i (ch_b2 hSh) ?_))))))
  obtain ⟨f1,f2⟩:=ch_found hsh
  refine if_i (by show (re == !(iter (stq m_Shares g) m_Shares.length false))=true; rw [← f2]; exact beq_self_eq_true re) (if_i f1.symm ?_)
  cases p with
  | true =>
   obtain ⟨i1,i2,i3⟩:=hpr.2 rfl
   exact if_i rfl (if_n (by simp) (if_i (by omega) (bind_i (has_eq 1 hM) (by rw [decide_eq_true i2]; exact if_i rfl (ltt_i fun z hz=>by rw [hz,decide_eq_true (by omega)])))))
  | false =>
   refine if_n (by simp) ?_
   cases re with
   | true=>exact if_i rfl (if_i rfl rfl)
   | false =>
    have h9:(1027:Int) ∈ m_Schemes:=by
     rcases hpr.1 with h | h | h
     ·cases h
     ·cases h
     ·exact h
    exact if_n (by simp) (bind_i (has_eq 1027 hSc) (by rw [decide_eq_true h9]; exact if_i rfl (if_i rfl rfl)))
end Go.Proofs
end

section
namespace Go.Kx
open Go Go.RowKit
def str (b:ByteArray):Str:=b.data.toList.map (·.toBitVec)
theorem vs_str (b:ByteArray):Value.string b=vs (str b):=by
 unfold vs bytes str
 congr 1
 apply ByteArray.ext
 have:(UInt8.ofBitVec ∘ fun x:UInt8=>x.toBitVec)=id:=by funext x; rfl
 simp [this]
theorem str_length (b:ByteArray):(str b).length=b.size:=by
 show (List.map _ b.data.toList).length=b.data.size
 rw [List.length_map,Array.length_toList]
end Go.Kx
end

section
namespace Go.Kx
open Go Go.RowKit Go.ChangeShapes Go.WideShapes
theorem Does.law2 {P:Program} {f:FuncId} {args:List Value} {Ro:Mem} (h:Does P f args [] Ro (Γ:=Unit) (fun _=>vb true) (fun _=>[])) (w:World) (hr : ∀ e ∈ Ro,Has w e) :
  Calls P f args.toArray w fun e w'=>e = .returned (.bool true)∧Below w.heap.size w w':=by
 refine (h w ⟨fun e he=>(List.not_mem_nil he).elim,List.Pairwise.nil⟩ hr (fun e he=>(List.not_mem_nil he).elim)).mono fun e w' ⟨_,he,hs⟩=>⟨he,hs.below⟩
theorem str_le {b:ByteArray} {n:Nat} (h:b.data.toList.length≤n):(str b).length≤n:=by
 rw [str_length]; simpa using h
theorem str_mem {l:List ByteArray} {p:Str} (h:p ∈ l.map str) : ∃ b ∈ l,str b=p:=by simpa using h
section
variable {H:Type} {enc:TypeId × Value → H} {P:Program} {w:World} {base:Nat} {held:Bool} {t e:TypeId} {v:Value} {d:DataW H} {p:List MemPlace}
theorem slice_spot (ht:P.underlying t=some (.slice e)) (hv:Value.okWide P w .any base t v):v = .slice none 0 0 ∨ ∃ a len cap,v = .slice (some a) len cap∧a.spot=none∧len≤cap:=by
 simp only [Value.okWide,ht,Cell.okWide] at hv
 unfold Cell.ok at hv
 simp only [ht] at hv
 cases v with
 | slice a len cap =>
  cases a with
  | none=>cases len <;> cases cap <;> simp_all
  | some a=>exact .inr ⟨a,len,cap,rfl,hv.2.2.2.1,hv.1⟩
 | _=>simp at hv
theorem addr_loc {a:Addr} (h:a.spot=none):(some a:Option Addr)=Option.map (fun q:Nat × Nat=>(⟨q.1,q.2,none⟩:Addr)) (some (a.block,a.off)):=by
 cases a; simp_all
theorem add_loc {a:Addr} (h:a.spot=none) (i:Nat):a.add i=loc (some (a.block,a.off)) i:=by
 unfold Addr.add loc bk ofs
 by_cases hi:i=0
 ·subst hi; cases a; simp_all
 ·rw [if_neg hi]; cases a; simp_all
theorem in_ints (ht:P.underlying t=some (.slice e)) (he:P.underlying e=some (.int .i64)) (hc:P.cellsOf e=1) (hv:Value.okWide P w .any base t v)
  (h:DataW.Trod enc P w 0 (fun _=>true) held t v d p) :
  ∃ (A:Adr) (l:List Int) (c:Nat),v=sl A l.length c∧l.length≤c∧Has w ⟨A,eI l⟩∧(d = .nil∧l=[] ∨ ∃ es sp,d = .slice es sp∧es.length=l.length)∧(∀ n ∈ l,(Lit.int .i64 n).wf=true):=by
 obtain ⟨fuel,hf⟩:=h
 rcases slice_spot ht hv with rfl | ⟨a,len,cap,rfl,hsp,hlc⟩
 ·rcases open_ints ht he hc hf with ⟨_,hx⟩ | ⟨x,l,c,zs,hcs,_⟩
  ·refine ⟨none,[],0,rfl,Nat.le_refl _,⟨fun _=>rfl,fun i v hv=>by simp at hv⟩, .inl ⟨(by cases hx; rfl),rfl⟩,fun n hn=>by simp at hn⟩
  ·simp [Value.cells] at hcs
 ·rcases open_ints ht he hc hf with ⟨hcs,_⟩ | ⟨x,l,c,zs,hcs,_,hl,hm,hz,hx,hcell,hwz⟩
  ·simp [Value.cells] at hcs
  ·simp [Value.cells] at hcs
   obtain ⟨rfl,rfl,rfl⟩:=hcs
   simp at hz
   have hzl:(zs.take len).length=len:=by rw [List.length_take]; omega
   refine ⟨some (a.block,a.off),zs.take len,cap,?_,by omega,⟨(fun h=>by cases h),fun i v hv=>?_⟩, .inr ⟨_,_,(by injection hx),?_⟩,fun n hn=>hwz n (List.mem_of_mem_take hn)⟩
   ·rw [hzl]
    unfold sl
    rw [← addr_loc hsp]
   ·have hi:i<len:=by have:=(List.getElem?_eq_some_iff.1 hv).1; simp at this; omega
    have hv2:v=vi (zs.getD i 0):=by
     rw [List.getElem?_map,List.getElem?_take,if_pos hi,List.getElem?_eq_getElem (by omega)] at hv
     simp only [Option.map_some,Option.some.injEq] at hv
     rw [← hv,List.getD_eq_getElem?_getD,List.getElem?_eq_getElem (by omega)]
     rfl
    rw [← add_loc hsp,hv2]
    exact hcell i (by omega)
   ·simp [lits]
theorem ints_le {ts:List TypeId} {ds:List (DataW H)} {l:List Int} {j:Nat} (hsz:(DataW.weightsEach P ts ds).all (· ≤ reachBytes)=true) (hj:ts[j]? = some t) (hd:ds[j]? = some d) (ht:P.underlying t=some (.slice e)) {B:Nat} (hB:P.bytesOf e=B) (h:d = .nil∧l=[] ∨ ∃ es sp,d = .slice es sp∧es.length=l.length) :
  l.length * B≤140737488351232:=by
 rcases h with ⟨_,rfl⟩ | ⟨es,sp,rfl,hl⟩
 ·simp
 ·have:=sized_slice hsz hj hd ht
  rw [hB] at this
  rw [← hl]
  have h2:reachBytes=140737488351232:=rfl
  have:=Nat.le_trans (Nat.mul_le_mul_right B (Nat.le_add_right es.length sp.length)) this
  omega
theorem weightsAll_mem {t:TypeId} {d:DataW H} : ∀ {ds:List (DataW H)},d ∈ ds → ∀ n ∈ d.weights P t,n ∈ DataW.weightsAll P t ds
 | x :: r,h,n,hn=>by
  unfold DataW.weightsAll
  rcases List.mem_cons.1 h with rfl | h
  ·exact List.mem_append_left _ hn
  ·exact List.mem_append_right _ (weightsAll_mem h n hn)
theorem in_strs {ts:List TypeId} {ds:List (DataW H)} {j:Nat} (ht:P.underlying t=some (.slice e)) (he:P.underlying e=some .string) (hc:P.cellsOf e=1) (hB:P.bytesOf e=16) (hv:Value.okWide P w .any base t v)
  (h:DataW.Trod enc P w 0 (fun _=>true) held t v d p) (hsz:(DataW.weightsEach P ts ds).all (· ≤ reachBytes)=true) (hj:ts[j]? = some t) (hd:ds[j]? = some d) :
  ∃ (A:Adr) (l:List Str) (c:Nat),v=sl A l.length c∧l.length≤c∧Has w ⟨A,eS l⟩∧l.length * 16≤140737488351232 ∧ ∀ s ∈ l,s.length≤140737488351232:=by
 obtain ⟨fuel,hf⟩:=h
 rcases slice_spot ht hv with rfl | ⟨a,len,cap,rfl,hsp,hlc⟩
 ·rcases open_strings ht he hc hf with ⟨_,hx⟩ | ⟨x,l,c,zs,hcs,_⟩
  ·refine ⟨none,[],0,rfl,Nat.le_refl _,⟨fun _=>rfl,fun i v hv=>by simp at hv⟩,by simp,fun n hn=>by simp at hn⟩
  ·simp [Value.cells] at hcs
 ·rcases open_strings ht he hc hf with ⟨hcs,_⟩ | ⟨x,l,c,zs,hcs,_,hl,hm,hz,hx,hcell,hwz⟩
  ·simp [Value.cells] at hcs
  ·simp [Value.cells] at hcs
   obtain ⟨rfl,rfl,rfl⟩:=hcs
   simp at hz
   have hdx:d = .slice (strs (zs.take len)) (strs (zs.drop len)):=by injection hx
   have hzl:(zs.take len).length=len:=by rw [List.length_take]; omega
   have h2:reachBytes=140737488351232:=rfl
   refine ⟨some (a.block,a.off),(zs.take len).map str,cap,?_,by rw [List.length_map]; omega,⟨(fun h=>by cases h),fun i v hv=>?_⟩,?_,fun s hs=>?_⟩
   ·rw [List.length_map,hzl]
    unfold sl
    rw [← addr_loc hsp]
   ·have hi:i<len:=by have:=(List.getElem?_eq_some_iff.1 hv).1; simp at this; omega
    have hv2:v = .string (zs.getD i ByteArray.empty):=by
     rw [List.getElem?_map,List.getElem?_map,List.getElem?_take,if_pos hi,List.getElem?_eq_getElem (by omega)] at hv
     simp only [Option.map_some,Option.some.injEq] at hv
     rw [← hv, ← vs_str,List.getD_eq_getElem?_getD,List.getElem?_eq_getElem (by omega)]
     rfl
    rw [← add_loc hsp,hv2]
    exact hcell i (by omega)
   ·have:=sized_slice hsz hj (hd.trans (congrArg some hdx)) ht
    rw [hB] at this
    simp only [strs,List.length_map] at this
    rw [List.length_map]
    omega
   ·obtain ⟨b,hb,rfl⟩:=str_mem hs
    refine str_le ?_
    rw [← h2]
    have hw:=List.all_eq_true.1 hsz b.data.toList.length (DataW.weights_mem_each hj hd _ (by
     rw [hdx]
     unfold DataW.weights
     rw [ht]
     refine List.mem_cons_of_mem _ (List.mem_append_left _ (weightsAll_mem (d := .lit (.string b.data.toList)) ?_ _ ?_))
     ·exact List.mem_map.2 ⟨b,hb,rfl⟩
     ·unfold DataW.weights; simp))
    simpa using hw
end
end Go.Kx
end

section
namespace Go.Kx
open Go Go.WideShapes Go.ChangeShapes
section
variable {H:Type} {enc:TypeId × Value → H} {P:Program} {w:World} {base:Nat} {sp:Nat → Bool} {held:Bool} {t e:TypeId} {v:Value} {d:DataW H} {p:List MemPlace}
theorem open_struct {b0:Nat} {fs:Array Field} {ts:List TypeId} (ht:P.underlying t=some (.struct fs)) (hts:P.cellTypes P.depth t=some ts)
  (hv:Value.okWide P w .any base t v) (h:DataW.Trod enc P w b0 sp held t v d p) (hc:P.cellsOf t=ts.length) :
  ∃ (xs:List Value) (ys:List (DataW H × List MemPlace)) (m:Nat),v = .agg xs.toArray∧d = .agg (ys.map (·.1))∧p=ys.flatMap (·.2)∧xs.length=ts.length∧ys.length=fs.size ∧
   (∀ (i:Nat) x u,xs[i]? = some x → ts[i]? = some u → Cell.okWide P w .any base u x) ∧
   (∀ (i:Nat) f,fs[i]? = some f → DataW.trod enc P w b0 sp held m f.type ((xs.drop f.offset).take (P.cellsOf f.type))=ys[i]?):=by
 have hv2:=hv
 simp only [Value.okWide,ht] at hv2
 obtain ⟨cs,rfl,hsz,ts2,hts2,_,hcell⟩:=hv2
 obtain rfl:ts2=ts:=Option.some.inj (hts2.symm.trans hts)
 obtain ⟨fuel,hf⟩:=h
 obtain ⟨ys,m,_,hx,hlen,hl,hf⟩:=DataW.trod_struct ht hf
 simp only [Prod.mk.injEq] at hx
 refine ⟨cs.toList,ys,m,by simp,hx.1,hx.2,by simp [hsz,hc],hl,fun i x u hx hu=>?_,fun i f hif=>?_⟩
 ·have h1:cs[i]? = some x:=by simpa using hx
  obtain ⟨u2,hu2,hk⟩:=hcell i x h1
  have hi:i<ts2.length:=(List.getElem?_eq_some_iff.1 hu).1
  rw [Nat.mod_eq_of_lt hi] at hu2
  obtain rfl:u2=u:=Option.some.inj (hu2.symm.trans hu)
  exact hk
 ·have:=hf i f hif
  simpa [Value.cells] using this
theorem sized_struct {ts:List TypeId} {ds:List (DataW H)} {j:Nat} {fs:Array Field} {ys:List (DataW H)} (h:(DataW.weightsEach P ts ds).all (· ≤ reachBytes)=true) (hj:ts[j]? = some t) (hd:ds[j]? = some (.agg ys)) (ht:P.underlying t=some (.struct fs)) :
  (DataW.weightsEach P (fs.toList.map (·.type)) ys).all (· ≤ reachBytes)=true:=by
 refine List.all_eq_true.2 fun n hn=>List.all_eq_true.1 h n (DataW.weights_mem_each hj hd n ?_)
 unfold DataW.weights
 rw [ht]
 exact hn
theorem fld1 {xs:List Value} {ys:List (DataW H × List MemPlace)} {m i k:Nat} {f:Field} {T:TypeId} {x:Value} {y:DataW H × List MemPlace} (h:DataW.trod enc P w base sp held m f.type ((xs.drop f.offset).take (P.cellsOf f.type))=ys[i]?)
  (hT:f.type=T) (hk:f.offset=k) (hc:P.cellsOf T=1) (hx:xs[k]? = some x) (hy:ys[i]? = some y):DataW.trod enc P w base sp held m T [x]=some y:=by
 subst hT hk
 rw [hc,hy] at h
 have e:(xs.drop f.offset).take 1=[x]:=by
  have h0:(xs.drop f.offset)[0]? = some x:=by rw [List.getElem?_drop]; simpa using hx
  cases hd:xs.drop f.offset with
  | nil=>rw [hd] at h0; simp at h0
  | cons a r=>rw [hd] at h0; simp at h0; subst h0; rfl
 rwa [e] at h
theorem fld_bool {x:Value} {m:Nat} {y:DataW H × List MemPlace} {T:TypeId} (hu:P.underlying T=some .bool) (h:DataW.trod enc P w base sp held m T [x]=some y) : ∃ b,x=vb b∧y=(.lit (.bool b),[]):=by
 obtain ⟨b,e,rfl⟩:=DataW.trod_bool hu h
 exact ⟨b,(List.cons.inj e).1,rfl⟩
theorem fld_int {x:Value} {m:Nat} {y:DataW H × List MemPlace} {T:TypeId} (hu:P.underlying T=some (.int .i64)) (h:DataW.trod enc P w base sp held m T [x]=some y) : ∃ n,x=vi n∧y=(.lit (.int .i64 n),[])∧(Lit.int .i64 n).wf=true:=by
 obtain ⟨b,e,rfl,hw⟩:=DataW.trod_int hu h
 exact ⟨b,(List.cons.inj e).1,rfl,hw⟩
theorem fld_str {x:Value} {m:Nat} {y:DataW H × List MemPlace} {T:TypeId} (hu:P.underlying T=some .string) (h:DataW.trod enc P w base sp held m T [x]=some y) : ∃ s:ByteArray,x=vs (str s)∧y=(.lit (.string s.data.toList),[]):=by
 obtain ⟨s,e,rfl,hw⟩:=DataW.trod_string hu h
 exact ⟨s,(List.cons.inj e).1.trans (vs_str s),rfl⟩
theorem okV_slice {x:Value} (ht:P.underlying t=some (.slice e)) (h:Cell.okWide P w .any base t x):Value.okWide P w .any base t x:=by
 simp only [Value.okWide,ht]; exact h
theorem trod_slc {x:Value} {m:Nat} {y:DataW H × List MemPlace} (ht:P.underlying t=some (.slice e)) (hv:Value.okWide P w .any base t x) (h:DataW.trod enc P w 0 sp held m t [x]=some y):DataW.Trod enc P w 0 sp held t x y.1 y.2:=by
 refine ⟨m,?_⟩
 rcases slice_spot ht hv with rfl | ⟨a,len,cap,rfl,_⟩ <;> exact h
theorem in_recs {α:Type} [Inhabited α] {g:α → List Value} {k B:Nat} {ts:List TypeId} {ds:List (DataW H)} {j:Nat} (hg : ∀ a,(g a).length=k) (hk:0<k) (ht:P.underlying t=some (.slice e)) (hc:P.cellsOf e=k) (hB:P.bytesOf e=B)
  (dec : ∀ n cs y,DataW.trod enc P w 0 (fun _=>true) held n e cs=some y → ∃ a:α,cs=g a) (hv:Value.okWide P w .any base t v)
  (h:DataW.Trod enc P w 0 (fun _=>true) held t v d p) (hsz:(DataW.weightsEach P ts ds).all (· ≤ reachBytes)=true) (hj:ts[j]? = some t) (hd:ds[j]? = some d) :
  ∃ (A:Adr) (l:List α) (c:Nat),v=sl A l.length c∧l.length≤c∧Has w ⟨A,eF g l⟩∧l.length * B≤140737488351232:=by
 obtain ⟨fuel,hf⟩:=h
 have none_ : ∃ (A:Adr) (l:List α) (c:Nat),(.slice none 0 0:Value)=sl A l.length c∧l.length≤c∧Has w ⟨A,eF g l⟩∧l.length * B≤140737488351232 :=
  ⟨none,[],0,rfl,Nat.le_refl _,⟨fun _=>rfl,fun i v hv=>by simp [eF] at hv⟩,by simp⟩
 rcases slice_spot ht hv with rfl | ⟨a,len,cap,rfl,hsp,hlc⟩
 ·exact none_
 ·rcases DataW.trod_slice ht hf with ⟨hcs,_⟩ | ⟨a2,len2,cap2,elems,rest,n,_,hcs,hx,hb,hl,hm,hlen,hel,hr1,hr2⟩
  ·simp [Value.cells] at hcs
  ·simp [Value.cells] at hcs
   obtain ⟨rfl,rfl,rfl⟩:=hcs
   rw [hc] at hel
   have hex : ∀ i,i<len → ∃ z:α,w.cells? 0 (a.add (i * k)) k=some (g z):=fun i hi=>by
    have h1:=hel i hi
    rw [List.getElem?_eq_getElem (by omega),Option.bind_eq_some_iff] at h1
    obtain ⟨cs,h2,h3⟩:=h1
    obtain ⟨z,rfl⟩:=dec n cs _ h3
    exact ⟨z,h2⟩
   obtain ⟨f,hfz⟩ : ∃ f:Nat → α, ∀ i,i<len → w.cells? 0 (a.add (i * k)) k=some (g (f i)) :=
    ⟨fun i=>if h:i<len then Classical.choose (hex i h) else default,fun i hi=>by
     show w.cells? 0 (a.add (i * k)) k=some (g (if h:i<len then Classical.choose (hex i h) else default))
     rw [dif_pos hi]
     exact Classical.choose_spec (hex i hi)⟩
   have hll:((List.range len).map f).length=len:=by simp
   refine ⟨some (a.block,a.off),(List.range len).map f,cap,?_,by omega,⟨(fun h=>by cases h),fun i v hiv=>?_⟩,?_⟩
   ·rw [hll]
    unfold sl
    rw [← addr_loc hsp]
   ·have hi:i<len * k:=by
     have:=(List.getElem?_eq_some_iff.1 hiv).1
     rw [eF_length hg,hll] at this
     exact this
    have hq:i / k<len:=Nat.div_lt_of_lt_mul (by rw [Nat.mul_comm]; exact hi)
    have hr:i % k<k:=Nat.mod_lt _ hk
    have hi2:i=i / k * k+i % k:=by rw [Nat.mul_comm]; exact (Nat.div_add_mod i k).symm
    have h3:=get_eF hg ((List.range len).map f) (i / k) (i % k) (by rw [hll]; exact hq) hr
    have h5:lg ((List.range len).map f) (i / k)=f (i / k):=by
     unfold lg
     simp [hq]
    rw [h5, ← hi2] at h3
    have hiv2:(eF g ((List.range len).map f))[i]? = some v:=hiv
    rw [h3] at hiv2
    obtain ⟨_,_,h4⟩:=World.cells?_some (hfz (i / k) hq)
    have h6:=h4 (i % k) hr
    rw [Addr.add_add, ← hi2,add_loc hsp,hiv2] at h6
    exact h6
   ·have hdx:d = .slice (elems.map (·.1)) (rest.map (·.1)):=congrArg Prod.fst hx
    have:=sized_slice hsz hj (hd.trans (congrArg some hdx)) ht
    rw [hB] at this
    simp only [List.length_map] at this
    have h2:reachBytes=140737488351232:=rfl
    rw [hll, ← hlen]
    have h7:elems.length * B≤(elems.length+rest.length) * B:=Nat.mul_le_mul_right _ (by omega)
    omega
end
end Go.Kx
end
