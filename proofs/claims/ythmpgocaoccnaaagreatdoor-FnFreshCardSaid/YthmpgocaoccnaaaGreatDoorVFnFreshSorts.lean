/- A row of texts of the call's own, sorted by the library: what the row is afterwards; any program whose sort answers as the shelf says. -/
import Derived.Test.YthmpgocaoccnaaaGreatDoorVFnFreshWWords
import Derived.Test.YthmpgocaoccnaaaGreatDoorVFnFreshWKept
import Derived.Sort.OwnSorted
import Derived.Laws.Strings
set_option linter.unusedVariables false
set_option linter.unusedSimpArgs false
namespace Go.Proofs.YthmpgocaoccnaaaGreatDoorW.PrintWords
open Go.RowKit Go.Sort
theorem bl_tri:∀ x y:List UInt8,(!(Op.bytesLess x y || x == y))=Op.bytesLess y x
  | [],[]=>rfl
  | [],_::_=>by simp [Op.bytesLess]
  | _::_,[]=>by simp [Op.bytesLess]
  | a::x,b::y=>by
    have ih:=bl_tri x y
    simp only [Op.bytesLess,List.cons_beq_cons]
    rcases Nat.lt_trichotomy a.toNat b.toNat with h|h|h
    · have h1:a<b:=UInt8.lt_iff_toNat_lt.2 h
      have h2:¬ b<a:=fun q=>by have:=UInt8.lt_iff_toNat_lt.1 q;omega
      have h3:¬ a=b:=fun q=>by rw [q] at h;omega
      have h4:¬ b=a:=fun q=>h3 q.symm
      simp [h1,h2,h3,h4]
    · have e:a=b:=UInt8.toNat_inj.1 h
      subst e
      have h2:¬ a<a:=fun q=>by have:=UInt8.lt_iff_toNat_lt.1 q;omega
      rw [← ih]
      simp [h2]
    · have h1:b<a:=UInt8.lt_iff_toNat_lt.2 h
      have h2:¬ a<b:=fun q=>by have:=UInt8.lt_iff_toNat_lt.1 q;omega
      have h3:¬ a=b:=fun q=>by rw [q] at h;omega
      have h4:¬ b=a:=fun q=>h3 q.symm
      simp [h1,h2,h3]
theorem gtr_str (t:TypeId) (a b:ByteArray):binOp .gtr t (.string a) (.string b)=pure (.bool (Op.bytesLess b.toList a.toList)):=by
  rw [← bl_tri]
  simp [binOp,Op.stringOp]
def sortB (l:List ByteArray):List ByteArray:=((l.map fun b=>b.data.toList).mergeSort fun x y=>decide (x≤y)).map fun x=>⟨x.toArray⟩
theorem reps_str {ps:List ByteArray} {cs:List Value} (h:Reps (fun x c=>c=[Value.string x]) 1 ps cs):cs=ps.map Value.string:=by
  obtain ⟨h1,h2⟩:=h
  apply List.ext_getElem (by simp [h1])
  intro j j1 j2
  have j3:j<ps.length:=by simpa using j2
  have:=h2 j _ (List.getElem?_eq_getElem j3)
  rw [Nat.mul_one,List.drop_eq_getElem_cons j1] at this
  simp only [List.take_succ_cons,List.take_zero,List.cons.injEq,and_true] at this
  rw [List.getElem_map]
  exact this
theorem str_reps (ps:List ByteArray):Reps (fun x c=>c=[Value.string x]) 1 ps (ps.map Value.string):=by
  refine ⟨by simp,fun j p h=>?_⟩
  obtain ⟨j1,rfl⟩:=List.getElem?_eq_some_iff.1 h
  rw [Nat.mul_one,List.drop_eq_getElem_cons (by simpa using j1)]
  simp
theorem sort_put {prog:Program} {num:Nat} {S:Nat}
    (hs:∀ (blk off cap:Nat) (ss:List (List UInt8)) (w:World),Holds encStr w blk off ss.toArray→blk<w.heap.size→ss.length<4611686018427387904 →
      Calls prog num #[.slice (some ⟨blk,off,none⟩) ss.length cap] w fun e w'=>e=.returned (.tuple #[])∧∃ n os,w'=grow (putRow encStr (Sort.ahead w n) blk off (ss.mergeSort fun x y=>decide (x≤y)).toArray) os)
    (hn:∀ (p:Option Addr) (cap:Nat) (w:World),Calls prog num #[.slice p 0 cap] w fun e w'=>e=.returned (.tuple #[])∧w'=w)
    (P0_:Nat→Prop) (u:Value) (l0:List ByteArray) (w0 w:World) (hB:Below w0.heap.size w0 w) (ho0:Kd.R Kd.string S w w0.heap.size P0_ u l0) (hl:l0.length<4611686018427387904) :
    Calls prog num #[u] w fun e w'=>e=.returned (.tuple #[])∧Kd.R Kd.string S w' w0.heap.size (fun k_=>(P0_ k_∨w.heap.size≤k_)) u (sortB l0)∧Below w0.heap.size w0 w'∧Kept w w' (fun k_=>P0_ k_):=by
  have hR:=ho0
  obtain ⟨h0,inner,ho,hr⟩:=ho0
  have hi:inner=l0.map Value.string:=reps_str hr
  subst hi
  rcases ho.2 with ⟨rfl,hz⟩|⟨g,cap,cur,rfl,hbase,hb,h1,h2,h3,h4⟩
  · have:l0=[]:=List.eq_nil_of_length_eq_zero hz
    subst this
    refine (hn none 0 w).mono fun e w' ⟨e1,e2⟩=>⟨e1,?_,?_,?_⟩
    · rw [e2]
      have:sortB []=[]:=by simp [sortB]
      rw [this]
      exact Kd.R_nil _ _ _ _ _
    · rw [e2]
      exact hB
    · rw [e2]
      exact Kept.refl _ _
  · have hlen:(l0.map fun b=>b.data.toList).length=l0.length:=by simp
    have hmap:l0.map Value.string=(l0.map fun b=>b.data.toList).map encStr:=by simp [encStr]
    have hh:=hs g 0 cap (l0.map fun b=>b.data.toList) w (holds_of_block hb (by rw [hlen,← hmap,← h4,show Kd.string.sz=1 from rfl,Nat.mul_one])) (Array.getElem?_eq_some_iff.1 hb).1 (by rw [hlen];exact hl)
    rw [hlen] at hh
    refine hh.mono fun e w' ⟨e1,n,os,e2⟩=>⟨e1,?_⟩
    have hg:w.grownBy w' (some g):=by
      rw [e2]
      exact grownBy_sorted _
    have hts:((l0.map fun b=>b.data.toList).mergeSort fun x y=>decide (x≤y)).length=(l0.map fun b=>b.data.toList).length:=by simp
    have hown:=ownsRow_sorted (n:=n) (os:=os) hts hbase hb (by rw [hlen];exact h1) h2 h3
    rw [← e2,hlen] at hown
    have hlb:(sortB l0).length=l0.length:=by unfold sortB;simp
    refine ⟨⟨fun k hk=>.inl (h0 k hk),(sortB l0).map Value.string,?_,str_reps _⟩,⟨hg.os.trans hB.os,hg.tape.trans hB.tape,hg.output.trans hB.output,Nat.le_trans hB.size hg.size,fun k hk=>?_⟩,hg.size,fun i hi hni=>?_⟩
    · rw [hlb]
      have:(sortB l0).map Value.string=((l0.map fun b=>b.data.toList).mergeSort fun x y=>decide (x≤y)).map encStr:=by unfold sortB;simp [encStr]
      rw [this]
      exact hown
    · rw [hg.block k (Nat.lt_of_lt_of_le hk hB.size) (by simp;omega)]
      exact hB.block k hk
    · exact hg.block i hi (fun e=>hni (by cases e;exact h0 g rfl))
end Go.Proofs.YthmpgocaoccnaaaGreatDoorW.PrintWords
