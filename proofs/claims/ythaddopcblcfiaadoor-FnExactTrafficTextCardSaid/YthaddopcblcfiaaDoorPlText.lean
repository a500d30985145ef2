/- TrafficText: the program and the reference come to the same. -/
import Derived.Test.YthaddopcblcfiaaDoorPlInts
import Derived.Test.YthaddopcblcfiaaDoorPlTraffic
import Derived.Test.YthaddopcblcfiaaDoorX3
import Derived.Test.YthaddopcblcfiaaDoorX6
namespace Go.Proofs.YthaddopcblcfiaaDoor.X
set_option linter.unusedSimpArgs false
set_option linter.unusedVariables false
open Go.RowKit Go.Proofs.YthaddopcblcfiaaDoorW.PrintWords Go.Proofs.YthaddopcblcfiaaDoorW.PrintLast
theorem ba_append (a b : List UInt8) : (⟨a.toArray⟩ : ByteArray) ++ (⟨b.toArray⟩ : ByteArray) = ⟨(a ++ b).toArray⟩ := by
  apply ByteArray.ext
  rw [ByteArray.data_append]
  simp
theorem ba_size (a : List UInt8) : (⟨a.toArray⟩ : ByteArray).size = a.length := by simp [ByteArray.size]
theorem dec_len : ∀ u : Nat, (Lib.decDigits u).length ≤ u + 1 := by
  intro u
  induction u using Nat.strongRecOn with
  | _ u ih =>
    rw [Lib.decDigits]
    split
    · simp
    · have := ih (u / 10) (by omega)
      simp only [List.length_append, List.length_cons, List.length_nil]
      omega
/-- The reference's numeral. -/
theorem l1Num_ev : ∀ u : Nat, u ≤ 1000 → Ev (fun K => spec_l1Num.f K (u : Int)) ⟨(Lib.decDigits u).toArray⟩ := by
  intro u
  induction u using Nat.strongRecOn with
  | _ u ih =>
    intro hu
    rw [Lib.decDigits]
    split
    · rename_i h
      refine evEnd fun K => ?_
      rw [spec_l1Num.f, if_pos (by omega), w64 (by omega) (by omega)]
      simp only [strOfNums, List.map_cons, List.map_nil]
      rw [show ((48 + (u : Int)) % 256).toNat = 48 + u by omega]
    · rename_i h
      have hl := dec_len (u / 10)
      have hd : Int.tdiv (u : Int) 10 = ((u / 10 : Nat) : Int) := by simp [Int.tdiv]
      have hm : Int.tmod (u : Int) 10 = ((u % 10 : Nat) : Int) := by simp [Int.tmod]
      refine evCallEnd (ih (u / 10) (by omega) (by omega)) (fun K hK => ?_)
      rw [spec_l1Num.f, if_neg (by omega), hd, w64 (x := ((u / 10 : Nat) : Int)) (by omega) (by omega), hK]
      simp only [Option.bind_some]
      rw [hm, w64 (x := 48 + ((u % 10 : Nat) : Int)) (by omega) (by omega)]
      simp only [strOfNums, List.map_cons, List.map_nil]
      rw [show ((48 + ((u % 10 : Nat) : Int)) % 256).toNat = 48 + u % 10 by omega]
      rw [ba_size, ba_size, if_pos (by simp only [List.length_cons, List.length_nil]; omega), ba_append]
def digs (n : Int) : List UInt8 := Lib.decDigits n.toNat
theorem itoa_digs {n : Int} (h : 0 ≤ n) : Lib.itoa n = digs n := by
  unfold Lib.itoa digs
  rw [if_neg (by omega)]
/-- The text of some numbers. -/
def txt (l : List Int) : List UInt8 := Lib.join (l.map digs) [44]
theorem txt_one (x : Int) : txt [x] = digs x := by
  unfold txt
  exact Lib.join_one _ _
theorem txt_snoc {l : List Int} (h : l ≠ []) (x : Int) : txt (l ++ [x]) = txt l ++ [44] ++ digs x := by
  obtain ⟨y, r, rfl⟩ := List.exists_cons_of_ne_nil h
  unfold txt
  rw [List.cons_append, List.map_cons, List.map_cons, Lib.join_cons, Lib.join_cons, List.map_append]
  simp [Lib.joinTail, List.append_assoc]
theorem digs_len {x : Int} (h1 : x ≤ 1000) : (digs x).length ≤ 1001 := by
  have := dec_len x.toNat
  unfold digs
  omega
theorem lens_digs : ∀ {l : List Int}, (∀ x ∈ l, x ≤ 1000) → Lib.lens (l.map digs) ≤ 1001 * l.length
  | [], _ => by simp [Lib.lens]
  | x :: r, h => by
    have hx := digs_len (h x (by simp))
    have hi := lens_digs (l := r) (fun y hy => h y (by simp [hy]))
    simp only [Lib.lens, List.map_cons, List.sum_cons, List.length_cons] at hi ⊢
    omega
theorem txt_len {l : List Int} (h : ∀ x ∈ l, x ≤ 1000) : (txt l).length ≤ 1002 * l.length := by
  cases l with
  | nil => simp [txt, Lib.join_nil]
  | cons x r =>
    have hx := digs_len (h x (by simp))
    have hi := lens_digs (l := r) (fun y hy => h y (by simp [hy]))
    unfold txt
    rw [List.map_cons, Lib.join_cons, List.length_append, Lib.joinTail_length]
    simp only [List.length_map, List.length_cons, List.length_nil]
    omega
theorem specText_loop (l : List Int) (hl : l.length ≤ 40) (hv : ∀ x ∈ l, 0 ≤ x ∧ x ≤ 1000) : Ev (fun K => spec_TrafficText.l0 K (⟨#[]⟩ : ByteArray) l (l.length : Int) 0) ((⟨(txt l).toArray⟩ : ByteArray), true) := by
  exact evUp0 l.length (fun K (x : ByteArray) (i : Nat) => spec_TrafficText.l0 K x l (l.length : Int) (i : Int)) (fun i x => x = (⟨(txt (l.take i)).toArray⟩ : ByteArray)) ((⟨(txt l).toArray⟩ : ByteArray), true) (⟨#[]⟩ : ByteArray) (by simp [txt, Lib.join_nil])
    (by
      intro i x hi hI
      have hx := hv _ (List.getElem_mem hi)
      have hn := l1Num_ev (l[i]).toNat (by omega)
      rw [show (((l[i]).toNat : Nat) : Int) = l[i] by omega] at hn
      have ht := txt_len (l := l.take i) (fun y hy => (hv y (List.mem_of_mem_take hy)).2)
      have hd := digs_len hx.2
      have hlen : (l.take i).length = i := by rw [List.length_take]; omega
      refine .inl ⟨_, rfl, fun h => evCall hn (fun K hK => ?_) h⟩
      show spec_TrafficText.l0 (K + 1) x l (l.length : Int) (i : Int) = _
      rw [spec_TrafficText.l0, if_pos (by omega), if_pos (by omega), if_pos (by omega), rd_at l i hi]
      rw [List.take_succ_eq_append_getElem hi, hI]
      by_cases h0 : i = 0
      · subst h0
        rw [if_neg (by simp), hK]
        simp only [Option.bind_some]
        rw [ba_size, ba_size, if_pos (by unfold digs at hd; omega), ba_append, w64 (by omega) (by omega)]
        simp only [List.take_zero, List.nil_append]
        rw [txt_one]
        rfl
      · have hne : l.take i ≠ [] := by
          intro e
          rw [e] at hlen
          simp at hlen
          omega
        rw [if_pos (by omega), ba_size, if_pos (by omega), hK]
        simp only [Option.bind_some]
        rw [show (⟨#[44]⟩ : ByteArray) = ⟨[44].toArray⟩ from rfl, ba_append, ba_size, ba_size, if_pos (by unfold digs at hd; simp only [List.length_append, List.length_cons, List.length_nil]; omega), ba_append, w64 (by omega) (by omega), txt_snoc hne]
        rfl)
    (by
      intro x hI
      refine evEnd fun K => ?_
      show spec_TrafficText.l0 (K + 1) x l (l.length : Int) (l.length : Int) = _
      rw [spec_TrafficText.l0, if_neg (by omega), hI, List.take_length])
theorem implText_loop (l : List Int) (hl : l.length ≤ 40) (hv : ∀ x ∈ l, 0 ≤ x ∧ x ≤ 1000) : Ev (fun K => impl_numbersText.f K l (⟨#[44]⟩ : ByteArray)) (⟨(txt l).toArray⟩ : ByteArray) := by
  exact evUp0 l.length (fun K (x : List ByteArray) (i : Nat) => impl_numbersText.l0 K (⟨#[44]⟩ : ByteArray) x l (l.length : Int) (i : Int)) (fun i x => x = (l.take i).map (fun n => (⟨(digs n).toArray⟩ : ByteArray))) (⟨(txt l).toArray⟩ : ByteArray) [] (by simp)
    (by
      intro i x hi hI
      have hx := hv _ (List.getElem_mem hi)
      have hlen : x.length = i := by rw [hI, List.length_map, List.length_take]; omega
      have hI' : strconv_Itoa_14.f l[i] = some ⟨(digs l[i]).toArray⟩ := by
        unfold strconv_Itoa_14.f
        rw [if_pos (by omega), itoa_digs hx.1]
      refine .inl ⟨_, rfl, fun h => evNext (fun K => ?_) h⟩
      show impl_numbersText.l0 (K + 1) (⟨#[44]⟩ : ByteArray) x l (l.length : Int) (i : Int) = _
      rw [impl_numbersText.l0, if_pos (by omega), if_pos (by omega), if_pos (by omega), rd_at l i hi, hI']
      simp only [Option.bind_some]
      rw [if_pos (by omega), List.take_succ_eq_append_getElem hi, List.map_append, ← hI, w64 (by omega) (by omega)]
      rfl)
    (by
      intro x hI
      rw [List.take_length] at hI
      have ht := txt_len (l := l) (fun y hy => (hv y hy).2)
      have hm : x.map (·.data.toList) = l.map digs := by
        rw [hI, List.map_map]
        exact List.map_congr_left (fun n _ => by simp)
      have hlen : x.length = l.length := by rw [hI, List.length_map]
      refine evEnd fun K => ?_
      show impl_numbersText.l0 (K + 1) (⟨#[44]⟩ : ByteArray) x l (l.length : Int) (l.length : Int) = _
      rw [impl_numbersText.l0, if_neg (by omega)]
      unfold strings_Join.f
      rw [hm, show ((⟨#[44]⟩ : ByteArray).data.toList) = [44] from rfl]
      have et : Lib.join (l.map digs) [44] = txt l := rfl
      rw [et]
      rw [if_pos ⟨by omega, by omega⟩]
      rfl)
theorem TrafficText_same (l : List Int) (hn : l.length ≤ 1048576) : ∃ v : ByteArray × Bool, Ev (fun K => spec_TrafficText.f K l) v ∧ Ev (fun K => impl_TrafficText.f K l) v := by
  obtain ⟨K1, e1⟩ := specTraffic_ev l (by omega)
  dsimp only at e1
  by_cases ht : isTr l = true
  · by_cases h0 : l.length = 0
    · refine ⟨(⟨#[45]⟩, true), ⟨K1, fun m hm => ?_⟩, ⟨K1, fun m hm => ?_⟩⟩
      · show spec_TrafficText.f m l = _
        unfold spec_TrafficText.f
        rw [e1 m hm, ht]
        simp only [Option.bind_some, if_true]
        rw [if_pos (by omega)]
      · show impl_TrafficText.f m l = _
        unfold impl_TrafficText.f
        rw [implTraffic_eq, ht]
        simp only [Option.bind_some, if_true]
        rw [if_pos (by omega)]
    · have hl := isTr_len ht
      have hv := all_bound (isTr_all ht)
      obtain ⟨K2, e2⟩ := specText_loop l hl hv
      obtain ⟨K3, e3⟩ := implText_loop l hl hv
      dsimp only at e2 e3
      refine ⟨(⟨(txt l).toArray⟩, true), ⟨K1 + K2, fun m hm => ?_⟩, ⟨K1 + K3, fun m hm => ?_⟩⟩
      · show spec_TrafficText.f m l = _
        unfold spec_TrafficText.f
        rw [e1 m (by omega), ht]
        simp only [Option.bind_some, if_true]
        rw [if_neg (by omega)]
        exact e2 m (by omega)
      · show impl_TrafficText.f m l = _
        unfold impl_TrafficText.f
        rw [implTraffic_eq, ht]
        simp only [Option.bind_some, if_true]
        rw [if_neg (by omega), e3 m (by omega)]
        rfl
  · have ht' : isTr l = false := by simpa using ht
    refine ⟨(⟨#[]⟩, false), ⟨K1, fun m hm => ?_⟩, ⟨K1, fun m hm => ?_⟩⟩
    · show spec_TrafficText.f m l = _
      unfold spec_TrafficText.f
      rw [e1 m hm, ht']
      rfl
    · show impl_TrafficText.f m l = _
      unfold impl_TrafficText.f
      rw [implTraffic_eq, ht']
      rfl
end Go.Proofs.YthaddopcblcfiaaDoor.X
