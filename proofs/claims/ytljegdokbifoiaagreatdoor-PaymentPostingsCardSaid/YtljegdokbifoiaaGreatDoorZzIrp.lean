/- The reference's identifiers in plain Lean. No condition. -/
import Derived.Test.YtljegdokbifoiaaGreatDoorZzIc
namespace Go.Proofs.YtljegdokbifoiaaGreatDoor.Af
open Go.RowKit

def mayB (kd : Nat) (i c : Int) : Bool := bif Nat.beq kd 0 then (((decide (i < 2) && letterB c) || ((decide (2 ≤ i) && decide (i < 11)) && (letterB c || digitB c))) || ((i == 11) && digitB c)) else bif Nat.beq kd 1 then (letterB c || (decide (0 < i) && digitB c)) else ((letterB c || digitB c) || (c == 45))
def clK (kd : Nat) : List Nat := bif Nat.beq kd 0 then clsOf sp0 else bif Nat.beq kd 1 then clsOf sp1 else clsOf sp2
theorem may_cls (kd : Nat) (hkd : kd < 3) (k g : Nat) (c : Int) (h : (clK kd)[k]? = some g) : mayB kd (k : Int) c = clsB g c := by
  match kd, hkd with
  | 0, _ =>
    have h' : ([119, 119, 120, 120, 120, 120, 120, 120, 120, 120, 120, 121] : List Nat)[k]? = some g := h
    have hk : k < 12 := (List.getElem?_eq_some_iff.1 h').1
    match k, hk with
    | 0, _ => cases h'; show (((true && letterB c) || ((false && _) && _)) || (false && _)) = letterB c; simp
    | 1, _ => cases h'; show (((true && letterB c) || ((false && _) && _)) || (false && _)) = letterB c; simp
    | 2, _ => cases h'; show (((false && _) || ((true && true) && (letterB c || digitB c))) || (false && _)) = alnumB c; simp [alnumB]
    | 3, _ => cases h'; show (((false && _) || ((true && true) && (letterB c || digitB c))) || (false && _)) = alnumB c; simp [alnumB]
    | 4, _ => cases h'; show (((false && _) || ((true && true) && (letterB c || digitB c))) || (false && _)) = alnumB c; simp [alnumB]
    | 5, _ => cases h'; show (((false && _) || ((true && true) && (letterB c || digitB c))) || (false && _)) = alnumB c; simp [alnumB]
    | 6, _ => cases h'; show (((false && _) || ((true && true) && (letterB c || digitB c))) || (false && _)) = alnumB c; simp [alnumB]
    | 7, _ => cases h'; show (((false && _) || ((true && true) && (letterB c || digitB c))) || (false && _)) = alnumB c; simp [alnumB]
    | 8, _ => cases h'; show (((false && _) || ((true && true) && (letterB c || digitB c))) || (false && _)) = alnumB c; simp [alnumB]
    | 9, _ => cases h'; show (((false && _) || ((true && true) && (letterB c || digitB c))) || (false && _)) = alnumB c; simp [alnumB]
    | 10, _ => cases h'; show (((false && _) || ((true && true) && (letterB c || digitB c))) || (false && _)) = alnumB c; simp [alnumB]
    | 11, _ => cases h'; show (((false && letterB c) || ((true && false) && (letterB c || digitB c))) || (true && digitB c)) = digitB c; simp
    | n + 12, hh => omega
  | 1, _ =>
    have h' : ([119, 120, 120, 120, 120, 120, 120, 120] : List Nat)[k]? = some g := h
    have hk : k < 8 := (List.getElem?_eq_some_iff.1 h').1
    match k, hk with
    | 0, _ => cases h'; show (letterB c || (false && _)) = letterB c; simp
    | 1, _ => cases h'; show (letterB c || (true && digitB c)) = alnumB c; simp [alnumB]
    | 2, _ => cases h'; show (letterB c || (true && digitB c)) = alnumB c; simp [alnumB]
    | 3, _ => cases h'; show (letterB c || (true && digitB c)) = alnumB c; simp [alnumB]
    | 4, _ => cases h'; show (letterB c || (true && digitB c)) = alnumB c; simp [alnumB]
    | 5, _ => cases h'; show (letterB c || (true && digitB c)) = alnumB c; simp [alnumB]
    | 6, _ => cases h'; show (letterB c || (true && digitB c)) = alnumB c; simp [alnumB]
    | 7, _ => cases h'; show (letterB c || (true && digitB c)) = alnumB c; simp [alnumB]
    | n + 8, hh => omega
  | 2, _ =>
    have h' : (List.replicate 16 123 : List Nat)[k]? = some g := h
    rw [List.getElem?_replicate] at h'
    split at h'
    · cases h'; rfl
    · cases h'
theorem pfx_ok2 {cl : List Nat} {s : ByteArray} {k : Nat} {sh : Int} (h : ∀ (j : Nat) (g : Nat) (c : UInt8), j < k → cl[j]? = some g → s.data.toList[j]? = some c → clsB g (c.toNat : Int) = true)
    (hk : s.size ≤ k ∨ cl.length ≤ k) : pfxE cl sh s = bif decide ((s.size : Int) < sh) then 4 else bif decide ((cl.length : Int) < (s.size : Int)) then 5 else 0 := by
  have h : pfxOK cl s.data.toList = true := (pfxOK_iff _ _).2 fun j g c hg hc => h j g c (by
    have h1 := (List.getElem?_eq_some_iff.1 hg).1
    have h2 := (List.getElem?_eq_some_iff.1 hc).1
    have e : s.data.toList.length = s.size := Array.length_toList
    omega) hg hc
  unfold pfxE
  rw [h]
  rfl
def intV (d : Nat) : Value := .int .i64 ((d : Nat) : Int)
theorem digs_take (l : List UInt8) (k : Nat) (c : UInt8) (h : l[k]? = some c) : digs (l.take (k + 1)) = digs (l.take k) ++ digV c := by
  have hlt := (List.getElem?_eq_some_iff.1 h).1
  have he := (List.getElem?_eq_some_iff.1 h).2
  rw [List.take_succ_eq_append_getElem hlt, he]
  simp [digs]
theorem digV_len (c : UInt8) : (digV c).length ≤ 2 := by
  unfold digV
  cases digitB (c.toNat : Int) <;> simp
theorem digs_len2 (l : List UInt8) : (digs l).length ≤ 2 * l.length := by
  induction l with
  | nil => simp [digs]
  | cons c l ih =>
    have := digV_len c
    simp only [digs, List.flatMap_cons, List.length_append, List.length_cons] at ih ⊢
    omega
theorem digs_next1 {w : World} {B : Nat} {v : Value} {l : List UInt8} {k : Nat} {c : UInt8} (h : l[k]? = some c) (hd : digitB (c.toNat : Int) = true)
    (ho : w.ownsRow B 3 1 v ((digs (l.take k)).length + 1) ((digs (l.take k)).map intV ++ [.int .i64 ((c.toNat - 48 : Nat) : Int)])) : w.ownsRow B 3 1 v (digs (l.take (k + 1))).length ((digs (l.take (k + 1))).map intV) := by
  have e : digV c = [c.toNat - 48] := by unfold digV; rw [hd]; rfl
  rw [digs_take l k c h, e, List.length_append, List.map_append]
  exact ho
theorem digs_next2 {w : World} {B : Nat} {v : Value} {l : List UInt8} {k : Nat} {c : UInt8} (h : l[k]? = some c) (hd : digitB (c.toNat : Int) = false)
    (ho : w.ownsRow B 3 1 v ((digs (l.take k)).length + 2) ((digs (l.take k)).map intV ++ [.int .i64 (((c.toNat - 55) / 10 : Nat) : Int), .int .i64 (((c.toNat - 55) % 10 : Nat) : Int)])) : w.ownsRow B 3 1 v (digs (l.take (k + 1))).length ((digs (l.take (k + 1))).map intV) := by
  have e : digV c = [(c.toNat - 55) / 10, (c.toNat - 55) % 10] := by unfold digV; rw [hd]; rfl
  rw [digs_take l k c h, e, List.length_append, List.map_append]
  exact ho
theorem dig_val (c : UInt8) (hd : digitB (c.toNat : Int) = true) : IntKind.i64.wrap (IntKind.u8.wrap (((c.toNat : Nat) : Int) - 48)) = ((c.toNat - 48 : Nat) : Int) := by
  rw [digitB_iff] at hd
  have e1 : IntKind.u8.wrap (((c.toNat : Nat) : Int) - 48) = ((c.toNat : Nat) : Int) - 48 := by rw [IntKind.wrap_u8]; omega
  rw [e1, wrap_i64 (by omega) (by omega)]
  omega
theorem div_val (x : Nat) (h : x < 1000) : IntKind.i64.wrap (Int.tdiv ((x : Nat) : Int) 10) = ((x / 10 : Nat) : Int) ∧ Int.tmod ((x : Nat) : Int) 10 = ((x % 10 : Nat) : Int) := by
  rw [Int.tdiv_eq_ediv_of_nonneg (by omega), Int.tmod_eq_emod_of_nonneg (by omega), wrap_i64 (by omega) (by omega)]
  omega
theorem intV_get (l : List Nat) (j : Nat) (h : j < l.length) : ∀ q u, ([.int .i64 ((l.getD j 0 : Nat) : Int)] : List Value)[q]? = some u → (l.map intV)[j * 1 + q]? = some u := by
  intro q u hq
  match q, hq with
  | 0, hq =>
    rw [List.getElem?_map, Nat.add_zero, Nat.mul_one, List.getElem?_eq_getElem h]
    rw [List.getD_eq_getElem?_getD, List.getElem?_eq_getElem h] at hq
    exact hq
/-- One round of the reference's sum. -/
theorem l_round2 (k d S : Nat) (x : Int) (hx : (k % 2 = 0 → x = ((2 * d : Nat) : Int)) ∧ (¬ k % 2 = 0 → x = ((d : Nat) : Int))) (hd : d < 10) (hS : S ≤ 9 * k) (hk : k < 1000000) :
    IntKind.i64.wrap (IntKind.i64.wrap (((S : Nat) : Int) + IntKind.i64.wrap (Int.tdiv x 10)) + Int.tmod x 10) = ((S + lTerm k d : Nat) : Int) := by
  have key : ∀ y : Nat, y < 100 → IntKind.i64.wrap (IntKind.i64.wrap (((S : Nat) : Int) + IntKind.i64.wrap (Int.tdiv (y : Int) 10)) + Int.tmod (y : Int) 10) = ((S + (y / 10 + y % 10) : Nat) : Int) := fun y hy => by
    rw [(div_val y (by omega)).1, (div_val y (by omega)).2]
    rw [wrap_i64 (z := ((S : Nat) : Int) + ((y / 10 : Nat) : Int)) (by omega) (by omega), wrap_i64 (by omega) (by omega)]
    omega
  by_cases h : k % 2 = 0
  · rw [hx.1 h, key _ (by omega)]
    unfold lTerm
    rw [h]
    rfl
  · rw [hx.2 h, key _ (by omega)]
    unfold lTerm
    have : (k % 2 == 0) = false := by simpa using h
    rw [this]
    rfl
/-- The check digit, compared as a number and as a text. -/
theorem chk_digit (s : ByteArray) (h : pfxE (clsOf sp0) 12 s = 0) : (IntKind.i64.wrap (IntKind.u8.wrap ((((chAt s 11).toNat : Nat) : Int) - 48)) != ((luhnD (s.extract 0 11).data.toList : Nat) : Int)) =
    ((⟨#[UInt8.ofNat (48 + luhnD (s.extract 0 11).data.toList)]⟩ : ByteArray).toList != (s.extract 11 s.size).toList) := by
  have hsz := (isin_body s h).1
  have hl := getL (s := s) (k := 11) (by omega)
  have hd : digitB ((chAt s 11).toNat : Int) = true := by
    unfold pfxE at h
    cases hp : pfxOK (clsOf sp0) s.data.toList with
    | false => rw [hp] at h; cases h
    | true => exact (pfxOK_iff _ _).1 hp 11 121 _ rfl hl
  have hL := luhnD_lt (s.extract 0 11).data.toList
  generalize luhnD (s.extract 0 11).data.toList = L at hL ⊢
  rw [dig_val _ hd]
  rw [digitB_iff] at hd
  have e1 : (s.extract 11 s.size).toList = [chAt s 11] := by
    rw [ByteArray.toList_eq, hsz]
    have : (s.extract 11 12).data.toList = (s.data.toList.drop 11).take 1 := by simp [ByteArray.data_extract]
    rw [this, List.drop_eq_getElem_cons (by have e : s.data.toList.length = s.size := Array.length_toList; omega)]
    have h3 := (List.getElem?_eq_some_iff.1 hl).2
    simp only [List.take_succ_cons, List.take_zero]
    rw [h3]
  rw [e1, ByteArray.toList_eq]
  generalize chAt s 11 = c at hd ⊢
  show (_ != _) = ([UInt8.ofNat (48 + L)] != [c])
  have key : (((c.toNat - 48 : Nat) : Int) = ((L : Nat) : Int)) ↔ ([UInt8.ofNat (48 + L)] = [c]) := by
    constructor
    · intro hh
      congr 1
      apply UInt8.toNat_inj.1
      simp
      omega
    · intro hh
      have h5 : UInt8.ofNat (48 + L) = c := by simpa using hh
      rw [← h5]
      simp
      omega
  rw [Bool.eq_iff_iff]
  simp only [bne_iff_ne, ne_eq, key]
end Go.Proofs.YtljegdokbifoiaaGreatDoor.Af
