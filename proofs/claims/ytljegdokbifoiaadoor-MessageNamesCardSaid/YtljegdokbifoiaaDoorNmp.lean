/- Words of a list, by number. No condition. -/
import Derived.Test.YtljegdokbifoiaaDoorKn
namespace Go.Proofs.YtljegdokbifoiaaDoor.Af
open Go.RowKit

def strC (l : List ByteArray) : List Value := l.map .string
def nameB (l : List ByteArray) (n : Int) : ByteArray := bif decide (n < 0) || decide ((l.length : Int) ≤ n) then ⟨#[]⟩ else l.getD n.toNat ⟨#[]⟩
theorem strC_get (l : List ByteArray) (k : Nat) (h : k < l.length) : ∀ j u, ([.string (l.getD k ⟨#[]⟩)] : List Value)[j]? = some u → (strC l)[k * 1 + j]? = some u := by
  intro j u hj
  match j, hj with
  | 0, hj =>
    unfold strC
    rw [List.getElem?_map, Nat.add_zero, Nat.mul_one, List.getElem?_eq_getElem h]
    rw [List.getD_eq_getElem?_getD, List.getElem?_eq_getElem h] at hj
    exact hj
def kindL : List ByteArray := [⟨#[112, 97, 121, 109, 101, 110, 116]⟩, ⟨#[100, 118, 112]⟩, ⟨#[102, 114, 101, 101]⟩, ⟨#[112, 108, 101, 100, 103, 101]⟩, ⟨#[114, 101, 108, 101, 97, 115, 101]⟩]
def operL : List ByteArray := [⟨#[115, 117, 98, 109, 105, 116]⟩, ⟨#[97, 109, 101, 110, 100]⟩, ⟨#[99, 97, 110, 99, 101, 108]⟩, ⟨#[104, 111, 108, 100]⟩, ⟨#[114, 101, 115, 117, 109, 101]⟩]
def prioL : List ByteArray := [⟨#[110, 111, 114, 109, 97, 108]⟩, ⟨#[104, 105, 103, 104]⟩, ⟨#[117, 114, 103, 101, 110, 116]⟩]
theorem same_word (s : ByteArray) : (s.toList == s.toList) = true := beq_self_eq_true _
theorem same_word' (s : ByteArray) : (s.toList != s.toList) = false := by unfold bne; rw [same_word]; rfl
end Go.Proofs.YtljegdokbifoiaaDoor.Af
