/- Many operations that only yield values, carried out at once: their slots and values are told, the kernel looks whether they are so. No condition. -/
import Derived.Test.YtljegdokbifoiaaGreatDoorZzAf
import Derived.Laws.ResultCell
namespace Go.Proofs.YtljegdokbifoiaaGreatDoor.Af
open Go.RowKit

/-- What is to be equal. -/
inductive Ob where
  | r (x : Result Next)
  | v (x : Option Value)
  | b (x : Bool)
  | n (x : Option Nat)
  | o (x : Op)
  | h (x : List (Nat × Obj))
/-- Operations in their order: one that comes to a told value by itself, one whose value need not be told; a load out of a block that is known, or out of an element; a field's address in an element; a group under a guard with the pick behind it. -/
inductive Hn where
  | nil
  | E (i d : Nat) (v : Value) (r : Hn)
  | C (i d : Nat) (r : Hn)
  | L (i d j o : Nat) (r : Hn)
  | S (i d j o m : Nat) (r : Hn)
  | X (i d j o : Nat) (r : Hn)
  | Y (i d j o m : Nat) (r : Hn)
  | F (i d j o : Nat) (p : Nat) (r : Hn)
  | K (i d : Nat) (r : Hn)
  | J (i d t u : Nat) (z c x : Bool) (q : Hn) (r : Hn)
abbrev Gd := Option (Nat × Bool × Bool)
section
variable (P : Program) (ops : Array Oper) (n : Nat) (bs : List (Nat × Obj)) (es : List (Addr × List Value)) (W w : World)
def Hn.flat : Hn → List Nat
  | .nil => []
  | .E i _ _ r | .C i _ r | .L i _ _ _ r | .S i _ _ _ _ r | .X i _ _ _ r | .Y i _ _ _ _ r | .F i _ _ _ _ r | .K i _ r => i :: r.flat
  | .J i _ _ _ _ _ _ q r => q.flat ++ i :: r.flat
def Hn.fl : Hn → List (Nat × Nat)
  | .nil => []
  | .E i d _ r | .C i d r | .L i d _ _ r | .S i d _ _ _ r | .X i d _ _ r | .Y i d _ _ _ r | .F i d _ _ _ r | .K i d r => (i, d) :: r.fl
  | .J i d _ _ _ _ _ q r => q.fl ++ (i, d) :: r.fl
def vrun (x : Result Next) : Value := match x with | .ok (.value v) _ => v | _ => undef
def cval (l : List (Nat × Value)) (i : Nat) : Value := match ops[i]? with | some o => vrun ((xop l o.op o.type).run P W) | none => undef
def lcell (j o : Nat) : Value := match bcell bs j o with | some (_, v) => v | none => undef
def xcell (j o : Nat) : Value := match es[j]? with | some (_, vs) => vs[o]?.getD undef | none => undef
def scell (j o m : Nat) : Value := match bcells bs j o m with | some (_, vs) => .agg vs.toArray | none => undef
def ecell (j o m : Nat) : Value := match es[j]? with | some (_, vs) => .agg ((vs.drop o).take m).toArray | none => undef
def eaddr (j o : Nat) : Value := match es[j]? with | some (ad, _) => .pointer (some (ad.add o)) | none => undef
def zb (z c x : Bool) : Bool := cond z (c && x) (c || x)
def Hn.out : Hn → List (Nat × Value) → List (Nat × Value)
  | .nil, l => l
  | .E _ d v r, l => r.out ((d, v) :: l)
  | .C i d r, l => r.out ((d, cval P ops W l i) :: l)
  | .L _ d j o r, l => r.out ((d, lcell bs j o) :: l)
  | .X _ d j o r, l => r.out ((d, xcell es j o) :: l)
  | .S _ d j o m r, l => r.out ((d, scell bs j o m) :: l)
  | .Y _ d j o m r, l => r.out ((d, ecell es j o m) :: l)
  | .F _ d j o p r, l => r.out ((d, eaddr es j (o + p)) :: l)
  | .K _ d r, l => r.out ((d, undef) :: l)
  | .J _ d _ _ z c x _ r, l => r.out ((d, .bool (zb z c x)) :: l)
def outs : List (Nat × Nat) → List (Nat × Value) → List (Nat × Value)
  | [], l => l
  | p :: r, l => outs r ((p.2, undef) :: l)
def no : List (Ob × Ob) := [(.b false, .b true)]
def dstOf (j : Nat) : Option Nat := (ops[j]?).bind (·.dst)
/-- The guard lets the operation be carried out. -/
def gobs (G : Gd) (l : List (Nat × Value)) (g : Option (Nat × Bool)) : List (Ob × Ob) :=
  match g, G with
  | none, _ => []
  | some (j, b), some (t, c, b0) => [(.n (dstOf ops j), .n (some t)), (.v (look l t), .v (some (.bool c))), (.b (b == b0), .b true)]
  | _, _ => no
/-- The guard lets the operation be passed over. -/
def kobs (G : Gd) (l : List (Nat × Value)) (g : Option (Nat × Bool)) : List (Ob × Ob) :=
  match g, G with
  | some (j, b), some (t, c, b0) => [(.n (dstOf ops j), .n (some t)), (.v (look l t), .v (some (.bool c))), (.b (b == !b0), .b true)]
  | _, _ => no
def uobs (l : List (Nat × Value)) (g : Option (Nat × Bool)) : List (Ob × Ob) :=
  match g with
  | some (j, _) => match dstOf ops j with | some t => [(.v (look l t), .v (some undef))] | none => no
  | none => no
def isUn (g : Option (Nat × Bool)) (G : Gd) : Bool :=
  match g, G with
  | some (j, _), some (t, _, _) => match dstOf ops j with | some t' => !Nat.beq t t' | none => true
  | _, _ => true
def hobs (l : List (Nat × Value)) (o : Oper) (d : Nat) : List (Ob × Ob) := [(.n o.dst, .n (some d)), (.b (Nat.blt d n), .b true), (.b (oks l o.op), .b true)]
def sobs (G : Gd) : List (Nat × Nat) → List (Nat × Value) → List (Ob × Ob)
  | [], _ => []
  | (i, d) :: r, l => match ops[i]? with
    | none => no
    | some o => (.n o.dst, .n (some d)) :: (.b (Nat.blt d n), .b true) :: (cond (isUn ops o.guard G) (uobs ops l o.guard) (kobs ops G l o.guard) ++ sobs G r ((d, undef) :: l))
def lT (op : Op) : Option (Nat × Operand) := match op with | .load t x => some (t, x) | _ => none
def fT (op : Op) : Option (Nat × Operand × Nat) := match op with | .fieldAddr s x f => some (s, x, f) | _ => none
def fOK (s f p : Nat) : Bool := match P.underlying s with | some (.struct fs) => (match fs[f]? with | some z => Nat.beq z.offset p && posT P z.type | none => false) | _ => false
def Hn.obs : Hn → Gd → List (Nat × Value) → List (Ob × Ob)
  | .nil, _, _ => []
  | .E i d v r, G, l => match ops[i]? with
    | none => no
    | some o => hobs n l o d ++ (gobs ops G l o.guard ++ (.r ((xop l o.op o.type).run P w), .r (.ok (.value v) w)) :: r.obs G ((d, v) :: l))
  | .C i d r, G, l => match ops[i]? with
    | none => no
    | some o => hobs n l o d ++ (gobs ops G l o.guard ++ (.r ((xop l o.op o.type).run P w), .r (.ok (.value (cval P ops W l i)) w)) :: r.obs G ((d, cval P ops W l i) :: l))
  | .L i d j q r, G, l => match ops[i]? with
    | none => no
    | some o => hobs n l o d ++ (gobs ops G l o.guard ++ ((match bcell bs j q, lT o.op with
      | some (b, _), some (t, x) => [(.v (some (ev l x)), .v (some (.pointer (some ⟨b, q, none⟩)))), (.b (scalT P t), .b true)]
      | _, _ => no) ++ r.obs G ((d, lcell bs j q) :: l)))
  | .S i d j q m r, G, l => match ops[i]? with
    | none => no
    | some o => hobs n l o d ++ (gobs ops G l o.guard ++ ((match bcells bs j q m, lT o.op with
      | some (b, vs), some (t, x) => [(.v (some (ev l x)), .v (some (.pointer (some ⟨b, q, none⟩)))), (.b (aggT P t vs.length), .b true), (.n (some vs.length), .n (some m))]
      | _, _ => no) ++ r.obs G ((d, scell bs j q m) :: l)))
  | .X i d j q r, G, l => match ops[i]? with
    | none => no
    | some o => hobs n l o d ++ (gobs ops G l o.guard ++ ((match es[j]?, lT o.op with
      | some (ad, vs), some (t, x) => [(.v (some (ev l x)), .v (some (.pointer (some (ad.add q))))), (.v vs[q]?, .v (some (xcell es j q))), (.b (scalT P t), .b true)]
      | _, _ => no) ++ r.obs G ((d, xcell es j q) :: l)))
  | .Y i d j q m r, G, l => match ops[i]? with
    | none => no
    | some o => hobs n l o d ++ (gobs ops G l o.guard ++ ((match es[j]?, lT o.op with
      | some (ad, vs), some (t, x) => [(.v (some (ev l x)), .v (some (.pointer (some (ad.add q))))), (.b (aggT P t ((vs.drop q).take m).length), .b true), (.n (some ((vs.drop q).take m).length), .n (some m))]
      | _, _ => no) ++ r.obs G ((d, ecell es j q m) :: l)))
  | .F i d j q p r, G, l => match ops[i]? with
    | none => no
    | some o => hobs n l o d ++ (gobs ops G l o.guard ++ ((match es[j]?, fT o.op with
      | some (ad, _), some (s, x, f) => [(.v (some (ev l x)), .v (some (.pointer (some (ad.add q))))), (.b (fOK P s f p), .b true)]
      | _, _ => no) ++ r.obs G ((d, eaddr es j (q + p)) :: l)))
  | .K i d r, G, l => sobs ops n G [(i, d)] l ++ r.obs G ((d, undef) :: l)
  | .J i d t u z c x q r, G, l => match ops[i]? with
    | none => no
    | some o => (q.fl.map fun p => (Ob.v (look l p.2), Ob.v none)) ++ (q.obs (some (t, c, z)) l ++ (sobs ops n (some (t, c, !z)) q.fl l ++
      ([(.n o.dst, .n (some d)), (.b (Nat.blt d n), .b true), (.b (Nat.beq u t), .b false), (.v (look l t), .v (some (.bool c))), (.v (look (q.out P ops bs es W l) u), .v (some (.bool x))), (.v (look (outs q.fl l) u), .v (some undef)),
        (.o o.op, .o (cond z (.pick (.tmp t) (.tmp u) (.const (.bool false))) (.pick (.tmp t) (.const (.bool true)) (.tmp u))))] ++ (gobs ops G l o.guard ++ r.obs G ((d, .bool (zb z c x)) :: l)))))
end

section
variable {P : Program} {ops : Array Oper} {n : Nat} {bs : List (Nat × Obj)} {es : List (Addr × List Value)} {Q : Exit → Act → World → Prop} {S : World → Prop} {R : List (Nat × Bool)} {w w0 : World} {f : Bool} {l : List (Nat × Value)}
def WS (f : Bool) (S : World → Prop) (w w1 : World) : Prop := cond f (S w1) (w1 = w)
structure Kw (w0 : World) (bs : List (Nat × Obj)) (es : List (Addr × List Value)) (w : World) : Prop where
  bx : Bx w0 bs w
  el : ∀ p ∈ es, El w p.1 p.2
def Gd.ok : Gd → Prop
  | none => True
  | some (_, c, b) => c = b

theorem ob_v {x y : Option Value} (h : Ob.v x = Ob.v y) : x = y := by cases h; rfl
theorem ob_b {x y : Bool} (h : Ob.b x = Ob.b y) : x = y := by cases h; rfl
theorem ob_n {x y : Option Nat} (h : Ob.n x = Ob.n y) : x = y := by cases h; rfl
theorem ob_r {x y : Result Next} (h : Ob.r x = Ob.r y) : x = y := by cases h; rfl
theorem ob_h {x y : List (Nat × Obj)} (h : Ob.h x = Ob.h y) : x = y := by cases h; rfl
theorem ob_o {x y : Op} (h : Ob.o x = Ob.o y) : x = y := by cases h; rfl
theorem no_false {α : Prop} (h : ∀ p ∈ no, p.1 = p.2) : α := by have := h (.b false, .b true) (by simp [no]); cases this

theorem gobs_ok {G : Gd} (hG : G.ok) {g : Option (Nat × Bool)} (h : ∀ p ∈ gobs ops G l g, p.1 = p.2) : gok ops l g true := by
  unfold gobs at h
  split at h
  · exact gok_none
  · rename_i j b t c b0
    have h1 := ob_n (h _ (List.mem_cons_self ..))
    have h2 := ob_v (h (.v (look l t), .v (some (.bool c))) (by simp))
    have h3 := ob_b (h (.b (b == b0), .b true) (by simp))
    have hc : c = b0 := hG
    refine gok_some h1 h2 ?_
    rw [hc]
    have : b = b0 := by simpa using h3
    rw [this]
    exact beq_self_eq_true _
  · exact no_false h
theorem kobs_ok {G : Gd} (hG : G.ok) {g : Option (Nat × Bool)} (h : ∀ p ∈ kobs ops G l g, p.1 = p.2) : gok ops l g false := by
  unfold kobs at h
  split at h
  · rename_i j b t c b0
    have h1 := ob_n (h _ (List.mem_cons_self ..))
    have h2 := ob_v (h (.v (look l t), .v (some (.bool c))) (by simp))
    have h3 := ob_b (h (.b (b == !b0), .b true) (by simp))
    have hc : c = b0 := hG
    refine gok_some h1 h2 ?_
    rw [hc]
    have : b = !b0 := by simpa using h3
    rw [this]
    cases b0 <;> rfl
  · exact no_false h
theorem uobs_ok {g : Option (Nat × Bool)} (h : ∀ p ∈ uobs ops l g, p.1 = p.2) : gok ops l g false := by
  unfold uobs at h
  split at h
  · split at h
    · rename_i j b t ht
      exact gok_undef ht (ob_v (h _ (List.mem_cons_self ..)))
    · exact no_false h
  · exact no_false h
theorem st1 {i d : Nat} {l2 : List (Nat × Value)} {o : Oper} {v : Value} {a : Act} (hF : Fr n l a) (hF2 : Fr n l2 a) (ho : ops[i]? = some o) (h1 : o.dst = some d) (hd : Nat.blt d n = true) (hk : oks l2 o.op = true) (hg : gok ops l o.guard true)
    (hr : ∀ w1, WS f S w w1 → (xop l2 o.op o.type).run P w1 = .ok (.value v) w1) (hS : f = false → S w) (k : ∀ a, Fr n ((d, v) :: l) a → wpO P ops Q S R a w) : wpO P ops Q S ((i, f) :: R) a w := by
  cases f with
  | true => exact ⟨o, v, ho, .inl ⟨wanted_of_gok hF rfl hg, fun w hS => by rw [execOp_xop hF2 rfl rfl hk]; exact hr w hS⟩, by rw [h1]; exact k _ (hF.put d hd v)⟩
  | false =>
    show wpOp P ops Q i _ a w
    unfold wpOp
    simp only [ho, wanted_of_gok hF rfl hg, if_true]
    refine .inl ?_
    unfold Oper.wp
    rw [execOp_xop hF2 rfl rfl hk, hr w rfl]
    exact ⟨.inr (hS rfl), by rw [h1]; exact k _ (hF.put d hd v)⟩
theorem sk1 {i d : Nat} {o : Oper} {a : Act} (hF : Fr n l a) (ho : ops[i]? = some o) (h1 : o.dst = some d) (hd : Nat.blt d n = true) (hg : gok ops l o.guard false)
    (hS : f = false → S w) (k : ∀ a, Fr n ((d, undef) :: l) a → wpO P ops Q S R a w) : wpO P ops Q S ((i, f) :: R) a w := by
  cases f with
  | true => exact ⟨o, undef, ho, .inr ⟨wanted_of_gok hF rfl hg, rfl⟩, by rw [h1]; exact k _ (hF.put d hd undef)⟩
  | false =>
    show wpOp P ops Q i _ a w
    unfold wpOp
    simp only [ho, wanted_of_gok hF rfl hg, Bool.false_eq_true, if_false]
    exact ⟨.inr (hS rfl), by rw [h1]; exact k _ (hF.put d hd undef)⟩
theorem look_cons {d k : Nat} {v : Value} (h : k ≠ d) : look ((d, v) :: l) k = look l k := by
  simp only [look]
  cases hb : Nat.beq d k with
  | true => exact absurd (Nat.eq_of_beq_eq_true hb).symm h
  | false => rfl
theorem look_out (w : World) (q : Hn) (k : Nat) : ∀ (l : List (Nat × Value)), (∀ p ∈ q.fl, k ≠ p.2) → look (q.out P ops bs es w l) k = look l k := by
  induction q with
  | nil => intro l _; rfl
  | E i d v r ih | C i d r ih | L i d j o r ih | X i d j o r ih | S i d j o m r ih | Y i d j o m r ih | F i d j o m r ih | K i d r ih =>
    intro l h
    simp only [Hn.fl, List.forall_mem_cons] at h
    simp only [Hn.out]
    rw [ih _ h.2, look_cons h.1]
  | J i d t u z c x q r ihq ih =>
    intro l h
    simp only [Hn.fl, List.forall_mem_append, List.forall_mem_cons] at h
    simp only [Hn.out]
    rw [ih _ h.2.2, look_cons h.2.1]
theorem look_outs (k : Nat) : ∀ (q : List (Nat × Nat)) (l : List (Nat × Value)), (∀ p ∈ q, k ≠ p.2) → look (outs q l) k = look l k
  | [], _, _ => rfl
  | p :: r, l, h => by
    simp only [List.forall_mem_cons] at h
    simp only [outs]
    rw [look_outs k r _ h.2, look_cons h.1]
theorem fresh_ne {q : List (Nat × Nat)} (h : ∀ p ∈ q.map (fun p => (Ob.v (look l p.2), Ob.v none)), p.1 = p.2) {k : Nat} {u : Value} (hk : look l k = some u) : ∀ p ∈ q, k ≠ p.2 := fun p hp e => by
  have := ob_v (h (.v (look l p.2), .v none) (List.mem_map.2 ⟨p, hp, rfl⟩))
  rw [← e, hk] at this
  cases this
theorem fr_sub {l' : List (Nat × Value)} {a : Act} (h : Fr n l' a) (hs : ∀ k u, look l k = some u → look l' k = some u) : Fr n l a := ⟨h.dfr, h.size, fun k u hk => h.get k u (hs k u hk)⟩

theorem sk_run (G : Gd) (hG : G.ok) (hS : f = false → S w) : ∀ (q : List (Nat × Nat)) (l : List (Nat × Value)) (a : Act), Fr n l a → (∀ p ∈ sobs ops n G q l, p.1 = p.2) →
    (∀ a, Fr n (outs q l) a → wpO P ops Q S R a w) → wpO P ops Q S (q.map (fun p => (p.1, f)) ++ R) a w
  | [], _, _, hF, _, k => k _ hF
  | (i, d) :: q, l, a, hF, h, k => by
    unfold sobs at h
    cases ho : ops[i]? with
    | none => rw [ho] at h; exact no_false h
    | some o =>
      rw [ho] at h
      simp only [List.forall_mem_cons, List.forall_mem_append] at h
      obtain ⟨h1, h2, h3, h4⟩ := h
      refine sk1 hF ho (ob_n h1) (ob_b h2) ?_ hS fun a hF' => sk_run G hG hS q _ a hF' h4 k
      cases hu : isUn ops o.guard G with
      | true => rw [hu] at h3; exact uobs_ok h3
      | false => rw [hu] at h3; exact kobs_ok hG h3
theorem fl_flat (q : Hn) : q.fl.map (fun p => (p.1, f)) = q.flat.map (·, f) := by
  induction q with
  | nil => rfl
  | E i d v r ih | C i d r ih | L i d j o r ih | X i d j o r ih | S i d j o m r ih | Y i d j o m r ih | F i d j o m r ih | K i d r ih => simp only [Hn.fl, Hn.flat, List.map_cons, ih]
  | J i d t u z c x q r ihq ih => simp only [Hn.fl, Hn.flat, List.map_append, List.map_cons, ihq, ih]

theorem hn_run (hw : ∀ w1, WS f S w w1 → Kw w0 bs es w1) (hS : f = false → S w) : ∀ (h : Hn) (G : Gd) (l : List (Nat × Value)) (a : Act) (R : List (Nat × Bool)), G.ok → Fr n l a → (∀ w1, ∀ p ∈ h.obs P ops n bs es w w1 G l, p.1 = p.2) →
    (∀ a, Fr n (h.out P ops bs es w l) a → wpO P ops Q S R a w) → wpO P ops Q S (h.flat.map (·, f) ++ R) a w := by
  have hd : ∀ {l : List (Nat × Value)} {o : Oper} {d : Nat}, (∀ p ∈ hobs n l o d, p.1 = p.2) → o.dst = some d ∧ Nat.blt d n = true ∧ oks l o.op = true := fun h => by
    simp only [hobs, List.forall_mem_cons] at h
    exact ⟨ob_n h.1, ob_b h.2.1, ob_b h.2.2.1⟩
  intro h
  induction h with
  | nil => intro G l a R _ hF _ k; exact k _ hF
  | E i d v r ih =>
    intro G l a R hG hF h k
    cases ho : ops[i]? with
    | none => have := h w; unfold Hn.obs at this; rw [ho] at this; exact no_false this
    | some o =>
      have h' : ∀ w1, _ := fun w1 => by
        have h := h w1
        unfold Hn.obs at h
        rw [ho] at h
        simp only [List.forall_mem_append, List.forall_mem_cons] at h
        exact h
      obtain ⟨e1, e2, e3⟩ := hd (h' w).1
      exact st1 hF hF ho e1 e2 e3 (gobs_ok hG (h' w).2.1) (fun w1 _ => ob_r (h' w1).2.2.1) hS fun a hF' => ih G _ a R hG hF' (fun w1 => (h' w1).2.2.2) k
  | C i d r ih =>
    intro G l a R hG hF h k
    cases ho : ops[i]? with
    | none => have := h w; unfold Hn.obs at this; rw [ho] at this; exact no_false this
    | some o =>
      have h' : ∀ w1, _ := fun w1 => by
        have h := h w1
        unfold Hn.obs at h
        rw [ho] at h
        simp only [List.forall_mem_append, List.forall_mem_cons] at h
        exact h
      obtain ⟨e1, e2, e3⟩ := hd (h' w).1
      exact st1 hF hF ho e1 e2 e3 (gobs_ok hG (h' w).2.1) (fun w1 _ => ob_r (h' w1).2.2.1) hS fun a hF' => ih G _ a R hG hF' (fun w1 => (h' w1).2.2.2) k
  | L i d j q r ih =>
    intro G l a R hG hF h k
    cases ho : ops[i]? with
    | none => have := h w; unfold Hn.obs at this; rw [ho] at this; exact no_false this
    | some o =>
      have h' : ∀ w1, _ := fun w1 => by
        have h := h w1
        unfold Hn.obs at h
        rw [ho] at h
        simp only [List.forall_mem_append] at h
        exact h
      obtain ⟨e1, e2, e3⟩ := hd (h' w).1
      refine st1 hF hF ho e1 e2 e3 (gobs_ok hG (h' w).2.1) (fun w1 hs => ?_) hS fun a hF' => ih G _ a R hG hF' (fun w1 => (h' w1).2.2.2) k
      have h3 := (h' w1).2.2.1
      split at h3
      · rename_i b u t x hb hl
        simp only [List.forall_mem_cons] at h3
        obtain ⟨g1, g3, -⟩ := h3
        unfold lT at hl
        split at hl
        · rename_i t' x' hop
          cases hl
          rw [hop]
          have : lcell bs j q = u := by unfold lcell; rw [hb]
          rw [this]
          exact r_loadC (hw w1 hs).bx j q hb (Option.some.inj (ob_v g1)) (ob_b g3)
        · cases hl
      · exact no_false h3
  | S i d j q m r ih =>
    intro G l a R hG hF h k
    cases ho : ops[i]? with
    | none => have := h w; unfold Hn.obs at this; rw [ho] at this; exact no_false this
    | some o =>
      have h' : ∀ w1, _ := fun w1 => by
        have h := h w1
        unfold Hn.obs at h
        rw [ho] at h
        simp only [List.forall_mem_append] at h
        exact h
      obtain ⟨e1, e2, e3⟩ := hd (h' w).1
      refine st1 hF hF ho e1 e2 e3 (gobs_ok hG (h' w).2.1) (fun w1 hs => ?_) hS fun a hF' => ih G _ a R hG hF' (fun w1 => (h' w1).2.2.2) k
      have h3 := (h' w1).2.2.1
      split at h3
      · rename_i b vs t x hb hl
        simp only [List.forall_mem_cons] at h3
        obtain ⟨g1, g2, g3, -⟩ := h3
        unfold lT at hl
        split at hl
        · rename_i t' x' hop
          cases hl
          rw [hop]
          have hm : vs.length = m := Option.some.inj (ob_n g3)
          have : scell bs j q m = .agg vs.toArray := by unfold scell; rw [hb]
          rw [this]
          exact r_loadS (hw w1 hs).bx j q (by rw [hm]; exact hb) (Option.some.inj (ob_v g1)) (ob_b g2)
        · cases hl
      · exact no_false h3
  | X i d j q r ih =>
    intro G l a R hG hF h k
    cases ho : ops[i]? with
    | none => have := h w; unfold Hn.obs at this; rw [ho] at this; exact no_false this
    | some o =>
      have h' : ∀ w1, _ := fun w1 => by
        have h := h w1
        unfold Hn.obs at h
        rw [ho] at h
        simp only [List.forall_mem_append] at h
        exact h
      obtain ⟨e1, e2, e3⟩ := hd (h' w).1
      refine st1 hF hF ho e1 e2 e3 (gobs_ok hG (h' w).2.1) (fun w1 hs => ?_) hS fun a hF' => ih G _ a R hG hF' (fun w1 => (h' w1).2.2.2) k
      have h3 := (h' w1).2.2.1
      split at h3
      · rename_i ad vs t x hb hl
        simp only [List.forall_mem_cons] at h3
        obtain ⟨g1, g2, g3, -⟩ := h3
        unfold lT at hl
        split at hl
        · rename_i t' x' hop
          cases hl
          rw [hop]
          exact r_loadF ((hw w1 hs).el _ (List.mem_of_getElem? hb)) (ob_v g2) (Option.some.inj (ob_v g1)) (ob_b g3)
        · cases hl
      · exact no_false h3
  | Y i d j q m r ih =>
    intro G l a R hG hF h k
    cases ho : ops[i]? with
    | none => have := h w; unfold Hn.obs at this; rw [ho] at this; exact no_false this
    | some o =>
      have h' : ∀ w1, _ := fun w1 => by
        have h := h w1
        unfold Hn.obs at h
        rw [ho] at h
        simp only [List.forall_mem_append] at h
        exact h
      obtain ⟨e1, e2, e3⟩ := hd (h' w).1
      refine st1 hF hF ho e1 e2 e3 (gobs_ok hG (h' w).2.1) (fun w1 hs => ?_) hS fun a hF' => ih G _ a R hG hF' (fun w1 => (h' w1).2.2.2) k
      have h3 := (h' w1).2.2.1
      split at h3
      · rename_i ad vs t x hb hl
        simp only [List.forall_mem_cons] at h3
        obtain ⟨g1, g2, g3, -⟩ := h3
        unfold lT at hl
        split at hl
        · rename_i t' x' hop
          cases hl
          rw [hop]
          have hm : ((vs.drop q).take m).length = m := Option.some.inj (ob_n g3)
          have : ecell es j q m = .agg ((vs.drop q).take m).toArray := by unfold ecell; rw [hb]
          rw [this]
          exact r_loadE ((hw w1 hs).el _ (List.mem_of_getElem? hb)) (by rw [hm]) (Option.some.inj (ob_v g1)) (ob_b g2)
        · cases hl
      · exact no_false h3
  | F i d j q p r ih =>
    intro G l a R hG hF h k
    cases ho : ops[i]? with
    | none => have := h w; unfold Hn.obs at this; rw [ho] at this; exact no_false this
    | some o =>
      have h' : ∀ w1, _ := fun w1 => by
        have h := h w1
        unfold Hn.obs at h
        rw [ho] at h
        simp only [List.forall_mem_append] at h
        exact h
      obtain ⟨e1, e2, e3⟩ := hd (h' w).1
      refine st1 hF hF ho e1 e2 e3 (gobs_ok hG (h' w).2.1) (fun w1 hs => ?_) hS fun a hF' => ih G _ a R hG hF' (fun w1 => (h' w1).2.2.2) k
      have h3 := (h' w1).2.2.1
      split at h3
      · rename_i ad vs s x f hb hl
        simp only [List.forall_mem_cons] at h3
        obtain ⟨g1, g2, -⟩ := h3
        unfold fT at hl
        split at hl
        · rename_i t' x' f' hop
          cases hl
          rw [hop]
          have : eaddr es j (q + p) = .pointer (some (ad.add (q + p))) := by unfold eaddr; rw [hb]
          rw [this]
          exact r_fieldAddr (Option.some.inj (ob_v g1)) (ob_b g2)
        · cases hl
      · exact no_false h3
  | K i d r ih =>
    intro G l a R hG hF h k
    have h' : ∀ w1, _ := fun w1 => by
      have h := h w1
      unfold Hn.obs at h
      rw [List.forall_mem_append] at h
      exact h
    exact sk_run (f := f) (R := r.flat.map (·, f) ++ R) G hG hS [(i, d)] l a hF (h' w).1 fun a hF' => ih G _ a R hG hF' (fun w1 => (h' w1).2) k
  | J i d t u z c x q r ihq ih =>
    intro G l a R hG hF h k
    cases ho : ops[i]? with
    | none => have := h w; unfold Hn.obs at this; rw [ho] at this; exact no_false this
    | some o =>
      have h' : ∀ w1, _ := fun w1 => by
        have h := h w1
        unfold Hn.obs at h
        rw [ho] at h
        simp only [List.forall_mem_append, List.forall_mem_cons] at h
        exact h
      obtain ⟨f0, -, f2, ⟨f3, f4, f5, f6, f7, f8, f9, -⟩, f10, -⟩ := h' w
      have hfr := fun {k : Nat} {u : Value} (hk : look l k = some u) => fresh_ne f0 hk
      have hlt := ob_v f6
      have hut : t ≠ u := fun e => by have := ob_b f5; rw [← e] at this; simp at this
      have step : ∀ (y : Value) (a : Act), Fr n l a → Fr n ((u, y) :: l) a → (zb z c x = cond z (bif c then (bif z then (match y with | .bool x => x | _ => x) else x) else false) (bif c then true else (match y with | .bool x => x | _ => x)) ∨ True) →
          ((c = z → y = .bool x)) → wpO P ops Q S ((i, f) :: (r.flat.map (·, f) ++ R)) a w := fun y a hF1 hF2 _ hy => by
        refine st1 hF1 hF2 ho (ob_n f3) (ob_b f4) ?_ (gobs_ok hG f10) (fun w1 _ => ?_) hS fun a hF' => ih G _ a R hG hF' (fun w1 => (h' w1).2.2.2.2.2) k
        · rw [ob_o f9]
          have e1 : (look ((u, y) :: l) t).isSome = true := by rw [look_cons hut, hlt]; rfl
          have e2 : (look ((u, y) :: l) u).isSome = true := by simp [look]
          cases z <;> simp [oks, Op.operands, okx, e1, e2]
        · rw [ob_o f9]
          have e1 : look ((u, y) :: l) t = some (.bool c) := by rw [look_cons hut, hlt]
          have e2 : look ((u, y) :: l) u = some y := by simp [look]
          cases z with
          | true => exact r_and e1 fun hc => by rw [e2, hy hc]
          | false => exact r_or e1 fun hc => by rw [e2, hy hc]
      show wpO P ops Q S ((q.flat ++ i :: r.flat).map (·, f) ++ R) a w
      rw [List.map_append, List.append_assoc, List.map_cons, List.cons_append]
      have hcz : c = z ∨ c = !z := by cases c <;> cases z <;> simp
      rcases hcz with hc | hc
      · refine ihq (some (t, c, z)) l a _ hc hF (fun w1 => (h' w1).2.1) fun a' hF' => step (.bool x) a' (fr_sub hF' fun k u hk => by rw [look_out w q k l (hfr hk)]; exact hk) (fr_sub hF' fun k v hk => ?_) (.inr trivial) (fun _ => rfl)
        by_cases e : k = u
        · rw [e] at hk ⊢
          have : look ((u, Value.bool x) :: l) u = some (.bool x) := by simp [look]
          rw [this] at hk
          rw [← hk]
          exact ob_v f7
        · rw [look_cons e] at hk
          rw [look_out w q k l (hfr hk)]; exact hk
      · rw [← fl_flat]
        refine sk_run (some (t, c, !z)) hc hS q.fl l a hF f2 fun a' hF' => step undef a' (fr_sub hF' fun k u hk => by rw [look_outs k _ l (hfr hk)]; exact hk) (fr_sub hF' fun k v hk => ?_) (.inr trivial) (fun e => by rw [hc] at e; cases z <;> cases e)
        by_cases e : k = u
        · rw [e] at hk ⊢
          have : look ((u, undef) :: l) u = some undef := by simp [look]
          rw [this] at hk
          rw [← hk]
          exact ob_v f8
        · rw [look_cons e] at hk
          rw [look_outs k _ l (hfr hk)]; exact hk

def eqIx : List Nat → Bool → List (Nat × Bool) → Bool
  | [], _, _ => true
  | i :: r, f, (j, g) :: s => Nat.beq i j && ((f == g) && eqIx r f s)
  | _ :: _, _, [] => false
theorem eqIx_ok : ∀ (p : List Nat) (f : Bool) (R : List (Nat × Bool)), eqIx p f R = true → R = p.map (·, f) ++ R.drop p.length
  | [], _, _, _ => rfl
  | i :: p, f, [], h => by simp [eqIx] at h
  | i :: p, f, (j, g) :: R, h => by
    simp only [eqIx, Bool.and_eq_true] at h
    have e1 := Nat.eq_of_beq_eq_true h.1
    have e2 : f = g := by simpa using h.2.1
    subst e1; subst e2
    have := eqIx_ok p f R h.2.2
    simp only [List.map_cons, List.length_cons, List.drop_succ_cons, List.cons_append]
    rw [← this]
/-- What is kept of the frame. -/
def kpo (l : List (Nat × Value)) : List (Nat × Value) → List (Ob × Ob)
  | [] => []
  | p :: r => (.v (look l p.1), .v (some p.2)) :: kpo l r
theorem kpo_ok {l : List (Nat × Value)} {a : Act} (hF : Fr n l a) : ∀ (kp : List (Nat × Value)), (∀ p ∈ kpo l kp, p.1 = p.2) → Fr n kp a := fun kp h => by
  refine hF.sub kp ?_
  clear hF
  induction kp with
  | nil => intro p hp; cases hp
  | cons q r ih =>
    simp only [kpo, List.forall_mem_cons] at h
    intro p hp
    rcases List.mem_cons.1 hp with rfl | hp
    · exact ob_v h.1
    · exact ih h.2 p hp
theorem all_eq {L : List (Ob × Ob)} (h : L.map Prod.fst = L.map Prod.snd) : ∀ p ∈ L, p.1 = p.2 := by
  induction L with
  | nil => intro p hp; cases hp
  | cons q r ih =>
    simp only [List.map_cons, List.cons.injEq] at h
    intro p hp
    rcases List.mem_cons.1 hp with rfl | hp
    · exact h.1
    · exact ih h.2 p hp
theorem Kw.nil {w0 w : World} {bs : List (Nat × Obj)} (h : Bx w0 bs w) : Kw w0 bs [] w := ⟨h, fun _ hp => by cases hp⟩
theorem Kw.cons {w0 w : World} {bs : List (Nat × Obj)} {es : List (Addr × List Value)} {ad : Addr} {vs : List Value} (h : Kw w0 bs es w) (he : El w ad vs) : Kw w0 bs ((ad, vs) :: es) w := ⟨h.bx, fun p hp => by
  rcases List.mem_cons.1 hp with rfl | hp
  · exact he
  · exact h.el p hp⟩
/-- A frame and the tests behind it. -/
theorem bt (f : Bool) (G : Gd) (hG : G.ok) (h : Hn) (kp : List (Nat × Value)) {a : Act} (hF : Fr n l a) (hw : ∀ w1, WS f S w w1 → Kw w0 bs es w1) (hS : f = false → S w) (k : ∀ a, Fr n kp a → wpO P ops Q S (R.drop h.flat.length) a w)
    (hR : eqIx h.flat f R = true := by kernel_rfl) (ho : ∀ w1, (h.obs P ops n bs es w w1 G l).map Prod.fst = (h.obs P ops n bs es w w1 G l).map Prod.snd := by intro _; kernel_rfl)
    (hk : (kpo (h.out P ops bs es w l) kp).map Prod.fst = (kpo (h.out P ops bs es w l) kp).map Prod.snd := by kernel_rfl) : wpO P ops Q S R a w := by
  rw [eqIx_ok _ _ _ hR]
  exact hn_run hw hS h G l a _ hG hF (fun w1 => all_eq (ho w1)) fun a' hF' => k a' (kpo_ok hF' kp (all_eq hk))
/-- In a plain region. -/
theorem bE (G : Gd) (hG : G.ok) (h : Hn) (kp : List (Nat × Value)) {a : Act} (hF : Fr n l a) (hw : Kw w0 bs es w) (k : ∀ a, Fr n kp a → wpO P ops Q (fun _ => True) (R.drop h.flat.length) a w)
    (hR : eqIx h.flat false R = true := by kernel_rfl) (ho : ∀ w1, (h.obs P ops n bs es w w1 G l).map Prod.fst = (h.obs P ops n bs es w w1 G l).map Prod.snd := by intro _; kernel_rfl)
    (hk : (kpo (h.out P ops bs es w l) kp).map Prod.fst = (kpo (h.out P ops bs es w l) kp).map Prod.snd := by kernel_rfl) : wpO P ops Q (fun _ => True) R a w :=
  bt false G hG h kp hF (fun _ e => by cases e; exact hw) (fun _ => trivial) k hR ho hk
/-- In a drawn region: in whatever world. -/
theorem bF (G : Gd) (hG : G.ok) (h : Hn) (kp : List (Nat × Value)) {a : Act} (hF : Fr n l a) (hw : ∀ w1, S w1 → Kw w0 bs es w1) (k : ∀ a, Fr n kp a → wpO P ops Q S (R.drop h.flat.length) a w)
    (hR : eqIx h.flat true R = true := by kernel_rfl) (ho : ∀ w1, (h.obs P ops n bs es w w1 G l).map Prod.fst = (h.obs P ops n bs es w w1 G l).map Prod.snd := by intro _; kernel_rfl)
    (hk : (kpo (h.out P ops bs es w l) kp).map Prod.fst = (kpo (h.out P ops bs es w l) kp).map Prod.snd := by kernel_rfl) : wpO P ops Q S R a w :=
  bt true G hG h kp hF hw (fun e => by cases e) k hR ho hk

/-- Short forms. -/
theorem b0 (h : Hn) (kp : List (Nat × Value)) {a : Act} (hF : Fr n l a) (hw : Kw w0 bs es w) (k : ∀ a, Fr n kp a → wpO P ops Q (fun _ => True) (R.drop h.flat.length) a w)
    (hR : eqIx h.flat false R = true := by kernel_rfl) (ho : ∀ w1, (h.obs P ops n bs es w w1 none l).map Prod.fst = (h.obs P ops n bs es w w1 none l).map Prod.snd := by intro _; kernel_rfl)
    (hk : (kpo (h.out P ops bs es w l) kp).map Prod.fst = (kpo (h.out P ops bs es w l) kp).map Prod.snd := by kernel_rfl) : wpO P ops Q (fun _ => True) R a w := bE none trivial h kp hF hw k hR ho hk
theorem b1 (t : Nat) {c b : Bool} (hc : c = b) (h : Hn) (kp : List (Nat × Value)) {a : Act} (hF : Fr n l a) (hw : Kw w0 bs es w) (k : ∀ a, Fr n kp a → wpO P ops Q (fun _ => True) (R.drop h.flat.length) a w)
    (hR : eqIx h.flat false R = true := by kernel_rfl) (ho : ∀ w1, (h.obs P ops n bs es w w1 (some (t, c, b)) l).map Prod.fst = (h.obs P ops n bs es w w1 (some (t, c, b)) l).map Prod.snd := by intro _; kernel_rfl)
    (hk : (kpo (h.out P ops bs es w l) kp).map Prod.fst = (kpo (h.out P ops bs es w l) kp).map Prod.snd := by kernel_rfl) : wpO P ops Q (fun _ => True) R a w := bE (some (t, c, b)) hc h kp hF hw k hR ho hk
theorem d0 (h : Hn) (kp : List (Nat × Value)) {a : Act} (hF : Fr n l a) (hw : ∀ w1, S w1 → Kw w0 bs es w1) (k : ∀ a, Fr n kp a → wpO P ops Q S (R.drop h.flat.length) a w)
    (hR : eqIx h.flat true R = true := by kernel_rfl) (ho : ∀ w1, (h.obs P ops n bs es w w1 none l).map Prod.fst = (h.obs P ops n bs es w w1 none l).map Prod.snd := by intro _; kernel_rfl)
    (hk : (kpo (h.out P ops bs es w l) kp).map Prod.fst = (kpo (h.out P ops bs es w l) kp).map Prod.snd := by kernel_rfl) : wpO P ops Q S R a w := bF none trivial h kp hF hw k hR ho hk
theorem d1 (t : Nat) {c b : Bool} (hc : c = b) (h : Hn) (kp : List (Nat × Value)) {a : Act} (hF : Fr n l a) (hw : ∀ w1, S w1 → Kw w0 bs es w1) (k : ∀ a, Fr n kp a → wpO P ops Q S (R.drop h.flat.length) a w)
    (hR : eqIx h.flat true R = true := by kernel_rfl) (ho : ∀ w1, (h.obs P ops n bs es w w1 (some (t, c, b)) l).map Prod.fst = (h.obs P ops n bs es w w1 (some (t, c, b)) l).map Prod.snd := by intro _; kernel_rfl)
    (hk : (kpo (h.out P ops bs es w l) kp).map Prod.fst = (kpo (h.out P ops bs es w l) kp).map Prod.snd := by kernel_rfl) : wpO P ops Q S R a w := bF (some (t, c, b)) hc h kp hF hw k hR ho hk

/-! calls, blocks and stores, the operation itself not told -/
def opA (ops : Array Oper) (i : Nat) : Op := match ops[i]? with | some o => o.op | none => .move (.func 0)
def tyA (ops : Array Oper) (i : Nat) : TypeId := match ops[i]? with | some o => o.type | none => 0
theorem shp_of {i d : Nat} {g : Option (Nat × Bool)} (h : shs ops[i]? = some (some d, g)) : shp ops[i]? = some (some d, opA ops i, tyA ops i, g) := by
  obtain ⟨o, h1, h2, h3⟩ := shs_some h
  simp [shp, opA, tyA, h1, h2, h3]
theorem sC {a : Act} (i d : Nat) {g : Option (Nat × Bool)} {f : Nat} {args : Array Value} {w1 : World} {R' : Ending → World → Prop} (hF : Fr n l a) (hg : gok ops l g true) (hc : Calls P f args w1 R')
    (k : ∀ e w', R' e w' → ∃ v, e = .returned v ∧ S w' ∧ ∀ a, Fr n ((d, v) :: l) a → wpO P ops Q S R a w')
    (ho : shs ops[i]? = some (some d, g) := by kernel_rfl) (hd : Nat.blt d n = true := by kernel_rfl) (hk : oks l (opA ops i) = true := by kernel_rfl)
    (hr : (xop l (opA ops i) (tyA ops i)).run P w = .ok (.enter f args) w1 := by kernel_rfl) : wpO P ops Q S ((i, false) :: R) a w :=
  stC hF (shp_of ho) hd hk hg hr hc k
theorem sA {a : Act} (i d : Nat) {g : Option (Nat × Bool)} (mk : Nat → Value) (o : Obj) (hF : Fr n l a) (hg : gok ops l g true) (hB : Bx w0 bs w) (hS : ∀ w' b, Bx w0 ((b, o) :: bs) w' → S w')
    (k : ∀ b w', Bx w0 ((b, o) :: bs) w' → Below w.heap.size w w' → ∀ a, Fr n ((d, mk b) :: l) a → wpO P ops Q S R a w')
    (ho : shs ops[i]? = some (some d, g) := by kernel_rfl) (hd : Nat.blt d n = true := by kernel_rfl) (hk : oks l (opA ops i) = true := by kernel_rfl)
    (hr : ∀ w, (xop l (opA ops i) (tyA ops i)).run P w = .ok (.value (mk w.heap.size)) (w.alloc o) := by intro _; kernel_rfl) : wpO P ops Q S ((i, false) :: R) a w :=
  stA hF (shp_of ho) hd hk hg hr hB hS k
def bPtr (b : Nat) : Value := .pointer (some ⟨b, 0, none⟩)
def sT (op : Op) : Option (Nat × Operand × Operand) := match op with | .store t x y => some (t, x, y) | _ => none
def bOf (bs : List (Nat × Obj)) (j : Nat) : Nat := match bs[j]? with | some (b, _) => b | none => 0
def tOf (bs : List (Nat × Obj)) (j : Nat) : Nat := match bs[j]? with | some (_, .cells _ T _) => T | _ => 0
def gEq (x y : Option (Nat × Bool)) : Bool := match x, y with | none, none => true | some (a, b), some (a', b') => Nat.beq a a' && (b == b') | _, _ => false
theorem gEq_ok {x y : Option (Nat × Bool)} (h : gEq x y = true) : x = y := by
  unfold gEq at h
  split at h
  · rfl
  · rename_i a b a' b'
    rw [Bool.and_eq_true] at h
    rw [Nat.eq_of_beq_eq_true h.1, show b = b' by simpa using h.2]
  · cases h
def wobs (P : Program) (ops : Array Oper) (l : List (Nat × Value)) (bs bs' : List (Nat × Obj)) (i j q : Nat) (g : Option (Nat × Bool)) : List (Ob × Ob) :=
  match ops[i]?, bs[j]? with
  | some o, some (b, .cells cs T fr) => match sT o.op with
    | some (t, x, y) => [(.n o.dst, .n none), (.b (oks l o.op), .b true), (.b (gEq o.guard g), .b true), (.n (some fr.1), .n (some 0)), (.n (some fr.2), .n (some 0)), (.v (some (ev l x)), .v (some (.pointer (some ⟨b, q, none⟩)))),
        (.b (szT P t (ev l y).cells.toList.length), .b true), (.b (Nat.ble (q + (ev l y).cells.toList.length) cs.size), .b true), (.b ((ev l y).cells.toList.all (·.oneCell')), .b true),
        (.h (bs.set j (b, .cells (cs.toList.take q ++ (ev l y).cells.toList ++ cs.toList.drop (q + (ev l y).cells.toList.length)).toArray T (0, 0))), .h bs')]
    | none => no
  | _, _ => no
theorem sW {a : Act} (i j q : Nat) (bs' : List (Nat × Obj)) {g : Option (Nat × Bool)} (hF : Fr n l a) (hg : gok ops l g true) (hB : Bx w0 bs w) (hS : lastB ops i = true ∨ ∀ w', Bx w0 bs' w' → S w')
    (k : ∀ w', Bx w0 bs' w' → Turned w w' (bOf bs j) (tOf bs j) → ∀ a, Fr n l a → wpO P ops Q S R a w')
    (ho : (wobs P ops l bs bs' i j q g).map Prod.fst = (wobs P ops l bs bs' i j q g).map Prod.snd := by kernel_rfl) : wpO P ops Q S ((i, false) :: R) a w := by
  have h := all_eq ho
  clear ho
  unfold wobs at h
  split at h
  · rename_i o b cs T fr hi hb
    split at h
    · rename_i t x y hop
      simp only [List.forall_mem_cons] at h
      obtain ⟨h1, h2, h3, h4, h5, h6, h7, h8, h9, h10, -⟩ := h
      have hop' : o.op = .store t x y := by
        unfold sT at hop
        split at hop
        · rename_i e; cases hop; exact e
        · cases hop
      have hfr : fr = (0, 0) := by
        obtain ⟨f1, f2⟩ := fr
        have a1 : f1 = 0 := Option.some.inj (ob_n h4)
        have a2 : f2 = 0 := Option.some.inj (ob_n h5)
        rw [a1, a2]
      subst hfr
      have hgd : o.guard = g := gEq_ok (ob_b h3)
      have hb2 : bOf bs j = b := by unfold bOf; rw [hb]
      have hT2 : tOf bs j = T := by unfold tOf; rw [hb]
      rw [hb2, hT2] at k
      have h10 := ob_h h10
      refine stWs (t := t) (x := x) (y := y) (ty := o.type) (g := g) (vs := (ev l y).cells.toList) (cs := cs.toList) j q hF (by simp [shp, hi, ob_n h1, hop', hgd]) (by rw [← hop']; exact ob_b h2) hg hB (by simpa using hb) (Option.some.inj (ob_v h6)) rfl (ob_b h7) (by simpa using ob_b h8) (ob_b h9) rfl ?_ ?_
      · rw [h10]; exact hS
      · rw [h10]; exact k
    · exact no_false h
  · exact no_false h
end
section
variable {P : Program} {Q : Exit → Act → World → Prop} {w : World} {n : Nat} {l : List (Nat × Value)}
theorem kS {c : Code} {a : Act} (h : (cl c).wp P (Exit.then ((cr c).wp P Q) Q) a w) (hc : isSeq c = true := by kernel_rfl) : c.wp P Q a w := c_seq hc h
theorem kC {c : Code} {a : Act} (t : Nat) (b : Bool) (hF : Fr n l a) (h1 : b = true → (cthn c).wp P Q a w) (h2 : b = false → (cels c).wp P Q a w) (hc : isCond c (.tmp t) = true := by kernel_rfl) (hb : look l t = some (.bool b) := by kernel_rfl) : c.wp P Q a w := c_cond hF hc hb h1 h2
theorem rp {c : Code} {a : Act} (m : Nat) (h : wpO P (rops c) Q (fun _ => True) (plainOrd m) a w) (hc : isReg c false = true := by kernel_rfl) (hr : plainOrd (rops c).size = plainOrd m := by kernel_rfl) : c.wp P Q a w := reg_plain (plainOrd m) hc hr h
theorem rd {c : Code} {a : Act} (S : World → Prop) (m : Nat) (ds : List Dg) (hS : S w.drew) (h : wpO P (rops c) Q S (ds.map fun x => (x.i, x.f)) a w.drew) (hQ : ∀ c a a' w, Q (.panic c) a' w → Q (.panic c) a w := by intro _ _ _ _ h; exact absurd h.2 (by simp)) (hc : isReg c true = true := by kernel_rfl) (hm : P.follows .mixedOrders = true := by kernel_rfl)
    (hk : (Region.noSelect (rops c) && chkD .any (rops c) m ds) = true := by kernel_rfl) : c.wp P Q a w := reg_draw S m ds _ hc hm hk rfl hQ hS h
end

/-- Two results: a struct's cell and a slot. -/
theorem retCT {P : Program} {w w0 : World} {bs : List (Nat × Obj)} {n : Nat} {l : List (Nat × Value)} {a : Act} {fn : Func} {R : Ending → World → Prop} {t T u b : Nat} {v : Value} {vs : List Value} (hF : Fr n l a) (hr : fn.results = #[.cell t T, .tmp u]) (hl : look l t = some (.pointer (some ⟨b, 0, none⟩))) (hu : look l u = some v)
    (hB : Bx w0 bs w) (j : Nat) (hb : bcells bs j 0 vs.length = some (b, vs)) (hs : aggT P T vs.length = true)
    (hlen : (match bs[j]? with | some (_, .cells cs _ _) => Nat.beq cs.size vs.length | _ => false) = true) (h : R (.returned (.tuple #[.agg vs.toArray, v])) w) : bodyPost P fn R .ret a w := by
  unfold bcells at hb
  split at hb
  · rename_i b' cs T' fr hbb
    rw [hbb] at hlen
    simp only [Option.some.injEq, Prod.mk.injEq, List.drop_zero] at hb
    obtain ⟨rfl, h2⟩ := hb
    have hsz : cs.size = vs.length := Nat.eq_of_beq_eq_true hlen
    have hcs : cs = vs.toArray := by
      rw [← h2, List.take_of_length_le (by simp [hsz])]
    subst hcs
    have hagg := hs
    unfold aggT at hagg
    rw [Bool.and_eq_true] at hagg
    cases hud : P.underlying T with
    | none => rw [hud] at hagg; cases hagg.1
    | some d =>
      rw [hud] at hagg
      cases hi : P.info? T with
      | none => rw [hi] at hagg; cases hagg.2
      | some inf =>
        rw [hi] at hagg
        have e := Nat.eq_of_beq_eq_true hagg.2
        refine bodyPost_ret (v := .tuple #[.agg vs.toArray, v]) ?_ hF.dfr h
        rw [results_cell_tmp hr]
        have g1 : a.tmps.getD t undef = .pointer (some ⟨b', 0, none⟩) := by have := hF.get _ _ hl; simp [this]
        have g2 : a.tmps.getD u undef = v := by have := hF.get _ _ hu; simp [this]
        rw [g1, g2]
        have h3 := run_loadVar_row (P := P) w b' T' T vs.toArray fr d (hB.at j hbb) hud (by cases d <;> first | rfl | (cases hagg.1; done)) (by simp [hi, e])
        simp [asAddr, h3]
  · cases hb
theorem own_blk0 {w : World} {base b e size : Nat} (h : w.heap[b]? = some (.cells #[] e (0, 0))) (hb : base ≤ b) : w.ownsRow base e size (.slice (some ⟨b, 0, none⟩) 0 0) 0 [] :=
  ⟨by simp, .inr ⟨b, 0, #[], rfl, hb, h, Nat.le_refl _, Nat.zero_le _, by simp, by simp⟩⟩
end Go.Proofs.YtljegdokbifoiaaGreatDoor.Af
