import PyProof.Rows.All
import Wide.All
import OpenK.AllK
import Wide.FinOn
import HandS.ForMost
import HandS.Wide
import HandS.TupAny
import HandS.ForExc
import HandS.More
import HandS.WideMore
import HandS.IsInst
import HandS.Style
import HandS.TupMul
import HandS.Conv
import HandS.Defaults
import HandS.CallSlots
import HandS.Flt
import HandS.ReSub
import KE.GoesEnum
import HandS.Zip
import HandS.Rev
import PyProof.AutoSeq1
import HandS.Flow
import HandS.WordsExc
import HandS.Head0
import HandS.Head1
import HandS.Head2
import HandS.HeadEnd
import HandS.HeadHook1
import HandS.HeadHook2
import HandS.HeadHook3
import HandS.Words
import PySem.Challenge.RW_shortpapers_k02_primes_are_told_from_pro
set_option Elab.async false
set_option linter.all false
set_option autoImplicit false
/-! Values without a heap: lists are values as long as they are owned by one name; what is shared is frozen. -/
namespace L2.PV
open PySem PySem.Spec PyProof.Rows
/-- plain data. tup, lst: shared, never changed again; scr: the script; acc: a list that one name owns, of shared things; box: a list that one name owns, of anything -/
inductive D where
  | non | bl (b : Bool) | int (i : Int) | str (s : Str)
  | tup (ds : List D) | lst (ds : List D) | scr (ds : List D) | acc (ds : List D) | box (ds : List D)
  | obj (c : Nat) (ns : List Str) (ds : List D)
  | fn (i n : Nat) | kd (ks : List Str) (ds : List D)
  | own (c : Nat) (ns : List Str) (ds : List D)
/-- what the data leans on: the written part, the classes' addresses -/
structure RC where
  K : PySem.W.Frag
  cl : Nat → Addr
  w : World
  nf : Nat
  fa : Nat → Addr
  ar : Nat → Nat
mutual
/-- v stands for shared data, in the part G of the heap that never changes -/
def Rp (C : RC) (G : Hp) : D → V → Prop
  | .non, v => v = .non
  | .bl b, v => v = .bl b
  | .int i, v => v = .int i
  | .str s, v => v = .str s
  | .tup ds, v => ∃ a vs, v = .ref a ∧ SqT C.K G a vs ∧ Rps C G ds vs
  | .lst ds, v => ∃ a vs, v = .ref a ∧ G a = some (.lst vs) ∧ Rps C G ds vs
  | .scr ds, v => ∃ a vs, v = .ref a ∧ SqL C.K G a vs ∧ Rps C G ds vs
  | .acc _, _ => False
  | .box _, _ => False
  | .obj c ns ds, v => ∃ a dx vs, v = .ref a ∧ G a = some (.ins (C.cl c) dx (ns.zip vs)) ∧ ns.length = vs.length ∧ Rps C G ds vs
  | .own _ _ _, _ => False
  | .fn i n, v => v = .ref (C.fa i) ∧ i < C.nf ∧ n = C.ar i
  | .kd ks ds, v => ∃ a vs, v = .ref a ∧ ks.length = vs.length ∧ (∀ (i : Nat) (x : Str) (y : V), ks[i]? = some x → vs[i]? = some y → KDct C.K C.w a x y) ∧ Rps C G ds vs
def Rps (C : RC) (G : Hp) : List D → List V → Prop
  | [], vs => vs = []
  | d :: ds, vs => ∃ v ws, vs = v :: ws ∧ Rp C G d v ∧ Rps C G ds ws
end
mutual
/-- .. or for what one name owns: O are the addresses that it may change -/
def RpO (C : RC) (G H : Hp) : D → V → List Addr → Prop
  | .acc ds, v, O => ∃ a vs, v = .ref a ∧ O = [a] ∧ H a = some (.lst vs) ∧ Rps C G ds vs
  | .box ds, v, O => ∃ a vs O', v = .ref a ∧ O = a :: O' ∧ H a = some (.lst vs) ∧ RpOs C G H ds vs O'
  | .own c ns ds, v, O => ∃ a dx vs O', v = .ref a ∧ O = a :: O' ∧ H a = some (.ins (C.cl c) dx (ns.zip vs)) ∧ ns.length = vs.length ∧ RpOs C G H ds vs O'
  | .non, v, O => O = [] ∧ v = .non
  | .bl b, v, O => O = [] ∧ v = .bl b
  | .int i, v, O => O = [] ∧ v = .int i
  | .str s, v, O => O = [] ∧ v = .str s
  | .tup ds, v, O => O = [] ∧ Rp C G (.tup ds) v
  | .lst ds, v, O => O = [] ∧ Rp C G (.lst ds) v
  | .scr ds, v, O => O = [] ∧ Rp C G (.scr ds) v
  | .obj c ns ds, v, O => O = [] ∧ Rp C G (.obj c ns ds) v
  | .fn i n, v, O => O = [] ∧ Rp C G (.fn i n) v
  | .kd ks ds, v, O => O = [] ∧ Rp C G (.kd ks ds) v
def RpOs (C : RC) (G H : Hp) : List D → List V → List Addr → Prop
  | [], vs, O => vs = [] ∧ O = []
  | d :: ds, vs, O => ∃ v ws O1 O2, vs = v :: ws ∧ O = O1 ++ O2 ∧ RpO C G H d v O1 ∧ RpOs C G H ds ws O2
end
/-- shared data -/
def fz : D → Bool
  | .acc _ => false
  | .box _ => false
  | .own _ _ _ => false
  | _ => true
@[simp] theorem fz_non : fz .non = true := (rfl)
@[simp] theorem fz_bl (b : Bool) : fz (.bl b) = true := (rfl)
@[simp] theorem fz_int (i : Int) : fz (.int i) = true := (rfl)
@[simp] theorem fz_str (s : Str) : fz (.str s) = true := (rfl)
@[simp] theorem fz_tup (ds : List D) : fz (.tup ds) = true := (rfl)
@[simp] theorem fz_lst (ds : List D) : fz (.lst ds) = true := (rfl)
@[simp] theorem fz_scr (ds : List D) : fz (.scr ds) = true := (rfl)
@[simp] theorem fz_acc (ds : List D) : fz (.acc ds) = false := (rfl)
@[simp] theorem fz_box (ds : List D) : fz (.box ds) = false := (rfl)
@[simp] theorem fz_obj (c : Nat) (ns : List Str) (ds : List D) : fz (.obj c ns ds) = true := (rfl)
@[simp] theorem fz_fn (i n : Nat) : fz (.fn i n) = true := (rfl)
@[simp] theorem fz_kd (ks : List Str) (ds : List D) : fz (.kd ks ds) = true := (rfl)
@[simp] theorem fz_own (c : Nat) (ns : List Str) (ds : List D) : fz (.own c ns ds) = false := (rfl)
theorem RpO.fz {C : RC} {G H : Hp} {d : D} {v : V} {O : List Addr} (f : fz d = true) : RpO C G H d v O ↔ O = [] ∧ Rp C G d v := by
  cases d <;> first | exact Iff.rfl | (exact absurd f (by simp [PV.fz]))
/-! ### shared data stays -/
theorem SqT.same {K : PySem.W.Frag} {H H' : Hp} {a : Addr} {xs : List V} (e : Same H H') (h : SqT K H a xs) : SqT K H' a xs := by
  rcases h with (h | ⟨o, h⟩) | h
  · exact .inl (.inl (e _ _ h))
  · exact .inl (.inr ⟨o, e _ _ h⟩)
  · exact .inr h
mutual
theorem Rp.same {C : RC} {G G' : Hp} (e : Same G G') : ∀ (d : D) (v : V), Rp C G d v → Rp C G' d v
  | .non, _, h => h
  | .bl _, _, h => h
  | .int _, _, h => h
  | .str _, _, h => h
  | .tup ds, _, ⟨a, vs, h1, h2, h3⟩ => ⟨a, vs, h1, SqT.same e h2, Rps.same e ds vs h3⟩
  | .lst ds, _, ⟨a, vs, h1, h2, h3⟩ => ⟨a, vs, h1, e _ _ h2, Rps.same e ds vs h3⟩
  | .scr ds, _, ⟨a, vs, h1, h2, h3⟩ => ⟨a, vs, h1, e.seq h2, Rps.same e ds vs h3⟩
  | .acc _, _, h => h.elim
  | .box _, _, h => h.elim
  | .obj c ns ds, _, ⟨a, dx, vs, h1, h2, h3, h4⟩ => ⟨a, dx, vs, h1, e _ _ h2, h3, Rps.same e ds vs h4⟩
  | .own _ _ _, _, h => h.elim
  | .fn _ _, _, h => h
  | .kd ks ds, _, ⟨a, vs, h1, h2, h3, h4⟩ => ⟨a, vs, h1, h2, h3, Rps.same e ds vs h4⟩
theorem Rps.same {C : RC} {G G' : Hp} (e : Same G G') : ∀ (ds : List D) (vs : List V), Rps C G ds vs → Rps C G' ds vs
  | [], _, h => h
  | d :: ds, _, ⟨v, ws, h1, h2, h3⟩ => ⟨v, ws, h1, Rp.same e d v h2, Rps.same e ds ws h3⟩
end
mutual
/-- what is owned stays while its addresses are left alone -/
theorem RpO.frame {C : RC} {G G' H H' : Hp} (e : Same G G') : ∀ (d : D) (v : V) (O : List Addr), RpO C G H d v O → (∀ a ∈ O, ∀ o, H a = some o → H' a = some o) → RpO C G' H' d v O
  | .acc ds, _, _, ⟨a, vs, h1, h2, h3, h4⟩, k => ⟨a, vs, h1, h2, k a (by rw [h2]; exact List.mem_cons_self) _ h3, Rps.same e ds vs h4⟩
  | .box ds, _, _, ⟨a, vs, O', h1, h2, h3, h4⟩, k => ⟨a, vs, O', h1, h2, k a (by rw [h2]; exact List.mem_cons_self) _ h3, RpOs.frame e ds vs O' h4 fun b hb => k b (by rw [h2]; exact List.mem_cons_of_mem _ hb)⟩
  | .own c ns ds, _, _, ⟨a, dx, vs, O', h1, h2, h3, h5, h4⟩, k => ⟨a, dx, vs, O', h1, h2, k a (by rw [h2]; exact List.mem_cons_self) _ h3, h5, RpOs.frame e ds vs O' h4 fun b hb => k b (by rw [h2]; exact List.mem_cons_of_mem _ hb)⟩
  | .non, _, _, h, _ => h
  | .bl _, _, _, h, _ => h
  | .int _, _, _, h, _ => h
  | .str _, _, _, h, _ => h
  | .tup ds, v, _, ⟨h1, h2⟩, _ => ⟨h1, Rp.same e (.tup ds) v h2⟩
  | .lst ds, v, _, ⟨h1, h2⟩, _ => ⟨h1, Rp.same e (.lst ds) v h2⟩
  | .scr ds, v, _, ⟨h1, h2⟩, _ => ⟨h1, Rp.same e (.scr ds) v h2⟩
  | .obj c ns ds, v, _, ⟨h1, h2⟩, _ => ⟨h1, Rp.same e (.obj c ns ds) v h2⟩
  | .fn i n, v, _, ⟨h1, h2⟩, _ => ⟨h1, h2⟩
  | .kd ks ds, v, _, ⟨h1, h2⟩, _ => ⟨h1, Rp.same e (.kd ks ds) v h2⟩
theorem RpOs.frame {C : RC} {G G' H H' : Hp} (e : Same G G') : ∀ (ds : List D) (vs : List V) (O : List Addr), RpOs C G H ds vs O → (∀ a ∈ O, ∀ o, H a = some o → H' a = some o) → RpOs C G' H' ds vs O
  | [], _, _, h, _ => h
  | d :: ds, _, _, ⟨v, ws, O1, O2, h1, h2, h3, h4⟩, k => ⟨v, ws, O1, O2, h1, h2, RpO.frame e d v O1 h3 fun b hb => k b (by rw [h2]; exact List.mem_append_left _ hb), RpOs.frame e ds ws O2 h4 fun b hb => k b (by rw [h2]; exact List.mem_append_right _ hb)⟩
end
mutual
/-- what is owned stands in the heap -/
theorem RpO.inH {C : RC} {G H : Hp} : ∀ (d : D) (v : V) (O : List Addr), RpO C G H d v O → ∀ a ∈ O, H a ≠ none
  | .acc ds, _, _, ⟨a, vs, h1, h2, h3, h4⟩, b, hb => by
    subst h2; rw [List.mem_singleton.mp hb, h3]; simp
  | .box ds, _, _, ⟨a, vs, O', h1, h2, h3, h4⟩, b, hb => by
    subst h2
    rcases List.mem_cons.mp hb with r | r
    · rw [r, h3]; simp
    · exact RpOs.inH ds vs O' h4 b r
  | .own c ns ds, _, _, ⟨a, dx, vs, O', h1, h2, h3, h5, h4⟩, b, hb => by
    subst h2
    rcases List.mem_cons.mp hb with r | r
    · rw [r, h3]; simp
    · exact RpOs.inH ds vs O' h4 b r
  | .non, _, _, h, b, hb => by rw [h.1] at hb; cases hb
  | .bl _, _, _, h, b, hb => by rw [h.1] at hb; cases hb
  | .int _, _, _, h, b, hb => by rw [h.1] at hb; cases hb
  | .str _, _, _, h, b, hb => by rw [h.1] at hb; cases hb
  | .tup ds, v, _, h, b, hb => by rw [h.1] at hb; cases hb
  | .lst ds, v, _, h, b, hb => by rw [h.1] at hb; cases hb
  | .scr ds, v, _, h, b, hb => by rw [h.1] at hb; cases hb
  | .obj c ns ds, v, _, h, b, hb => by rw [h.1] at hb; cases hb
  | .fn i n, v, _, h, b, hb => by rw [h.1] at hb; cases hb
  | .kd ks ds, v, _, h, b, hb => by rw [h.1] at hb; cases hb
theorem RpOs.inH {C : RC} {G H : Hp} : ∀ (ds : List D) (vs : List V) (O : List Addr), RpOs C G H ds vs O → ∀ a ∈ O, H a ≠ none
  | [], _, _, h, b, hb => by rw [h.2] at hb; cases hb
  | d :: ds, _, _, ⟨v, ws, O1, O2, h1, h2, h3, h4⟩, b, hb => by
    subst h2
    rcases List.mem_append.mp hb with r | r
    · exact RpO.inH d v O1 h3 b r
    · exact RpOs.inH ds ws O2 h4 b r
end
/-! ### rows of shared data, by place -/
theorem Rps.iff {C : RC} {G : Hp} : ∀ {ds : List D} {vs : List V}, Rps C G ds vs ↔ ds.length = vs.length ∧ ∀ (i : Nat) (d : D) (v : V), ds[i]? = some d → vs[i]? = some v → Rp C G d v
  | [], vs => by
    constructor
    · intro h
      have h : vs = [] := h
      subst h; exact ⟨rfl, fun i d v e => by simp at e⟩
    · rintro ⟨h, _⟩
      exact List.length_eq_zero_iff.mp h.symm
  | d :: ds, vs => by
    constructor
    · rintro ⟨v, ws, rfl, h1, h2⟩
      obtain ⟨l, p⟩ := Rps.iff.mp h2
      refine ⟨by simp [l], fun i d' v' e e' => ?_⟩
      cases i with
      | zero => simp at e e'; subst e; subst e'; exact h1
      | succ i => exact p i d' v' (by simpa using e) (by simpa using e')
    · rintro ⟨l, p⟩
      cases vs with
      | nil => simp at l
      | cons v ws => exact ⟨v, ws, rfl, p 0 d v rfl rfl, Rps.iff.mpr ⟨by simpa using l, fun i d' v' e e' => p (i + 1) d' v' (by simpa using e) (by simpa using e')⟩⟩
theorem Rps.len {C : RC} {G : Hp} {ds : List D} {vs : List V} (h : Rps C G ds vs) : ds.length = vs.length := (Rps.iff.mp h).1
theorem Rps.get {C : RC} {G : Hp} {ds : List D} {vs : List V} (h : Rps C G ds vs) {i : Nat} {d : D} (e : ds[i]? = some d) : ∃ v, vs[i]? = some v ∧ Rp C G d v := by
  obtain ⟨l, p⟩ := Rps.iff.mp h
  have hi : i < vs.length := by rw [← l]; exact (List.getElem?_eq_some_iff.mp e).1
  exact ⟨vs[i], by simp [hi], p i d _ e (by simp [hi])⟩
theorem Rps.getV {C : RC} {G : Hp} {ds : List D} {vs : List V} (h : Rps C G ds vs) {i : Nat} {v : V} (e : vs[i]? = some v) : ∃ d, ds[i]? = some d ∧ Rp C G d v := by
  obtain ⟨l, p⟩ := Rps.iff.mp h
  have hi : i < ds.length := by rw [l]; exact (List.getElem?_eq_some_iff.mp e).1
  exact ⟨ds[i], by simp [hi], p i _ v (by simp [hi]) e⟩
theorem Rps.app {C : RC} {G : Hp} : ∀ {ds es : List D} {vs ws : List V}, Rps C G ds vs → Rps C G es ws → Rps C G (ds ++ es) (vs ++ ws)
  | [], _, vs, _, h, k => by
    have h : vs = [] := h
    subst h; exact k
  | d :: ds, es, _, ws, ⟨v, us, rfl, h1, h2⟩, k => ⟨v, us ++ ws, rfl, h1, Rps.app h2 k⟩
theorem Rps.snoc {C : RC} {G : Hp} {ds : List D} {vs : List V} {d : D} {v : V} (h : Rps C G ds vs) (k : Rp C G d v) : Rps C G (ds ++ [d]) (vs ++ [v]) := h.app ⟨v, [], rfl, k, rfl⟩
theorem Rps.take {C : RC} {G : Hp} : ∀ {ds : List D} {vs : List V} (n : Nat), Rps C G ds vs → Rps C G (ds.take n) (vs.take n)
  | _, _, 0, _ => by simp [Rps]
  | [], vs, n + 1, h => by
    have h : vs = [] := h
    subst h; simp [Rps]
  | d :: ds, _, n + 1, ⟨v, ws, rfl, h1, h2⟩ => ⟨v, ws.take n, rfl, h1, Rps.take n h2⟩
theorem Rps.drop {C : RC} {G : Hp} : ∀ {ds : List D} {vs : List V} (n : Nat), Rps C G ds vs → Rps C G (ds.drop n) (vs.drop n)
  | _, _, 0, h => h
  | [], vs, n + 1, h => by
    have h : vs = [] := h
    subst h; simp [Rps]
  | d :: ds, _, n + 1, ⟨v, ws, rfl, h1, h2⟩ => Rps.drop n h2
theorem Rps.set {C : RC} {G : Hp} {d : D} {v : V} (k : Rp C G d v) : ∀ {ds : List D} {vs : List V} (n : Nat), Rps C G ds vs → Rps C G (ds.set n d) (vs.set n v)
  | [], vs, _, h => by
    have h : vs = [] := h
    subst h; simp [Rps]
  | e :: ds, _, 0, ⟨u, ws, rfl, h1, h2⟩ => ⟨v, ws, rfl, k, h2⟩
  | e :: ds, _, n + 1, ⟨u, ws, rfl, h1, h2⟩ => ⟨u, ws.set n v, rfl, h1, Rps.set k n h2⟩
theorem Rps.rev {C : RC} {G : Hp} {ds : List D} {vs : List V} (h : Rps C G ds vs) : Rps C G ds.reverse vs.reverse := by
  induction ds generalizing vs with
  | nil =>
    have h : vs = [] := h
    subst h; simp [Rps]
  | cons d ds ih =>
    obtain ⟨v, ws, rfl, h1, h2⟩ := h
    simp only [List.reverse_cons]
    exact (ih h2).snoc h1
theorem Rps.erase {C : RC} {G : Hp} : ∀ {ds : List D} {vs : List V} (n : Nat), Rps C G ds vs → Rps C G (ds.eraseIdx n) (vs.eraseIdx n)
  | [], vs, _, h => by
    have h : vs = [] := h
    subst h; simp [Rps]
  | e :: ds, _, 0, ⟨u, ws, rfl, h1, h2⟩ => h2
  | e :: ds, _, n + 1, ⟨u, ws, rfl, h1, h2⟩ => ⟨u, ws.eraseIdx n, rfl, h1, Rps.erase n h2⟩
theorem Rps.dropLast {C : RC} {G : Hp} {ds : List D} {vs : List V} (h : Rps C G ds vs) : Rps C G ds.dropLast vs.dropLast := by
  rw [List.dropLast_eq_take, List.dropLast_eq_take, h.len]
  exact h.take _
theorem Rps.rep {C : RC} {G : Hp} {ds : List D} {vs : List V} (h : Rps C G ds vs) : ∀ k : Nat, Rps C G (List.replicate k ds).flatten (List.replicate k vs).flatten
  | 0 => by simp [Rps]
  | k + 1 => by
    simp only [List.replicate_succ, List.flatten_cons]
    exact h.app (h.rep k)
theorem Rps.ints {C : RC} {G : Hp} : ∀ (ns : List Int), Rps C G (ns.map D.int) (ns.map V.int)
  | [] => rfl
  | n :: ns => ⟨.int n, ns.map V.int, rfl, rfl, Rps.ints ns⟩
theorem Rps.ints_inv {C : RC} {G : Hp} : ∀ (ns : List Int) (vs : List V), Rps C G (ns.map D.int) vs → vs = ns.map V.int
  | [], _, h => h
  | n :: ns, _, ⟨v, ws, rfl, h1, h2⟩ => by
    have h1 : v = .int n := h1
    rw [h1, Rps.ints_inv ns ws h2]; rfl
/-! ### worlds, steps -/
/-- from a heap H with its shared part G and the addresses O that may be changed, to another one; p: nothing is changed at all -/
structure Step (p : Bool) (H G : Hp) (O : List Addr) (H' G' : Hp) (O' : List Addr) : Prop where
  gg : Same G G'
  fr : ∀ b o, H b = some o → b ∉ O → H' b = some o
  ow : ∀ a, a ∈ O' → a ∈ O ∨ H a = none
  gn : ∀ a, G' a ≠ none → G a ≠ none ∨ a ∈ O ∨ H a = none
  sm : p = true → Same H H'
structure Wd (H G : Hp) (O : List Addr) : Prop where
  gh : Same G H
  nd : O.Nodup
  og : ∀ a ∈ O, G a = none
theorem Step.refl {H G : Hp} {O : List Addr} (p : Bool) : Step p H G O H G O :=
  ⟨Same.refl _, fun _ _ h _ => h, fun _ h => .inl h, fun _ h => .inl h, fun _ => Same.refl _⟩
theorem Step.trans {p q : Bool} {H G H1 G1 H2 G2 : Hp} {O O1 O2 : List Addr} (a : Step p H G O H1 G1 O1) (b : Step q H1 G1 O1 H2 G2 O2) : Step (p && q) H G O H2 G2 O2 where
  gg := a.gg.trans b.gg
  fr := fun c o h n => b.fr c o (a.fr c o h n) fun z => by
    rcases a.ow c z with r | r
    · exact n r
    · rw [h] at r; cases r
  ow := fun c h => by
    rcases b.ow c h with r | r
    · exact a.ow c r
    · cases e : H c with
      | none => exact .inr rfl
      | some o =>
        refine .inl (Classical.byContradiction fun n => ?_)
        rw [a.fr c o e n] at r; cases r
  gn := fun c h => by
    rcases b.gn c h with r | r | r
    · exact a.gn c r
    · rcases a.ow c r with r | r
      · exact .inr (.inl r)
      · exact .inr (.inr r)
    · cases e : H c with
      | none => exact .inr (.inr rfl)
      | some o =>
        refine .inr (.inl (Classical.byContradiction fun n => ?_))
        rw [a.fr c o e n] at r; cases r
  sm := fun h => by
    rw [Bool.and_eq_true] at h
    exact (a.sm h.1).trans (b.sm h.2)
/-- less is owned behind it -/
theorem Step.sub {p : Bool} {H G H' G' : Hp} {O O' O'' : List Addr} (a : Step p H G O H' G' O') (h : ∀ b ∈ O'', b ∈ O') : Step p H G O H' G' O'' :=
  ⟨a.gg, a.fr, fun b hb => a.ow b (h b hb), a.gn, a.sm⟩
/-- something besides is owned and left alone -/
theorem Step.beside {p : Bool} {H G H' G' : Hp} {O O' : List Addr} (R : List Addr) (a : Step p H G O H' G' O') : Step p H G (R ++ O) H' G' (R ++ O') where
  gg := a.gg
  fr := fun b o h n => a.fr b o h fun z => n (List.mem_append_right _ z)
  ow := fun b h => by
    rcases List.mem_append.mp h with r | r
    · exact .inl (List.mem_append_left _ r)
    · rcases a.ow b r with r | r
      · exact .inl (List.mem_append_right _ r)
      · exact .inr r
  gn := fun b h => by
    rcases a.gn b h with r | r | r
    · exact .inl r
    · exact .inr (.inl (List.mem_append_right _ r))
    · exact .inr (.inr r)
  sm := a.sm
theorem Step.weak {p : Bool} {H G H' G' : Hp} {O O' : List Addr} (a : Step p H G O H' G' O') : Step false H G O H' G' O' := ⟨a.gg, a.fr, a.ow, a.gn, fun h => nomatch h⟩
theorem Step.from {p : Bool} {H G H' G' : Hp} {O O1 O' : List Addr} (a : Step p H G O H' G' O') (h : ∀ b ∈ O, b ∈ O1) : Step p H G O1 H' G' O' where
  gg := a.gg
  fr := fun b o e n => a.fr b o e fun z => n (h b z)
  ow := fun b e => (a.ow b e).elim (fun r => .inl (h b r)) .inr
  gn := fun b e => by
    rcases a.gn b e with r | r | r
    · exact .inl r
    · exact .inr (.inl (h b r))
    · exact .inr (.inr r)
  sm := a.sm
/-- nothing was to be changed: all stays -/
theorem Step.none {p : Bool} {H G H' G' : Hp} {O' : List Addr} (a : Step p H G [] H' G' O') (q : Bool) : Step q H G [] H' G' O' := ⟨a.gg, a.fr, a.ow, a.gn, fun _ b o h => a.fr b o h (by simp)⟩
theorem Wd.sub {H G : Hp} {O O' : List Addr} (w : Wd H G O) (n : O'.Nodup) (h : ∀ a ∈ O', a ∈ O) : Wd H G O' := ⟨w.gh, n, fun a ha => w.og a (h a ha)⟩
theorem Wd.right {H G : Hp} {O O' : List Addr} (w : Wd H G (O ++ O')) : Wd H G O' := w.sub (List.nodup_append.mp w.nd).2.1 fun _ h => List.mem_append_right _ h
theorem Wd.left {H G : Hp} {O O' : List Addr} (w : Wd H G (O ++ O')) : Wd H G O := w.sub (List.nodup_append.mp w.nd).1 fun _ h => List.mem_append_left _ h
/-- a new object of its own, shared at once -/
theorem step_new {H G : Hp} {O : List Addr} (w : Wd H G O) (hin : ∀ a ∈ O, H a ≠ none) {p : Addr} (hp : H p = none) (o : HO) : Step true H G O (upd H p o) (upd G p o) O ∧ Wd (upd H p o) (upd G p o) O := by
  have gp : G p = none := Same.free w.gh hp
  refine ⟨⟨fun b u h => ?_, fun b u h _ => ?_, fun _ h => .inl h, fun b h => ?_, fun _ b u h => ?_⟩, ⟨fun b u h => ?_, w.nd, fun b hb => ?_⟩⟩
  · rw [upd_ne (ne_of_none h gp)]; exact h
  · rw [upd_ne (ne_of_none h hp)]; exact h
  · by_cases e : b = p
    · exact .inr (.inr (e ▸ hp))
    · rw [upd_ne e] at h; exact .inl h
  · rw [upd_ne (ne_of_none h hp)]; exact h
  · by_cases e : b = p
    · subst e; rw [upd_same] at h ⊢; exact h
    · rw [upd_ne e] at h ⊢; exact w.gh b u h
  · have : b ≠ p := fun e => hin b hb (e ▸ hp)
    rw [upd_ne this]; exact w.og b hb
/-- a new object that one name owns -/
theorem step_mine {H G : Hp} {O : List Addr} (w : Wd H G O) (hin : ∀ a ∈ O, H a ≠ none) {p : Addr} (hp : H p = none) (o : HO) : Step true H G O (upd H p o) G (p :: O) ∧ Wd (upd H p o) G (p :: O) := by
  have gp : G p = none := Same.free w.gh hp
  refine ⟨⟨Same.refl _, fun b u h _ => ?_, fun b h => ?_, fun b h => .inl h, fun _ b u h => ?_⟩, ⟨fun b u h => ?_, List.nodup_cons.mpr ⟨fun z => hin p z hp, w.nd⟩, fun b hb => ?_⟩⟩
  · rw [upd_ne (ne_of_none h hp)]; exact h
  · rcases List.mem_cons.mp h with e | e
    · exact .inr (e ▸ hp)
    · exact .inl e
  · rw [upd_ne (ne_of_none h hp)]; exact h
  · rw [upd_ne (ne_of_none h gp)]; exact w.gh b u h
  · rcases List.mem_cons.mp hb with e | e
    · rw [e]; exact gp
    · exact w.og b e
/-- what was owned is shared from now on -/
theorem step_freeze {H G : Hp} {O : List Addr} {a : Addr} {o : HO} (w : Wd H G (a :: O)) (ha : H a = some o) : Step true H G (a :: O) H (upd G a o) O ∧ Wd H (upd G a o) O := by
  have ga : G a = none := w.og a List.mem_cons_self
  have na := (List.nodup_cons.mp w.nd).1
  refine ⟨⟨fun b u h => ?_, fun _ _ h _ => h, fun b h => .inl (List.mem_cons_of_mem _ h), fun b h => ?_, fun _ => Same.refl _⟩, ⟨fun b u h => ?_, (List.nodup_cons.mp w.nd).2, fun b hb => ?_⟩⟩
  · rw [upd_ne (ne_of_none h ga)]; exact h
  · by_cases e : b = a
    · exact .inr (.inl (e ▸ List.mem_cons_self))
    · rw [upd_ne e] at h; exact .inl h
  · by_cases e : b = a
    · subst e; rw [upd_same] at h; rw [ha]; exact h
    · rw [upd_ne e] at h; exact w.gh b u h
  · have : b ≠ a := fun e => na (e ▸ hb)
    rw [upd_ne this]; exact w.og b (List.mem_cons_of_mem _ hb)
/-- what is owned is changed -/
theorem step_write {H G : Hp} {O : List Addr} {a : Addr} {o : HO} (w : Wd H G O) (ha : a ∈ O) : Step false H G O (upd H a o) G O ∧ Wd (upd H a o) G O := by
  have ga : G a = none := w.og a ha
  refine ⟨⟨Same.refl _, fun b u h n => ?_, fun _ h => .inl h, fun _ h => .inl h, fun h => nomatch h⟩, ⟨fun b u h => ?_, w.nd, w.og⟩⟩
  · have : b ≠ a := fun e => n (e ▸ ha)
    rw [upd_ne this]; exact h
  · rw [upd_ne (ne_of_none h ga)]; exact w.gh b u h
/-! ### the slots -/
abbrev DEnv := List (Option D)
/-- the slots hold what the plain slots say -/
def AgL (C : RC) (G H : Hp) : DEnv → St → List Addr → Prop
  | [], σ, O => σ = [] ∧ O = []
  | none :: ρ, σ, O => ∃ s τ, σ = s :: τ ∧ AgL C G H ρ τ O
  | some d :: ρ, σ, O => ∃ v τ O1 O2, σ = some v :: τ ∧ O = O1 ++ O2 ∧ RpO C G H d v O1 ∧ AgL C G H ρ τ O2
theorem AgL.frame {C : RC} {G G' H H' : Hp} (e : Same G G') : ∀ {ρ : DEnv} {σ : St} {O : List Addr}, AgL C G H ρ σ O → (∀ a ∈ O, ∀ o, H a = some o → H' a = some o) → AgL C G' H' ρ σ O
  | [], _, _, h, _ => h
  | none :: ρ, _, _, ⟨s, τ, h1, h2⟩, k => ⟨s, τ, h1, h2.frame e k⟩
  | some d :: ρ, _, _, ⟨v, τ, O1, O2, h1, h2, h3, h4⟩, k => by
    subst h2
    exact ⟨v, τ, O1, O2, h1, rfl, RpO.frame e d v O1 h3 fun b hb => k b (List.mem_append_left _ hb), h4.frame e fun b hb => k b (List.mem_append_right _ hb)⟩
theorem AgL.inH {C : RC} {G H : Hp} : ∀ {ρ : DEnv} {σ : St} {O : List Addr}, AgL C G H ρ σ O → ∀ a ∈ O, H a ≠ none
  | [], _, _, h, a, ha => by rw [h.2] at ha; cases ha
  | none :: ρ, _, _, ⟨s, τ, h1, h2⟩, a, ha => h2.inH a ha
  | some d :: ρ, _, _, ⟨v, τ, O1, O2, h1, h2, h3, h4⟩, a, ha => by
    subst h2
    rcases List.mem_append.mp ha with r | r
    · exact RpO.inH d v O1 h3 a r
    · exact h4.inH a r
theorem AgL.len {C : RC} {G H : Hp} : ∀ {ρ : DEnv} {σ : St} {O : List Addr}, AgL C G H ρ σ O → ρ.length = σ.length
  | [], _, _, h => by have e := h.1; subst e; rfl
  | none :: ρ, _, _, ⟨s, τ, h1, h2⟩ => by rw [h1]; simp [h2.len]
  | some d :: ρ, _, _, ⟨v, τ, O1, O2, h1, h2, h3, h4⟩ => by rw [h1]; simp [h4.len]
/-- a slot is taken out -/
theorem AgL.out {C : RC} {G H : Hp} : ∀ {ρ : DEnv} {σ : St} {O : List Addr} (i : Nat) {d : D}, AgL C G H ρ σ O → ρ[i]? = some (some d) →
    ∃ v O1 R, σ[i]? = some (some v) ∧ RpO C G H d v O1 ∧ O.Perm (O1 ++ R) ∧ AgL C G H (ρ.set i none) σ R
  | [], _, _, i, d, h, e => by simp at e
  | none :: ρ, _, _, 0, d, _, e => by simp at e
  | some d' :: ρ, _, _, 0, d, ⟨v, τ, O1, O2, h1, h2, h3, h4⟩, e => by
    simp at e; subst e; subst h1; subst h2
    exact ⟨v, O1, O2, rfl, h3, List.Perm.refl _, ⟨some v, τ, rfl, h4⟩⟩
  | none :: ρ, _, _, i + 1, d, ⟨s, τ, h1, h2⟩, e => by
    subst h1
    obtain ⟨v, O1, R, q1, q2, q3, q4⟩ := AgL.out i h2 (by simpa using e)
    exact ⟨v, O1, R, by simpa using q1, q2, q3, ⟨s, τ, rfl, q4⟩⟩
  | some d' :: ρ, _, _, i + 1, d, ⟨v', τ, O1', O2', h1, h2, h3, h4⟩, e => by
    subst h1; subst h2
    obtain ⟨v, O1, R, q1, q2, q3, q4⟩ := AgL.out i h4 (by simpa using e)
    refine ⟨v, O1, O1' ++ R, by simpa using q1, q2, ?_, ⟨v', τ, O1', R, rfl, rfl, h3, q4⟩⟩
    refine (q3.append_left O1').trans ?_
    rw [← List.append_assoc, ← List.append_assoc]
    exact List.perm_append_comm.append_right R
/-- a slot is filled -/
theorem AgL.put {C : RC} {G H : Hp} : ∀ {ρ : DEnv} {σ : St} {R : List Addr} (i : Nat) {d : D} {v : V} {O1 : List Addr}, AgL C G H ρ σ R → ρ[i]? = some none → RpO C G H d v O1 →
    ∃ O, O.Perm (O1 ++ R) ∧ AgL C G H (ρ.set i (some d)) (σ.set i (some v)) O
  | [], _, _, i, d, v, O1, h, e, _ => by simp at e
  | some d' :: ρ, _, _, 0, d, v, O1, _, e, _ => by simp at e
  | none :: ρ, _, R, 0, d, v, O1, ⟨s, τ, h1, h2⟩, e, r => by
    subst h1
    exact ⟨O1 ++ R, List.Perm.refl _, ⟨v, τ, O1, R, rfl, rfl, r, h2⟩⟩
  | none :: ρ, _, R, i + 1, d, v, O1, ⟨s, τ, h1, h2⟩, e, r => by
    subst h1
    obtain ⟨O, q1, q2⟩ := AgL.put i h2 (by simpa using e) r
    exact ⟨O, q1, ⟨s, τ.set i (some v), rfl, q2⟩⟩
  | some d' :: ρ, _, _, i + 1, d, v, O1, ⟨v', τ, O1', O2', h1, h2, h3, h4⟩, e, r => by
    subst h1; subst h2
    obtain ⟨O, q1, q2⟩ := AgL.put i h4 (by simpa using e) r
    refine ⟨O1' ++ O, ?_, ⟨v', τ.set i (some v), O1', O, rfl, rfl, h3, q2⟩⟩
    refine (q1.append_left O1').trans ?_
    rw [← List.append_assoc, ← List.append_assoc]
    exact List.perm_append_comm.append_right O2'
/-- a slot is forgotten -/
theorem AgL.drop {C : RC} {G H : Hp} {ρ : DEnv} {σ : St} {O : List Addr} (i : Nat) (h : AgL C G H ρ σ O) (nd : O.Nodup) : ∃ R, R.Nodup ∧ (∀ a ∈ R, a ∈ O) ∧ AgL C G H (ρ.set i none) σ R := by
  cases e : ρ[i]? with
  | none =>
    refine ⟨O, nd, fun _ h => h, ?_⟩
    rw [List.set_eq_of_length_le (List.getElem?_eq_none_iff.mp e)]; exact h
  | some x =>
    cases x with
    | none =>
      refine ⟨O, nd, fun _ h => h, ?_⟩
      have : ρ.set i none = ρ := by
        obtain ⟨hi, e⟩ := List.getElem?_eq_some_iff.mp e
        rw [← e]; exact List.set_getElem_self hi
      rw [this]; exact h
    | some d =>
      obtain ⟨v, O1, R, q1, q2, q3, q4⟩ := AgL.out i h e
      have nd' := (q3.nodup_iff).mp nd
      exact ⟨R, (List.nodup_append.mp nd').2.1, fun a ha => (q3.mem_iff).mpr (List.mem_append_right _ ha), q4⟩
/-- a slot's own value may be stored as it is where nothing is known of it -/
theorem AgL.any {C : RC} {G H : Hp} : ∀ {ρ : DEnv} {σ : St} {O : List Addr} (i : Nat) (s : Option V), AgL C G H ρ σ O → ρ[i]? = some none → AgL C G H ρ (σ.set i s) O
  | [], _, _, i, s, h, e => by simp at e
  | some d' :: ρ, _, _, 0, s, _, e => by simp at e
  | none :: ρ, _, R, 0, s, ⟨s', τ, h1, h2⟩, e => by subst h1; exact ⟨s, τ, rfl, h2⟩
  | none :: ρ, _, R, i + 1, s, ⟨s', τ, h1, h2⟩, e => by subst h1; exact ⟨s', τ.set i s, rfl, h2.any i s (by simpa using e)⟩
  | some d' :: ρ, _, _, i + 1, s, ⟨v', τ, O1', O2', h1, h2, h3, h4⟩, e => by
    subst h1
    exact ⟨v', τ.set i s, O1', O2', rfl, h2, h3, h4.any i s (by simpa using e)⟩
end L2.PV
set_option Elab.async false
set_option linter.all false
set_option autoImplicit false
/-! The terms and what they are worth. -/
namespace L2.PV
open PySem PySem.Spec PyProof.Rows
/-! ### what is told -/
structure Exn where
  c : Nat
  ns : List Str
  ds : List D
inductive RS (α : Type) where
  | ok (a : α) (ρ : DEnv)
  | exc (x : Exn) (ρ : DEnv)
def bnd {α β : Type} (r : Option (RS α)) (f : α → DEnv → Option (RS β)) : Option (RS β) :=
  match r with
  | none => none
  | some (.ok a ρ) => f a ρ
  | some (.exc x ρ) => some (.exc x ρ)
@[simp] theorem bnd_none {α β : Type} (f : α → DEnv → Option (RS β)) : bnd none f = none := (rfl)
@[simp] theorem bnd_ok {α β : Type} (a : α) (ρ : DEnv) (f : α → DEnv → Option (RS β)) : bnd (some (.ok a ρ)) f = f a ρ := (rfl)
@[simp] theorem bnd_exc {α β : Type} (x : Exn) (ρ : DEnv) (f : α → DEnv → Option (RS β)) : bnd (some (.exc x ρ)) f = some (.exc x ρ) := (rfl)
/-- a value that may lack -/
def lft {α : Type} (r : Option α) (ρ : DEnv) : Option (RS α) := match r with
  | none => none
  | some a => some (.ok a ρ)
@[simp] theorem lft_none {α : Type} (ρ : DEnv) : lft (none : Option α) ρ = none := (rfl)
@[simp] theorem lft_some {α : Type} (a : α) (ρ : DEnv) : lft (some a) ρ = some (.ok a ρ) := (rfl)
/-- the end of a call: the value, the arguments as they are behind it -/
inductive CR where
  | ok (d : D) (ds : List D)
  | exc (x : Exn) (ds : List D)
/-- the end of a statement -/
inductive SR where
  | nx (ρ : DEnv) | br (ρ : DEnv) | ct (ρ : DEnv) | rt (d : D) (ρ : DEnv) | exc (x : Exn) (ρ : DEnv)
inductive BOp | add | sub | mul | mod | fdiv | pow | shl | shr | band
  deriving DecidableEq
inductive COp | lt | le | gt | ge | eq | ne | isin | notin
  deriving DecidableEq
inductive BI | all | len | int | abs | list | tuple | min2 | max2 | sum | sorted | ord | str | bool
  deriving DecidableEq
inductive Pl where
  | sl (i : Nat) | it (p : Pl) (k : Nat)
  deriving DecidableEq
/-- terms -/
inductive M where
  | pl (p : Pl) | frv (i : Nat) | mv (i : Nat) | con (d : D) | glo (x : Str) (d : D)
  | bin (o : BOp) (a b : M) | neg (a : M) | cmp (o : COp) (a b : M) | cmp2 (o o' : COp) (a b c : M)
  | isN (n : Bool) (a : M) | isB (n b : Bool) (a : M)
  | bone (a : M) | band (a b : M) | bor (a b : M) | bnot (a : M) | ife (t a b : M)
  | tup (es : M) | lst (es : M) | box (es : M) | idx (a i : M) | slc (a lo hi : M) | rvs (a : M)
  | bi1 (b : BI) (a : M) | bi2 (b : BI) (a c : M) | isi (a : M) (one : Bool) (ts : List String) | call (f : Nat) (as : M) | callk (f : Nat) (ks : List Nat) (as : M)
  | lc (own : List Nat) (tg it cs elt : M) | lco (own : List Nat) (tg : M) (s : Nat) (cs elt : M) | lc2 (own : List Nat) (tg it : M) (own1 : List Nat) (tg1 it1 elt : M) | pop (p : Pl) | popAt (p : Pl) (e : M) | lrg (t : Bool) (it : M)
  | att (a : M) (n : Str) (cs : List Nat) | new (c : Nat) (ns : List Str) (as : M) | asgs (is : List Nat) (e : M)
  | fzE (a : M) | jn (z : Str) (a : M) | gfn (f n : Nat) | callv (i n : Nat) (as : M) | callb (f i : Nat) | callb2 (f : Nat) (e : M) (i : Nat)
  | nil | cons (h t : M) | no | io (i : Nat)
  | seq (e : M) | rg1 (a : M) | rg2 (a b : M) | rg3 (a b c : M) | enum (e : M) | zip (a b : M) | rvd (e : M)
  | tgn (i : Nat) | tgt (ts : M)
  | asg (tg e : M) | par (is : List Nat) (es : M) | aug (i : Nat) (o : BOp) (e : M) | seti (p : Pl) (i e : M)
  | exp (e : M) | app (p : Pl) (e : M) | ext (p : Pl) (e : M) | rev (p : Pl)
  | iff (t a b : M) | whl (t b : M) | for_ (tg it b : M) | ret (e : M) | retn | brk | cnt | pss
/-! ### values -/
def lenD : D → Option Int
  | .tup ds => some ds.length | .lst ds => some ds.length | .scr ds => some ds.length | .acc ds => some ds.length | .box ds => some ds.length
  | .str s => if s.length ≤ sizeLine then some s.length else none
  | _ => none
def kdG : List Str → List D → Str → Option D
  | k :: ks, d :: ds, x => if k = x then some d else kdG ks ds x
  | _, _, _ => none
def attD (cs : List Nat) (n : Str) : D → Option D
  | .obj c ns ds => if c ∈ cs then kdG ns ds n else none
  | _ => none
def idxD : D → D → Option D
  | .kd ks ds, .str x => kdG ks ds x
  | .tup ds, .int i => atI ds i | .lst ds, .int i => atI ds i | .scr ds, .int i => atI ds i | .acc ds, .int i => atI ds i
  | .str s, .int i => if s.length ≤ sizeLine then (atI s.cps.toList i).map fun c => .str ⟨#[c]⟩ else none
  | _, _ => none
def cutG {α : Type} (xs : List α) (lo hi : Option Int) : List α := (xs.drop (HT.sIx xs.length 0 lo)).take (HT.sIx xs.length xs.length hi - HT.sIx xs.length 0 lo)
def slcD : D → Option Int → Option Int → Option D
  | .tup ds, lo, hi => some (.tup (cutG ds lo hi))
  | .lst ds, lo, hi => some (.acc (cutG ds lo hi))
  | .scr ds, lo, hi => some (.acc (cutG ds lo hi))
  | .acc ds, lo, hi => some (.acc (cutG ds lo hi))
  | _, _, _ => none
def rvsD : D → Option D
  | .lst ds => some (.acc ds.reverse) | .acc ds => some (.acc ds.reverse) | .scr ds => some (.acc ds.reverse) | .tup ds => some (.tup ds.reverse)
  | _ => none
def small (n : Nat) (i : Int) : Bool := decide (i.natAbs < 2 ^ n)
def binD : BOp → D → D → Option D
  | .add, .int i, .int j => some (.int (i + j))
  | .sub, .int i, .int j => some (.int (i - j))
  | .mul, .int i, .int j => if i.natAbs.log2 + j.natAbs.log2 < 1000000 then some (.int (i * j)) else none
  | .mod, .int i, .int j => if 0 < j then some (.int (i % j)) else none
  | .fdiv, .int i, .int j => if 0 < j ∧ j.natAbs.log2 < 9000 then some (.int (i / j)) else none
  | .pow, .int i, .int j => if 0 ≤ j ∧ j ≤ 1000000 ∧ i.natAbs < 2 ^ 64 then some (.int (i ^ j.toNat)) else none
  | .shl, .int i, .int j => if 0 ≤ j ∧ j ≤ 1000000 ∧ i.natAbs < 2 ^ 64 then some (.int (i * 2 ^ j.toNat)) else none
  | .shr, .int i, .int j => if 0 ≤ j then some (.int (i / 2 ^ j.toNat)) else none
  | .band, .int i, .int j => some (.int (Builtin.bitAnd i j))
  | .add, .str x, .str y => if x.length + y.length ≤ sizeLine then some (.str (x ++ y)) else none
  | .add, .tup xs, .tup ys => if xs.length + ys.length ≤ sizeLine then some (.tup (xs ++ ys)) else none
  | .add, .lst xs, .lst ys => if xs.length + ys.length ≤ sizeLine then some (.acc (xs ++ ys)) else none
  | .add, .acc xs, .lst ys => if xs.length + ys.length ≤ sizeLine then some (.acc (xs ++ ys)) else none
  | .add, .lst xs, .acc ys => if xs.length + ys.length ≤ sizeLine then some (.acc (xs ++ ys)) else none
  | .add, .acc xs, .acc ys => if xs.length + ys.length ≤ sizeLine then some (.acc (xs ++ ys)) else none
  | .mul, .lst xs, .int k => if -(2 ^ 63) ≤ k ∧ k < 2 ^ 63 ∧ xs.length * k.toNat ≤ sizeLine then some (.acc (List.replicate k.toNat xs).flatten) else none
  | .mul, .acc xs, .int k => if -(2 ^ 63) ≤ k ∧ k < 2 ^ 63 ∧ xs.length * k.toNat ≤ sizeLine then some (.acc (List.replicate k.toNat xs).flatten) else none
  | .mul, .tup xs, .int k => if 2 ≤ k ∧ k ≤ 1000 ∧ xs.length ≤ 1000 then some (.tup (List.replicate k.toNat xs).flatten) else none
  | _, _, _ => none
mutual
def toPy : D → Option PyData
  | .non => some .none | .bl b => some (.bool b) | .int i => some (.int i) | .str s => some (.str s)
  | .tup ds => (toPys ds).map .tuple
  | .lst ds => (toPys ds).map .list | .scr ds => (toPys ds).map .list | .acc ds => (toPys ds).map .list | .box ds => (toPys ds).map .list
  | .obj _ _ _ => none | .own _ _ _ => none | .fn _ _ => none | .kd _ _ => none
def toPys : List D → Option (List PyData)
  | [] => some []
  | d :: ds => match toPy d, toPys ds with
    | some x, some xs => some (x :: xs)
    | _, _ => none
end
def eqD (x y : D) : Option Bool := match x, y with
  | .int i, .int j => some (i == j)
  | .str i, .str j => some (i == j)
  | .bl i, .bl j => some (i == j)
  | x, y => match toPy x, toPy y with
    | some a, some b => if SeqAt.shaped a && SeqAt.shaped b then some (PyData.eqv a b) else none
    | _, _ => none
def flatD : D → Bool
  | .non => true | .bl _ => true | .int _ => true | .str _ => true | _ => false
def toV : D → V
  | .bl b => .bl b | .int i => .int i | .str s => .str s | _ => .non
def seqD : D → Option (List D)
  | .tup ds => some ds | .lst ds => some ds | .scr ds => some ds | .acc ds => some ds
  | _ => none
def inD (x y : D) : Option Bool := match seqD y with
  | some ds => if flatD x && ds.all flatD then some (inV (toV x) (ds.map toV)) else none
  | none => none
def cmpD : COp → D → D → Option Bool
  | .eq, x, y => eqD x y
  | .ne, x, y => (eqD x y).map not
  | .lt, .int i, .int j => some (decide (i < j))
  | .le, .int i, .int j => some (decide (i ≤ j))
  | .gt, .int i, .int j => some (decide (j < i))
  | .ge, .int i, .int j => some (decide (j ≤ i))
  | .isin, x, y => inD x y
  | .notin, x, y => (inD x y).map not
  | _, _, _ => none
def truD : D → Option Bool
  | .non => some false | .bl b => some b | .int i => some (i != 0)
  | .str s => if s.length ≤ sizeLine then some ((s.length : Int) != 0) else none
  | .tup ds => some (!ds.isEmpty) | .lst ds => some (!ds.isEmpty) | .acc ds => some (!ds.isEmpty) | .scr ds => some (!ds.isEmpty)
  | _ => none
def frzD : D → Option D
  | .acc ds => some (.lst ds)
  | .box _ => none
  | .own c ns ds => if ds.all fz then some (.obj c ns ds) else none
  | d => some d
def isNon : D → Bool
  | .non => true | _ => false
def isBl (b : Bool) : D → Bool
  | .bl c => c == b | _ => false
def tyD : D → String
  | .non => "NoneType" | .bl _ => "bool" | .int _ => "int" | .str _ => "str" | .tup _ => "tuple" | .lst _ => "list" | .scr _ => "list" | .acc _ => "list" | .box _ => "list" | .obj _ _ _ => "" | .own _ _ _ => "" | .fn _ _ => "" | .kd _ _ => ""
def isiD (d : D) : List String → Option Bool
  | [] => some false
  | t :: ts => match kitB (tyD d) t with
    | some true => some true
    | some false => isiD d ts
    | none => none
def intsD : List D → Option (List Int)
  | [] => some []
  | .int i :: ds => (intsD ds).map (i :: ·)
  | _ => none
def blsD : List D → Option (List Bool)
  | [] => some []
  | .bl i :: ds => (blsD ds).map (i :: ·)
  | _ => none
/-- pairs with places, pairs of two rows, from the end -/
def enumD : D → Option (List D)
  | .tup ds => some (ds.zipIdx.map fun p => .tup [.int p.2, p.1])
  | .lst ds => some (ds.zipIdx.map fun p => .tup [.int p.2, p.1]) | .scr ds => some (ds.zipIdx.map fun p => .tup [.int p.2, p.1])
  | _ => none
def zipD : D → D → Option (List D)
  | .tup ds, .tup es => some (ds.zipWith (fun d e => .tup [d, e]) es)
  | .lst ds, .lst es => some (ds.zipWith (fun d e => .tup [d, e]) es) | .lst ds, .scr es => some (ds.zipWith (fun d e => .tup [d, e]) es)
  | .scr ds, .lst es => some (ds.zipWith (fun d e => .tup [d, e]) es) | .scr ds, .scr es => some (ds.zipWith (fun d e => .tup [d, e]) es)
  | _, _ => none
def rvdD : D → Option (List D)
  | .tup ds => some ds.reverse | .lst ds => some ds.reverse | .scr ds => some ds.reverse
  | _ => none
/-- numbers in order -/
def srtZ (ns : List Int) : List Int := ns.mergeSort fun x y => decide (x ≤ y)
theorem srtZ_pw (ns : List Int) : (srtZ ns).Pairwise (· ≤ ·) := by
  have hs := List.pairwise_mergeSort (le := fun x y : Int => decide (x ≤ y)) (by intro x y z hxy hyz; simp only [decide_eq_true_eq] at *; omega) (by intro x y; simp only [Bool.or_eq_true, decide_eq_true_eq]; omega) ns
  exact hs.imp fun h => of_decide_eq_true h
theorem srtZ_perm (ns : List Int) : (srtZ ns).Perm ns := List.mergeSort_perm ns _
theorem srtZ_uniq {ns ms : List Int} (h : ms.Perm ns) (k : ms.Pairwise (· ≤ ·)) : ms = srtZ ns :=
  List.Perm.eq_of_pairwise (fun _ _ _ _ a b => Int.le_antisymm a b) k (srtZ_pw ns) (h.trans (srtZ_perm ns).symm)
def bi1D : BI → D → Option D
  | .len, d => (lenD d).map .int
  | .int, .int i => some (.int i)
  | .int, .bl b => some (.int (if b then 1 else 0))
  | .bool, .bl b => some (.bl b)
  | .bool, .int i => some (.bl (i != 0))
  | .abs, .int i => some (.int (if i < 0 then -i else i))
  | .list, d => (seqD d).map .acc
  | .tuple, d => (seqD d).map .tup
  | .all, .lst ds => (blsD ds).map fun bs => .bl (bs.all id)
  | .all, .acc ds => (blsD ds).map fun bs => .bl (bs.all id)
  | .sum, .lst ds => (intsD ds).map fun ns => .int ns.sum
  | .sum, .acc ds => (intsD ds).map fun ns => .int ns.sum
  | .max2, .lst ds => (intsD ds).bind fun ns => ns.max?.map .int
  | .max2, .acc ds => (intsD ds).bind fun ns => ns.max?.map .int
  | .sorted, .lst ds => (intsD ds).bind fun ns => if ns.length < 64 then some (.acc ((srtZ ns).map .int)) else none
  | .sorted, .acc ds => (intsD ds).bind fun ns => if ns.length < 64 then some (.acc ((srtZ ns).map .int)) else none
  | .ord, .str s => if s.length = 1 then some (.int ((s.cps.getD 0 0 : Nat) : Int)) else none
  | _, _ => none
def bi2D : BI → D → D → Option D
  | .min2, .int i, .int j => some (.int (if j < i then j else i))
  | .max2, .int i, .int j => some (.int (if i < j then j else i))
  | _, _, _ => none
def strsD : List D → Option (List Str)
  | [] => some []
  | .str s :: ds => (strsD ds).map (s :: ·)
  | _ => none
/-- z.join(..) -/
def joinS (z : Str) (ys : List Str) : Option D := if (ys.map (·.length)).sum + ys.length * z.length ≤ 16777216 then some (.str (Txt.join z ys)) else none
def joinD (z : Str) (d : D) : Option D := ((seqD d).bind strsD).bind (joinS z)
def extD : D → Option (List D)
  | .lst ds => some ds | .tup ds => some ds | .acc ds => some ds
  | _ => none
def augI : BOp → Int → D → Option Int
  | .add, x, .int y => some (x + y)
  | .sub, x, .int y => some (x - y)
  | .fdiv, x, .int y => if 0 < y ∧ y.natAbs.log2 < 9000 then some (x / y) else none
  | _, _, _ => none
/-! ### places -/
def getP : Pl → DEnv → Option D
  | .sl i, ρ => match ρ[i]? with
    | some (some d) => some d
    | _ => none
  | .it p k, ρ => match getP p ρ with
    | some (.box ds) => ds[k]?
    | _ => none
def putP : Pl → D → DEnv → DEnv
  | .sl i, d, ρ => ρ.set i (some d)
  | .it p k, d, ρ => match getP p ρ with
    | some (.box ds) => putP p (.box (ds.set k d)) ρ
    | _ => ρ
def Pl.isSl : Pl → Bool
  | .sl _ => true
  | _ => false
def wipeD (ρ : DEnv) : List Nat → DEnv
  | [] => ρ
  | v :: vs => (wipeD ρ vs).set v none
/-- the slots at vs as they are in ρ0 -/
def backD (ρ0 ρ : DEnv) : List Nat → DEnv
  | [] => ρ
  | v :: vs => (backD ρ0 ρ vs).set v (ρ0[v]?.join)
/-- nothing is changed by it -/
def pureM : M → Bool
  | .pl _ => true | .con _ => true | .glo _ _ => true | .frv _ => true
  | .bin _ a b => pureM a && pureM b
  | .neg a => pureM a
  | .cmp _ a b => pureM a && pureM b
  | .cmp2 _ _ a b c => pureM a && pureM b && pureM c
  | .isN _ a => pureM a | .isB _ _ a => pureM a | .bone a => pureM a
  | .band a b => pureM a && pureM b | .bor a b => pureM a && pureM b | .bnot a => pureM a
  | .ife t a b => pureM t && pureM a && pureM b
  | .tup es => pureM es | .lst es => pureM es
  | .idx a i => pureM a && pureM i
  | .slc a lo hi => pureM a && pureM lo && pureM hi
  | .att a _ _ => pureM a | .new _ _ as => pureM as
  | .rvs a => pureM a | .fzE a => pureM a | .jn _ a => pureM a | .gfn _ _ => true
  | .bi1 _ a => pureM a | .bi2 _ a c => pureM a && pureM c | .isi a _ _ => pureM a
  | .nil => true | .no => true | .cons h t => pureM h && pureM t | .seq e => pureM e
  | .rg1 a => pureM a | .rg2 a b => pureM a && pureM b | .rg3 a b c => pureM a && pureM b && pureM c
  | _ => false
/-- loops -/
def forM (f : D → DEnv → Option SR) : List D → DEnv → Option SR
  | [], ρ => some (.nx ρ)
  | d :: ds, ρ => match f d ρ with
    | some (.nx ρ') => forM f ds ρ'
    | some (.ct ρ') => forM f ds ρ'
    | some (.br ρ') => some (.nx ρ')
    | r => r
/-- n turns of a while at most -/
def whN (c : DEnv → Option (RS Bool)) (b : DEnv → Option SR) : Nat → DEnv → Option SR
  | 0, _ => none
  | n + 1, ρ => match c ρ with
    | some (.ok true ρ1) => match b ρ1 with
      | some (.nx ρ2) => whN c b n ρ2
      | some (.ct ρ2) => whN c b n ρ2
      | some (.br ρ2) => some (.nx ρ2)
      | r => r
    | some (.ok false ρ1) => some (.nx ρ1)
    | some (.exc x ρ1) => some (.exc x ρ1)
    | none => none
theorem whN_mono {c : DEnv → Option (RS Bool)} {b : DEnv → Option SR} : ∀ (n : Nat) (ρ : DEnv) (r : SR), whN c b n ρ = some r → ∀ m, n ≤ m → whN c b m ρ = some r
  | 0, _, _, h, _, _ => by cases h
  | n + 1, ρ, r, h, 0, hm => absurd hm (by omega)
  | n + 1, ρ, r, h, m + 1, hm => by
    unfold whN at h ⊢
    split at h
    · rename_i ρ1 e1
      split at h
      · rename_i ρ2 e2
        exact whN_mono n ρ2 r h m (by omega)
      · rename_i ρ2 e2
        exact whN_mono n ρ2 r h m (by omega)
      · rename_i ρ2 e2
        exact h
      · exact h
    · exact h
    · exact h
    · cases h
open Classical in
/-- a while, however many turns -/
noncomputable def whM (c : DEnv → Option (RS Bool)) (b : DEnv → Option SR) (ρ : DEnv) : Option SR :=
  if h : ∃ n r, whN c b n ρ = some r then some (Classical.choose (Classical.choose_spec h)) else none
theorem whM_of {c : DEnv → Option (RS Bool)} {b : DEnv → Option SR} {n : Nat} {ρ : DEnv} {r : SR} (h : whN c b n ρ = some r) : whM c b ρ = some r := by
  have hx : ∃ n r, whN c b n ρ = some r := ⟨n, r, h⟩
  unfold whM
  rw [dif_pos hx]
  have k := Classical.choose_spec (Classical.choose_spec hx)
  have k1 := whN_mono _ _ _ k (max (Classical.choose hx) n) (Nat.le_max_left _ _)
  have k2 := whN_mono _ _ _ h (max (Classical.choose hx) n) (Nat.le_max_right _ _)
  rw [k1] at k2
  exact k2
theorem whM_ex {c : DEnv → Option (RS Bool)} {b : DEnv → Option SR} {ρ : DEnv} {r : SR} (h : whM c b ρ = some r) : ∃ n, whN c b n ρ = some r := by
  unfold whM at h
  split at h
  · rename_i hx
    cases h
    exact ⟨_, Classical.choose_spec (Classical.choose_spec hx)⟩
  · cases h
theorem whM_false {c : DEnv → Option (RS Bool)} {b : DEnv → Option SR} {ρ ρ1 : DEnv} (h : c ρ = some (.ok false ρ1)) : whM c b ρ = some (.nx ρ1) := whM_of (n := 1) (by unfold whN; rw [h])
theorem whM_nx {c : DEnv → Option (RS Bool)} {b : DEnv → Option SR} {ρ ρ1 ρ2 : DEnv} {r : SR} (h : c ρ = some (.ok true ρ1)) (k : b ρ1 = some (.nx ρ2)) (m : whM c b ρ2 = some r) : whM c b ρ = some r := by
  obtain ⟨n, e⟩ := whM_ex m
  exact whM_of (n := n + 1) (by unfold whN; rw [h]; simp only []; rw [k]; exact e)
theorem whM_ct {c : DEnv → Option (RS Bool)} {b : DEnv → Option SR} {ρ ρ1 ρ2 : DEnv} {r : SR} (h : c ρ = some (.ok true ρ1)) (k : b ρ1 = some (.ct ρ2)) (m : whM c b ρ2 = some r) : whM c b ρ = some r := by
  obtain ⟨n, e⟩ := whM_ex m
  exact whM_of (n := n + 1) (by unfold whN; rw [h]; simp only []; rw [k]; exact e)
theorem whM_br {c : DEnv → Option (RS Bool)} {b : DEnv → Option SR} {ρ ρ1 ρ2 : DEnv} (h : c ρ = some (.ok true ρ1)) (k : b ρ1 = some (.br ρ2)) : whM c b ρ = some (.nx ρ2) :=
  whM_of (n := 1) (by unfold whN; rw [h]; simp only []; rw [k])
theorem whM_rt {c : DEnv → Option (RS Bool)} {b : DEnv → Option SR} {ρ ρ1 ρ2 : DEnv} {d : D} (h : c ρ = some (.ok true ρ1)) (k : b ρ1 = some (.rt d ρ2)) : whM c b ρ = some (.rt d ρ2) :=
  whM_of (n := 1) (by unfold whN; rw [h]; simp only []; rw [k])
/-! ### what terms are worth -/
/-- the values of a comprehension: the turns' values so far are acc -/
def lcM (f : D → DEnv → Option (RS (Option D))) : List D → List D → DEnv → Option (List D × DEnv)
  | [], acc, ρ => some (acc, ρ)
  | d :: ds, acc, ρ => match f d ρ with
    | some (.ok (some x) ρ') => lcM f ds (acc ++ [x]) ρ'
    | some (.ok none ρ') => lcM f ds acc ρ'
    | _ => none
open Classical in
/-- r, if the slot s has d still -/
noncomputable def keepsD (s : Nat) (d : D) (ρ : DEnv) (r : Option (RS (Option D))) : Option (RS (Option D)) := if ρ[s]? = some (some d) then r else none
theorem keepsD_pos {s : Nat} {d : D} {ρ : DEnv} {r : Option (RS (Option D))} (h : ρ[s]? = some (some d)) : keepsD s d ρ r = r := if_pos h
theorem keepsD_neg {s : Nat} {d : D} {ρ : DEnv} {r : Option (RS (Option D))} (h : ¬ ρ[s]? = some (some d)) : keepsD s d ρ r = none := if_neg h
/-- two clauses: the outer's turns -/
def lc2M (g : D → DEnv → Option DEnv) (it : DEnv → Option (RS (List D))) (f : D → DEnv → Option (RS (Option D))) (own own1 : List Nat) : List D → List D → DEnv → Option (List D × DEnv)
  | [], acc, ρ => some (acc, ρ)
  | d :: ds, acc, ρ => match g d ρ with
    | some ρ2 => match it ρ2 with
      | some (.ok ds1 ρ3) => if acc.length + ds1.length ≤ sizeLine then match lcM f ds1 acc (wipeD ρ3 own1) with
        | some (acc', ρ4) => lc2M g it f own own1 ds acc' (wipeD ρ4 own)
        | none => none
        else none
      | _ => none
    | none => none
def rgD (lo hi : Int) : Option (List D) :=
  if -(2 ^ 62) ≤ lo ∧ lo < 2 ^ 62 ∧ -(2 ^ 62) ≤ hi ∧ hi < 2 ^ 62 then some ((List.range (hi - lo).toNat).map fun (i : Nat) => D.int (lo + (i : Int))) else none
def rg3D (lo hi c : Int) : Option (List D) :=
  if c ≠ 0 ∧ c.natAbs < 1073741824 ∧ Builtin.Range.small lo hi c = true then some ((List.range (Builtin.Range.rangeSize lo hi c).toNat).map fun (i : Nat) => D.int (lo + (i : Int) * c)) else none
def ownFz (ρ : DEnv) (vs : List Nat) : Bool := vs.all fun v => match ρ[v]? with
  | some (some d) => fz d
  | _ => true
def asgI (pins : List Nat) (i : Nat) (d : D) (ρ : DEnv) : Option DEnv := if i ∈ pins then none else if i < ρ.length then some (ρ.set i (some d)) else none
mutual
/-- what a target does -/
def tgM (pins : List Nat) : M → D → DEnv → Option DEnv
  | .tgn i, d, ρ => asgI pins i d ρ
  | .tgt ts, .tup ds, ρ => tgsM pins ts ds ρ
  | _, _, _ => none
def tgsM (pins : List Nat) : M → List D → DEnv → Option DEnv
  | .nil, [], ρ => some ρ
  | .cons t ts, d :: ds, ρ => match tgM pins t d ρ with
    | some ρ' => tgsM pins ts ds ρ'
    | none => none
  | _, _, _ => none
end
@[simp] def isPl : M → Bool
  | .pl _ => true
  | _ => false
/-- a value that is kept: shared from now on; of a name: shared already -/
@[simp] def frzM (a : M) (d : D) : Option D := if isPl a then (if fz d then some d else none) else frzD d
@[simp] def ownM (a : M) (d : D) : Option D := if isPl a then (if fz d then some d else none) else some d
def bok (d : D) (b : M) : Bool := fz d || pureM b
/-- the arguments of a call -/
def argD : List (D ⊕ Nat) → DEnv → Option (List D)
  | [], _ => some []
  | .inl d :: gs, ρ => (argD gs ρ).map (d :: ·)
  | .inr i :: gs, ρ => match ρ[i]? with
    | some (some d) => if fz d then none else (argD gs (ρ.set i none)).map (d :: ·)
    | _ => none
def backA : List (D ⊕ Nat) → List D → DEnv → DEnv
  | .inl _ :: gs, _ :: ds, ρ => backA gs ds ρ
  | .inr i :: gs, d :: ds, ρ => backA gs ds (ρ.set i (some d))
  | _, _, ρ => ρ
def callD (r : Option CR) (gs : List (D ⊕ Nat)) (ρ : DEnv) : Option (RS D) := match r with
  | none => none
  | some (.ok d ds) => some (.ok d (backA gs ds ρ))
  | some (.exc x ds) => some (.exc x (backA gs ds ρ))
def noIo : M → Bool
  | .cons (.io _) _ => false
  | .cons _ t => noIo t
  | _ => true
mutual
noncomputable def evE (cf : Nat → List D → Option CR) (pins : List Nat) : M → DEnv → Option (RS D)
  | .pl p, ρ => lft (getP p ρ) ρ
  | .frv i, ρ => match getP (.sl i) ρ with
    | some d => if i ∈ pins then none else match frzD d with
      | some d' => some (.ok d' (ρ.set i (some d')))
      | none => none
    | none => none
  | .mv i, ρ => match getP (.sl i) ρ with
    | some d => if i ∈ pins then none else some (.ok d (ρ.set i none))
    | none => none
  | .con d, ρ => some (.ok d ρ)
  | .glo _ d, ρ => some (.ok d ρ)
  | .bin o a b, ρ => bnd (evE cf pins a ρ) fun x ρ1 => bnd (evE cf pins b ρ1) fun y ρ2 => if bok x b then lft (binD o x y) ρ2 else none
  | .neg a, ρ => bnd (evE cf pins a ρ) fun x ρ1 => match x with
    | .int i => some (.ok (.int (-i)) ρ1)
    | _ => none
  | .cmp o a b, ρ => bnd (evE cf pins a ρ) fun x ρ1 => bnd (evE cf pins b ρ1) fun y ρ2 => if bok x b then lft ((cmpD o x y).map .bl) ρ2 else none
  | .cmp2 o o' a b c, ρ => bnd (evE cf pins a ρ) fun x ρ1 => bnd (evE cf pins b ρ1) fun y ρ2 => if fz x && fz y then match cmpD o x y with
    | some true => bnd (evE cf pins c ρ2) fun z ρ3 => lft ((cmpD o' y z).map .bl) ρ3
    | some false => some (.ok (.bl false) ρ2)
    | none => none
    else none
  | .isN n a, ρ => bnd (evE cf pins a ρ) fun x ρ1 => some (.ok (.bl (if n then isNon x else !isNon x)) ρ1)
  | .isB n b a, ρ => bnd (evE cf pins a ρ) fun x ρ1 => some (.ok (.bl (if n then isBl b x else !isBl b x)) ρ1)
  | .bone a, ρ => bnd (evE cf pins a ρ) fun d ρ1 => lft (ownM a d) ρ1
  | .band a b, ρ => bnd (evE cf pins a ρ) fun x ρ1 => match x with
    | .bl true => bnd (evE cf pins b ρ1) fun d ρ2 => lft (ownM b d) ρ2
    | .bl false => some (.ok (.bl false) ρ1)
    | _ => none
  | .bor a b, ρ => bnd (evE cf pins a ρ) fun x ρ1 => match x with
    | .bl false => bnd (evE cf pins b ρ1) fun d ρ2 => lft (ownM b d) ρ2
    | .bl true => some (.ok (.bl true) ρ1)
    | _ => none
  | .bnot a, ρ => bnd (evE cf pins a ρ) fun x ρ1 => match x with
    | .bl b => some (.ok (.bl (!b)) ρ1)
    | _ => none
  | .ife t a b, ρ => bnd (evT cf pins t ρ) fun c ρ1 => match c with
    | true => bnd (evE cf pins a ρ1) fun d ρ2 => lft (ownM a d) ρ2
    | false => bnd (evE cf pins b ρ1) fun d ρ2 => lft (ownM b d) ρ2
  | .fzE a, ρ => bnd (evE cf pins a ρ) fun d ρ1 => lft (frzM a d) ρ1
  | .tup es, ρ => bnd (evL cf pins es ρ) fun ds ρ1 => some (.ok (.tup ds) ρ1)
  | .lst es, ρ => bnd (evL cf pins es ρ) fun ds ρ1 => some (.ok (.acc ds) ρ1)
  | .box es, ρ => bnd (evW cf pins es ρ) fun ds ρ1 => some (.ok (.box ds) ρ1)
  | .idx a i, ρ => bnd (evE cf pins a ρ) fun x ρ1 => bnd (evE cf pins i ρ1) fun y ρ2 => if bok x i then lft (idxD x y) ρ2 else none
  | .slc a lo hi, ρ => bnd (evE cf pins a ρ) fun x ρ1 => bnd (evO cf pins lo ρ1) fun l ρ2 => bnd (evO cf pins hi ρ2) fun h ρ3 => if fz x || (pureM lo && pureM hi) then lft (slcD x l h) ρ3 else none
  | .rvs a, ρ => bnd (evE cf pins a ρ) fun x ρ1 => lft (rvsD x) ρ1
  | .bi1 b a, ρ => bnd (evE cf pins a ρ) fun x ρ1 => lft (bi1D b x) ρ1
  | .jn z a, ρ => bnd (evE cf pins a ρ) fun x ρ1 => lft (joinD z x) ρ1
  | .bi2 b a c, ρ => bnd (evE cf pins a ρ) fun x ρ1 => bnd (evE cf pins c ρ1) fun y ρ2 => lft (bi2D b x y) ρ2
  | .isi a _ ts, ρ => bnd (evE cf pins a ρ) fun x ρ1 => lft ((isiD x ts).map .bl) ρ1
  | .call f as, ρ => bnd (evG cf pins as ρ) fun gs ρ1 => match argD gs ρ1 with
    | some ds => callD (cf f ds) gs ρ1
    | none => none
  | .gfn f n, ρ => some (.ok (.fn f n) ρ)
  | .att a n cs, ρ => bnd (evE cf pins a ρ) fun x ρ1 => lft (attD cs n x) ρ1
  | .new c ns as, ρ => bnd (evL cf pins as ρ) fun ds ρ1 => if ds.length = ns.length then some (.ok (.obj c ns ds) ρ1) else none
  | .callb f i, ρ => match getP (.sl i) ρ with
    | some (.acc ds) => match cf f [.lst ds] with
      | some (.ok d _) => if flatD d then some (.ok d ρ) else none
      | _ => none
    | _ => none
  | .callb2 f e i, ρ => bnd (evE cf pins e ρ) fun x ρ1 => bnd (lft (frzM e x) ρ1) fun x' ρ2 => match getP (.sl i) ρ2 with
    | some (.acc ds) => match cf f [x', .lst ds] with
      | some (.ok d _) => if flatD d then some (.ok d ρ2) else none
      | _ => none
    | _ => none
  | .callv i n as, ρ => match getP (.sl i) ρ with
    | some (.fn f m) => if m = n then bnd (evG cf pins as ρ) fun gs ρ1 => match argD gs ρ1 with
      | some ds => callD (cf f ds) gs ρ1
      | none => none
      else none
    | _ => none
  | .callk f ks as, ρ => bnd (evL cf pins as ρ) fun ds ρ1 => callD (cf f (ks.map fun k => ds.getD k .non)) [] ρ1
  | .lc2 own tg it own1 tg1 it1 elt, ρ => bnd (evI cf pins it ρ) fun ds ρ1 => if ds.length ≤ sizeLine ∧ ownFz ρ1 own = true then
      match lc2M (fun d ρ => tgM pins tg d ρ) (fun ρ => evI cf pins it1 ρ) (fun d ρ => match tgM pins tg1 d ρ with
        | some ρ2 => bnd (evE cf pins elt ρ2) fun x ρ4 => bnd (lft (frzM elt x) ρ4) fun x' ρ5 => some (.ok (some x') (wipeD ρ5 own1))
        | none => none) own own1 ds [] (wipeD ρ1 own) with
      | some (xs, ρ2) => some (.ok (.acc xs) (backD ρ1 ρ2 own))
      | none => none
      else none
  | .lco own tg s cs elt, ρ => match getP (.sl s) ρ with
    | some (.acc ds) => if ds.length ≤ sizeLine ∧ ownFz ρ own = true then
      match lcM (fun d ρ => match tgM pins tg d ρ with
        | some ρ2 => bnd (evC cf pins cs ρ2) fun c ρ3 => match c with
          | true => bnd (evE cf pins elt ρ3) fun x ρ4 => bnd (lft (frzM elt x) ρ4) fun x' ρ5 => keepsD s (.acc ds) ρ5 (some (.ok (some x') (wipeD ρ5 own)))
          | false => keepsD s (.acc ds) ρ3 (some (.ok none (wipeD ρ3 own)))
        | none => none) ds [] (wipeD ρ own) with
      | some (xs, ρ2) => some (.ok (.acc xs) (backD ρ ρ2 own))
      | none => none
      else none
    | _ => none
  | .lc own tg it cs elt, ρ => bnd (evI cf pins it ρ) fun ds ρ1 => if ds.length ≤ sizeLine ∧ ownFz ρ1 own = true then
      match lcM (fun d ρ => match tgM pins tg d ρ with
        | some ρ2 => bnd (evC cf pins cs ρ2) fun c ρ3 => match c with
          | true => bnd (evE cf pins elt ρ3) fun x ρ4 => bnd (lft (frzM elt x) ρ4) fun x' ρ5 => some (.ok (some x') (wipeD ρ5 own))
          | false => some (.ok none (wipeD ρ3 own))
        | none => none) ds [] (wipeD ρ1 own) with
      | some (xs, ρ2) => some (.ok (.acc xs) (backD ρ1 ρ2 own))
      | none => none
    else none
  | .pop p, ρ => match getP p ρ with
    | some (.acc ds) => match ds[ds.length - 1]? with
      | some d => some (.ok d (putP p (.acc ds.dropLast) ρ))
      | none => none
    | _ => none
  | .popAt p e, ρ => match getP p ρ with
    | some (.acc _) => bnd (evE cf pins e ρ) fun y ρ1 => match y, getP p ρ1 with
      | .int i, some (.acc ds) => match ixN ds.length i with
        | some k => match ds[k]? with
          | some d => if (p.isSl || pureM e) = true ∧ -(2 ^ 63) ≤ i ∧ i < 2 ^ 63 then some (.ok d (putP p (.acc (ds.eraseIdx k)) ρ1)) else none
          | none => none
        | none => none
      | _, _ => none
    | _ => none
  | .lrg t it, ρ => bnd (evI cf pins it ρ) fun ds ρ1 => if ds.length ≤ 16777216 then some (.ok (if t then .tup ds else .acc ds) ρ1) else none
  | _, _ => none
/-- .. as a test -/
noncomputable def evT (cf : Nat → List D → Option CR) (pins : List Nat) : M → DEnv → Option (RS Bool)
  | .bone a, ρ => evT cf pins a ρ
  | .band a b, ρ => bnd (evT cf pins a ρ) fun c ρ1 => match c with
    | true => evT cf pins b ρ1
    | false => some (.ok false ρ1)
  | .bor a b, ρ => bnd (evT cf pins a ρ) fun c ρ1 => match c with
    | true => some (.ok true ρ1)
    | false => evT cf pins b ρ1
  | .bnot a, ρ => bnd (evT cf pins a ρ) fun c ρ1 => some (.ok (!c) ρ1)
  | .cmp o a b, ρ => bnd (evE cf pins a ρ) fun x ρ1 => bnd (evE cf pins b ρ1) fun y ρ2 => if bok x b then lft (cmpD o x y) ρ2 else none
  | .cmp2 o o' a b c, ρ => bnd (evE cf pins a ρ) fun x ρ1 => bnd (evE cf pins b ρ1) fun y ρ2 => if fz x && fz y then match cmpD o x y with
    | some true => bnd (evE cf pins c ρ2) fun z ρ3 => lft (cmpD o' y z) ρ3
    | some false => some (.ok false ρ2)
    | none => none
    else none
  | .isN n a, ρ => bnd (evE cf pins a ρ) fun x ρ1 => some (.ok (if n then isNon x else !isNon x) ρ1)
  | .isB n b a, ρ => bnd (evE cf pins a ρ) fun x ρ1 => some (.ok (if n then isBl b x else !isBl b x) ρ1)
  | .seq e, ρ => bnd (evE cf pins e ρ) fun x ρ1 => lft (truD x) ρ1
  | _, _ => none
/-- rows of values that are kept -/
noncomputable def evL (cf : Nat → List D → Option CR) (pins : List Nat) : M → DEnv → Option (RS (List D))
  | .nil, ρ => some (.ok [] ρ)
  | .cons h t, ρ => bnd (evE cf pins h ρ) fun x ρ1 => bnd (lft (frzM h x) ρ1) fun x' ρ2 => bnd (evL cf pins t ρ2) fun xs ρ3 => some (.ok (x' :: xs) ρ3)
  | _, _ => none
/-- .. that may be owned -/
noncomputable def evW (cf : Nat → List D → Option CR) (pins : List Nat) : M → DEnv → Option (RS (List D))
  | .nil, ρ => some (.ok [] ρ)
  | .cons h t, ρ => bnd (evE cf pins h ρ) fun x ρ1 => bnd (lft (ownM h x) ρ1) fun x' ρ2 => bnd (evW cf pins t ρ2) fun xs ρ3 => some (.ok (x' :: xs) ρ3)
  | _, _ => none
/-- arguments -/
noncomputable def evG (cf : Nat → List D → Option CR) (pins : List Nat) : M → DEnv → Option (RS (List (D ⊕ Nat)))
  | .nil, ρ => some (.ok [] ρ)
  | .cons (.io i) t, ρ => match getP (.sl i) ρ with
    | some _ => bnd (evG cf pins t ρ) fun xs ρ3 => some (.ok (.inr i :: xs) ρ3)
    | none => none
  | .cons h t, ρ => bnd (evE cf pins h ρ) fun x ρ1 => bnd (lft (frzM h x) ρ1) fun x' ρ2 => bnd (evG cf pins t ρ2) fun xs ρ3 => some (.ok (.inl x' :: xs) ρ3)
  | _, _ => none
/-- parts of a slice -/
noncomputable def evO (cf : Nat → List D → Option CR) (pins : List Nat) : M → DEnv → Option (RS (Option Int))
  | .no, ρ => some (.ok none ρ)
  | .seq e, ρ => bnd (evE cf pins e ρ) fun x ρ1 => match x with
    | .int i => some (.ok (some i) ρ1)
    | _ => none
  | _, _ => none
/-- what is walked -/
noncomputable def evI (cf : Nat → List D → Option CR) (pins : List Nat) : M → DEnv → Option (RS (List D))
  | .seq e, ρ => bnd (evE cf pins e ρ) fun x ρ1 => bnd (lft (frzM e x) ρ1) fun x' ρ2 => match x' with
    | .str s => some (.ok (s.cps.toList.map fun c => .str ⟨#[c]⟩) ρ2)
    | x' => lft (seqD x') ρ2
  | .rg1 a, ρ => bnd (evE cf pins a ρ) fun x ρ1 => match x with
    | .int i => lft (rgD 0 i) ρ1
    | _ => none
  | .rg2 a b, ρ => bnd (evE cf pins a ρ) fun x ρ1 => bnd (evE cf pins b ρ1) fun y ρ2 => match x, y with
    | .int i, .int j => lft (rgD i j) ρ2
    | _, _ => none
  | .rg3 a b c, ρ => bnd (evE cf pins a ρ) fun x ρ1 => bnd (evE cf pins b ρ1) fun y ρ2 => bnd (evE cf pins c ρ2) fun z ρ3 => match x, y, z with
    | .int i, .int j, .int k => lft (rg3D i j k) ρ3
    | _, _, _ => none
  | .enum e, ρ => bnd (evE cf pins e ρ) fun x ρ1 => bnd (lft (frzM e x) ρ1) fun x' ρ2 => lft (enumD x') ρ2
  | .zip a b, ρ => bnd (evE cf pins a ρ) fun x ρ1 => bnd (lft (frzM a x) ρ1) fun x' ρ2 => bnd (evE cf pins b ρ2) fun y ρ3 => bnd (lft (frzM b y) ρ3) fun y' ρ4 => lft (zipD x' y') ρ4
  | .rvd e, ρ => bnd (evE cf pins e ρ) fun x ρ1 => bnd (lft (frzM e x) ρ1) fun x' ρ2 => lft (rvdD x') ρ2
  | _, _ => none
/-- the tests of a comprehension -/
noncomputable def evC (cf : Nat → List D → Option CR) (pins : List Nat) : M → DEnv → Option (RS Bool)
  | .nil, ρ => some (.ok true ρ)
  | .cons t ts, ρ => bnd (evT cf pins t ρ) fun c ρ1 => match c with
    | true => evC cf pins ts ρ1
    | false => some (.ok false ρ1)
  | _, _ => none
end
/-- two or three names at once -/
def parD (pins : List Nat) : List Nat → List D → DEnv → Option DEnv
  | [], [], ρ => some ρ
  | i :: is, d :: ds, ρ => match asgI pins i d ρ with
    | some ρ' => parD pins is ds ρ'
    | none => none
  | _, _, _ => none
/-- one value for names, from the left -/
def asgsD (pins : List Nat) : List Nat → D → DEnv → Option DEnv
  | [], _, ρ => some ρ
  | i :: is, d, ρ => match asgI pins i d ρ with
    | some ρ' => asgsD pins is d ρ'
    | none => none
def toSR (r : Option (RS DEnv)) : Option SR := match r with
  | none => none
  | some (.ok ρ _) => some (.nx ρ)
  | some (.exc x ρ) => some (.exc x ρ)
/-- statements, blocks -/
noncomputable def evS (cf : Nat → List D → Option CR) (pins : List Nat) : M → DEnv → Option SR
  | .nil, ρ => some (.nx ρ)
  | .cons s t, ρ => match evS cf pins s ρ with
    | some (.nx ρ') => evS cf pins t ρ'
    | r => r
  | .asg tg e, ρ => toSR (bnd (evE cf pins e ρ) fun x ρ1 => bnd (lft (ownM e x) ρ1) fun x' ρ2 => bnd (lft (tgM pins tg x' ρ2) ρ2) fun ρ3 _ => some (.ok ρ3 ρ3))
  | .par is es, ρ => toSR (bnd (evW cf pins es ρ) fun ds ρ1 => bnd (lft (parD pins is ds ρ1) ρ1) fun ρ3 _ => some (.ok ρ3 ρ3))
  | .asgs is e, ρ => toSR (bnd (evE cf pins e ρ) fun x ρ1 => bnd (lft (frzM e x) ρ1) fun x' ρ2 => bnd (lft (asgsD pins is x' ρ2) ρ2) fun ρ3 _ => some (.ok ρ3 ρ3))
  | .aug i o e, ρ => match getP (.sl i) ρ with
    | some (.int x) => toSR (bnd (evE cf pins e ρ) fun y ρ1 => match augI o x y with
      | some z => bnd (lft (asgI pins i (.int z) ρ1) ρ1) fun ρ3 _ => some (.ok ρ3 ρ3)
      | none => none)
    | _ => none
  | .seti p i e, ρ => toSR (bnd (evE cf pins e ρ) fun x ρ1 => bnd (lft (frzM e x) ρ1) fun x' ρ2 => match getP p ρ2 with
    | none => none
    | some _ => bnd (evE cf pins i ρ2) fun y ρ3 => match y, getP p ρ3 with
      | .int k, some (.acc ds) => match ixN ds.length k with
        | some j => if p.isSl || pureM i then some (.ok (putP p (.acc (ds.set j x')) ρ3) ρ3) else none
        | none => none
      | .int k, some (.box ds) => match ixN ds.length k with
        | some j => if (p.isSl || pureM i) && (ds[j]?.elim false fz) then some (.ok (putP p (.box (ds.set j x')) ρ3) ρ3) else none
        | none => none
      | _, _ => none)
  | .exp e, ρ => toSR (bnd (evE cf pins e ρ) fun _ ρ1 => some (.ok ρ1 ρ1))
  | .app p e, ρ => match getP p ρ with
    | some (.acc _) => toSR (bnd (evE cf pins e ρ) fun x ρ1 => bnd (lft (frzM e x) ρ1) fun x' ρ2 => match getP p ρ2 with
      | some (.acc ds) => if ds.length < sizeLine ∧ (p.isSl || pureM e) = true then some (.ok (putP p (.acc (ds ++ [x'])) ρ2) ρ2) else none
      | _ => none)
    | _ => none
  | .ext p e, ρ => match getP p ρ with
    | some (.acc _) => toSR (bnd (evE cf pins e ρ) fun x ρ1 => match extD x, getP p ρ1 with
      | some es, some (.acc ds) => if ds.length + es.length ≤ sizeLine ∧ (p.isSl || pureM e) = true then some (.ok (putP p (.acc (ds ++ es)) ρ1) ρ1) else none
      | _, _ => none)
    | _ => none
  | .rev p, ρ => match getP p ρ with
    | some (.acc ds) => some (.nx (putP p (.acc ds.reverse) ρ))
    | _ => none
  | .iff t a b, ρ => match evT cf pins t ρ with
    | some (.ok true ρ1) => evS cf pins a ρ1
    | some (.ok false ρ1) => evS cf pins b ρ1
    | some (.exc x ρ1) => some (.exc x ρ1)
    | none => none
  | .whl t b, ρ => whM (evT cf pins t) (evS cf pins b) ρ
  | .for_ tg it b, ρ => match evI cf pins it ρ with
    | some (.ok ds ρ1) => forM (fun d ρ => match tgM pins tg d ρ with
      | some ρ2 => evS cf pins b ρ2
      | none => none) ds ρ1
    | some (.exc x ρ1) => some (.exc x ρ1)
    | none => none
  | .ret e, ρ => match bnd (evE cf pins e ρ) fun x ρ1 => lft (ownM e x) ρ1 with
    | some (.ok d ρ1) => some (.rt d ρ1)
    | some (.exc x ρ1) => some (.exc x ρ1)
    | none => none
  | .retn, ρ => some (.rt .non ρ)
  | .brk, ρ => some (.br ρ)
  | .cnt, ρ => some (.ct ρ)
  | .pss, ρ => some (.nx ρ)
  | _, _ => none
/-! ### defs -/
structure MFn where
  ar : Nat
  sl : Nat
  io : List Nat
  body : M
/-- the arguments behind the call: those that may be changed as they are then -/
def outs (io : List Nat) : Nat → DEnv → List D → Option (List D)
  | _, _, [] => some []
  | _, [], _ :: _ => none
  | n, s :: ρ, d :: ds => match (if n ∈ io then s else if fz d then some d else none), outs io (n + 1) ρ ds with
    | some d', some r => some (d' :: r)
    | _, _ => none
def finC (fn : MFn) (ds : List D) : Option SR → Option CR
  | some (.rt d ρ) => (outs fn.io 0 ρ ds).map (.ok d)
  | some (.nx ρ) => (outs fn.io 0 ρ ds).map (.ok .non)
  | some (.exc x ρ) => (outs fn.io 0 ρ ds).map (.exc x)
  | _ => none
noncomputable def callM (T : List MFn) : Nat → Nat → List D → Option CR
  | 0, _, _ => none
  | k + 1, i, ds => match T[i]? with
    | some fn => if ds.length = fn.ar then finC fn ds (evS (callM T k) fn.io fn.body (ds.map some ++ List.replicate (fn.sl - fn.ar) none)) else none
    | none => none
end L2.PV
set_option Elab.async false
set_option linter.all false
set_option autoImplicit false
/-! The readings, and what a place is. -/
namespace L2.PV
open PySem PySem.Spec PyProof.Rows
def RpX (C : RC) (G : Hp) (x : Exn) (cls : Value) (d : Option Addr) : Prop :=
  cls = .ref (C.cl x.c) ∧ (x.ns = [] ∨ ∃ dx vs, d = some dx ∧ G dx = some (.xd (x.ns.zip vs)) ∧ x.ns.length = vs.length ∧ Rps C G x.ds vs)
def goX {α : Type} (r : Option (RS α)) (ok : α → DEnv → Prop) (ex : Exn → DEnv → Prop) : Prop := match r with
  | none => False
  | some (.ok a ρ) => ok a ρ
  | some (.exc x ρ) => ex x ρ
theorem goX.mono {α : Type} {r : Option (RS α)} {ok ok' : α → DEnv → Prop} {ex ex' : Exn → DEnv → Prop} (h : goX r ok ex) (k : ∀ a ρ, ok a ρ → ok' a ρ) (l : ∀ x ρ, ex x ρ → ex' x ρ) : goX r ok' ex' := by
  cases r with
  | none => exact h
  | some r => cases r with
    | ok a ρ => exact k _ _ h
    | exc x ρ => exact l _ _ h
theorem goX_bnd {α β : Type} {r : Option (RS α)} {f : α → DEnv → Option (RS β)} {ok : β → DEnv → Prop} {ex : Exn → DEnv → Prop} : goX (bnd r f) ok ex = goX r (fun a ρ => goX (f a ρ) ok ex) ex := by
  cases r with
  | none => rfl
  | some r => cases r <;> rfl
theorem goX_lft {α : Type} {r : Option α} {ρ : DEnv} {ok : α → DEnv → Prop} {ex : Exn → DEnv → Prop} (h : goX (lft r ρ) ok ex) : ∃ a, r = some a ∧ ok a ρ := by
  cases r with
  | none => exact h.elim
  | some a => exact ⟨a, rfl, h⟩
theorem goX_ite {α : Type} {c : Prop} [Decidable c] {r : Option (RS α)} {ok : α → DEnv → Prop} {ex : Exn → DEnv → Prop} (h : goX (if c then r else none) ok ex) : c ∧ goX r ok ex := by
  by_cases hc : c
  · rw [if_pos hc] at h; exact ⟨hc, h⟩
  · rw [if_neg hc] at h; exact h.elim
section
variable (C : RC) (W : WX)
def exK (H G : Hp) (O : List Addr) (σ : St) : Exn → DEnv → Prop := fun x ρ => ∀ cls d H' G' O', Step false H G O H' G' O' → Wd H' G' O' → RpX C G' x cls d → AgL C G' H' ρ σ O' → W cls d σ H'
/-- a value that is looked at -/
def okB (p : Bool) (H G : Hp) (O : List Addr) (σ : St) (Q : VK) : D → DEnv → Prop := fun d ρ => ∀ v H' G' Od O', Step p H G O H' G' O' → Wd H' G' O' → RpO C G' H' d v Od → AgL C G' H' ρ σ O' → Q v H'
/-- a value by itself -/
def okE (p : Bool) (H G : Hp) (O : List Addr) (σ : St) (Q : VK) : D → DEnv → Prop := fun d ρ => ∀ v H' G' Od O', Step p H G O H' G' (Od ++ O') → Wd H' G' (Od ++ O') → RpO C G' H' d v Od → AgL C G' H' ρ σ O' → Q v H'
def okT (p : Bool) (H G : Hp) (O : List Addr) (σ : St) (Q : Bool → Hp → Prop) : Bool → DEnv → Prop := fun b ρ => ∀ H' G' O', Step p H G O H' G' O' → Wd H' G' O' → AgL C G' H' ρ σ O' → Q b H'
/-- shared values -/
def okL (p : Bool) (H G : Hp) (O : List Addr) (σ : St) (Q : List V → Hp → Prop) : List D → DEnv → Prop := fun ds ρ => ∀ vs H' G' O', Step p H G O H' G' O' → Wd H' G' O' → Rps C G' ds vs → AgL C G' H' ρ σ O' → Q vs H'
/-- values by themselves -/
def okW (p : Bool) (H G : Hp) (O : List Addr) (σ : St) (Q : List V → Hp → Prop) : List D → DEnv → Prop := fun ds ρ => ∀ vs H' G' Od O', Step p H G O H' G' (Od ++ O') → Wd H' G' (Od ++ O') → RpOs C G' H' ds vs Od → AgL C G' H' ρ σ O' → Q vs H'
def tX {α β : Type} (ok : Hp → Hp → List Addr → St → (β → Hp → Prop) → α → DEnv → Prop) (ev : DEnv → Option (RS α)) : St → Hp → (β → Hp → Prop) → Prop := fun σ H Q =>
  ∃ ρ G O, Wd H G O ∧ AgL C G H ρ σ O ∧ goX (ev ρ) (ok H G O σ Q) (exK C W H G O σ)
def tB (p : Bool) (ev : DEnv → Option (RS D)) : TE := tX C W (okB C p) ev
def tE (p : Bool) (ev : DEnv → Option (RS D)) : TE := tX C W (okE C p) ev
def tT (p : Bool) (ev : DEnv → Option (RS Bool)) : TT := tX C W (okT C p) ev
def tL (p : Bool) (ev : DEnv → Option (RS (List D))) : TA := tX C W (okL C p) ev
def tW (p : Bool) (ev : DEnv → Option (RS (List D))) : TA := tX C W (okW C p) ev
end
section
variable {C : RC} {W : WX} {p q : Bool} {H G H0 G0 : Hp} {O O0 : List Addr} {σ : St} {ρ : DEnv}
theorem exK.rebase {x : Exn} (h : exK C W H0 G0 O0 σ x ρ) (st : Step q H0 G0 O0 H G O) : exK C W H G O σ x ρ := fun cls d H' G' O' s w r a => h cls d H' G' O' (st.trans s).weak w r a
/-- one more part -/
theorem tX.next {α β γ : Type} {ok : Hp → Hp → List Addr → St → (β → Hp → Prop) → α → DEnv → Prop} {ev : DEnv → Option (RS α)} {f : α → DEnv → Option (RS γ)} {okf : γ → DEnv → Prop} {Q : β → Hp → Prop}
    (st : Step q H0 G0 O0 H G O) (h : goX (bnd (ev ρ) f) okf (exK C W H0 G0 O0 σ)) (w : Wd H G O) (ag : AgL C G H ρ σ O)
    (k : ∀ a ρ1, goX (f a ρ1) okf (exK C W H0 G0 O0 σ) → ok H G O σ Q a ρ1) : tX C W ok ev σ H Q := by
  refine ⟨ρ, G, O, w, ag, ?_⟩
  rw [goX_bnd] at h
  exact h.mono k fun x ρ1 e => e.rebase st
theorem tX.last {α β : Type} {ok : Hp → Hp → List Addr → St → (β → Hp → Prop) → α → DEnv → Prop} {ev : DEnv → Option (RS α)} {okf : α → DEnv → Prop} {Q : β → Hp → Prop}
    (st : Step q H0 G0 O0 H G O) (h : goX (ev ρ) okf (exK C W H0 G0 O0 σ)) (w : Wd H G O) (ag : AgL C G H ρ σ O)
    (k : ∀ a ρ1, okf a ρ1 → ok H G O σ Q a ρ1) : tX C W ok ev σ H Q := ⟨ρ, G, O, w, ag, h.mono k fun x ρ1 e => e.rebase st⟩
theorem tB.of {p : Bool} {ev : DEnv → Option (RS D)} {H : Hp} {Q : VK} (h : tB C W p ev σ H Q) : tE C W p ev σ H Q := by
  obtain ⟨ρ, G, O, w, ag, g⟩ := h
  exact ⟨ρ, G, O, w, ag, g.mono (fun d ρ1 k v H' G' Od O' s w r a => k v H' G' Od O' (s.sub fun b hb => List.mem_append_right _ hb) w.right r a) fun _ _ e => e⟩
/-- what was looked at stays -/
theorem RpO.keep {p : Bool} {H1 G1 H2 G2 : Hp} {O1 O2 Od : List Addr} {d : D} {v : V} (r : RpO C G1 H1 d v Od) (st : Step p H1 G1 O1 H2 G2 O2) (h : (PV.fz d || p) = true) : RpO C G2 H2 d v Od := by
  rcases Bool.or_eq_true_iff.mp h with f | f
  · obtain ⟨e, r⟩ := (RpO.fz f).mp r
    exact (RpO.fz f).mpr ⟨e, r.same st.gg d v⟩
  · exact RpO.frame st.gg d v Od r fun a _ o h => st.sm f a o h
/-- .. what is by itself, too -/
theorem RpO.keep1 {p : Bool} {H1 G1 H2 G2 : Hp} {O1 O2 Od : List Addr} {d : D} {v : V} (r : RpO C G1 H1 d v Od) (st : Step p H1 G1 O1 H2 G2 O2) (h : ∀ a ∈ Od, a ∉ O1) : RpO C G2 H2 d v Od :=
  RpO.frame st.gg d v Od r fun a ha o e => st.fr a o e (h a ha)
theorem Rp.of {d : D} {v : V} {Od : List Addr} (f : PV.fz d = true) (r : RpO C G H d v Od) : Rp C G d v := ((RpO.fz f).mp r).2
theorem Rp.own {d : D} {v : V} (f : PV.fz d = true) (r : Rp C G d v) : RpO C G H d v [] := (RpO.fz f).mpr ⟨rfl, r⟩
theorem Rp.isFz : ∀ {d : D} {v : V}, Rp C G d v → PV.fz d = true
  | .non, _, _ => rfl | .bl _, _, _ => rfl | .int _, _, _ => rfl | .str _, _, _ => rfl | .tup _, _, _ => rfl | .lst _, _, _ => rfl | .scr _, _, _ => rfl | .obj _ _ _, _, _ => rfl | .fn _ _, _, _ => rfl | .kd _ _, _, _ => rfl
  | .acc _, _, h => h.elim | .box _, _, h => h.elim | .own _ _ _, _, h => h.elim
/-! ### sharing -/
theorem frz_ok {d d' : D} {v : V} {Od : List Addr} (e : frzD d = some d') (w : Wd H G (Od ++ O)) (r : RpO C G H d v Od) (ag : AgL C G H ρ σ O) :
    ∃ G', Step true H G (Od ++ O) H G' O ∧ Wd H G' O ∧ Rp C G' d' v ∧ AgL C G' H ρ σ O := by
  have same : fz d = true → d' = d → ∃ G', Step true H G (Od ++ O) H G' O ∧ Wd H G' O ∧ Rp C G' d' v ∧ AgL C G' H ρ σ O := fun f e2 => by
    subst e2
    exact ⟨G, (Step.refl true).sub fun b hb => List.mem_append_right _ hb, w.right, Rp.of f r, ag⟩
  cases d with
  | acc ds =>
    obtain rfl : d' = .lst ds := (Option.some.inj e).symm
    obtain ⟨a, vs, rfl, rfl, h1, h2⟩ := r
    obtain ⟨s1, s2⟩ := step_freeze (show Wd H G (a :: O) from w) h1
    exact ⟨_, s1, s2, ⟨a, vs, rfl, upd_same, Rps.same s1.gg _ _ h2⟩, ag.frame s1.gg fun _ _ _ h => h⟩
  | box ds => cases e
  | own c ns ds =>
    simp only [frzD] at e
    split at e
    · rename_i ha
      obtain rfl : d' = .obj c ns ds := (Option.some.inj e).symm
      obtain ⟨a, dx, vs, O', rfl, rfl, h1, hl, h2⟩ := r
      have key : ∀ (ds : List D) (vs : List V) (O' : List Addr), ds.all PV.fz = true → RpOs C G H ds vs O' → O' = [] ∧ Rps C G ds vs := by
        intro ds
        induction ds with
        | nil => intro vs O' _ h; exact ⟨h.2, h.1⟩
        | cons d ds ih =>
          intro vs O' ha h
          obtain ⟨v, ws, O1, O2, rfl, rfl, k1, k2⟩ := h
          rw [List.all_cons, Bool.and_eq_true] at ha
          obtain ⟨e1, k1⟩ := (RpO.fz ha.1).mp k1
          obtain ⟨e2, k2⟩ := ih ws O2 ha.2 k2
          exact ⟨by rw [e1, e2]; rfl, v, ws, rfl, k1, k2⟩
      obtain ⟨rfl, h3⟩ := key _ _ _ ha h2
      obtain ⟨s1, s2⟩ := step_freeze (show Wd H G (a :: O) from w) h1
      exact ⟨_, s1, s2, ⟨a, dx, vs, rfl, upd_same, hl, Rps.same s1.gg _ _ h3⟩, ag.frame s1.gg fun _ _ _ h => h⟩
    · cases e
  | non => exact same rfl (Option.some.inj e).symm
  | bl _ => exact same rfl (Option.some.inj e).symm
  | int _ => exact same rfl (Option.some.inj e).symm
  | str _ => exact same rfl (Option.some.inj e).symm
  | tup _ => exact same rfl (Option.some.inj e).symm
  | lst _ => exact same rfl (Option.some.inj e).symm
  | scr _ => exact same rfl (Option.some.inj e).symm
  | obj _ _ _ => exact same rfl (Option.some.inj e).symm
  | fn _ _ => exact same rfl (Option.some.inj e).symm
  | kd _ _ => exact same rfl (Option.some.inj e).symm
/-! ### places -/
/-- the plain value at a place -/
def valP : Pl → St → Hp → Option V
  | .sl i, σ, _ => match σ[i]? with
    | some (some v) => some v
    | _ => none
  | .it p k, σ, H => match valP p σ H with
    | some (.ref a) => match H a with
      | some (.lst vs) => vs[k]?
      | _ => none
    | _ => none
theorem valP.same {H H' : Hp} (e : Same H H') : ∀ {p : Pl} {v : V}, valP p σ H = some v → valP p σ H' = some v
  | .sl i, _, h => h
  | .it p k, v, h => by
    unfold valP at h ⊢
    split at h
    · rename_i a ea
      rw [valP.same e ea]
      split at h
      · rename_i vs eh
        simp only [e _ _ eh]; exact h
      · cases h
    · cases h
theorem valP.sl {H H' : Hp} {p : Pl} {v : V} (hp : p.isSl = true) (h : valP p σ H = some v) : valP p σ H' = some v := by
  cases p with
  | sl i => exact h
  | it p k => cases hp
theorem RpOs.pick {C : RC} {G H : Hp} : ∀ {ds : List D} {vs : List V} {O : List Addr} {k : Nat} {d : D}, RpOs C G H ds vs O → ds[k]? = some d →
    ∃ v Ok R, vs[k]? = some v ∧ RpO C G H d v Ok ∧ O.Perm (Ok ++ R) ∧ ∀ (H' G' : Hp) (d' : D) (Ok' : List Addr), Same G G' → (∀ a ∈ R, ∀ o, H a = some o → H' a = some o) → RpO C G' H' d' v Ok' → ∃ O', O'.Perm (Ok' ++ R) ∧ RpOs C G' H' (ds.set k d') vs O'
  | [], _, _, _, _, _, e => by simp at e
  | d0 :: ds, _, _, 0, d, ⟨v, ws, O1, O2, h1, h2, h3, h4⟩, e => by
    simp at e; subst e; subst h1; subst h2
    exact ⟨v, O1, O2, rfl, h3, List.Perm.refl _, fun H' G' d' Ok' hg hk r => ⟨Ok' ++ O2, List.Perm.refl _, v, ws, Ok', O2, rfl, rfl, r, RpOs.frame hg ds ws O2 h4 hk⟩⟩
  | d0 :: ds, _, _, k + 1, d, ⟨v0, ws, O1, O2, h1, h2, h3, h4⟩, e => by
    subst h1; subst h2
    obtain ⟨v, Ok, R, q1, q2, q3, q4⟩ := RpOs.pick h4 (show ds[k]? = some d by simpa using e)
    have swap : ∀ X : List Addr, (O1 ++ (X ++ R)).Perm (X ++ (O1 ++ R)) := fun X => by
      rw [← List.append_assoc, ← List.append_assoc]
      exact List.perm_append_comm.append_right R
    refine ⟨v, Ok, O1 ++ R, by simpa using q1, q2, (q3.append_left O1).trans (swap Ok), fun H' G' d' Ok' hg hk r => ?_⟩
    obtain ⟨O', e1, e2⟩ := q4 H' G' d' Ok' hg (fun a ha => hk a (List.mem_append_right _ ha)) r
    exact ⟨O1 ++ O', (e1.append_left O1).trans (swap Ok'), v0, ws, O1, O', rfl, rfl, RpO.frame hg d0 v0 O1 h3 fun a ha => hk a (List.mem_append_left _ ha), e2⟩
/-- a place seen by itself, and put back -/
theorem lens {C : RC} {G H : Hp} {ρ : DEnv} {σ : St} {O : List Addr} (ag : AgL C G H ρ σ O) (nd : O.Nodup) : ∀ (p : Pl) {d : D}, getP p ρ = some d →
    ∃ v Od R, valP p σ H = some v ∧ RpO C G H d v Od ∧ O.Perm (Od ++ R) ∧ ∀ (H' G' : Hp) (d' : D) (Od' : List Addr), Same G G' → (∀ a ∈ R, ∀ o, H a = some o → H' a = some o) → RpO C G' H' d' v Od' → ∃ O', O'.Perm (Od' ++ R) ∧ AgL C G' H' (putP p d' ρ) σ O'
  | .sl i, d, e => by
    unfold getP at e
    split at e
    · rename_i d0 e0
      obtain rfl : d0 = d := Option.some.inj e
      obtain ⟨v, O1, R, q1, q2, q3, q4⟩ := AgL.out i ag e0
      refine ⟨v, O1, R, by unfold valP; rw [q1], q2, q3, fun H' G' d' Od' hg hk r => ?_⟩
      have hi : i < ρ.length := (List.getElem?_eq_some_iff.mp e0).1
      obtain ⟨O', e1, e2⟩ := AgL.put i (q4.frame hg hk) (show (ρ.set i none)[i]? = some none by rw [List.getElem?_set_self hi]) r
      refine ⟨O', e1, ?_⟩
      rw [List.set_set] at e2
      have hs : σ.set i (some v) = σ := by
        obtain ⟨hj, ej⟩ := List.getElem?_eq_some_iff.mp q1
        rw [← ej]; exact List.set_getElem_self hj
      rw [hs] at e2
      exact e2
    · cases e
  | .it p k, d, e => by
    unfold getP at e
    split at e
    · rename_i ds e0
      obtain ⟨v0, O0, R0, q1, q2, q3, q4⟩ := lens ag nd p e0
      obtain ⟨a, vs, O', rfl, rfl, h1, h2⟩ := q2
      obtain ⟨v, Ok, R, r1, r2, r3, r4⟩ := RpOs.pick h2 e
      have nd0 := (q3.nodup_iff).mp nd
      have hne : ∀ b ∈ Ok ++ R, b ≠ a := fun b hb e => by
        have : a ∉ O' := (List.nodup_cons.mp (List.nodup_append.mp nd0).1).1
        exact this ((r3.mem_iff).mpr (e ▸ hb))
      refine ⟨v, Ok, a :: (R ++ R0), ?_, r2, ?_, fun H' G' d' Od' hg hk r => ?_⟩
      · unfold valP; rw [q1]; simp only [h1]; exact r1
      · refine q3.trans ?_
        rw [List.cons_append]
        refine (((r3.append_right R0).cons a).trans ?_)
        rw [List.append_assoc]
        exact List.perm_middle.symm
      · have ha : H' a = some (.lst vs) := hk a List.mem_cons_self _ h1
        obtain ⟨O2, e1, e2⟩ := r4 H' G' d' Od' hg (fun b hb => hk b (List.mem_cons_of_mem _ (List.mem_append_left _ hb))) r
        obtain ⟨O3, e3, e4⟩ := q4 H' G' (.box (ds.set k d')) (a :: O2) hg (fun b hb => hk b (List.mem_cons_of_mem _ (List.mem_append_right _ hb))) ⟨a, vs, O2, rfl, rfl, ha, e2⟩
        refine ⟨O3, e3.trans ?_, ?_⟩
        · rw [List.cons_append]
          refine (((e1.append_right R0).cons a).trans ?_)
          rw [List.append_assoc]
          exact List.perm_middle.symm
        · show AgL C G' H' (match getP p ρ with | some (.box ds) => putP p (.box (ds.set k d')) ρ | _ => ρ) σ O3
          rw [e0]; exact e4
    · cases e
/-- an owned list at a place is changed -/
theorem lens_acc {C : RC} {G H : Hp} {ρ : DEnv} {σ : St} {O : List Addr} (w : Wd H G O) (ag : AgL C G H ρ σ O) {pl : Pl} {ds : List D} (e : getP pl ρ = some (.acc ds)) :
    ∃ a vs, valP pl σ H = some (.ref a) ∧ H a = some (.lst vs) ∧ Rps C G ds vs ∧ ∀ ds' vs', Rps C G ds' vs' → ∃ O', Step false H G O (upd H a (.lst vs')) G O' ∧ Wd (upd H a (.lst vs')) G O' ∧ AgL C G (upd H a (.lst vs')) (putP pl (.acc ds') ρ) σ O' := by
  obtain ⟨v, Od, R, q1, ⟨a, vs, rfl, rfl, h1, h2⟩, q3, q4⟩ := lens ag w.nd pl e
  refine ⟨a, vs, q1, h1, h2, fun ds' vs' r => ?_⟩
  have haO : a ∈ O := (q3.mem_iff).mpr List.mem_cons_self
  obtain ⟨s1, s2⟩ := step_write (o := .lst vs') w haO
  have nd := (q3.nodup_iff).mp w.nd
  obtain ⟨O', e1, e2⟩ := q4 (upd H a (.lst vs')) G (.acc ds') [a] (Same.refl _) (fun b hb o h => by
    have : b ≠ a := fun z => (List.nodup_cons.mp nd).1 (z ▸ hb)
    rw [upd_ne this]; exact h) ⟨a, vs', rfl, rfl, upd_same, r⟩
  have pm : O'.Perm O := e1.trans q3.symm
  exact ⟨O', s1.sub fun b hb => (pm.mem_iff).mp hb, s2.sub ((pm.nodup_iff).mpr w.nd) fun b hb => (pm.mem_iff).mp hb, e2⟩
end
end L2.PV
set_option Elab.async false
set_option linter.all false
set_option autoImplicit false
set_option maxHeartbeats 4000000
/-! An empty tuple * number. -/
namespace L2.PV
open PySem PySem.Spec PyProof.Rows
theorem tuple_mulE (l : Addr) (n : Nat) (dd : Option Addr) (sl : Array (Option Value)) (x : Int) (u : Tok) (c0 : (decide (x < -(2 ^ 63)) || decide (x ≥ 2 ^ 63)) = false) :
    Meets (Builtin.«tuple.__mul__» ⟨[.ref l, .int x u], []⟩) (fun _ R s => s.heap.get? l = some { cls := .type "tuple", dict := dd, data := .seq #[] n, slots := sl } ∧ R (.ok (.ret (Value.ref l))) s) :=
  .of_wp fun prog w A R s h => by
    obtain ⟨hp, g, d, tk, os⟩ := s
    obtain ⟨hl, h⟩ := h
    have f1 := AutoSeq1.idx_int
    wp_walk using wpAny_loadPart' hl
    repeat (first
      | (refine wpAny_ite_false (decide_eq_false (by rw [c0]; exact Bool.false_ne_true)) ?_; wp_walk using wpAny_loadPart' hl))
    exact ⟨_, rfl, h⟩
section
variable {X : Cx}
def rRepE (K : PySem.W.Frag) : R2 := fun x y H Q => ∃ l k, x = .ref l ∧ y = .int k ∧ SqT K H l [] ∧ 2 ≤ k ∧ k ≤ 1000 ∧ Q (.ref l) H
theorem op_repE : OpR X (binaryOp .Mult) (rRepE X.K) := by
  intro pins s σ H x y v u Q I rx ry h
  obtain ⟨l, k, rfl, rfl, hT, h1, h2, q⟩ := h
  cases rx
  obtain ⟨t, rfl⟩ := ry
  obtain ⟨its, r, ⟨⟨cls, dd, data, sl⟩, ho, hc, n, hd⟩, hs⟩ := I.tuple hT
  simp only at hc hd
  subst hc hd
  cases r
  have c0 : (decide (k < -(2 ^ 63)) || decide (k ≥ 2 ^ 63)) = false := by
    rw [decide_eq_false (by omega), decide_eq_false (by omega)] <;> rfl
  refine wpAny_binaryOp_repeat_ref (T := "tuple") (U := "int") (by decide) ⟨_, ho, rfl⟩ (fun s' => typeIs_int s' k t) noFill_tuple_mul F.fills_int_mul F.slot_int_rmul repeat_tuple F.slot_int_index.lookup
    (call_meets F.slot_int_rmul (typeIs_int s k t) F.entry_int_rmul (F.args_int_rmul_2 _ _) (int_rmul_tuple k t l #[] n dd sl)
      ⟨ho, rfl, ⟨_, ho, rfl⟩, call_meets F.slot_tuple_mul ⟨_, ho, rfl⟩ F.entry_tuple_mul (F.args_tuple_mul_2 _ _) (tuple_mulE l n dd sl k t c0) ⟨ho, ?_⟩⟩)
  exact ⟨.ref l, H, I, rfl, q⟩
end
end L2.PV
set_option Elab.async false
set_option linter.all false
set_option autoImplicit false
/-! Operators by values. -/
namespace L2.PV
open PySem PySem.Spec PyProof.Rows
theorem PE.imp {X : Cx} {e : Expr} {t t' : TE} (h : PE X e t) (k : ∀ σ H Q, t' σ H Q → t σ H Q) : PE X e t' := ⟨fun pins s σ H Q I z => h.run pins s σ H Q I (k σ H Q z)⟩
theorem PT.imp {X : Cx} {e : Expr} {t t' : TT} (h : PT X e t) (k : ∀ σ H Q, t' σ H Q → t σ H Q) : PT X e t' := ⟨fun pins s σ H Q I z => h.run pins s σ H Q I (k σ H Q z)⟩
theorem PA.imp {X : Cx} {e : List Expr} {t t' : TA} (h : PA X e t) (k : ∀ σ H Q, t' σ H Q → t σ H Q) : PA X e t' := ⟨fun pos pins s σ H Q I z => h.run pos pins s σ H Q I (k σ H Q z)⟩
theorem PS.imp {X : Cx} {e : Stmt} {t t' : TS} (h : PS X e t) (k : ∀ D σ H, t' D σ H → t D σ H) : PS X e t' := ⟨fun pins s σ H D I z => h.run pins s σ H D I (k D σ H z)⟩
theorem PSs.imp {X : Cx} {e : List Stmt} {t t' : TS} (h : PSs X e t) (k : ∀ D σ H, t' D σ H → t D σ H) : PSs X e t' := ⟨fun pins s σ H D I z => h.run pins s σ H D I (k D σ H z)⟩
theorem Step.wk {p q : Bool} {H G H' G' : Hp} {O O' : List Addr} (a : Step p H G O H' G' O') (h : q = true → p = true) : Step q H G O H' G' O' := ⟨a.gg, a.fr, a.ow, a.gn, fun k => a.sm (h k)⟩
/-- two values and what becomes of them -/
def rD (C : RC) (f : D → D → Option D) : R2 := fun x y H Q => ∃ G O Ox Oy dx dy d, Wd H G O ∧ (∀ a ∈ O, H a ≠ none) ∧ RpO C G H dx x Ox ∧ RpO C G H dy y Oy ∧ f dx dy = some d ∧
  ∀ v H' G' Od, Step true H G O H' G' (Od ++ O) → Wd H' G' (Od ++ O) → RpO C G' H' d v Od → Q v H'
def rDB (C : RC) (f : D → D → Option Bool) : R2 := fun x y H Q => ∃ G O Ox Oy dx dy b, Wd H G O ∧ RpO C G H dx x Ox ∧ RpO C G H dy y Oy ∧ f dx dy = some b ∧ Q (.bl b) H
section
variable {C : RC} {G H : Hp} {O : List Addr}
theorem fin_int {Q : VK} {i : Int} {d : D} (w : Wd H G O) (e : d = .int i) (k : ∀ v H' G' Od, Step true H G O H' G' (Od ++ O) → Wd H' G' (Od ++ O) → RpO C G' H' d v Od → Q v H') : Q (.int i) H := by
  subst e; exact k _ H G [] (Step.refl _) w ⟨rfl, rfl⟩
theorem fin_bool {Q : VK} {b : Bool} {d : D} (w : Wd H G O) (e : d = .bl b) (k : ∀ v H' G' Od, Step true H G O H' G' (Od ++ O) → Wd H' G' (Od ++ O) → RpO C G' H' d v Od → Q v H') : Q (.bl b) H := by
  subst e; exact k _ H G [] (Step.refl _) w ⟨rfl, rfl⟩
theorem fin_str {Q : VK} {b : Str} {d : D} (w : Wd H G O) (e : d = .str b) (k : ∀ v H' G' Od, Step true H G O H' G' (Od ++ O) → Wd H' G' (Od ++ O) → RpO C G' H' d v Od → Q v H') : Q (.str b) H := by
  subst e; exact k _ H G [] (Step.refl _) w ⟨rfl, rfl⟩
/-- a new list -/
theorem fin_acc {Q : VK} {ds : List D} {vs : List V} (w : Wd H G O) (hin : ∀ a ∈ O, H a ≠ none) (r : Rps C G ds vs) (k : ∀ v H' G' Od, Step true H G O H' G' (Od ++ O) → Wd H' G' (Od ++ O) → RpO C G' H' (.acc ds) v Od → Q v H') :
    ∀ p, H p = none → Q (.ref p) (upd H p (.lst vs)) := fun p hp => by
  obtain ⟨s1, s2⟩ := step_mine w hin hp (.lst vs)
  exact k _ _ G [p] s1 s2 ⟨p, vs, rfl, rfl, upd_same, r⟩
/-- a new tuple -/
theorem fin_tup {Q : VK} {ds : List D} {vs : List V} (w : Wd H G O) (hin : ∀ a ∈ O, H a ≠ none) (r : Rps C G ds vs) (k : ∀ v H' G' Od, Step true H G O H' G' (Od ++ O) → Wd H' G' (Od ++ O) → RpO C G' H' (.tup ds) v Od → Q v H') :
    ∀ p, H p = none → Q (.ref p) (upd H p (.tup vs)) := fun p hp => by
  obtain ⟨s1, s2⟩ := step_new w hin hp (.tup vs)
  exact k _ _ _ [] s1 s2 ⟨rfl, p, vs, rfl, SqT.of upd_same, Rps.same s1.gg _ _ r⟩
/-- lists as they stand in the heap -/
theorem list_of {d : D} {v : V} {Od ds} (w : Wd H G O) (r : RpO C G H d v Od) (h : d = .lst ds ∨ d = .acc ds) : ∃ a vs, v = .ref a ∧ H a = some (.lst vs) ∧ Rps C G ds vs := by
  rcases h with rfl | rfl
  · obtain ⟨_, a, vs, e, h1, h2⟩ := r
    exact ⟨a, vs, e, w.gh _ _ h1, h2⟩
  · obtain ⟨a, vs, e, _, h1, h2⟩ := r
    exact ⟨a, vs, e, h1, h2⟩
theorem tup_of {v : V} {Od ds} (w : Wd H G O) (r : RpO C G H (.tup ds) v Od) : ∃ a vs, v = .ref a ∧ SqT C.K G a vs ∧ SqT C.K H a vs ∧ Rps C G ds vs := by
  obtain ⟨_, a, vs, e, h1, h2⟩ := r
  exact ⟨a, vs, e, h1, SqT.same w.gh h1, h2⟩
end
theorem cutV_eq (xs : List V) (lo hi : Option Int) : cutV xs lo hi = cutG xs lo hi := rfl
theorem Rps.cut {C : RC} {G : Hp} {ds : List D} {vs : List V} (h : Rps C G ds vs) (lo hi : Option Int) : Rps C G (cutG ds lo hi) (cutG vs lo hi) := by
  unfold cutG
  rw [h.len]
  exact (h.drop _).take _
def opOf : BOp → Operator
  | .add => .Add | .sub => .Sub | .mul => .Mult | .mod => .Mod | .fdiv => .FloorDiv | .pow => .Pow | .shl => .LShift | .shr => .RShift | .band => .BitAnd
section
variable {X : Cx} {C : RC}
theorem op_D (hK : C.K = X.K) (o : BOp) : OpR X (binaryOp (opOf o)) (rD C (binD o)) := by
  intro pins s σ H x y v u Q I rx ry h
  obtain ⟨G, O, Ox, Oy, dx, dy, d, w, hin, r1, r2, e, k⟩ := h
  unfold binD at e
  split at e
  · -- add
    obtain rfl := r1.2; obtain rfl := r2.2
    exact op_add pins s σ H _ _ v u Q I rx ry ⟨_, _, rfl, rfl, fin_int w (Option.some.inj e).symm k⟩
  · obtain rfl := r1.2; obtain rfl := r2.2
    exact op_sub pins s σ H _ _ v u Q I rx ry ⟨_, _, rfl, rfl, fin_int w (Option.some.inj e).symm k⟩
  · obtain rfl := r1.2; obtain rfl := r2.2
    split at e
    · rename_i hc
      exact op_mulW pins s σ H _ _ v u Q I rx ry ⟨_, _, rfl, rfl, hc, fin_int w (Option.some.inj e).symm k⟩
    · cases e
  · obtain rfl := r1.2; obtain rfl := r2.2
    split at e
    · rename_i hc
      exact op_mod pins s σ H _ _ v u Q I rx ry ⟨_, _, rfl, rfl, hc, fin_int w (Option.some.inj e).symm k⟩
    · cases e
  · obtain rfl := r1.2; obtain rfl := r2.2
    split at e
    · rename_i hc
      exact op_fdivW pins s σ H _ _ v u Q I rx ry ⟨_, _, rfl, rfl, hc, fin_int w (Option.some.inj e).symm k⟩
    · cases e
  · obtain rfl := r1.2; obtain rfl := r2.2
    split at e
    · rename_i hc
      exact op_pow pins s σ H _ _ v u Q I rx ry ⟨_, _, rfl, rfl, hc, fin_int w (Option.some.inj e).symm k⟩
    · cases e
  · obtain rfl := r1.2; obtain rfl := r2.2
    split at e
    · rename_i hc
      exact op_shl pins s σ H _ _ v u Q I rx ry ⟨_, _, rfl, rfl, hc, fin_int w (Option.some.inj e).symm k⟩
    · cases e
  · obtain rfl := r1.2; obtain rfl := r2.2
    split at e
    · rename_i hc
      exact op_shr pins s σ H _ _ v u Q I rx ry ⟨_, _, rfl, rfl, hc, fin_int w (Option.some.inj e).symm k⟩
    · cases e
  · obtain rfl := r1.2; obtain rfl := r2.2
    exact op_and pins s σ H _ _ v u Q I rx ry ⟨_, _, rfl, rfl, fin_int w (Option.some.inj e).symm k⟩
  · -- texts
    obtain rfl := r1.2; obtain rfl := r2.2
    split at e
    · rename_i hc
      exact op_add_str pins s σ H _ _ v u Q I rx ry ⟨_, _, rfl, rfl, hc, fin_str w (Option.some.inj e).symm k⟩
    · cases e
  · -- tuples
    split at e
    · rename_i xs ys hc
      obtain rfl := Option.some.inj e
      obtain ⟨a, vs, rfl, g1, h1, q1⟩ := tup_of w r1
      obtain ⟨b, ws, rfl, g2, h2, q2⟩ := tup_of w r2
      refine op_catA pins s σ H _ _ v u Q I rx ry ⟨a, b, vs, ws, rfl, rfl, hK ▸ h1, hK ▸ h2, by rw [← q1.len, ← q2.len]; exact hc, fun z => ?_, fun z1 z2 => ?_, fun _ _ => fin_tup w hin (q1.app q2) k⟩
      · subst z
        have : xs = [] := List.length_eq_zero_iff.mp q1.len
        subst this
        exact k _ H G [] (Step.refl _) w ⟨rfl, b, ws, rfl, g2, q2⟩
      · subst z2
        have : ys = [] := List.length_eq_zero_iff.mp q2.len
        subst this
        rw [List.append_nil] at k
        exact k _ H G [] (Step.refl _) w ⟨rfl, a, vs, rfl, g1, q1⟩
    · cases e
  all_goals try (
    split at e
    · rename_i xs ys hc
      obtain rfl := Option.some.inj e
      obtain ⟨a, vs, rfl, h1, q1⟩ := list_of w r1 (by first | exact .inl rfl | exact .inr rfl)
      obtain ⟨b, ws, rfl, h2, q2⟩ := list_of w r2 (by first | exact .inl rfl | exact .inr rfl)
      exact op_cat pins s σ H _ _ v u Q I rx ry ⟨a, b, vs, ws, rfl, rfl, h1, h2, by rw [← q1.len, ← q2.len]; exact hc, fin_acc w hin (q1.app q2) k⟩
    · cases e)
  all_goals try (
    split at e
    · rename_i xs i hc
      obtain rfl := Option.some.inj e
      obtain ⟨a, vs, rfl, h1, q1⟩ := list_of w r1 (by first | exact .inl rfl | exact .inr rfl)
      obtain rfl := r2.2
      exact op_rep pins s σ H _ _ v u Q I rx ry ⟨a, i, vs, rfl, rfl, h1, hc.1, hc.2.1, by rw [← q1.len]; exact hc.2.2, fin_acc w hin (q1.rep _) k⟩
    · cases e)
  · split at e
    · rename_i xs i hc
      obtain rfl := Option.some.inj e
      obtain ⟨a, vs, rfl, g1, h1, q1⟩ := tup_of w r1
      obtain rfl := r2.2
      by_cases hx : xs = []
      · subst hx
        have hv : vs = [] := q1
        subst hv
        have e0 : (List.replicate i.toNat ([] : List D)).flatten = [] := by simp
        rw [e0] at k
        exact op_repE pins s σ H _ _ v u Q I rx ry ⟨a, i, rfl, rfl, hK ▸ h1, hc.1, hc.2.1, k _ H G [] (Step.refl _) w ⟨rfl, a, [], rfl, g1, rfl⟩⟩
      · refine op_repT pins s σ H _ _ v u Q I rx ry ⟨a, i, vs, rfl, rfl, hK ▸ h1, fun z => hx ?_, hc.1, hc.2.1, by rw [← q1.len]; exact hc.2.2, fin_tup w hin (q1.rep _) k⟩
        subst z
        exact List.length_eq_zero_iff.mp q1.len
    · cases e
  · cases e
/-! ### comparisons -/
mutual
theorem dp_of {G H : Hp} (sm : Same G H) : ∀ (d : D) (v : V) (O : List Addr) (pd : PyData), RpO C G H d v O → toPy d = some pd → Dp C.K H v pd
  | .non, _, _, pd, r, e => by cases e; rw [r.2]; exact .non
  | .bl b, _, _, pd, r, e => by cases e; rw [r.2]; exact .bl b
  | .int b, _, _, pd, r, e => by cases e; rw [r.2]; exact .int b
  | .str b, _, _, pd, r, e => by cases e; rw [r.2]; exact .str b
  | .tup ds, _, _, pd, r, e => by
    obtain ⟨xs, e1, e2⟩ := Option.map_eq_some_iff.mp e
    subst e2
    obtain ⟨_, a, vs, rfl, h1, h2⟩ := r
    exact .tup (SqT.same sm h1) (dps_of sm ds vs xs h2 e1)
  | .lst ds, _, _, pd, r, e => by
    obtain ⟨xs, e1, e2⟩ := Option.map_eq_some_iff.mp e
    subst e2
    obtain ⟨_, a, vs, rfl, h1, h2⟩ := r
    exact .lst (SqL.of (sm _ _ h1)) (dps_of sm ds vs xs h2 e1)
  | .scr ds, _, _, pd, r, e => by
    obtain ⟨xs, e1, e2⟩ := Option.map_eq_some_iff.mp e
    subst e2
    obtain ⟨_, a, vs, rfl, h1, h2⟩ := r
    exact .lst (sm.seq h1) (dps_of sm ds vs xs h2 e1)
  | .acc ds, _, _, pd, r, e => by
    obtain ⟨xs, e1, e2⟩ := Option.map_eq_some_iff.mp e
    subst e2
    obtain ⟨a, vs, rfl, _, h1, h2⟩ := r
    exact .lst (SqL.of h1) (dps_of sm ds vs xs h2 e1)
  | .box ds, _, _, pd, r, e => by
    obtain ⟨xs, e1, e2⟩ := Option.map_eq_some_iff.mp e
    subst e2
    obtain ⟨a, vs, O', rfl, _, h1, h2⟩ := r
    exact .lst (SqL.of h1) (dpos_of sm ds vs O' xs h2 e1)
  | .obj _ _ _, _, _, _, _, e => by cases e
  | .fn _ _, _, _, _, _, e => by cases e
  | .kd _ _, _, _, _, _, e => by cases e
  | .own _ _ _, _, _, _, _, e => by cases e
theorem dps_of {G H : Hp} (sm : Same G H) : ∀ (ds : List D) (vs : List V) (pd : List PyData), Rps C G ds vs → toPys ds = some pd → DpAll C.K H vs pd
  | [], _, pd, r, e => by
    have r : _ = [] := r
    subst r
    cases e; exact .nil
  | d :: ds, _, pd, ⟨v, ws, e0, h1, h2⟩, e => by
    subst e0
    simp only [toPys] at e
    split at e
    · rename_i x xs e1 e2
      cases e
      exact .cons (dp_of sm d v [] x ((RpO.fz (Rp.isFz h1)).mpr ⟨rfl, h1⟩) e1) (dps_of sm ds ws xs h2 e2)
    · cases e
theorem dpos_of {G H : Hp} (sm : Same G H) : ∀ (ds : List D) (vs : List V) (O : List Addr) (pd : List PyData), RpOs C G H ds vs O → toPys ds = some pd → DpAll C.K H vs pd
  | [], _, _, pd, r, e => by
    obtain ⟨e1, _⟩ := r
    subst e1
    cases e; exact .nil
  | d :: ds, _, _, pd, ⟨v, ws, O1, O2, e0, _, h1, h2⟩, e => by
    subst e0
    simp only [toPys] at e
    split at e
    · rename_i x xs e1 e2
      cases e
      exact .cons (dp_of sm d v O1 x h1 e1) (dpos_of sm ds ws O2 xs h2 e2)
    · cases e
end
theorem flat_v {G : Hp} {d : D} {v : V} (f : flatD d = true) (r : Rp C G d v) : v = toV d ∧ flatV v = true := by
  cases d with
  | non => rw [show v = V.non from r]; exact ⟨rfl, rfl⟩
  | bl b => rw [show v = V.bl b from r]; exact ⟨rfl, rfl⟩
  | int b => rw [show v = V.int b from r]; exact ⟨rfl, rfl⟩
  | str b => rw [show v = V.str b from r]; exact ⟨rfl, rfl⟩
  | _ => cases f
theorem flat_vs {G : Hp} : ∀ {ds : List D} {vs : List V}, ds.all flatD = true → Rps C G ds vs → vs = ds.map toV ∧ vs.all flatV = true
  | [], vs, _, r => by
    have r : vs = [] := r
    subst r; exact ⟨rfl, rfl⟩
  | d :: ds, _, f, ⟨v, ws, e0, h1, h2⟩ => by
    subst e0
    rw [List.all_cons, Bool.and_eq_true] at f
    obtain ⟨e1, f1⟩ := flat_v f.1 h1
    obtain ⟨e2, f2⟩ := flat_vs f.2 h2
    exact ⟨by rw [e1, e2]; rfl, by rw [List.all_cons, f1, f2]; rfl⟩
theorem seq_of {G H : Hp} {O Od : List Addr} {d : D} {ds : List D} {v : V} (w : Wd H G O) (r : RpO C G H d v Od) (e : seqD d = some ds) : ∃ a vs, v = .ref a ∧ (SqL C.K H a vs ∨ SqT C.K H a vs) ∧ Rps C G ds vs := by
  cases d with
  | tup xs =>
    cases e
    obtain ⟨a, vs, e1, g1, h1, q1⟩ := tup_of w r
    exact ⟨a, vs, e1, .inr h1, q1⟩
  | lst xs =>
    cases e
    obtain ⟨_, a, vs, e1, h1, h2⟩ := r
    exact ⟨a, vs, e1, .inl (SqL.of (w.gh _ _ h1)), h2⟩
  | scr xs =>
    cases e
    obtain ⟨_, a, vs, e1, h1, h2⟩ := r
    exact ⟨a, vs, e1, .inl (w.gh.seq h1), h2⟩
  | acc xs =>
    cases e
    obtain ⟨a, vs, e1, _, h1, h2⟩ := r
    exact ⟨a, vs, e1, .inl (SqL.of h1), h2⟩
  | _ => cases e
def copOf : COp → CmpOp
  | .lt => .Lt | .le => .LtE | .gt => .Gt | .ge => .GtE | .eq => .Eq | .ne => .NotEq | .isin => .In | .notin => .NotIn
theorem eqD_cases {x y : D} {b : Bool} (e : eqD x y = some b) :
    (∃ i j, x = .int i ∧ y = .int j ∧ b = (i == j)) ∨ (∃ i j, x = .str i ∧ y = .str j ∧ b = (i == j)) ∨ (∃ i j, x = .bl i ∧ y = .bl j ∧ b = (i == j)) ∨
      ∃ p q, toPy x = some p ∧ toPy y = some q ∧ SeqAt.shaped p = true ∧ SeqAt.shaped q = true ∧ b = PyData.eqv p q := by
  unfold eqD at e
  split at e
  · exact .inl ⟨_, _, rfl, rfl, (Option.some.inj e).symm⟩
  · exact .inr (.inl ⟨_, _, rfl, rfl, (Option.some.inj e).symm⟩)
  · exact .inr (.inr (.inl ⟨_, _, rfl, rfl, (Option.some.inj e).symm⟩))
  · split at e
    · rename_i p q e1 e2
      split at e
      · rename_i hs
        rw [Bool.and_eq_true] at hs
        exact .inr (.inr (.inr ⟨p, q, e1, e2, hs.1, hs.2, (Option.some.inj e).symm⟩))
      · cases e
    · cases e
theorem cop_D (hK : C.K = X.K) (hu : X.A.units + 64 < cLine) (o : COp) : OpR X (compareOp (copOf o)) (rDB C (cmpD o)) := by
  intro pins s σ H x y v u Q I rx ry h
  obtain ⟨G, O, Ox, Oy, dx, dy, b, w, r1, r2, e, k⟩ := h
  cases o with
  | eq =>
    rcases eqD_cases (show eqD dx dy = some b from e) with ⟨i, j, rfl, rfl, rfl⟩ | ⟨i, j, rfl, rfl, rfl⟩ | ⟨i, j, rfl, rfl, rfl⟩ | ⟨p, q, e1, e2, s1, s2, rfl⟩
    · obtain rfl := r1.2; obtain rfl := r2.2
      exact op_eq pins s σ H _ _ v u Q I rx ry ⟨rfl, by rw [dec_int]; exact k⟩
    · obtain rfl := r1.2; obtain rfl := r2.2
      exact op_eq pins s σ H _ _ v u Q I rx ry ⟨rfl, by rw [dec_str]; exact k⟩
    · obtain rfl := r1.2; obtain rfl := r2.2
      exact op_eq pins s σ H _ _ v u Q I rx ry ⟨rfl, by rw [dec_bl]; exact k⟩
    · exact op_eqD hu pins s σ H _ _ v u Q I rx ry ⟨p, q, hK ▸ dp_of w.gh dx x Ox p r1 e1, hK ▸ dp_of w.gh dy y Oy q r2 e2, s1, s2, k⟩
  | ne =>
    obtain ⟨c, e', rfl⟩ := Option.map_eq_some_iff.mp (show (eqD dx dy).map not = some b from e)
    clear e
    rcases eqD_cases e' with ⟨i, j, rfl, rfl, rfl⟩ | ⟨i, j, rfl, rfl, rfl⟩ | ⟨i, j, rfl, rfl, rfl⟩ | ⟨p, q, e1, e2, s1, s2, rfl⟩
    · obtain rfl := r1.2; obtain rfl := r2.2
      exact op_ne pins s σ H _ _ v u Q I rx ry ⟨rfl, by rw [dec_int]; exact k⟩
    · obtain rfl := r1.2; obtain rfl := r2.2
      exact op_ne pins s σ H _ _ v u Q I rx ry ⟨rfl, by rw [dec_str]; exact k⟩
    · obtain rfl := r1.2; obtain rfl := r2.2
      exact op_ne pins s σ H _ _ v u Q I rx ry ⟨rfl, by rw [dec_bl]; exact k⟩
    · exact op_neD hu pins s σ H _ _ v u Q I rx ry ⟨p, q, hK ▸ dp_of w.gh dx x Ox p r1 e1, hK ▸ dp_of w.gh dy y Oy q r2 e2, s1, s2, k⟩
  | lt =>
    obtain ⟨i, j, rfl, rfl, rfl⟩ : ∃ i j, dx = .int i ∧ dy = .int j ∧ b = decide (i < j) := by
      cases dx <;> cases dy <;> first | exact ⟨_, _, rfl, rfl, (Option.some.inj e).symm⟩ | exact nomatch (show (none : Option Bool) = some b from e)
    obtain rfl := r1.2; obtain rfl := r2.2
    exact op_lt pins s σ H _ _ v u Q I rx ry ⟨_, _, rfl, rfl, k⟩
  | le =>
    obtain ⟨i, j, rfl, rfl, rfl⟩ : ∃ i j, dx = .int i ∧ dy = .int j ∧ b = decide (i ≤ j) := by
      cases dx <;> cases dy <;> first | exact ⟨_, _, rfl, rfl, (Option.some.inj e).symm⟩ | exact nomatch (show (none : Option Bool) = some b from e)
    obtain rfl := r1.2; obtain rfl := r2.2
    exact op_le pins s σ H _ _ v u Q I rx ry ⟨_, _, rfl, rfl, k⟩
  | gt =>
    obtain ⟨i, j, rfl, rfl, rfl⟩ : ∃ i j, dx = .int i ∧ dy = .int j ∧ b = decide (j < i) := by
      cases dx <;> cases dy <;> first | exact ⟨_, _, rfl, rfl, (Option.some.inj e).symm⟩ | exact nomatch (show (none : Option Bool) = some b from e)
    obtain rfl := r1.2; obtain rfl := r2.2
    exact op_gt pins s σ H _ _ v u Q I rx ry ⟨_, _, rfl, rfl, k⟩
  | ge =>
    obtain ⟨i, j, rfl, rfl, rfl⟩ : ∃ i j, dx = .int i ∧ dy = .int j ∧ b = decide (j ≤ i) := by
      cases dx <;> cases dy <;> first | exact ⟨_, _, rfl, rfl, (Option.some.inj e).symm⟩ | exact nomatch (show (none : Option Bool) = some b from e)
    obtain rfl := r1.2; obtain rfl := r2.2
    exact op_ge pins s σ H _ _ v u Q I rx ry ⟨_, _, rfl, rfl, k⟩
  | isin =>
    have e : inD dx dy = some b := e
    unfold inD at e
    split at e
    · rename_i ds e1
      split at e
      · rename_i hf
        rw [Bool.and_eq_true] at hf
        obtain rfl := Option.some.inj e
        obtain ⟨a, vs, rfl, h1, q1⟩ := seq_of w r2 e1
        have fx : PV.fz dx = true := by cases dx <;> first | rfl | (cases hf.1)
        obtain ⟨e3, f3⟩ := flat_v hf.1 (Rp.of fx r1)
        obtain ⟨e4, f4⟩ := flat_vs hf.2 q1
        exact op_in_seq pins s σ H _ _ v u Q I rx ry ⟨a, vs, rfl, by rw [← hK]; exact h1, f3, f4, by rw [e3, e4]; exact k⟩
      · cases e
    · cases e
  | notin =>
    obtain ⟨c, e', rfl⟩ := Option.map_eq_some_iff.mp (show (inD dx dy).map not = some b from e)
    clear e
    unfold inD at e'
    split at e'
    · rename_i ds e1
      split at e'
      · rename_i hf
        rw [Bool.and_eq_true] at hf
        obtain rfl := Option.some.inj e'
        obtain ⟨a, vs, rfl, h1, q1⟩ := seq_of w r2 e1
        have fx : PV.fz dx = true := by cases dx <;> first | rfl | (cases hf.1)
        obtain ⟨e3, f3⟩ := flat_v hf.1 (Rp.of fx r1)
        obtain ⟨e4, f4⟩ := flat_vs hf.2 q1
        exact op_notIn_seq pins s σ H _ _ v u Q I rx ry ⟨a, vs, rfl, by rw [← hK]; exact h1, f3, f4, by rw [e3, e4]; exact k⟩
      · cases e'
    · cases e'
end
end L2.PV
set_option Elab.async false
set_option linter.all false
set_option autoImplicit false
/-! Expressions. -/
namespace L2.PV
open PySem PySem.Spec PyProof.Rows
/-- the defs -/
structure FT where
  n : Nat
  nm : Nat → Str
  adr : Nat → Addr
  fd : Nat → FuncData
  ps : Nat → List Str
  gl : List (Str × D)
  kb : List (Nat × List Str × List Nat)
  rc : List (Nat × Str × List Str)
/-- an __init__ that keeps what it is handed -/
def spNew (Ca : Addr) (ns : List Str) : Sp := fun vs H Q _ => ∃ a dx us, vs = .ref a :: us ∧ H a = some (.ins Ca dx []) ∧ us.length = ns.length ∧ Q .non (upd H a (.ins Ca dx (ns.zip us)))
/-- what is known of a class whose objects only keep -/
structure RcOk (C : RC) (P : Program) (w : World) (K : PySem.W.Frag) (mg : Str → Option Value) (base : Heap) (q : Nat × Str × List Str) : Prop where
  cls : Cls K (C.cl q.1)
  noat : ∀ n ∈ q.2.2, NoAttr K (C.cl q.1) n
  mgc : mg q.2.1 = some (.ref (C.cl q.1))
  mak : ∃ f fd ps, Mk K (C.cl q.1) f ∧ FnOk P w K mg base (L2.CX P w) 1 f fd ps (spNew (C.cl q.1) q.2.2) ∧ Binds K fd ps []
/-- how a call ends, by values -/
def okC (C : RC) (H G : Hp) (O : List Addr) (vs : List V) (Q : VK) (E : XK) : CR → Prop
  | .ok d ds => ∀ v H' G' Od O', Step false H G O H' G' (Od ++ O') → Wd H' G' (Od ++ O') → RpO C G' H' d v Od → RpOs C G' H' ds vs O' → Q v H'
  | .exc x ds => ∀ cls dx H' G' O', Step false H G O H' G' O' → Wd H' G' O' → RpX C G' x cls dx → RpOs C G' H' ds vs O' → E cls dx H'
/-- a def's promise -/
def spF (C : RC) (ar : Nat) (f : List D → Option CR) : Sp := fun vs H Q E => vs.length = ar ∧ ∃ ds G O r, Wd H G O ∧ RpOs C G H ds vs O ∧ f ds = some r ∧ okC C H G O vs Q E r
def freeB : List Str := ["dict", "all", "len", "int", "abs", "list", "tuple", "min", "max", "sum", "sorted", "ord", "str", "bool", "isinstance", "range", "enumerate", "zip", "reversed"]
structure Gd (C : RC) (F : FT) (cf : Nat → List D → Option CR) (lev : Nat) (N : List Str) (sc : Scope) (X : Cx) : Prop where
  kK : C.K = X.K
  kW : C.w = X.w
  kF : C.nf = F.n ∧ ∀ i, i < F.n → C.fa i = F.adr i ∧ C.ar i = (F.ps i).length
  nN : X.N = N
  nd : N.Nodup
  scp : X.env.scope = sc
  calm : X.calm = true
  room : Room lev X.A
  free : ∀ x ∈ freeB, X.mg x = none
  fn : ∀ i, i < F.n → FnOk X.prog X.w X.K X.mg X.base (L2.CX X.prog X.w) lev (F.adr i) (F.fd i) (F.ps i) (spF C (F.ps i).length (cf i))
  mgf : ∀ i, i < F.n → X.mg (F.nm i) = some (.ref (F.adr i))
  kp : ∀ i, i < F.n → PySem.W.keepIn X.K (.ref (F.adr i)) = true
  bd : ∀ i, i < F.n → Binds X.K (F.fd i) (F.ps i) []
  gl : ∀ q ∈ F.gl, ∃ u v, X.mg q.1 = some u ∧ RelV v u ∧ ∀ G, Rp C G q.2 v
  kb : ∀ q ∈ F.kb, q.1 < F.n ∧ KBn X.K (F.fd q.1) (F.ps q.1) 0 q.2.1 (fun _ ws => q.2.2.map fun k => ws.getD k .none) (fun _ zs => q.2.2.map fun k => zs.getD k .non)
  two : 2 ≤ lev
  rcd : ∀ q ∈ F.rc, RcOk C X.prog X.w X.K X.mg X.base q
/-! ### what is told of the text -/
def nst : Expr → Bool
  | .Starred _ _ => false
  | _ => true
def nsl : Expr → Bool
  | .Slice _ _ _ _ => false
  | _ => true
def nat : Expr → Bool
  | .Call _ _ _ _ => false
  | _ => true
def ntr : Expr → Bool
  | .UnaryOp _ _ _ => false | .BoolOp _ _ _ => false | .IfExp _ _ _ _ => false | .Compare _ _ _ _ => false
  | _ => true
def ncp : Expr → Bool
  | .ListComp _ _ _ _ => false | .SetComp _ _ _ _ => false | .DictComp _ _ _ _ _ => false | .Tuple _ _ _ => false
  | _ => true
theorem nst_ok {e : Expr} (h : nst e = true) (es : List Expr) (env : Env) : starEach (e :: es) env = (false, eval e env) :: starEach es env := by
  cases e <;> first | rfl | (cases h)
theorem nsl_ok {e : Expr} (h : nsl e = true) : PlainIx e := fun o i => by
  cases e <;> first | rfl | (cases h)
theorem nat_ok {e : Expr} (h : nat e = true) (f : Str) (env : Env) : attributeBase e f env (eval e env) = eval e env := by
  cases e <;> first | rfl | (cases h)
theorem ntr_ok {e : Expr} (h : ntr e = true) (env : Env) (whole : Sem Value) : isTrue e env whole = (do let v ← whole; standAt e.pos; holding [v] (truthy v)) := by
  cases e <;> first | rfl | (cases h)
theorem nst_all {pos : Pos} {env : Env} : ∀ {es : List Expr}, es.all nst = true → (backTo pos (starEach es env)).any (·.1) = false
  | [], _ => rfl
  | e :: es, h => by
    rw [List.all_cons, Bool.and_eq_true] at h
    rw [nst_ok h.1]
    show (false || (backTo pos (starEach es env)).any (·.1)) = false
    rw [nst_all h.2]; rfl
def visB (sc : Scope) (x : Str) : Bool := decide (sc.names.lookup x = some .local) || decide (sc.names.lookup x = some .cell) || decide (sc.names.lookup x = some .free)
theorem visB_ok {sc : Scope} {x : Str} (h : visB sc x = true) : Vis sc x := by
  unfold visB at h
  rcases Bool.or_eq_true_iff.mp h with h | h
  · rcases Bool.or_eq_true_iff.mp h with h | h
    · exact .inl (of_decide_eq_true h)
    · exact .inr (.inl (of_decide_eq_true h))
  · exact .inr (.inr (of_decide_eq_true h))
def okName (x : Str) : Bool := !(x == ("__debug__" : Str)) && !(x == ("__classdict__" : Str)) && !(x == ("__name__" : Str))
theorem okName_d {x : Str} (h : okName x = true) : (x == ("__debug__" : Str)) = false := by
  simp only [okName, Bool.and_eq_true, Bool.not_eq_true'] at h; exact h.1.1
theorem okName_c {x : Str} (h : okName x = true) : (x == ("__classdict__" : Str)) = false := by
  simp only [okName, Bool.and_eq_true, Bool.not_eq_true'] at h; exact h.1.2
theorem okName_n {x : Str} (h : okName x = true) : x ≠ ("__name__" : Str) := by
  simp only [okName, Bool.and_eq_true, Bool.not_eq_true'] at h
  have := h.2
  intro e
  rw [e, beq_self_eq_true] at this; cases this
def glB (sc : Scope) (x : Str) : Bool := decide (sc.names.lookup x = some .globalImplicit)
/-- a place as the text reads it -/
def tPl (p : Pl) : TE := fun σ H Q => ∃ v, valP p σ H = some v ∧ Q v H
section
variable {C : RC} {F : FT} {cf : Nat → List D → Option CR} {lev : Nat} {N : List Str} {pins : List Nat} {sc : Scope} {X : Cx} {W : WX}
theorem Gd.gx (g : Gd C F cf lev N sc X) {x : Str} (h : glB sc x = true) : Gl X x := by
  have e : X.env.scope.names.lookup x = some .globalImplicit := by rw [g.scp]; exact of_decide_eq_true h
  exact e
theorem Gd.hu (g : Gd C F cf lev N sc X) : X.A.units + 64 < cLine := g.room.units
/-! ### names, constants, places -/
theorem sp_sl (g : Gd C F cf lev N sc X) {i : Nat} {x : Str} {pos : Pos} (hi : N[i]? = some x) (hv : visB sc x = true) (hn : okName x = true) : PE X (.Name x pos) (tPl (.sl i)) := by
  refine PE.imp (pe_var (i := i) (by rw [g.nN]; exact hi) (by rw [g.scp]; exact visB_ok hv) (okName_d hn) (okName_c hn)) fun σ H Q ⟨v, e, q⟩ => ⟨v, ?_, q⟩
  unfold valP at e
  split at e
  · rename_i w ew
    cases e; exact ew
  · cases e
theorem sp_it {p : Pl} {k : Nat} {e : Expr} {j : Nat} {pos pos' : Pos} (h : PE X e (tPl p)) : PE X (.Subscript e (.Constant (.int (k : Int)) j pos') pos) (tPl (.it p k)) := by
  refine PE.imp (pe_ix ix_list h pe_int fun _ _ => rfl) fun σ H Q ⟨v, e, q⟩ => ?_
  unfold valP at e
  split at e
  · rename_i a ea
    split at e
    · rename_i vs eh
      exact ⟨_, ea, a, vs, k, v, rfl, rfl, SqL.of eh, atI_nat e, q⟩
    · cases e
  · cases e
theorem se_pl {p : Pl} {e : Expr} (h : PE X e (tPl p)) : PE X e (tB C W (pureM (.pl p)) (evE cf pins (.pl p))) := by
  refine PE.imp h fun σ H Q ⟨ρ, G, O, w, ag, q⟩ => ?_
  rw [evE] at q
  obtain ⟨d, e, q⟩ := goX_lft q
  obtain ⟨v, Od, R, q1, q2, q3, q4⟩ := lens ag w.nd p e
  exact ⟨v, q1, q v H G Od O (Step.refl _) w q2 ag⟩
theorem se_ret {m : M} {e : Expr} {d : D} {v : V} (h : PE X e (tC v)) (he : ∀ ρ, evE cf pins m ρ = some (.ok d ρ)) (r : ∀ G, Rp C G d v) (f : PV.fz d = true) : PE X e (tE C W (pureM m) (evE cf pins m)) := by
  refine PE.imp h fun σ H Q ⟨ρ, G, O, w, ag, q⟩ => ?_
  rw [he] at q
  exact q v H G [] O (Step.refl _) w (Rp.own f (r G)) ag
theorem se_glo (g : Gd C F cf lev N sc X) {x : Str} {d : D} {pos : Pos} (hm : (x, d) ∈ F.gl) (hg : glB sc x = true) (hn : okName x = true) : PE X (.Name x pos) (tE C W (pureM (.glo x d)) (evE cf pins (.glo x d))) := by
  obtain ⟨u, v, e, r, k⟩ := g.gl _ hm
  exact se_ret (pe_glob (g.gx hg) e r (okName_d hn)) (fun ρ => by rw [evE]) k (Rp.isFz (k fun _ => none))
theorem se_frv {i : Nat} {e : Expr} (h : PE X e (tPl (.sl i))) : PE X e (tE C W (pureM (.frv i)) (evE cf pins (.frv i))) := by
  refine PE.imp h fun σ H Q ⟨ρ, G, O, w, ag, q⟩ => ?_
  rw [evE] at q
  split at q
  · rename_i d ed
    split at q
    · exact q.elim
    · split at q
      · rename_i d' ef
        have ed' : ρ[i]? = some (some d) := by
          unfold getP at ed
          split at ed
          · rename_i d0 e0; cases ed; exact e0
          · cases ed
        obtain ⟨v, O1, R, q1, q2, q3, q4⟩ := AgL.out i ag ed'
        have hi : i < ρ.length := (List.getElem?_eq_some_iff.mp ed').1
        have w1 : Wd H G (O1 ++ R) := w.sub ((q3.nodup_iff).mp w.nd) fun a ha => (q3.mem_iff).mpr ha
        obtain ⟨G', s1, s2, s3, s4⟩ := frz_ok ef w1 q2 q4
        have st : Step true H G O H G' R := s1.from fun b hb => (q3.mem_iff).mpr hb
        obtain ⟨O', e1, e2⟩ := AgL.put i s4 (show (ρ.set i none)[i]? = some none by rw [List.getElem?_set_self hi]) (Rp.own (Rp.isFz s3) s3)
        rw [List.set_set] at e2
        have hs : σ.set i (some v) = σ := by
          obtain ⟨hj, ej⟩ := List.getElem?_eq_some_iff.mp q1
          rw [← ej]; exact List.set_getElem_self hj
        rw [hs] at e2
        rw [List.nil_append] at e1
        refine ⟨v, by unfold valP; rw [q1], q v H G' [] O' (st.sub fun b hb => (e1.mem_iff).mp hb) (s2.sub ((e1.nodup_iff).mpr s2.nd) fun b hb => (e1.mem_iff).mp hb) (Rp.own (Rp.isFz s3) s3) e2⟩
      · exact q.elim
  · exact q.elim
theorem se_mv {i : Nat} {e : Expr} (h : PE X e (tPl (.sl i))) : PE X e (tE C W (pureM (.mv i)) (evE cf pins (.mv i))) := by
  refine PE.imp h fun σ H Q ⟨ρ, G, O, w, ag, q⟩ => ?_
  rw [evE] at q
  split at q
  · rename_i d ed
    split at q
    · exact q.elim
    · have ed' : ρ[i]? = some (some d) := by
        unfold getP at ed
        split at ed
        · rename_i d0 e0; cases ed; exact e0
        · cases ed
      obtain ⟨v, O1, R, q1, q2, q3, q4⟩ := AgL.out i ag ed'
      have w1 : Wd H G (O1 ++ R) := w.sub ((q3.nodup_iff).mp w.nd) fun a ha => (q3.mem_iff).mpr ha
      exact ⟨v, by unfold valP; rw [q1], q v H G O1 R ((Step.refl _).sub fun b hb => (q3.mem_iff).mpr hb) w1 q2 q4⟩
  · exact q.elim
/-! ### operators -/
variable {a b c : Expr} {ma mb mc : M} {pos : Pos}
theorem se_bin (g : Gd C F cf lev N sc X) (o : BOp) (ha : PE X a (tB C W (pureM ma) (evE cf pins ma))) (hb : PE X b (tB C W (pureM mb) (evE cf pins mb))) :
    PE X (.BinOp a (opOf o) b pos) (tE C W (pureM (.bin o ma mb)) (evE cf pins (.bin o ma mb))) :=
  PE.imp (pe_op (op_D g.kK o) ha hb) fun σ H Q ⟨ρ, G, O, w, ag, h⟩ => by
    rw [evE] at h
    refine tX.next (Step.refl true) h w ag fun x ρ1 h1 v1 H1 G1 Od1 O1 st1 w1 r1 a1 => ?_
    refine tX.next st1 h1 w1 a1 fun y ρ2 h2 v2 H2 G2 Od2 O2 st2 w2 r2 a2 => ?_
    obtain ⟨hk, h2⟩ := goX_ite h2
    obtain ⟨d, e, h2⟩ := goX_lft h2
    exact ⟨G2, O2, Od1, Od2, x, y, d, w2, a2.inH, r1.keep st2 hk, r2, e, fun v H' G' Od st w' r => h2 v H' G' Od O2 (((st1.trans st2).trans st).wk fun z => by rw [show (pureM ma && pureM mb) = true from z]; rfl) w' r (a2.frame st.gg fun _ _ _ z => st.sm rfl _ _ z)⟩
theorem se_neg (ha : PE X a (tB C W (pureM ma) (evE cf pins ma))) : PE X (.UnaryOp .USub a pos) (tE C W (pureM (.neg ma)) (evE cf pins (.neg ma))) :=
  PE.imp (pe_un un_neg ha) fun σ H Q ⟨ρ, G, O, w, ag, h⟩ => by
    rw [evE] at h
    refine tX.next (Step.refl true) h w ag fun x ρ1 h1 v1 H1 G1 Od1 O1 st1 w1 r1 a1 => ?_
    cases x <;> first | exact h1.elim | skip
    obtain rfl := r1.2
    exact ⟨_, rfl, h1 _ H1 G1 [] O1 st1 w1 ⟨rfl, rfl⟩ a1⟩
theorem se_cmp (g : Gd C F cf lev N sc X) (o : COp) (ha : PE X a (tB C W (pureM ma) (evE cf pins ma))) (hb : PE X b (tB C W (pureM mb) (evE cf pins mb))) (hm : behindInMarks (copOf o) b = false) :
    PE X (.Compare a [copOf o] [b] pos) (tE C W (pureM (.cmp o ma mb)) (evE cf pins (.cmp o ma mb))) :=
  PE.imp (pe_cmpR (cop_D g.kK g.hu o) ha hb hm) fun σ H Q ⟨ρ, G, O, w, ag, h⟩ => by
    rw [evE] at h
    refine tX.next (Step.refl true) h w ag fun x ρ1 h1 v1 H1 G1 Od1 O1 st1 w1 r1 a1 => ?_
    refine tX.next st1 h1 w1 a1 fun y ρ2 h2 v2 H2 G2 Od2 O2 st2 w2 r2 a2 => ?_
    obtain ⟨hk, h2⟩ := goX_ite h2
    obtain ⟨d, e, h2⟩ := goX_lft h2
    obtain ⟨k, e', rfl⟩ := Option.map_eq_some_iff.mp e
    exact ⟨G2, O2, Od1, Od2, x, y, k, w2, r1.keep st2 hk, r2, e', h2 _ H2 G2 [] O2 (st1.trans st2) w2 ⟨rfl, rfl⟩ a2⟩
theorem st_cmp (g : Gd C F cf lev N sc X) (o : COp) (ha : PE X a (tB C W (pureM ma) (evE cf pins ma))) (hb : PE X b (tB C W (pureM mb) (evE cf pins mb))) (hm : behindInMarks (copOf o) b = false) :
    PT X (.Compare a [copOf o] [b] pos) (tT C W (pureM (.cmp o ma mb)) (evT cf pins (.cmp o ma mb))) :=
  PT.imp (pt_cmpR (cop_D g.kK g.hu o) ha hb hm) fun σ H Q ⟨ρ, G, O, w, ag, h⟩ => by
    rw [evT] at h
    refine tX.next (Step.refl true) h w ag fun x ρ1 h1 v1 H1 G1 Od1 O1 st1 w1 r1 a1 => ?_
    refine tX.next st1 h1 w1 a1 fun y ρ2 h2 v2 H2 G2 Od2 O2 st2 w2 r2 a2 => ?_
    obtain ⟨hk, h2⟩ := goX_ite h2
    obtain ⟨k, e, h2⟩ := goX_lft h2
    exact ⟨G2, O2, Od1, Od2, x, y, k, w2, r1.keep st2 hk, r2, e, k, rfl, h2 H2 G2 O2 (st1.trans st2) w2 a2⟩
theorem se_cmp2 (g : Gd C F cf lev N sc X) (o o' : COp) (ha : PE X a (tB C W (pureM ma) (evE cf pins ma))) (hb : PE X b (tB C W (pureM mb) (evE cf pins mb))) (hc : PE X c (tB C W (pureM mc) (evE cf pins mc))) (hm : lastMarks [copOf o, copOf o'] [b, c] = false) :
    PE X (.Compare a [copOf o, copOf o'] [b, c] pos) (tE C W (pureM (.cmp2 o o' ma mb mc)) (evE cf pins (.cmp2 o o' ma mb mc))) :=
  PE.imp (pe_chain (cop_D g.kK g.hu o) (cop_D g.kK g.hu o') ha hb hc hm) fun σ H Q ⟨ρ, G, O, w, ag, h⟩ => by
    rw [evE] at h
    refine tX.next (Step.refl true) h w ag fun x ρ1 h1 v1 H1 G1 Od1 O1 st1 w1 r1 a1 => ?_
    refine tX.next st1 h1 w1 a1 fun y ρ2 h2 v2 H2 G2 Od2 O2 st2 w2 r2 a2 => ?_
    obtain ⟨hk, h2⟩ := goX_ite h2
    rw [Bool.and_eq_true] at hk
    have r1' := r1.keep st2 (by rw [hk.1]; rfl)
    cases e : cmpD o x y with
    | none => rw [e] at h2; exact h2.elim
    | some k =>
      rw [e] at h2
      cases k with
      | true =>
        refine ⟨G2, O2, Od1, Od2, x, y, true, w2, r1', r2, e, true, rfl, ?_⟩
        rw [if_pos rfl]
        refine tX.next (st1.trans st2) h2 w2 a2 fun z ρ3 h3 v3 H3 G3 Od3 O3 st3 w3 r3 a3 => ?_
        obtain ⟨d, e', h3⟩ := goX_lft h3
        obtain ⟨k, e2, rfl⟩ := Option.map_eq_some_iff.mp e'
        exact ⟨G3, O3, Od2, Od3, y, z, k, w3, r2.keep st3 (by rw [hk.2]; rfl), r3, e2, h3 _ H3 G3 [] O3 ((st1.trans st2).trans st3) w3 ⟨rfl, rfl⟩ a3⟩
      | false =>
        refine ⟨G2, O2, Od1, Od2, x, y, false, w2, r1', r2, e, false, rfl, ?_⟩
        rw [if_neg Bool.false_ne_true]
        exact h2 _ H2 G2 [] O2 ((st1.trans st2).wk fun z => by
          have z : (pureM ma && pureM mb && pureM mc) = true := z
          rw [Bool.and_eq_true] at z; exact z.1) w2 ⟨rfl, rfl⟩ a2
theorem st_cmp2 (g : Gd C F cf lev N sc X) (o o' : COp) (ha : PE X a (tB C W (pureM ma) (evE cf pins ma))) (hb : PE X b (tB C W (pureM mb) (evE cf pins mb))) (hc : PE X c (tB C W (pureM mc) (evE cf pins mc))) (hm : lastMarks [copOf o, copOf o'] [b, c] = false) :
    PT X (.Compare a [copOf o, copOf o'] [b, c] pos) (tT C W (pureM (.cmp2 o o' ma mb mc)) (evT cf pins (.cmp2 o o' ma mb mc))) :=
  PT.imp (pt_chain (cop_D g.kK g.hu o) (cop_D g.kK g.hu o') ha hb hc hm) fun σ H Q ⟨ρ, G, O, w, ag, h⟩ => by
    rw [evT] at h
    refine tX.next (Step.refl true) h w ag fun x ρ1 h1 v1 H1 G1 Od1 O1 st1 w1 r1 a1 => ?_
    refine tX.next st1 h1 w1 a1 fun y ρ2 h2 v2 H2 G2 Od2 O2 st2 w2 r2 a2 => ?_
    obtain ⟨hk, h2⟩ := goX_ite h2
    rw [Bool.and_eq_true] at hk
    have r1' := r1.keep st2 (by rw [hk.1]; rfl)
    cases e : cmpD o x y with
    | none => rw [e] at h2; exact h2.elim
    | some k =>
      rw [e] at h2
      cases k with
      | true =>
        refine ⟨G2, O2, Od1, Od2, x, y, true, w2, r1', r2, e, true, rfl, ?_⟩
        rw [if_pos rfl]
        refine tX.next (st1.trans st2) h2 w2 a2 fun z ρ3 h3 v3 H3 G3 Od3 O3 st3 w3 r3 a3 => ?_
        obtain ⟨k, e', h3⟩ := goX_lft h3
        exact ⟨G3, O3, Od2, Od3, y, z, k, w3, r2.keep st3 (by rw [hk.2]; rfl), r3, e', k, rfl, h3 H3 G3 O3 ((st1.trans st2).trans st3) w3 a3⟩
      | false =>
        refine ⟨G2, O2, Od1, Od2, x, y, false, w2, r1', r2, e, false, rfl, ?_⟩
        rw [if_neg Bool.false_ne_true]
        exact ⟨false, rfl, h2 H2 G2 O2 ((st1.trans st2).wk fun z => by
          have z : (pureM ma && pureM mb && pureM mc) = true := z
          rw [Bool.and_eq_true] at z; exact z.1) w2 a2⟩
theorem isNon_v {G H : Hp} {d : D} {v : V} {Od : List Addr} (r : RpO C G H d v Od) : decide (v = .non) = isNon d := by
  cases d with
  | non => rw [r.2]; rfl
  | bl b => rw [r.2]; rfl
  | int b => rw [r.2]; rfl
  | str b => rw [r.2]; rfl
  | tup ds => obtain ⟨_, a, vs, rfl, _⟩ := r; rfl
  | lst ds => obtain ⟨_, a, vs, rfl, _⟩ := r; rfl
  | scr ds => obtain ⟨_, a, vs, rfl, _⟩ := r; rfl
  | obj c ns ds => obtain ⟨_, a, dx, vs, rfl, _⟩ := r; rfl
  | fn i n => obtain ⟨_, rfl, _⟩ := r; rfl
  | kd ks ds => obtain ⟨_, a, vs, rfl, _⟩ := r; rfl
  | acc ds => obtain ⟨a, vs, rfl, _⟩ := r; rfl
  | box ds => obtain ⟨a, vs, O', rfl, _⟩ := r; rfl
  | own c ns ds => obtain ⟨a, dx, vs, O', rfl, _⟩ := r; rfl
theorem isBl_v {G H : Hp} {d : D} {v : V} {Od : List Addr} (k : Bool) (r : RpO C G H d v Od) : decide (v = .bl k) = isBl k d := by
  cases d with
  | non => rw [r.2]; rfl
  | bl b => rw [r.2]; show decide (V.bl b = V.bl k) = (b == k); rw [dec_bl]
  | int b => rw [r.2]; rfl
  | str b => rw [r.2]; rfl
  | tup ds => obtain ⟨_, a, vs, rfl, _⟩ := r; rfl
  | lst ds => obtain ⟨_, a, vs, rfl, _⟩ := r; rfl
  | scr ds => obtain ⟨_, a, vs, rfl, _⟩ := r; rfl
  | obj c ns ds => obtain ⟨_, a, dx, vs, rfl, _⟩ := r; rfl
  | fn i n => obtain ⟨_, rfl, _⟩ := r; rfl
  | kd ks ds => obtain ⟨_, a, vs, rfl, _⟩ := r; rfl
  | acc ds => obtain ⟨a, vs, rfl, _⟩ := r; rfl
  | box ds => obtain ⟨a, vs, O', rfl, _⟩ := r; rfl
  | own c ns ds => obtain ⟨a, dx, vs, O', rfl, _⟩ := r; rfl
def isOf (n : Bool) : CmpOp := if n then .Is else .IsNot
theorem op_isN2 (n : Bool) : OpR X (compareOp (isOf n)) (fun x y H Q => y = .non ∧ Q (.bl (if n then decide (x = .non) else !decide (x = .non))) H) := by
  cases n with
  | true => exact op_isN
  | false => exact op_notN
theorem rel_bl {x : V} {v : Value} (r : RelV x v) (k : Bool) : (v == Value.bool k) = decide (x = .bl k) := by
  cases x with
  | non => cases r; rfl
  | bl b =>
    cases r
    show (Value.bool b == Value.bool k) = decide (V.bl b = V.bl k)
    rw [dec_bl]
    cases b <;> cases k <;> rfl
  | int _ => obtain ⟨t, rfl⟩ := r; rfl
  | str _ => obtain ⟨t, rfl⟩ := r; rfl
  | byt _ => obtain ⟨t, rfl⟩ := r; rfl
  | flt _ => obtain ⟨t, rfl⟩ := r; rfl
  | ref _ => cases r; rfl
  | ty _ => cases r; rfl
theorem op_isB2 (n : Bool) : OpR X (compareOp (isOf n)) (fun x y H Q => ∃ k, y = .bl k ∧ Q (.bl (if n then decide (x = .bl k) else !decide (x = .bl k))) H) := by
  intro pins s σ H x y v u Q I rx ry h
  obtain ⟨k, rfl, q⟩ := h
  cases (show u = Value.bool k from ry)
  have nb : ∀ id, v ≠ Value.builtin id := fun id e => by
    subst e
    cases x <;> simp [RelV] at rx
  have hb : ∀ {M : Model} {A : Around} {E : Value → Shared → Prop} {Q : Value → Shared → Prop} {s : Shared}, Q (.bool (v == .bool k)) s → wpAny M A (compareOp .Is v (.bool k)) Q E s := fun h => by
    cases v <;> first | exact wpAny_pure h | exact absurd rfl (nb _)
  have hb' : ∀ {M : Model} {A : Around} {E : Value → Shared → Prop} {Q : Value → Shared → Prop} {s : Shared}, Q (.bool (!(v == .bool k))) s → wpAny M A (compareOp .IsNot v (.bool k)) Q E s := fun h => by
    cases v <;> first | exact wpAny_pure h | exact absurd rfl (nb _)
  cases n with
  | true => exact hb ⟨_, H, I, by rw [rel_bl rx]; rfl, q⟩
  | false => exact hb' ⟨_, H, I, by rw [rel_bl rx]; rfl, q⟩
theorem isOf_mark (n : Bool) (b : Expr) : behindInMarks (isOf n) b = false := by cases n <;> exact nomark b
theorem se_isN (n : Bool) (ha : PE X a (tB C W (pureM ma) (evE cf pins ma))) {j : Nat} {pos' : Pos} : PE X (.Compare a [isOf n] [.Constant .none j pos'] pos) (tE C W (pureM (.isN n ma)) (evE cf pins (.isN n ma))) :=
  PE.imp (pe_cmpR (op_isN2 n) ha pe_non (isOf_mark n _)) fun σ H Q ⟨ρ, G, O, w, ag, h⟩ => by
    rw [evE] at h
    refine tX.next (Step.refl true) h w ag fun x ρ1 h1 v1 H1 G1 Od1 O1 st1 w1 r1 a1 => ⟨rfl, ?_⟩
    rw [isNon_v r1]
    exact h1 _ H1 G1 [] O1 st1 w1 ⟨rfl, rfl⟩ a1
theorem st_isN (n : Bool) (ha : PE X a (tB C W (pureM ma) (evE cf pins ma))) {j : Nat} {pos' : Pos} : PT X (.Compare a [isOf n] [.Constant .none j pos'] pos) (tT C W (pureM (.isN n ma)) (evT cf pins (.isN n ma))) :=
  PT.imp (pt_cmpR (op_isN2 n) ha pe_non (isOf_mark n _)) fun σ H Q ⟨ρ, G, O, w, ag, h⟩ => by
    rw [evT] at h
    refine tX.next (Step.refl true) h w ag fun x ρ1 h1 v1 H1 G1 Od1 O1 st1 w1 r1 a1 => ⟨rfl, _, rfl, ?_⟩
    rw [isNon_v r1]
    exact h1 H1 G1 O1 st1 w1 a1
theorem se_isB (n k : Bool) (ha : PE X a (tB C W (pureM ma) (evE cf pins ma))) {j : Nat} {pos' : Pos} : PE X (.Compare a [isOf n] [.Constant (.bool k) j pos'] pos) (tE C W (pureM (.isB n k ma)) (evE cf pins (.isB n k ma))) :=
  PE.imp (pe_cmpR (op_isB2 n) ha pe_bl (isOf_mark n _)) fun σ H Q ⟨ρ, G, O, w, ag, h⟩ => by
    rw [evE] at h
    refine tX.next (Step.refl true) h w ag fun x ρ1 h1 v1 H1 G1 Od1 O1 st1 w1 r1 a1 => ⟨k, rfl, ?_⟩
    rw [isBl_v k r1]
    exact h1 _ H1 G1 [] O1 st1 w1 ⟨rfl, rfl⟩ a1
theorem st_isB (n k : Bool) (ha : PE X a (tB C W (pureM ma) (evE cf pins ma))) {j : Nat} {pos' : Pos} : PT X (.Compare a [isOf n] [.Constant (.bool k) j pos'] pos) (tT C W (pureM (.isB n k ma)) (evT cf pins (.isB n k ma))) :=
  PT.imp (pt_cmpR (op_isB2 n) ha pe_bl (isOf_mark n _)) fun σ H Q ⟨ρ, G, O, w, ag, h⟩ => by
    rw [evT] at h
    refine tX.next (Step.refl true) h w ag fun x ρ1 h1 v1 H1 G1 Od1 O1 st1 w1 r1 a1 => ⟨k, rfl, _, rfl, ?_⟩
    rw [isBl_v k r1]
    exact h1 H1 G1 O1 st1 w1 a1
end
end L2.PV
set_option Elab.async false
set_option linter.all false
set_option autoImplicit false
/-! Rows from behind: lists and tuples. -/
namespace L2.PV.TR
open PySem PySem.Spec PyProof.Rows
open HT
theorem fm_congr {α β : Type} {f g : α → Option β} : ∀ {l : List α}, (∀ a ∈ l, f a = g a) → l.filterMap f = l.filterMap g
  | [], _ => rfl
  | a :: l, h => by
    rw [List.filterMap_cons, List.filterMap_cons, h a (List.mem_cons_self ..), fm_congr fun b hb => h b (List.mem_cons_of_mem _ hb)]
section
variable {prog : Program} {w : World} {A : Around} {E : Value → Shared → Prop} {s : Shared}
theorem sliceApplied_rev {sl : Addr} {vs : Value} {n : Nat} {Q : Int × Int × Nat → Shared → Prop} (hs : s.heap.IsSliceOf sl .none .none vs) (ps : IsPart vs (some (-1)))
    (h : Q ((n : Int) - 1, -1, n) s) : wpAny (model prog w) A (Builtin.Slice.sliceApplied (.ref sl) (pure (n : Int))) Q E s := by
  obtain ⟨os, hos, hcs, hds⟩ := id hs
  unfold Builtin.Slice.sliceApplied Builtin.Slice.sliceFields
  refine wpAny_bind (wpAny_bind (wpAny_field hos hds (x := .none) rfl (wpAny_bind (wpAny_field hos hds (x := .none) rfl (wpAny_bind (wpAny_field hos hds (x := vs) rfl (wpAny_pure ?_)))))))
  refine wpAny_bind (slicePart_ ps ?_)
  show wpAny _ _ (if ((-1 : Int) == 0) = true then _ else _) _ _ s
  rw [if_neg (by decide)]
  refine wpAny_bind (slicePart_none (wpAny_bind (slicePart_none (wpAny_bind (wpAny_pure ?_)))))
  show wpAny _ _ (pure ((n : Int) - 1, (-1 : Int), Builtin.Slice.slicePlaces ((n : Int) - 1) (-1) (-1))) _ _ s
  have e : Builtin.Slice.slicePlaces ((n : Int) - 1) (-1) (-1) = n := by
    unfold Builtin.Slice.slicePlaces
    rw [if_neg (by decide)]
    by_cases h0 : n = 0
    · subst h0; rfl
    · rw [if_pos (by omega), show (-(-1) : Int) = 1 from rfl, Int.ediv_one]; omega
  rw [e]
  exact wpAny_pure h
theorem pick_rev (xs : Array Value) : ((List.range xs.size).filterMap fun (m : Nat) => xs[(((xs.size : Int) - 1) + (m : Int) * -1).toNat]?).toArray = xs.toList.reverse.toArray := by
  congr 1
  have e : ∀ m ∈ List.range xs.size, xs[(((xs.size : Int) - 1) + (m : Int) * -1).toNat]? = xs.toList.reverse[m]? := fun m hm => by
    have hm := List.mem_range.mp hm
    have : (((xs.size : Int) - 1) + (m : Int) * -1).toNat = xs.size - 1 - m := by omega
    rw [this, List.getElem?_reverse (by simpa using hm), Array.getElem?_toList]
    simp
  rw [fm_congr e]
  have := pick_run (xs.toList.reverse.toArray) 0 xs.size
  simp only [Nat.zero_add, List.map_id', List.drop_zero] at this
  rw [List.take_of_length_le (by simp)] at this
  simpa using this
theorem getItem_tuple_rev {t sl : Addr} {items : Array Value} {vs : Value} {Q : Value → Shared → Prop} (ht : IsTup s.heap t items) (hs : s.heap.IsSliceOf sl .none .none vs) (ps : IsPart vs (some (-1)))
    (h : Q (.ref s.heap.objs.size) { s with heap := s.heap.push { cls := .type "tuple", data := .seq items.toList.reverse.toArray } })
    (hsz : items.size ≤ sizeLine) : wpAny (model prog w) A (getItem (.ref t) (.ref sl)) Q E s := by
  have htake : sizeOk (.seq items.toList.reverse.toArray) := by
    show (items.toList.reverse.toArray).size ≤ sizeLine
    simpa using hsz
  obtain ⟨os, hos, hcs, hds⟩ := id hs
  have hTs : s.TypeIs (.ref sl) "slice" := ⟨os, hos, hcs⟩
  unfold getItem
  try with_reducible refine wpAny_holding ?_
  first | refine wpAny_bind (wpAny_pure ?_) | skip
  refine wpAny_bind (wpAny_sequenceKey ht.typeIs (by decide) ?_)
  refine wpAny_bind (wpAny_callSpecial?_slot (name := Str.ofString "__getitem__") ht.typeIs PyProof.Rows.slot_tuple_getitem
    (wpAny_call_entry PyProof.Rows.slot_tuple_getitem ht.typeIs entry_tuple_getitem ?_ (args_tuple_getitem _ _)))
  show wpAny _ _ (Builtin.Tuple.tupleItemsOf (.ref t) >>= _) _ _ s
  refine wpAny_bind (tupleItemsOf_ ht ?_)
  refine wpAny_bind (wpAny_typeOf hTs ?_)
  rw [if_pos (by decide)]
  refine wpAny_bind (sliceApplied_rev hs ps ?_)
  show wpAny _ _ (if ((((items.size : Int) - 1) : Int) == 0 && (-1 : Int) == 1 && items.size == items.size) = true then _ else _) _ _ s
  rw [if_neg (by simp), pick_rev]
  first
    | exact wpAny_bind (m := Builtin.Tuple.tupleExact _) (wpAny_newObj_type (wpAny_pure ⟨_, rfl, wpAny_pure h⟩) htake)
    | exact wpAny_bind (m := Builtin.Tuple.tupleExact _) (wpAny_newObj_type (wpAny_bind (wpAny_pure (wpAny_pure ⟨_, rfl, wpAny_pure h⟩))) htake)
    | exact wpAny_bind (wpAny_bind (m := Builtin.Tuple.tupleExact _) (wpAny_newObj_type (wpAny_pure (wpAny_pure ⟨_, rfl, wpAny_pure h⟩)) htake))
    | exact wpAny_bind (wpAny_bind (m := Builtin.Tuple.tupleExact _) (wpAny_newObj_type (wpAny_pure ⟨_, rfl, wpAny_pure h⟩) htake))
end
end L2.PV.TR
namespace L2
open PySem PySem.Spec PyProof.Rows
def tRevB (K : PySem.W.Frag) (te : TE) : TE := fun σ H Q => te σ H fun x H1 => ∃ a xs, x = .ref a ∧ ((SqL K H1 a xs ∧ ∀ p, H1 p = none → Q (.ref p) (upd H1 p (.lst xs.reverse))) ∨ (SqT K H1 a xs ∧ ∀ p, H1 p = none → Q (.ref p) (upd H1 p (.tup xs.reverse))))
theorem pe_revB {X : Cx} {e : Expr} {te : TE} {k : Nat} {p1 p2 p3 pos : Pos} (he : PE X e te) : PE X (.Subscript e (.Slice none none (some (.UnaryOp .USub (.Constant (.int 1) k p1) p2)) p3) pos) (tRevB X.K te) := by
  refine ⟨fun pins s σ H Q I h => ?_⟩
  refine Subscript_ (thn (he.run pins s σ H _ I h) fun v s1 ⟨x, H1, I1, r1, q1⟩ => ?_)
  obtain ⟨a, xs, ex, q⟩ := q1
  subst ex
  cases r1
  have hst : PO X (some (.UnaryOp .USub (.Constant (.int 1) k p1) p2)) (tPart (tUn (rU fun i => .int (-i)) (tC (.int 1)))) := po_some (pe_un un_neg pe_int)
  refine wpAny_Slice (thn (po_none.run pins s1 σ H1 (fun o H2 => o = none ∧ H2 = H1) I1 ⟨rfl, rfl⟩) fun vl s2 ⟨l, H2, I2, pl, el, e2⟩ => ?_)
  subst el e2
  refine thn (po_none.run pins s2 σ H2 (fun o H3 => o = none ∧ H3 = H2) I2 ⟨rfl, rfl⟩) fun vu s3 ⟨u, H3, I3, pu, eu, e3⟩ => ?_
  subst eu e3
  refine thn (hst.run pins s3 σ H3 (fun o H4 => o = some (-1) ∧ H4 = H3) I3 ⟨1, rfl, -1, rfl, rfl, rfl⟩) fun vs s4 ⟨o, H4, I4, ps, eo, e4⟩ => ?_
  subst eo e4
  have I5 : Inv X pins σ H4 { s4 with heap := s4.heap.push { cls := .type "slice", data := .fields #[vl, vu, vs] } } := I4.kept (t' := s4.toks) fun b ob q => Heap.get?_push_of_some _ q
  show wpAny (model X.prog X.w) X.A (subscriptTail e (.Slice none none (some (.UnaryOp .USub (.Constant (.int 1) k p1) p2)) p3) (.ref a) (.ref s4.heap.objs.size)) (EP X pins σ Q) X.xe { s4 with heap := s4.heap.push { cls := .type "slice", data := .fields #[vl, vu, vs] } }
  rcases q with ⟨hx, q⟩ | ⟨hx, q⟩
  · obtain ⟨its, r, ht, hz⟩ := I5.list hx
    have hlen := r.length
    refine tail_any (ops := [.ref a, .ref s4.heap.objs.size]) ht.isList.typeIs (PySem.slot_list_getitem.lookup) ?_ (by with_unfolding_all rfl)
    refine wpAny_getItem_list_slice ht.isList (Heap.IsSliceOf.new _ vl vu vs) pl pu ps (by decide) ?_ (by rw [List.size_toArray]; omega)
    rw [PySem.W.krv_pick]
    refine ⟨.ref _, _, I5.laid (t' := s4.toks) (o := .lst xs.reverse) (fun b ob q => Heap.get?_push_of_some _ q) (Nat.le_refl _) ?_, rfl, q _ (I5.hok.fresh (Nat.le_refl _))⟩
    exact ⟨by rw [List.length_reverse]; exact hz, _, 0, r.reverse, Heap.get?_push_size _ rfl⟩
  · obtain ⟨its, r, ht, hz⟩ := I5.tuple hx
    have hlen := r.length
    cases pl
    cases pu
    refine tail_any (ops := [.ref a, .ref s4.heap.objs.size]) ht.typeIs (PyProof.Rows.slot_tuple_getitem.lookup) ?_ (by with_unfolding_all rfl)
    refine PV.TR.getItem_tuple_rev ht (Heap.IsSliceOf.new _ .none .none vs) ps ?_ (by rw [List.size_toArray]; omega)
    refine ⟨.ref _, _, I5.laid (t' := s4.toks) (o := .tup xs.reverse) (fun b ob q => Heap.get?_push_of_some _ q) (Nat.le_refl _) ?_, rfl, q _ (I5.hok.fresh (Nat.le_refl _))⟩
    exact ⟨by rw [List.length_reverse]; exact hz, _, by simpa using r.reverse, IsTup.new _ _⟩
end L2
set_option Elab.async false
set_option linter.all false
set_option autoImplicit false
/-! Expressions, second part. -/
namespace L2.PV
open PySem PySem.Spec PyProof.Rows
def okF (C : RC) (p : Bool) (H G : Hp) (O : List Addr) (σ : St) (Q : VK) : D → DEnv → Prop := fun d ρ => ∀ v H' G' O', Step p H G O H' G' O' → Wd H' G' O' → Rp C G' d v → AgL C G' H' ρ σ O' → Q v H'
def tF (C : RC) (W : WX) (p : Bool) (ev : DEnv → Option (RS D)) : TE := tX C W (okF C p) ev
def okO (C : RC) (p : Bool) (H G : Hp) (O : List Addr) (σ : St) (Q : Option Int → Hp → Prop) : Option Int → DEnv → Prop := fun o ρ => ∀ H' G' O', Step p H G O H' G' O' → Wd H' G' O' → AgL C G' H' ρ σ O' → Q o H'
def tO (C : RC) (W : WX) (p : Bool) (ev : DEnv → Option (RS (Option Int))) : TO := tX C W (okO C p) ev
theorem tX.nextE {C : RC} {W : WX} {q : Bool} {H G H0 G0 : Hp} {O O0 : List Addr} {σ : St} {ρ : DEnv} {α β γ : Type} {ok : Hp → Hp → List Addr → St → (β → Hp → Prop) → α → DEnv → Prop} {ev : DEnv → Option (RS α)} {f : α → DEnv → Option (RS γ)} {okf : γ → DEnv → Prop} {Q : β → Hp → Prop}
    (st : Step q H0 G0 O0 H G O) (h : goX (bnd (ev ρ) f) okf (exK C W H0 G0 O0 σ)) (w : Wd H G O) (ag : AgL C G H ρ σ O)
    (k : ∀ a ρ1, ev ρ = some (.ok a ρ1) → goX (f a ρ1) okf (exK C W H0 G0 O0 σ) → ok H G O σ Q a ρ1) : tX C W ok ev σ H Q := by
  refine ⟨ρ, G, O, w, ag, ?_⟩
  rw [goX_bnd] at h
  cases e : ev ρ with
  | none => rw [e] at h; exact h.elim
  | some r =>
    rw [e] at h
    cases r with
    | ok a ρ1 => exact k a ρ1 e h
    | exc x ρ1 => exact exK.rebase h st
/-- what is shown of a term: as it is looked at, as it is by itself -/
structure Ev (C : RC) (W : WX) (cf : Nat → List D → Option CR) (pins : List Nat) (X : Cx) (m : M) (e : Expr) : Prop where
  b : PE X e (tB C W (pureM m) (evE cf pins m))
  f : isPl m = false → PE X e (tE C W (pureM m) (evE cf pins m))
section
variable {C : RC} {F : FT} {cf : Nat → List D → Option CR} {lev : Nat} {N : List Str} {pins : List Nat} {sc : Scope} {X : Cx} {W : WX} {a b c : Expr} {ma mb mc : M} {pos : Pos}
theorem Ev.of (h : PE X a (tE C W (pureM ma) (evE cf pins ma))) : Ev C W cf pins X ma a := ⟨PE.imp h fun _ _ _ z => tB.of z, fun _ => h⟩
theorem Ev.pl {p : Pl} (h : PE X a (tPl p)) : Ev C W cf pins X (.pl p) a := ⟨se_pl h, fun z => nomatch z⟩
theorem Ev.own (h : Ev C W cf pins X ma a) : PE X a (tE C W (pureM ma) (fun ρ => bnd (evE cf pins ma ρ) fun d ρ1 => lft (ownM ma d) ρ1)) := by
  cases hp : isPl ma with
  | true =>
    refine PE.imp h.b fun σ H Q ⟨ρ, G, O, w, ag, q⟩ => tX.next (Step.refl true) q w ag fun d ρ1 q1 v H1 G1 Od O1 st w1 r a1 => ?_
    obtain ⟨d', e, q1⟩ := goX_lft q1
    unfold ownM at e
    rw [hp, if_pos rfl] at e
    split at e
    · rename_i f
      cases e
      exact q1 v H1 G1 [] O1 st w1 (Rp.own f (Rp.of f r)) a1
    · cases e
  | false =>
    refine PE.imp (h.f hp) fun σ H Q ⟨ρ, G, O, w, ag, q⟩ => tX.next (Step.refl true) q w ag fun d ρ1 q1 v H1 G1 Od O1 st w1 r a1 => ?_
    obtain ⟨d', e, q1⟩ := goX_lft q1
    unfold ownM at e
    rw [hp, if_neg Bool.false_ne_true] at e
    cases e
    exact q1 v H1 G1 Od O1 st w1 r a1
theorem Ev.frz (h : Ev C W cf pins X ma a) : PE X a (tF C W (pureM ma) (fun ρ => bnd (evE cf pins ma ρ) fun d ρ1 => lft (frzM ma d) ρ1)) := by
  cases hp : isPl ma with
  | true =>
    refine PE.imp h.b fun σ H Q ⟨ρ, G, O, w, ag, q⟩ => tX.next (Step.refl true) q w ag fun d ρ1 q1 v H1 G1 Od O1 st w1 r a1 => ?_
    obtain ⟨d', e, q1⟩ := goX_lft q1
    unfold frzM at e
    rw [hp, if_pos rfl] at e
    split at e
    · rename_i f
      cases e
      exact q1 v H1 G1 O1 st w1 (Rp.of f r) a1
    · cases e
  | false =>
    refine PE.imp (h.f hp) fun σ H Q ⟨ρ, G, O, w, ag, q⟩ => tX.next (Step.refl true) q w ag fun d ρ1 q1 v H1 G1 Od O1 st w1 r a1 => ?_
    obtain ⟨d', e, q1⟩ := goX_lft q1
    unfold frzM at e
    rw [hp, if_neg Bool.false_ne_true] at e
    obtain ⟨G', s1, s2, s3, s4⟩ := frz_ok e w1 r a1
    exact q1 v H1 G' O1 ((st.trans s1).wk fun z => by rw [z]; rfl) s2 s3 s4
theorem Ev.frz' (h : Ev C W cf pins X ma a) {σ : St} {H0 G0 H G : Hp} {O0 O : List Addr} {q : Bool} {ρ : DEnv} {γ : Type} {f : D → DEnv → Option (RS γ)} {okf : γ → DEnv → Prop} {Q : VK} (st : Step q H0 G0 O0 H G O)
    (hq : goX (bnd (evE cf pins ma ρ) fun x ρ1 => bnd (lft (frzM ma x) ρ1) f) okf (exK C W H0 G0 O0 σ)) (w : Wd H G O) (ag : AgL C G H ρ σ O)
    (k : ∀ a ρ1, goX (f a ρ1) okf (exK C W H0 G0 O0 σ) → okF C (pureM ma) H G O σ Q a ρ1) : tF C W (pureM ma) (fun ρ => bnd (evE cf pins ma ρ) fun d ρ1 => lft (frzM ma d) ρ1) σ H Q := by
  refine tX.next st (ev := fun ρ => bnd (evE cf pins ma ρ) fun d ρ1 => lft (frzM ma d) ρ1) (f := f) ?_ w ag k
  have e : ∀ r : Option (RS D), bnd (bnd r fun d ρ1 => lft (frzM ma d) ρ1) f = bnd r fun x ρ1 => bnd (lft (frzM ma x) ρ1) f := fun r => by
    cases r with
    | none => rfl
    | some r => cases r <;> rfl
  rw [e]; exact hq
theorem Ev.own' (h : Ev C W cf pins X ma a) {σ : St} {H0 G0 H G : Hp} {O0 O : List Addr} {q : Bool} {ρ : DEnv} {γ : Type} {f : D → DEnv → Option (RS γ)} {okf : γ → DEnv → Prop} {Q : VK} (st : Step q H0 G0 O0 H G O)
    (hq : goX (bnd (evE cf pins ma ρ) fun x ρ1 => bnd (lft (ownM ma x) ρ1) f) okf (exK C W H0 G0 O0 σ)) (w : Wd H G O) (ag : AgL C G H ρ σ O)
    (k : ∀ a ρ1, goX (f a ρ1) okf (exK C W H0 G0 O0 σ) → okE C (pureM ma) H G O σ Q a ρ1) : tE C W (pureM ma) (fun ρ => bnd (evE cf pins ma ρ) fun d ρ1 => lft (ownM ma d) ρ1) σ H Q := by
  refine tX.next st (ev := fun ρ => bnd (evE cf pins ma ρ) fun d ρ1 => lft (ownM ma d) ρ1) (f := f) ?_ w ag k
  have e : ∀ r : Option (RS D), bnd (bnd r fun d ρ1 => lft (ownM ma d) ρ1) f = bnd r fun x ρ1 => bnd (lft (ownM ma x) ρ1) f := fun r => by
    cases r with
    | none => rfl
    | some r => cases r <;> rfl
  rw [e]; exact hq
/-! ### and, or, not, if .. else -/
theorem se_fzE (ha : Ev C W cf pins X ma a) : PE X a (tE C W (pureM (.fzE ma)) (evE cf pins (.fzE ma))) :=
  PE.imp ha.frz fun σ H Q ⟨ρ, G, O, w, ag, h⟩ => by
    rw [evE] at h
    exact ⟨ρ, G, O, w, ag, h.mono (fun d ρ1 z v H1 G1 O1 st1 w1 r1 a1 => z v H1 G1 [] O1 st1 w1 (Rp.own (Rp.isFz r1) r1) a1) fun _ _ z => z⟩
theorem se_bone {op : BoolOp} (ha : Ev C W cf pins X ma a) : PE X (.BoolOp op [a] pos) (tE C W (pureM (.bone ma)) (evE cf pins (.bone ma))) :=
  pe_one (PE.imp ha.own fun σ H Q z => by
    have e : evE cf pins (.bone ma) = fun ρ => bnd (evE cf pins ma ρ) fun d ρ1 => lft (ownM ma d) ρ1 := by funext ρ; rw [evE]
    rw [e] at z; exact z)
theorem ownM_np {m : M} (h : isPl m = false) (d : D) : ownM m d = some d := by unfold ownM; rw [h, if_neg Bool.false_ne_true]
theorem se_band {rest : List Expr} (ha : PE X a (tB C W (pureM ma) (evE cf pins ma))) (hb : PE X (.BoolOp .And (b :: rest) pos) (tE C W (pureM mb) (evE cf pins mb))) (hp : isPl mb = false) :
    PE X (.BoolOp .And (a :: b :: rest) pos) (tE C W (pureM (.band ma mb)) (evE cf pins (.band ma mb))) :=
  PE.imp (pe_and ha hb) fun σ H Q ⟨ρ, G, O, w, ag, h⟩ => by
    rw [evE] at h
    refine tX.next (Step.refl true) h w ag fun x ρ1 h1 v1 H1 G1 Od1 O1 st1 w1 r1 a1 => ?_
    cases x <;> first | exact h1.elim | skip
    rename_i k
    obtain rfl := r1.2
    refine ⟨k, rfl, ?_⟩
    cases k with
    | true =>
      rw [if_pos rfl]
      refine tX.next st1 h1 w1 a1 fun y ρ2 h2 v2 H2 G2 Od2 O2 st2 w2 r2 a2 => ?_
      rw [ownM_np hp] at h2
      exact h2 v2 H2 G2 Od2 O2 (st1.trans st2) w2 r2 a2
    | false =>
      rw [if_neg Bool.false_ne_true]
      exact h1 _ H1 G1 [] O1 (st1.wk fun z => (Bool.and_eq_true_iff.mp (show (pureM ma && pureM mb) = true from z)).1) w1 ⟨rfl, rfl⟩ a1
theorem se_bor {rest : List Expr} (ha : PE X a (tB C W (pureM ma) (evE cf pins ma))) (hb : PE X (.BoolOp .Or (b :: rest) pos) (tE C W (pureM mb) (evE cf pins mb))) (hp : isPl mb = false) :
    PE X (.BoolOp .Or (a :: b :: rest) pos) (tE C W (pureM (.bor ma mb)) (evE cf pins (.bor ma mb))) :=
  PE.imp (pe_or ha hb) fun σ H Q ⟨ρ, G, O, w, ag, h⟩ => by
    rw [evE] at h
    refine tX.next (Step.refl true) h w ag fun x ρ1 h1 v1 H1 G1 Od1 O1 st1 w1 r1 a1 => ?_
    cases x <;> first | exact h1.elim | skip
    rename_i k
    obtain rfl := r1.2
    refine ⟨k, rfl, ?_⟩
    cases k with
    | false =>
      rw [if_neg Bool.false_ne_true]
      refine tX.next st1 h1 w1 a1 fun y ρ2 h2 v2 H2 G2 Od2 O2 st2 w2 r2 a2 => ?_
      rw [ownM_np hp] at h2
      exact h2 v2 H2 G2 Od2 O2 (st1.trans st2) w2 r2 a2
    | true =>
      rw [if_pos rfl]
      exact h1 _ H1 G1 [] O1 (st1.wk fun z => (Bool.and_eq_true_iff.mp (show (pureM ma && pureM mb) = true from z)).1) w1 ⟨rfl, rfl⟩ a1
theorem se_bnot (ha : PE X a (tB C W (pureM ma) (evE cf pins ma))) : PE X (.UnaryOp .Not a pos) (tE C W (pureM (.bnot ma)) (evE cf pins (.bnot ma))) :=
  PE.imp (pe_not ha) fun σ H Q ⟨ρ, G, O, w, ag, h⟩ => by
    rw [evE] at h
    refine tX.next (Step.refl true) h w ag fun x ρ1 h1 v1 H1 G1 Od1 O1 st1 w1 r1 a1 => ?_
    cases x <;> first | exact h1.elim | skip
    rename_i k
    obtain rfl := r1.2
    exact ⟨k, rfl, h1 _ H1 G1 [] O1 st1 w1 ⟨rfl, rfl⟩ a1⟩
theorem se_ife {t : Expr} {mt : M} (ht : PT X t (tT C W (pureM mt) (evT cf pins mt))) (ha : Ev C W cf pins X ma a) (hb : Ev C W cf pins X mb b) : PE X (.IfExp t a b pos) (tE C W (pureM (.ife mt ma mb)) (evE cf pins (.ife mt ma mb))) :=
  PE.imp (pe_ifExp ht ha.own hb.own) fun σ H Q ⟨ρ, G, O, w, ag, h⟩ => by
    rw [evE] at h
    refine tX.next (Step.refl true) h w ag fun x ρ1 h1 H1 G1 O1 st1 w1 a1 => ?_
    cases x with
    | true =>
      rw [if_pos rfl]
      refine tX.last st1 h1 w1 a1 fun y ρ2 h2 v2 H2 G2 Od2 O2 st2 w2 r2 a2 => ?_
      exact h2 v2 H2 G2 Od2 O2 ((st1.trans st2).wk fun z => by
        have z : (pureM mt && pureM ma && pureM mb) = true := z
        rw [Bool.and_eq_true] at z; exact z.1) w2 r2 a2
    | false =>
      rw [if_neg Bool.false_ne_true]
      refine tX.last st1 h1 w1 a1 fun y ρ2 h2 v2 H2 G2 Od2 O2 st2 w2 r2 a2 => ?_
      exact h2 v2 H2 G2 Od2 O2 ((st1.trans st2).wk fun z => by
        have z : (pureM mt && pureM ma && pureM mb) = true := z
        rw [Bool.and_eq_true, Bool.and_eq_true] at z; rw [z.1.1, z.2]; rfl) w2 r2 a2
/-! ### tests -/
theorem st_tru (hK : C.K = X.K) (ha : PE X a (tB C W (pureM ma) (evE cf pins ma))) (ht : ntr a = true) : PT X a (tT C W (pureM ma) (evT cf pins (.seq ma))) :=
  PT.imp (pt_truth ha fun wh => ntr_ok ht X.env wh) fun σ H Q ⟨ρ, G, O, w, ag, h⟩ => by
    rw [evT] at h
    refine tX.next (Step.refl true) h w ag fun x ρ1 h1 v1 H1 G1 Od1 O1 st1 w1 r1 a1 => ?_
    obtain ⟨k, e, h1⟩ := goX_lft h1
    have fin := h1 H1 G1 O1 st1 w1 a1
    cases x with
    | non => obtain rfl := r1.2; cases e; exact ⟨_, rfl, fin⟩
    | bl i => obtain rfl := r1.2; cases e; exact ⟨_, rfl, fin⟩
    | int i => obtain rfl := r1.2; cases e; exact ⟨_, rfl, fin⟩
    | str s =>
      obtain rfl := r1.2
      simp only [truD] at e
      split at e
      · rename_i hs; cases e; exact ⟨_, ⟨hs, rfl⟩, fin⟩
      · cases e
    | tup ds =>
      cases e
      obtain ⟨a, vs, rfl, g1, h1, q1⟩ := tup_of w1 r1
      refine ⟨_, .inr (.inl ⟨vs, hK ▸ h1, rfl⟩), ?_⟩
      rw [show vs.isEmpty = ds.isEmpty by rw [Bool.eq_iff_iff, List.isEmpty_iff_length_eq_zero, List.isEmpty_iff_length_eq_zero, q1.len]]
      exact fin
    | lst ds =>
      cases e
      obtain ⟨a, vs, rfl, h1, q1⟩ := list_of w1 r1 (.inl rfl)
      refine ⟨_, .inl ⟨vs, SqL.of h1, rfl⟩, ?_⟩
      rw [show vs.isEmpty = ds.isEmpty by rw [Bool.eq_iff_iff, List.isEmpty_iff_length_eq_zero, List.isEmpty_iff_length_eq_zero, q1.len]]
      exact fin
    | acc ds =>
      cases e
      obtain ⟨a, vs, rfl, h1, q1⟩ := list_of w1 r1 (.inr rfl)
      refine ⟨_, .inl ⟨vs, SqL.of h1, rfl⟩, ?_⟩
      rw [show vs.isEmpty = ds.isEmpty by rw [Bool.eq_iff_iff, List.isEmpty_iff_length_eq_zero, List.isEmpty_iff_length_eq_zero, q1.len]]
      exact fin
    | scr ds =>
      cases e
      obtain ⟨_, a, vs, rfl, h1, q1⟩ := r1
      refine ⟨_, .inl ⟨vs, hK ▸ w1.gh.seq h1, rfl⟩, ?_⟩
      rw [show vs.isEmpty = ds.isEmpty by rw [Bool.eq_iff_iff, List.isEmpty_iff_length_eq_zero, List.isEmpty_iff_length_eq_zero, q1.len]]
      exact fin
    | _ => cases e
theorem PW.imp {e : Expr} {t t' : TT} (h : PW X e t) (k : ∀ σ H Q, t' σ H Q → t σ H Q) : PW X e t' := ⟨fun wh pins s σ H Q I z => h.run wh pins s σ H Q I (k σ H Q z)⟩
theorem sw_and1 (ha : PT X a (tT C W (pureM ma) (evT cf pins ma))) : PW X (.BoolOp .And [a] pos) (tT C W (pureM (.bone ma)) (evT cf pins (.bone ma))) :=
  PW.imp (pw_and1 ha) fun σ H Q z => by
    have e : evT cf pins (.bone ma) = evT cf pins ma := by funext ρ; rw [evT]
    rw [e] at z; exact z
theorem sw_or1 (ha : PT X a (tT C W (pureM ma) (evT cf pins ma))) : PW X (.BoolOp .Or [a] pos) (tT C W (pureM (.bone ma)) (evT cf pins (.bone ma))) :=
  PW.imp (pw_or1 ha) fun σ H Q z => by
    have e : evT cf pins (.bone ma) = evT cf pins ma := by funext ρ; rw [evT]
    rw [e] at z; exact z
theorem sw_and {rest : List Expr} (ha : PT X a (tT C W (pureM ma) (evT cf pins ma))) (hb : PW X (.BoolOp .And (b :: rest) pos) (tT C W (pureM mb) (evT cf pins mb))) :
    PW X (.BoolOp .And (a :: b :: rest) pos) (tT C W (pureM (.band ma mb)) (evT cf pins (.band ma mb))) :=
  PW.imp (pw_and ha hb) fun σ H Q ⟨ρ, G, O, w, ag, h⟩ => by
    rw [evT] at h
    refine tX.next (Step.refl true) h w ag fun x ρ1 h1 H1 G1 O1 st1 w1 a1 => ?_
    cases x with
    | true =>
      rw [if_pos rfl]
      refine tX.last st1 h1 w1 a1 fun y ρ2 h2 H2 G2 O2 st2 w2 a2 => ?_
      exact h2 H2 G2 O2 (st1.trans st2) w2 a2
    | false =>
      rw [if_neg Bool.false_ne_true]
      exact h1 H1 G1 O1 (st1.wk fun z => (Bool.and_eq_true_iff.mp (show (pureM ma && pureM mb) = true from z)).1) w1 a1
theorem sw_or {rest : List Expr} (ha : PT X a (tT C W (pureM ma) (evT cf pins ma))) (hb : PW X (.BoolOp .Or (b :: rest) pos) (tT C W (pureM mb) (evT cf pins mb))) :
    PW X (.BoolOp .Or (a :: b :: rest) pos) (tT C W (pureM (.bor ma mb)) (evT cf pins (.bor ma mb))) :=
  PW.imp (pw_or ha hb) fun σ H Q ⟨ρ, G, O, w, ag, h⟩ => by
    rw [evT] at h
    refine tX.next (Step.refl true) h w ag fun x ρ1 h1 H1 G1 O1 st1 w1 a1 => ?_
    cases x with
    | false =>
      rw [if_neg Bool.false_ne_true]
      refine tX.last st1 h1 w1 a1 fun y ρ2 h2 H2 G2 O2 st2 w2 a2 => ?_
      exact h2 H2 G2 O2 (st1.trans st2) w2 a2
    | true =>
      rw [if_pos rfl]
      exact h1 H1 G1 O1 (st1.wk fun z => (Bool.and_eq_true_iff.mp (show (pureM ma && pureM mb) = true from z)).1) w1 a1
theorem st_not (ha : PT X a (tT C W (pureM ma) (evT cf pins ma))) : PT X (.UnaryOp .Not a pos) (tT C W (pureM (.bnot ma)) (evT cf pins (.bnot ma))) :=
  PT.imp (pt_not ha) fun σ H Q ⟨ρ, G, O, w, ag, h⟩ => by
    rw [evT] at h
    exact tX.next (Step.refl true) h w ag fun x ρ1 h1 H1 G1 O1 st1 w1 a1 => h1 H1 G1 O1 st1 w1 a1
/-! ### displays -/
/-- rows of arguments, with their number -/
def PAn (X : Cx) (es : List Expr) (t : TA) : Prop := PA X es (fun σ H Q => t σ H fun vs H' => vs.length = es.length → Q vs H')
theorem PAn.imp {es : List Expr} {t t' : TA} (h : PAn X es t) (k : ∀ σ H Q, t' σ H Q → t σ H Q) : PAn X es t' := PA.imp h fun σ H Q z => k σ H _ z
theorem sl_nil : PAn X [] (tL C W (pureM .nil) (evL cf pins .nil)) :=
  PA.imp pa_nil fun σ H Q ⟨ρ, G, O, w, ag, h⟩ => by
    rw [evL] at h
    exact h [] H G O (Step.refl _) w rfl ag rfl
theorem sl_cons {es : List Expr} {ms : M} (ha : Ev C W cf pins X ma a) (hs : nst a = true) (hr : PAn X es (tL C W (pureM ms) (evL cf pins ms))) :
    PAn X (a :: es) (tL C W (pureM (.cons ma ms)) (evL cf pins (.cons ma ms))) :=
  PA.imp (pa_cons ha.frz hr (nst_ok hs es X.env)) fun σ H Q ⟨ρ, G, O, w, ag, h⟩ => by
    rw [evL] at h
    refine ha.frz' (Step.refl true) h w ag fun x ρ1 h1 v1 H1 G1 O1 st1 w1 r1 a1 => ?_
    refine tX.next st1 h1 w1 a1 fun xs ρ2 h2 vs H2 G2 O2 st2 w2 r2 a2 hl => ?_
    exact h2 (v1 :: vs) H2 G2 O2 (st1.trans st2) w2 ⟨v1, vs, rfl, Rp.same st2.gg _ _ r1, r2⟩ a2 (by simp [hl])
theorem Wd.beside {p : Bool} {H1 G1 H2 G2 : Hp} {R O1 O2 : List Addr} (w1 : Wd H1 G1 (R ++ O1)) (hin : ∀ a ∈ R, H1 a ≠ none) (st : Step p H1 G1 O1 H2 G2 O2) (w2 : Wd H2 G2 O2) : Wd H2 G2 (R ++ O2) := by
  obtain ⟨n1, n2, n3⟩ := List.nodup_append.mp w1.nd
  have no : ∀ a ∈ R, a ∉ O1 := fun a ha hb => n3 a ha a hb rfl
  refine ⟨w2.gh, List.nodup_append.mpr ⟨n1, w2.nd, fun a ha b hb e => ?_⟩, fun a ha => ?_⟩
  · subst e
    rcases st.ow a hb with z | z
    · exact no a ha z
    · exact hin a ha z
  · rcases List.mem_append.mp ha with z | z
    · cases e : G2 a with
      | none => rfl
      | some o =>
        rcases st.gn a (by rw [e]; simp) with y | y | y
        · exact absurd (w1.og a (List.mem_append_left _ z)) y
        · exact absurd y (no a z)
        · exact absurd y (hin a z)
    · exact w2.og a z
theorem sw_nil : PAn X [] (tW C W (pureM .nil) (evW cf pins .nil)) :=
  PA.imp pa_nil fun σ H Q ⟨ρ, G, O, w, ag, h⟩ => by
    rw [evW] at h
    exact h [] H G [] O (Step.refl _) w ⟨rfl, rfl⟩ ag rfl
theorem sw_cons {es : List Expr} {ms : M} (ha : Ev C W cf pins X ma a) (hs : nst a = true) (hr : PAn X es (tW C W (pureM ms) (evW cf pins ms))) :
    PAn X (a :: es) (tW C W (pureM (.cons ma ms)) (evW cf pins (.cons ma ms))) :=
  PA.imp (pa_cons ha.own hr (nst_ok hs es X.env)) fun σ H Q ⟨ρ, G, O, w, ag, h⟩ => by
    rw [evW] at h
    refine ha.own' (Step.refl true) h w ag fun x ρ1 h1 v1 H1 G1 Od1 O1 st1 w1 r1 a1 => ?_
    refine tX.next (st1.sub fun b hb => List.mem_append_right _ hb) h1 w1.right a1 fun xs ρ2 h2 vs H2 G2 Od2 O2 st2 w2 r2 a2 hl => ?_
    have n3 := (List.nodup_append.mp w1.nd).2.2
    have hin := RpO.inH x v1 Od1 r1
    refine h2 (v1 :: vs) H2 G2 (Od1 ++ Od2) O2 ?_ ?_ ⟨v1, vs, Od1, Od2, rfl, rfl, r1.keep1 st2 (fun b hb hc => n3 b hb b hc rfl), r2⟩ a2 (by simp [hl])
    · rw [List.append_assoc]; exact st1.trans (st2.beside Od1)
    · rw [List.append_assoc]; exact Wd.beside w1 hin st2 w2
theorem se_tup {es : List Expr} {ms : M} {x1 : Nat} (h : PAn X es (tL C W (pureM ms) (evL cf pins ms))) (hl : es.length ≤ 1000) : PE X (.Tuple es x1 pos) (tE C W (pureM (.tup ms)) (evE cf pins (.tup ms))) :=
  PE.imp (pe_tup h) fun σ H Q ⟨ρ, G, O, w, ag, h⟩ => by
    rw [evE] at h
    refine tX.next (Step.refl true) h w ag fun ds ρ1 h1 vs H1 G1 O1 st1 w1 r1 a1 hn => ⟨by rw [hn]; exact Nat.le_trans hl (by decide), ?_⟩
    exact fin_tup (Q := Q) w1 a1.inH r1 fun v H' G' Od st w' r => h1 v H' G' Od O1 ((st1.trans st).wk fun z => by rw [show pureM ms = true from z]; rfl) w' r (a1.frame st.gg fun _ _ _ z => st.sm rfl _ _ z)
theorem se_lst {es : List Expr} {ms : M} (h : PAn X es (tL C W (pureM ms) (evL cf pins ms))) (hl : es.length ≤ 1000) : PE X (.List es pos) (tE C W (pureM (.lst ms)) (evE cf pins (.lst ms))) :=
  PE.imp (pe_lst h) fun σ H Q ⟨ρ, G, O, w, ag, h⟩ => by
    rw [evE] at h
    refine tX.next (Step.refl true) h w ag fun ds ρ1 h1 vs H1 G1 O1 st1 w1 r1 a1 hn => ⟨by rw [hn]; exact Nat.le_trans hl (by decide), ?_⟩
    exact fin_acc (Q := Q) w1 a1.inH r1 fun v H' G' Od st w' r => h1 v H' G' Od O1 ((st1.trans st).wk fun z => by rw [show pureM ms = true from z]; rfl) w' r (a1.frame st.gg fun _ _ _ z => st.sm rfl _ _ z)
theorem strs_of {G : Hp} : ∀ {ds : List D} {vs : List V} {ys : List Str}, Rps C G ds vs → strsD ds = some ys → vs = ys.map V.str
  | [], vs, ys, r, e => by
    cases (Option.some.inj e : [] = ys)
    exact r
  | d :: ds, vs, ys, r, e => by
    obtain ⟨v, ws, rfl, r1, r2⟩ := r
    cases d <;> first | (exact nomatch (show (none : Option (List Str)) = some ys from e)) | skip
    obtain ⟨ys', e1, rfl⟩ := Option.map_eq_some_iff.mp e
    have r1 : v = _ := r1
    rw [r1, strs_of r2 e1]; rfl
theorem se_box {es : List Expr} {ms : M} (h : PAn X es (tW C W (pureM ms) (evW cf pins ms))) (hl : es.length ≤ 1000) : PE X (.List es pos) (tE C W (pureM (.box ms)) (evE cf pins (.box ms))) :=
  PE.imp (pe_lst h) fun σ H Q ⟨ρ, G, O, w, ag, h⟩ => by
    rw [evE] at h
    refine tX.next (Step.refl true) h w ag fun ds ρ1 h1 vs H1 G1 Od1 O1 st1 w1 r1 a1 hn => ⟨by rw [hn]; exact Nat.le_trans hl (by decide), fun p hp => ?_⟩
    have hin : ∀ b ∈ Od1 ++ O1, H1 b ≠ none := fun b hb => (List.mem_append.mp hb).elim (RpOs.inH ds vs Od1 r1 b) (a1.inH b)
    obtain ⟨s1, s2⟩ := step_mine w1 hin hp (.lst vs)
    exact h1 (.ref p) _ G1 (p :: Od1) O1 ((st1.trans s1).wk fun z => by cases (show false = true from z)) s2 ⟨p, vs, Od1, rfl, rfl, upd_same, RpOs.frame (Same.refl _) ds vs Od1 r1 fun b _ o e => s1.sm rfl _ _ e⟩
      (a1.frame (Same.refl _) fun b _ o e => s1.sm rfl _ _ e)
/-! ### items and parts -/
theorem atI_rps {G : Hp} {ds : List D} {vs : List V} {i : Int} {d : D} (r : Rps C G ds vs) (e : atI ds i = some d) : ∃ v, atI vs i = some v ∧ Rp C G d v := by
  unfold atI at e ⊢
  rw [← r.len]
  obtain ⟨j, e1, e2⟩ := Option.bind_eq_some_iff.mp e
  obtain ⟨v, e3, e4⟩ := r.get e2
  exact ⟨v, by rw [e1]; exact e3, e4⟩
theorem kd_at {G : Hp} {a : Addr} {x : Str} : ∀ {ks : List Str} {ds : List D} {vs : List V} {d : D}, (∀ (i : Nat) (x : Str) (y : V), ks[i]? = some x → vs[i]? = some y → KDct C.K C.w a x y) → Rps C G ds vs → kdG ks ds x = some d → ∃ v, KDct C.K C.w a x v ∧ Rp C G d v
  | [], _, _, _, _, _, e => by cases e
  | _ :: _, [], _, _, _, _, e => by cases e
  | k :: ks, d0 :: ds, _, d, h, ⟨v, ws, e0, r1, r2⟩, e => by
    subst e0
    unfold kdG at e
    split at e
    · rename_i hk
      cases e
      subst hk
      exact ⟨v, h 0 _ _ rfl rfl, r1⟩
    · exact kd_at (fun i x y h1 h2 => h (i + 1) x y (by simpa using h1) (by simpa using h2)) r2 e
theorem ix_D (hK : C.K = X.K) (hW : C.w = X.w) : IxR X (fun x y H Q => ∃ G O Ox Oy dx dy d, Wd H G O ∧ RpO C G H dx x Ox ∧ RpO C G H dy y Oy ∧ idxD dx dy = some d ∧ ∀ v, Rp C G d v → Q v H) := by
  intro value slice pins s σ H x y v u Q I rx ry h hs
  obtain ⟨G, O, Ox, Oy, dx, dy, d, w, r1, r2, e, k⟩ := h
  cases dy <;> first | (cases dx <;> exact nomatch (show (none : Option D) = some d from e)) | skip
  rotate_left
  · rename_i z
    obtain rfl := r2.2
    cases dx <;> first | exact nomatch (show (none : Option D) = some d from e) | skip
    obtain ⟨_, a, vs, rfl, hl, h1, q1⟩ := r1
    obtain ⟨v', k1, k2⟩ := kd_at h1 q1 e
    exact ix_kdict value slice pins s σ H _ _ v u Q I rx ry ⟨a, z, v', rfl, rfl, hK ▸ hW ▸ k1, k v' k2⟩ hs
  rename_i i
  obtain rfl := r2.2
  cases dx with
  | tup ds =>
    obtain ⟨a, vs, rfl, g1, h1, q1⟩ := tup_of w r1
    obtain ⟨z, e1, e2⟩ := atI_rps q1 e
    exact ix_tup value slice pins s σ H _ _ v u Q I rx ry ⟨a, vs, i, z, rfl, rfl, hK ▸ h1, e1, k z e2⟩ hs
  | lst ds =>
    obtain ⟨a, vs, rfl, h1, q1⟩ := list_of w r1 (.inl rfl)
    obtain ⟨z, e1, e2⟩ := atI_rps q1 e
    exact ix_list value slice pins s σ H _ _ v u Q I rx ry ⟨a, vs, i, z, rfl, rfl, SqL.of h1, e1, k z e2⟩ hs
  | acc ds =>
    obtain ⟨a, vs, rfl, h1, q1⟩ := list_of w r1 (.inr rfl)
    obtain ⟨z, e1, e2⟩ := atI_rps q1 e
    exact ix_list value slice pins s σ H _ _ v u Q I rx ry ⟨a, vs, i, z, rfl, rfl, SqL.of h1, e1, k z e2⟩ hs
  | scr ds =>
    obtain ⟨_, a, vs, rfl, h1, q1⟩ := r1
    obtain ⟨z, e1, e2⟩ := atI_rps q1 e
    exact ix_list value slice pins s σ H _ _ v u Q I rx ry ⟨a, vs, i, z, rfl, rfl, hK ▸ w.gh.seq h1, e1, k z e2⟩ hs
  | str z =>
    obtain rfl := r1.2
    simp only [idxD] at e
    split at e
    · rename_i hz
      obtain ⟨c, e1, rfl⟩ := Option.map_eq_some_iff.mp e
      exact ix_str value slice pins s σ H _ _ v u Q I rx ry ⟨z, i, c, rfl, rfl, hz, e1, k _ rfl⟩ hs
    · cases e
  | _ => exact nomatch (show (none : Option D) = some d from e)
theorem se_idx (g : Gd C F cf lev N sc X) (ha : PE X a (tB C W (pureM ma) (evE cf pins ma))) (hb : PE X b (tB C W (pureM mb) (evE cf pins mb))) (hs : nsl b = true) :
    PE X (.Subscript a b pos) (tE C W (pureM (.idx ma mb)) (evE cf pins (.idx ma mb))) :=
  PE.imp (pe_ix (ix_D g.kK g.kW) ha hb (nsl_ok hs)) fun σ H Q ⟨ρ, G, O, w, ag, h⟩ => by
    rw [evE] at h
    refine tX.next (Step.refl true) h w ag fun x ρ1 h1 v1 H1 G1 Od1 O1 st1 w1 r1 a1 => ?_
    refine tX.next st1 h1 w1 a1 fun y ρ2 h2 v2 H2 G2 Od2 O2 st2 w2 r2 a2 => ?_
    obtain ⟨hk, h2⟩ := goX_ite h2
    obtain ⟨d, e, h2⟩ := goX_lft h2
    exact ⟨G2, O2, Od1, Od2, x, y, d, w2, r1.keep st2 hk, r2, e, fun v r => h2 v H2 G2 [] O2 (st1.trans st2) w2 (Rp.own (Rp.isFz r) r) a2⟩
theorem so_no : PO X none (tO C W (pureM .no) (evO cf pins .no)) := by
  refine ⟨fun pins' s σ H Q I h => po_none.run pins' s σ H Q I ?_⟩
  obtain ⟨ρ, G, O, w, ag, h⟩ := h
  rw [evO] at h
  exact h H G O (Step.refl _) w ag
theorem so_some (ha : PE X a (tB C W (pureM ma) (evE cf pins ma))) : PO X (some a) (tO C W (pureM ma) (evO cf pins (.seq ma))) := by
  refine ⟨fun pins' s σ H Q I h => (po_some ha).run pins' s σ H Q I ?_⟩
  obtain ⟨ρ, G, O, w, ag, h⟩ := h
  rw [evO] at h
  refine tX.next (Step.refl true) h w ag fun x ρ1 h1 v1 H1 G1 Od1 O1 st1 w1 r1 a1 => ?_
  cases x <;> first | exact h1.elim | skip
  obtain rfl := r1.2
  exact ⟨_, rfl, h1 H1 G1 O1 st1 w1 a1⟩
theorem sl_D (hK : C.K = X.K) : SlR X (fun x lo hi H Q => ∃ G O Ox dx d, Wd H G O ∧ (∀ a ∈ O, H a ≠ none) ∧ RpO C G H dx x Ox ∧ slcD dx lo hi = some d ∧ ∀ v H' G' Od, Step true H G O H' G' (Od ++ O) → Wd H' G' (Od ++ O) → RpO C G' H' d v Od → Q v H') := by
  intro pins s σ H x v vl vu lo hi sl Q I rx hs pl pu h
  obtain ⟨G, O, Ox, dx, d, w, hin, r1, e, k⟩ := h
  cases dx with
  | tup ds =>
    cases e
    obtain ⟨a, vs, rfl, g1, h1, q1⟩ := tup_of w r1
    refine sl_tupA pins s σ H _ v vl vu lo hi sl Q I rx hs pl pu ⟨a, vs, rfl, hK ▸ h1, fun hw => ?_, fun _ => ?_⟩
    · have e : cutG ds lo hi = ds := by
        unfold cutG
        rw [q1.len, hw.1, hw.2, List.drop_zero, Nat.sub_zero, ← q1.len, List.take_length]
      rw [e] at k
      exact k _ H G [] (Step.refl _) w ⟨rfl, a, vs, rfl, g1, q1⟩
    · rw [cutV_eq]; exact fin_tup w hin (q1.cut lo hi) k
  | lst ds =>
    cases e
    obtain ⟨a, vs, rfl, h1, q1⟩ := list_of w r1 (.inl rfl)
    refine sl_list pins s σ H _ v vl vu lo hi sl Q I rx hs pl pu ⟨a, vs, rfl, SqL.of h1, ?_⟩
    rw [cutV_eq]; exact fin_acc w hin (q1.cut lo hi) k
  | acc ds =>
    cases e
    obtain ⟨a, vs, rfl, h1, q1⟩ := list_of w r1 (.inr rfl)
    refine sl_list pins s σ H _ v vl vu lo hi sl Q I rx hs pl pu ⟨a, vs, rfl, SqL.of h1, ?_⟩
    rw [cutV_eq]; exact fin_acc w hin (q1.cut lo hi) k
  | scr ds =>
    cases e
    obtain ⟨_, a, vs, rfl, h1, q1⟩ := r1
    refine sl_list pins s σ H _ v vl vu lo hi sl Q I rx hs pl pu ⟨a, vs, rfl, hK ▸ w.gh.seq h1, ?_⟩
    rw [cutV_eq]; exact fin_acc w hin (q1.cut lo hi) k
  | _ => cases e
theorem se_slc (g : Gd C F cf lev N sc X) {lo hi : Option Expr} {ml mh mlo mhi : M} {p2 : Pos} (ha : PE X a (tB C W (pureM ma) (evE cf pins ma))) (hl : PO X lo (tO C W (pureM mlo) (evO cf pins ml))) (hh : PO X hi (tO C W (pureM mhi) (evO cf pins mh)))
    (el : pureM ml = pureM mlo) (eh : pureM mh = pureM mhi) : PE X (.Subscript a (.Slice lo hi none p2) pos) (tE C W (pureM (.slc ma ml mh)) (evE cf pins (.slc ma ml mh))) :=
  PE.imp (pe_slice (sl_D g.kK) ha hl hh) fun σ H Q ⟨ρ, G, O, w, ag, h⟩ => by
    rw [evE] at h
    refine tX.next (Step.refl true) h w ag fun x ρ1 h1 v1 H1 G1 Od1 O1 st1 w1 r1 a1 => ?_
    refine tX.next st1 h1 w1 a1 fun l ρ2 h2 H2 G2 O2 st2 w2 a2 => ?_
    refine tX.next (st1.trans st2) h2 w2 a2 fun u ρ3 h3 H3 G3 O3 st3 w3 a3 => ?_
    obtain ⟨hk, h3⟩ := goX_ite h3
    obtain ⟨d, e, h3⟩ := goX_lft h3
    rw [el, eh] at hk
    exact ⟨G3, O3, Od1, x, d, w3, a3.inH, r1.keep (st2.trans st3) hk, e, fun v H' G' Od st w' r => h3 v H' G' Od O3 ((((st1.trans st2).trans st3).trans st).wk fun z => by
      have z : (pureM ma && pureM ml && pureM mh) = true := z
      rw [el, eh] at z
      rw [z]; rfl) w' r (a3.frame st.gg fun _ _ _ z => st.sm rfl _ _ z)⟩
theorem se_rvs (g : Gd C F cf lev N sc X) {k : Nat} {p1 p2 p3 : Pos} (ha : PE X a (tB C W (pureM ma) (evE cf pins ma))) :
    PE X (.Subscript a (.Slice none none (some (.UnaryOp .USub (.Constant (.int 1) k p1) p2)) p3) pos) (tE C W (pureM (.rvs ma)) (evE cf pins (.rvs ma))) :=
  PE.imp (pe_revB ha) fun σ H Q ⟨ρ, G, O, w, ag, h⟩ => by
    rw [evE] at h
    refine tX.next (Step.refl true) h w ag fun x ρ1 h1 v1 H1 G1 Od1 O1 st1 w1 r1 a1 => ?_
    obtain ⟨d, e, h1⟩ := goX_lft h1
    have fin : ∀ (ds : List D) (vs : List V), d = .acc ds.reverse → Rps C G1 ds vs → ∀ p, H1 p = none → Q (.ref p) (upd H1 p (.lst vs.reverse)) := fun ds vs ed q => by
      subst ed
      exact fin_acc w1 a1.inH q.rev fun v H' G' Od st w' r => h1 v H' G' Od O1 ((st1.trans st).wk fun z => by rw [show pureM ma = true from z]; rfl) w' r (a1.frame st.gg fun _ _ _ z => st.sm rfl _ _ z)
    have finT : ∀ (ds : List D) (vs : List V), d = .tup ds.reverse → Rps C G1 ds vs → ∀ p, H1 p = none → Q (.ref p) (upd H1 p (.tup vs.reverse)) := fun ds vs ed q => by
      subst ed
      exact fin_tup w1 a1.inH q.rev fun v H' G' Od st w' r => h1 v H' G' Od O1 ((st1.trans st).wk fun z => by rw [show pureM ma = true from z]; rfl) w' r (a1.frame st.gg fun _ _ _ z => st.sm rfl _ _ z)
    cases x with
    | lst ds =>
      cases e
      obtain ⟨a, vs, rfl, h2, q1⟩ := list_of w1 r1 (.inl rfl)
      exact ⟨a, vs, rfl, .inl ⟨SqL.of h2, fin ds vs rfl q1⟩⟩
    | acc ds =>
      cases e
      obtain ⟨a, vs, rfl, h2, q1⟩ := list_of w1 r1 (.inr rfl)
      exact ⟨a, vs, rfl, .inl ⟨SqL.of h2, fin ds vs rfl q1⟩⟩
    | scr ds =>
      cases e
      obtain ⟨_, a, vs, rfl, h2, q1⟩ := r1
      exact ⟨a, vs, rfl, .inl ⟨g.kK ▸ w1.gh.seq h2, fin ds vs rfl q1⟩⟩
    | tup ds =>
      cases e
      obtain ⟨a, vs, rfl, g1, h1, q1⟩ := tup_of w1 r1
      exact ⟨a, vs, rfl, .inr ⟨g.kK ▸ h1, finT ds vs rfl q1⟩⟩
    | _ => cases e
end
end L2.PV
set_option Elab.async false
set_option linter.all false
set_option autoImplicit false
/-! Calls. -/
namespace L2.PV
open PySem PySem.Spec PyProof.Rows
/-! ### built-ins -/
def biNm : BI → Str
  | .all => "all" | .len => "len" | .int => "int" | .abs => "abs" | .list => "list" | .tuple => "tuple" | .min2 => "min" | .max2 => "max" | .sum => "sum" | .sorted => "sorted" | .ord => "ord" | .str => "str" | .bool => "bool"
def biTy : BI → Option String
  | .int => some "int" | .list => some "list" | .tuple => some "tuple" | .str => some "str" | .bool => some "bool" | _ => none
def biV (b : BI) : Value := match b with
  | .all => .builtin "all" | .len => .builtin "len" | .int => .type "int" | .abs => .builtin "abs" | .list => .type "list" | .tuple => .type "tuple" | .min2 => .builtin "min" | .max2 => .builtin "max" | .sum => .builtin "sum" | .sorted => .builtin "sorted" | .ord => .builtin "ord" | .str => .type "str" | .bool => .type "bool"
theorem biBoot (b : BI) : bootBuiltins (biNm b) = some (biV b) := by cases b <;> decide +kernel
theorem biFree (b : BI) : biNm b ∈ freeB := by cases b <;> decide +kernel
theorem biName (b : BI) : okName (biNm b) = true := by cases b <;> decide +kernel
section
variable {C : RC} {F : FT} {cf : Nat → List D → Option CR} {lev : Nat} {N : List Str} {pins : List Nat} {sc : Scope} {X : Cx} {W : WX} {a b c : Expr} {ma mb mc : M} {pos : Pos}
def rC1 (C : RC) (f : D → Option D) : List V → Hp → VK → Prop := fun xs H Q => ∃ x G O Ox dx d, xs = [x] ∧ Wd H G O ∧ (∀ a ∈ O, H a ≠ none) ∧ RpO C G H dx x Ox ∧ f dx = some d ∧
  ∀ v H' G' Od, Step true H G O H' G' (Od ++ O) → Wd H' G' (Od ++ O) → RpO C G' H' d v Od → Q v H'
def rC2 (C : RC) (f : D → D → Option D) : List V → Hp → VK → Prop := fun xs H Q => ∃ x y G O Ox Oy dx dy d, xs = [x, y] ∧ Wd H G O ∧ (∀ a ∈ O, H a ≠ none) ∧ RpO C G H dx x Ox ∧ RpO C G H dy y Oy ∧ f dx dy = some d ∧
  ∀ v H' G' Od, Step true H G O H' G' (Od ++ O) → Wd H' G' (Od ++ O) → RpO C G' H' d v Od → Q v H'
theorem ints_of {G : Hp} : ∀ {ds : List D} {ns : List Int} {vs : List V}, intsD ds = some ns → Rps C G ds vs → vs = ns.map V.int
  | [], _, vs, e, r => by
    cases e
    exact (show vs = [] from r)
  | d :: ds, ns, _, e, ⟨v, ws, e0, h1, h2⟩ => by
    subst e0
    cases d <;> first | exact nomatch (show (none : Option (List Int)) = some ns from e) | skip
    obtain ⟨ms, e1, rfl⟩ := Option.map_eq_some_iff.mp e
    rw [show v = V.int _ from h1, ints_of e1 h2]; rfl
theorem bls_of {G : Hp} : ∀ {ds : List D} {ns : List Bool} {vs : List V}, blsD ds = some ns → Rps C G ds vs → vs = ns.map V.bl
  | [], _, vs, e, r => by
    cases e
    exact (show vs = [] from r)
  | d :: ds, ns, _, e, ⟨v, ws, e0, h1, h2⟩ => by
    subst e0
    cases d <;> first | exact nomatch (show (none : Option (List Bool)) = some ns from e) | skip
    obtain ⟨ms, e1, rfl⟩ := Option.map_eq_some_iff.mp e
    rw [show v = V.bl _ from h1, bls_of e1 h2]; rfl
theorem len_of {G H : Hp} {O Od : List Addr} {d : D} {v : V} {n : Int} (hK : C.K = X.K) (w : Wd H G O) (r : RpO C G H d v Od) (e : lenD d = some n) :
    (∃ p ys, v = .ref p ∧ (SqL X.K H p ys ∨ SqT X.K H p ys) ∧ n = (ys.length : Int)) ∨ ∃ z : Str, v = .str z ∧ z.length ≤ sizeLine ∧ n = (z.length : Int) := by
  cases d with
  | tup ds =>
    cases e
    obtain ⟨a, vs, rfl, g1, h1, q1⟩ := tup_of w r
    exact .inl ⟨a, vs, rfl, .inr (hK ▸ h1), by rw [q1.len]⟩
  | lst ds =>
    cases e
    obtain ⟨a, vs, rfl, h1, q1⟩ := list_of w r (.inl rfl)
    exact .inl ⟨a, vs, rfl, .inl (SqL.of h1), by rw [q1.len]⟩
  | acc ds =>
    cases e
    obtain ⟨a, vs, rfl, h1, q1⟩ := list_of w r (.inr rfl)
    exact .inl ⟨a, vs, rfl, .inl (SqL.of h1), by rw [q1.len]⟩
  | scr ds =>
    cases e
    obtain ⟨_, a, vs, rfl, h1, q1⟩ := r
    exact .inl ⟨a, vs, rfl, .inl (hK ▸ w.gh.seq h1), by rw [q1.len]⟩
  | box ds =>
    cases e
    obtain ⟨a, vs, O', rfl, _, h1, q1⟩ := r
    refine .inl ⟨a, vs, rfl, .inl (SqL.of h1), ?_⟩
    have key : ∀ (ds : List D) (vs : List V) (O : List Addr), RpOs C G H ds vs O → ds.length = vs.length := by
      intro ds
      induction ds with
      | nil => intro vs O h; have e := h.1; subst e; rfl
      | cons d ds ih =>
        intro vs O h
        obtain ⟨v, ws, O1, O2, rfl, _, _, k⟩ := h
        simp [ih ws O2 k]
    rw [key _ _ _ q1]
  | str z =>
    obtain rfl := r.2
    simp only [lenD] at e
    split at e
    · rename_i hz; cases e; exact .inr ⟨z, rfl, hz, rfl⟩
    · cases e
  | _ => cases e
theorem rps_ints {G : Hp} : ∀ ns : List Int, Rps C G (ns.map D.int) (ns.map V.int)
  | [] => rfl
  | n :: ns => ⟨_, _, rfl, rfl, rps_ints ns⟩
theorem call_B1 (hK : C.K = X.K) (hc : X.calm = true) (k : BI) : CallR X (biV k) (rC1 C (bi1D k)) := by
  intro pins s σ H xs us Q I rv h
  obtain ⟨x, G, O, Ox, dx, d, rfl, w, hin, r, e, kk⟩ := h
  cases k with
  | len =>
    obtain ⟨n, e1, rfl⟩ := Option.map_eq_some_iff.mp (show (lenD dx).map D.int = some d from e)
    rcases len_of hK w r e1 with ⟨p, ys, rfl, h, rfl⟩ | ⟨z, rfl, hz, rfl⟩
    · exact call_len_seq pins s σ H _ us Q I rv ⟨p, ys, rfl, h, fin_int w rfl kk⟩
    · exact call_len_str pins s σ H _ us Q I rv ⟨z, rfl, hz, fin_int w rfl kk⟩
  | int =>
    cases dx <;> first | exact nomatch (show (none : Option D) = some d from e) | skip
    · obtain rfl := r.2; cases e
      exact call_int1 pins s σ H _ us Q I rv (.inr ⟨_, rfl, fin_int w rfl kk⟩)
    · obtain rfl := r.2; cases e
      exact call_int1 pins s σ H _ us Q I rv (.inl ⟨_, rfl, fin_int w rfl kk⟩)
  | bool =>
    cases dx <;> first | exact nomatch (show (none : Option D) = some d from e) | skip
    · obtain rfl := r.2; cases e
      exact call_bool1 pins s σ H _ us Q I rv (.inr ⟨_, rfl, fin_bool w rfl kk⟩)
    · obtain rfl := r.2; cases e
      exact call_bool1 pins s σ H _ us Q I rv (.inl ⟨_, rfl, fin_bool w rfl kk⟩)
  | abs =>
    cases dx <;> first | exact nomatch (show (none : Option D) = some d from e) | skip
    obtain rfl := r.2; cases e
    exact call_abs pins s σ H _ us Q I rv ⟨_, rfl, fin_int w rfl kk⟩
  | list =>
    obtain ⟨ds, e1, rfl⟩ := Option.map_eq_some_iff.mp (show (seqD dx).map D.acc = some d from e)
    obtain ⟨a, vs, rfl, h1, q1⟩ := seq_of w r e1
    exact call_list_of pins s σ H _ us Q I rv ⟨a, vs, rfl, by rw [← hK]; exact h1, fin_acc w hin q1 kk⟩
  | tuple =>
    obtain ⟨ds, e1, rfl⟩ := Option.map_eq_some_iff.mp (show (seqD dx).map D.tup = some d from e)
    cases dx with
    | tup xs =>
      cases e1
      obtain ⟨a, vs, rfl, g1, h1, q1⟩ := tup_of w r
      exact call_tuple_of pins s σ H _ us Q I rv ⟨a, vs, rfl, .inr ⟨hK ▸ h1, kk _ H G [] (Step.refl _) w ⟨rfl, a, vs, rfl, g1, q1⟩⟩⟩
    | lst xs =>
      cases e1
      obtain ⟨a, vs, rfl, h1, q1⟩ := list_of w r (.inl rfl)
      exact call_tuple_of pins s σ H _ us Q I rv ⟨a, vs, rfl, .inl ⟨SqL.of h1, fin_tup w hin q1 kk⟩⟩
    | acc xs =>
      cases e1
      obtain ⟨a, vs, rfl, h1, q1⟩ := list_of w r (.inr rfl)
      exact call_tuple_of pins s σ H _ us Q I rv ⟨a, vs, rfl, .inl ⟨SqL.of h1, fin_tup w hin q1 kk⟩⟩
    | scr xs =>
      cases e1
      obtain ⟨_, a, vs, rfl, h1, q1⟩ := r
      exact call_tuple_of pins s σ H _ us Q I rv ⟨a, vs, rfl, .inl ⟨hK ▸ w.gh.seq h1, fin_tup w hin q1 kk⟩⟩
    | _ => cases e1
  | all =>
    cases dx <;> first | exact nomatch (show (none : Option D) = some d from e) | skip
    · obtain ⟨ns, e1, rfl⟩ := Option.map_eq_some_iff.mp e
      obtain ⟨a, vs, rfl, h1, q1⟩ := list_of w r (.inl rfl)
      have := bls_of e1 q1
      subst this
      exact cr_all hc pins s σ H _ us Q I rv ⟨a, ns, rfl, SqL.of h1, fin_bool w rfl kk⟩
    · obtain ⟨ns, e1, rfl⟩ := Option.map_eq_some_iff.mp e
      obtain ⟨a, vs, rfl, h1, q1⟩ := list_of w r (.inr rfl)
      have := bls_of e1 q1
      subst this
      exact cr_all hc pins s σ H _ us Q I rv ⟨a, ns, rfl, SqL.of h1, fin_bool w rfl kk⟩
  | sum =>
    cases dx <;> first | exact nomatch (show (none : Option D) = some d from e) | skip
    · obtain ⟨ns, e1, rfl⟩ := Option.map_eq_some_iff.mp e
      obtain ⟨a, vs, rfl, h1, q1⟩ := list_of w r (.inl rfl)
      have := ints_of e1 q1
      subst this
      exact cr_sum hc pins s σ H _ us Q I rv ⟨a, ns, rfl, SqL.of h1, fin_int w rfl kk⟩
    · obtain ⟨ns, e1, rfl⟩ := Option.map_eq_some_iff.mp e
      obtain ⟨a, vs, rfl, h1, q1⟩ := list_of w r (.inr rfl)
      have := ints_of e1 q1
      subst this
      exact cr_sum hc pins s σ H _ us Q I rv ⟨a, ns, rfl, SqL.of h1, fin_int w rfl kk⟩
  | ord =>
    cases dx <;> first | exact nomatch (show (none : Option D) = some d from e) | skip
    obtain rfl := r.2
    simp only [bi1D] at e
    split at e
    · rename_i hz; cases e
      exact call_ord pins s σ H _ us Q I rv ⟨_, rfl, hz, fin_int w rfl kk⟩
    · cases e
  | min2 => cases dx <;> exact nomatch (show (none : Option D) = some d from e)
  | max2 =>
    have key : ∀ {ds : List D}, (intsD ds).bind (fun ns => ns.max?.map D.int) = some d → ∃ ns m, intsD ds = some ns ∧ 0 < ns.length ∧ ns.max? = some m ∧ d = .int m := fun {ds} e => by
      obtain ⟨ns, e1, e2⟩ := Option.bind_eq_some_iff.mp e
      obtain ⟨m, e3, e4⟩ := Option.map_eq_some_iff.mp e2
      refine ⟨ns, m, e1, ?_, e3, e4.symm⟩
      cases ns with
      | nil => cases e3
      | cons a l => exact Nat.succ_pos _
    have uq : ∀ {ns : List Int} {m m' : Int}, ns.max? = some m → m' ∈ ns → (∀ y, y ∈ ns → y ≤ m') → m' = m := fun {ns m m'} e h1 h2 => by
      have h := List.max?_eq_some_iff.mp e
      exact Int.le_antisymm (h.2 m' h1) (h2 m h.1)
    cases dx <;> first | exact nomatch (show (none : Option D) = some d from e) | skip
    · obtain ⟨ns, m, e1, hp, em, rfl⟩ := key e
      obtain ⟨a, vs, rfl, h1, q1⟩ := list_of w r (.inl rfl)
      have := ints_of e1 q1
      subst this
      exact cr_max hc pins s σ H _ us Q I rv ⟨a, ns, rfl, SqL.of h1, hp, fun m' h2 h3 => by rw [uq em h2 h3]; exact fin_int w rfl kk⟩
    · obtain ⟨ns, m, e1, hp, em, rfl⟩ := key e
      obtain ⟨a, vs, rfl, h1, q1⟩ := list_of w r (.inr rfl)
      have := ints_of e1 q1
      subst this
      exact cr_max hc pins s σ H _ us Q I rv ⟨a, ns, rfl, SqL.of h1, hp, fun m' h2 h3 => by rw [uq em h2 h3]; exact fin_int w rfl kk⟩
  | sorted =>
    cases dx <;> first | exact nomatch (show (none : Option D) = some d from e) | skip
    · obtain ⟨ns, e1, e2⟩ := Option.bind_eq_some_iff.mp e
      split at e2
      · rename_i h64
        cases e2
        obtain ⟨a, vs, rfl, h1, q1⟩ := list_of w r (.inl rfl)
        have := ints_of e1 q1
        subst this
        refine cr_sorted pins s σ H _ us Q I rv ⟨a, ns, rfl, SqL.of h1, h64, fun ns' p h2 h3 hp => ?_⟩
        have := srtZ_uniq h2 h3
        subst this
        exact fin_acc w hin (rps_ints _) kk p hp
      · cases e2
    · obtain ⟨ns, e1, e2⟩ := Option.bind_eq_some_iff.mp e
      split at e2
      · rename_i h64
        cases e2
        obtain ⟨a, vs, rfl, h1, q1⟩ := list_of w r (.inr rfl)
        have := ints_of e1 q1
        subst this
        refine cr_sorted pins s σ H _ us Q I rv ⟨a, ns, rfl, SqL.of h1, h64, fun ns' p h2 h3 hp => ?_⟩
        have := srtZ_uniq h2 h3
        subst this
        exact fin_acc w hin (rps_ints _) kk p hp
      · cases e2
  | str => cases dx <;> exact nomatch (show (none : Option D) = some d from e)
theorem call_B2 (hc : X.calm = true) (k : BI) : CallR X (biV k) (rC2 C (bi2D k)) := by
  intro pins s σ H xs us Q I rv h
  obtain ⟨x, y, G, O, Ox, Oy, dx, dy, d, rfl, w, hin, r1, r2, e, kk⟩ := h
  cases k with
  | min2 =>
    cases dx <;> cases dy <;> first | exact nomatch (show (none : Option D) = some d from e) | skip
    obtain rfl := r1.2; obtain rfl := r2.2; cases e
    exact call_min2 hc pins s σ H _ us Q I rv ⟨_, _, rfl, fin_int w rfl kk⟩
  | max2 =>
    cases dx <;> cases dy <;> first | exact nomatch (show (none : Option D) = some d from e) | skip
    obtain rfl := r1.2; obtain rfl := r2.2; cases e
    exact call_max2 hc pins s σ H _ us Q I rv ⟨_, _, rfl, fin_int w rfl kk⟩
  | _ => cases dx <;> cases dy <;> exact nomatch (show (none : Option D) = some d from e)
theorem pe_bi {k : BI} {r : List V → Hp → VK → Prop} {e : Expr} {es : List Expr} {t : TA} {p : Pos} (g : Gd C F cf lev N sc X) (hc : CallR X (biV k) r) (hg : glB sc (biNm k) = true) (ha : PA X (e :: es) t) (h1 : nst e = true) (h2 : es.all nst = true) :
    PE X (.Call (.Name (biNm k) p) (e :: es) [] pos) (tCB r t) := by
  have hm := g.free _ (biFree k)
  have hv := biBoot k
  have hn := biName k
  have gx := g.gx hg
  have s1 := nst_ok h1 es X.env
  have s2 : (backTo pos (starEach es X.env)).any (·.1) = false := nst_all h2
  cases k <;> first
    | exact pe_callB hc gx hm hv ha (okName_n hn) (okName_d hn) s1 s2
    | exact pe_callTy hc gx hm hv ha (okName_n hn) (okName_d hn) s1 s2
theorem se_bi1 (g : Gd C F cf lev N sc X) (k : BI) (hg : glB sc (biNm k) = true) (ha : PE X a (tB C W (pureM ma) (evE cf pins ma))) (hs : nst a = true) {p : Pos} :
    PE X (.Call (.Name (biNm k) p) [a] [] pos) (tE C W (pureM (.bi1 k ma)) (evE cf pins (.bi1 k ma))) :=
  PE.imp (pe_bi g (call_B1 g.kK g.calm k) hg (pa_cons ha pa_nil (nst_ok hs [] X.env)) hs rfl) fun σ H Q ⟨ρ, G, O, w, ag, h⟩ => by
    rw [evE] at h
    refine tX.next (Step.refl true) h w ag fun x ρ1 h1 v1 H1 G1 Od1 O1 st1 w1 r1 a1 => ?_
    obtain ⟨d, e, h1⟩ := goX_lft h1
    exact ⟨v1, G1, O1, Od1, x, d, rfl, w1, a1.inH, r1, e, fun v H' G' Od st w' r => h1 v H' G' Od O1 ((st1.trans st).wk fun z => by rw [show pureM ma = true from z]; rfl) w' r (a1.frame st.gg fun _ _ _ z => st.sm rfl _ _ z)⟩
theorem se_jn (g : Gd C F cf lev N sc X) {z : Str} {k1 : Nat} {p1 apos : Pos} (ha : PE X a (tB C W (pureM ma) (evE cf pins ma))) (hs : nst a = true) (hl : (apos.endLine == pos.line) = true) :
    PE X (.Call (.Attribute (.Constant (.str z) k1 p1) "join" apos) [a] [] pos) (tE C W (pureM (.jn z ma)) (evE cf pins (.jn z ma))) :=
  PE.imp (pe_join pe_str ha (nst_ok hs [] X.env) rfl hl) fun σ H Q ⟨ρ, G, O, w, ag, h⟩ => by
    rw [evE] at h
    refine ⟨⟨z, rfl⟩, ?_⟩
    refine tX.next (Step.refl true) h w ag fun x ρ1 h1 v1 H1 G1 Od1 O1 st1 w1 r1 a1 => ?_
    obtain ⟨d, e, h1⟩ := goX_lft h1
    unfold joinD at e
    obtain ⟨ys, e1, e2⟩ := Option.bind_eq_some_iff.mp e
    obtain ⟨ds, e3, e4⟩ := Option.bind_eq_some_iff.mp e1
    unfold joinS at e2
    split at e2
    · rename_i hc
      obtain rfl := Option.some.inj e2
      have hp : ∃ p, v1 = .ref p ∧ (SqL X.K H1 p (ys.map V.str) ∨ SqT X.K H1 p (ys.map V.str)) := by
        cases x <;> first | (exact nomatch (show (none : Option (List D)) = some ds from e3)) | skip
        · cases Option.some.inj e3
          obtain ⟨a, vs, rfl, g1, h2, q1⟩ := tup_of w1 r1
          exact ⟨a, rfl, .inr (by rw [← strs_of q1 e4]; exact g.kK ▸ h2)⟩
        · cases Option.some.inj e3
          obtain ⟨a, vs, rfl, h2, q1⟩ := list_of w1 r1 (.inl rfl)
          exact ⟨a, rfl, .inl (by rw [← strs_of q1 e4]; exact SqL.of h2)⟩
        · cases Option.some.inj e3
          obtain ⟨_, a, vs, rfl, h2, q1⟩ := r1
          exact ⟨a, rfl, .inl (by rw [← strs_of q1 e4]; exact g.kK ▸ w1.gh.seq h2)⟩
        · cases Option.some.inj e3
          obtain ⟨a, vs, rfl, h2, q1⟩ := list_of w1 r1 (.inr rfl)
          exact ⟨a, rfl, .inl (by rw [← strs_of q1 e4]; exact SqL.of h2)⟩
      obtain ⟨p, rfl, hp⟩ := hp
      exact ⟨z, p, ys, rfl, rfl, hp, hc, h1 (.str _) H1 G1 [] O1 (st1.wk fun z => z) w1 ⟨rfl, rfl⟩ a1⟩
    · cases e2
theorem se_bi2 (g : Gd C F cf lev N sc X) (k : BI) (hg : glB sc (biNm k) = true) (ha : PE X a (tB C W (pureM ma) (evE cf pins ma))) (hb : PE X b (tB C W (pureM mb) (evE cf pins mb))) (hs : nst a = true) (hs2 : nst b = true) {p : Pos} :
    PE X (.Call (.Name (biNm k) p) [a, b] [] pos) (tE C W (pureM (.bi2 k ma mb)) (evE cf pins (.bi2 k ma mb))) :=
  PE.imp (pe_bi g (call_B2 g.calm k) hg (pa_cons ha (pa_cons hb pa_nil (nst_ok hs2 [] X.env)) (nst_ok hs [b] X.env)) hs (by rw [List.all_cons, hs2]; rfl)) fun σ H Q ⟨ρ, G, O, w, ag, h⟩ => by
    rw [evE] at h
    refine tX.next (Step.refl true) h w ag fun x ρ1 h1 v1 H1 G1 Od1 O1 st1 w1 r1 a1 => ?_
    refine tX.next st1 h1 w1 a1 fun y ρ2 h2 v2 H2 G2 Od2 O2 st2 w2 r2 a2 => ?_
    obtain ⟨d, e, h2⟩ := goX_lft h2
    have fx : PV.fz x = true := by
      cases k <;> cases x <;> first | rfl | exact nomatch (show (none : Option D) = some d from e)
    exact ⟨v1, v2, G2, O2, Od1, Od2, x, y, d, rfl, w2, a2.inH, r1.keep st2 (by rw [fx]; rfl), r2, e, fun v H' G' Od st w' r => h2 v H' G' Od O2 (((st1.trans st2).trans st).wk fun z => by rw [show (pureM ma && pureM mb) = true from z]; rfl) w' r (a2.frame st.gg fun _ _ _ z => st.sm rfl _ _ z)⟩
/-! ### isinstance -/
theorem tyx_of {G H : Hp} {O Od : List Addr} {d : D} {v : V} (hK : C.K = X.K) (w : Wd H G O) (r : RpO C G H d v Od) (ne : tyD d ≠ "") : TyX X.K H v (.type (tyD d)) := by
  have lst : ∀ {a : Addr} {vs : List V}, SqL X.K H a vs → TyX X.K H (.ref a) (.type "list") := fun h => by
    rcases h with (h | ⟨o, h⟩) | ⟨o, its, n, h, hc, _⟩
    · exact .base (.lst h)
    · exact .base (.frz h)
    · exact .kList h hc
  have tup : ∀ {a : Addr} {vs : List V}, SqT X.K H a vs → TyX X.K H (.ref a) (.type "tuple") := fun h => by
    rcases h with (h | ⟨o, h⟩) | ⟨o, its, n, h, hc, _⟩
    · exact .base (.tup h)
    · exact .fTuple h
    · exact .kTuple h hc
  cases d with
  | non => obtain rfl := r.2; exact .base .non
  | bl b => obtain rfl := r.2; exact .base (.bl b)
  | int b => obtain rfl := r.2; exact .base (.int b)
  | str b => obtain rfl := r.2; exact .base (.str b)
  | tup ds => obtain ⟨a, vs, rfl, g1, h1, q1⟩ := tup_of w r; exact tup (hK ▸ h1)
  | lst ds => obtain ⟨a, vs, rfl, h1, q1⟩ := list_of w r (.inl rfl); exact lst (SqL.of h1)
  | acc ds => obtain ⟨a, vs, rfl, h1, q1⟩ := list_of w r (.inr rfl); exact lst (SqL.of h1)
  | scr ds => obtain ⟨_, a, vs, rfl, h1, q1⟩ := r; exact lst (hK ▸ w.gh.seq h1)
  | box ds => obtain ⟨a, vs, O', rfl, _, h1, q1⟩ := r; exact lst (SqL.of h1)
  | obj _ _ _ => exact absurd rfl ne
  | fn _ _ => exact absurd rfl ne
  | kd _ _ => exact absurd rfl ne
  | own _ _ _ => exact absurd rfl ne
theorem kitB_empty {t : String} {b : Bool} (h : kitB "" t = some b) : t = "" ∨ False := by
  unfold kitB at h
  split at h
  · rename_i e
    have := eq_of_beq e
    injection this with e1
    exact .inl e1.symm
  · split at h
    · have e : PySem.fastBuiltinMro "" = none := by decide +kernel
      rw [e] at h; cases h
    · cases h
theorem isi_any {K : PySem.W.Frag} {d : D} : ∀ {ts : List String} {b : Bool}, isiD d ts = some b → PySem.W.kitAny K (.type (tyD d)) (ts.map Value.type) = some b
  | [], b, e => by cases e; exact kitAny_nil
  | t :: ts, b, e => by
    unfold isiD at e
    split at e
    · rename_i h; cases e; exact kitAny_cons (kit_ty h) (fun z => nomatch z) fun _ => rfl
    · rename_i h; exact kitAny_cons (kit_ty h) (fun _ => isi_any e) fun z => nomatch z
    · cases e
/-- names of built-in types -/
def tyOk (sc : Scope) (t : String) : Bool := glB sc (Str.ofString t) && okName (Str.ofString t) && decide (Str.ofString t ∈ freeB) && decide (bootBuiltins (Str.ofString t) = some (.type t)) && !decide (t = "")
def tyOk' (sc : Scope) (t : String) : Bool := glB sc (Str.ofString t) && okName (Str.ofString t) && !decide (t = "")
theorem bi_name : okName ("isinstance" : Str) = true := by decide +kernel
theorem bi_free : ("isinstance" : Str) ∈ freeB := by decide +kernel
theorem bi_boot : bootBuiltins ("isinstance" : Str) = some (.builtin "isinstance") := by decide +kernel
theorem pe_ty (g : Gd C F cf lev N sc X) {t : String} {p : Pos} (h1 : glB sc (Str.ofString t) = true) (h2 : okName (Str.ofString t) = true) (h3 : X.mg (Str.ofString t) = none) (h4 : bootBuiltins (Str.ofString t) = some (.type t)) : PE X (.Name (Str.ofString t) p) (tC (.ty t)) :=
  pe_bltn (g.gx h1) h3 h4 rfl (okName_n h2) (okName_d h2)
theorem isiD_ne {d : D} {t : String} {ts : List String} {b : Bool} (ht : t ≠ "") (e : isiD d (t :: ts) = some b) : tyD d ≠ "" := fun z => by
  unfold isiD at e
  rw [z] at e
  split at e
  · rename_i h; exact (kitB_empty h).elim ht id
  · rename_i h; exact (kitB_empty h).elim ht id
  · cases e
theorem se_isi (g : Gd C F cf lev N sc X) {t : String} {p1 p2 : Pos} (hi : glB sc "isinstance" = true) (ha : PE X a (tB C W (pureM ma) (evE cf pins ma))) (hs : nst a = true)
    (h1 : glB sc (Str.ofString t) = true) (h2 : okName (Str.ofString t) = true) (h3 : X.mg (Str.ofString t) = none) (h4 : bootBuiltins (Str.ofString t) = some (.type t)) (h5 : t ≠ "") :
    PE X (.Call (.Name "isinstance" p1) [a, .Name (Str.ofString t) p2] [] pos) (tE C W (pureM (.isi ma true [t])) (evE cf pins (.isi ma true [t]))) :=
  PE.imp (pe_callB call_isi (g.gx hi) (g.free _ bi_free) bi_boot (pa_cons ha (pa_cons (pe_ty g h1 h2 h3 h4) pa_nil) (nst_ok hs _ X.env)) (okName_n bi_name) (okName_d bi_name) (nst_ok hs _ X.env) rfl) fun σ H Q ⟨ρ, G, O, w, ag, h⟩ => by
    rw [evE] at h
    refine tX.next (Step.refl true) h w ag fun x ρ1 h1 v1 H1 G1 Od1 O1 st1 w1 r1 a1 => ?_
    obtain ⟨d, e, h1⟩ := goX_lft h1
    obtain ⟨b, e1, rfl⟩ := Option.map_eq_some_iff.mp e
    have ne := isiD_ne h5 e1
    have ek : kitB (tyD x) t = some b := by
      unfold isiD at e1
      split at e1
      · rename_i h; cases e1; exact h
      · rename_i h; cases e1; exact h
      · cases e1
    exact ⟨v1, .ty t, .type (tyD x), .type t, b, rfl, .ty t, tyx_of g.kK w1 r1 ne, kit_ty ek, h1 _ H1 G1 [] O1 st1 w1 ⟨rfl, rfl⟩ a1⟩
/-- something that is of no concern is laid -/
theorem step_junk {H G : Hp} {O : List Addr} (w : Wd H G O) {p : Addr} (hp : H p = none) (o : HO) : Step true H G O (upd H p o) G O ∧ Wd (upd H p o) G O := by
  have gp : G p = none := Same.free w.gh hp
  refine ⟨⟨Same.refl _, fun b u h _ => ?_, fun _ h => .inl h, fun _ h => .inl h, fun _ b u h => ?_⟩, ⟨fun b u h => ?_, w.nd, w.og⟩⟩
  · rw [upd_ne (ne_of_none h hp)]; exact h
  · rw [upd_ne (ne_of_none h hp)]; exact h
  · rw [upd_ne (ne_of_none h gp)]; exact w.gh b u h
theorem pa_tys (g : Gd C F cf lev N sc X) : ∀ {ts : List String} {es : List Expr}, (∀ t ∈ ts, glB sc (Str.ofString t) = true ∧ okName (Str.ofString t) = true ∧ X.mg (Str.ofString t) = none ∧ bootBuiltins (Str.ofString t) = some (.type t)) →
    Paired (fun t e => ∃ p : Pos, e = Expr.Name (Str.ofString t) p) ts es → PA X es (fun σ H Q => Q (ts.map V.ty) H)
  | [], _, _, .nil => pa_nil
  | t :: ts, _, h, .cons ⟨p, e⟩ k => by
    subst e
    obtain ⟨h1, h2, h3, h4⟩ := h t (List.mem_cons_self ..)
    exact pa_cons (pe_ty g h1 h2 h3 h4) (pa_tys g (fun t' ht => h t' (List.mem_cons_of_mem _ ht)) k)
theorem se_isiT (g : Gd C F cf lev N sc X) {t : String} {ts : List String} {es : List Expr} {p1 p2 : Pos} {k2 : Nat} (hi : glB sc "isinstance" = true) (ha : PE X a (tB C W (pureM ma) (evE cf pins ma))) (hs : nst a = true)
    (hh : ∀ t' ∈ t :: ts, glB sc (Str.ofString t') = true ∧ okName (Str.ofString t') = true ∧ X.mg (Str.ofString t') = none ∧ bootBuiltins (Str.ofString t') = some (.type t')) (h5 : t ≠ "") (hp : Paired (fun t e => ∃ p : Pos, e = Expr.Name (Str.ofString t) p) (t :: ts) es) (hl : (t :: ts).length ≤ 1000) :
    PE X (.Call (.Name "isinstance" p1) [a, .Tuple es k2 p2] [] pos) (tE C W (pureM (.isi ma false (t :: ts))) (evE cf pins (.isi ma false (t :: ts)))) :=
  PE.imp (pe_callB call_isiT (g.gx hi) (g.free _ bi_free) bi_boot (pa_cons ha (pa_cons (pe_tup (pa_tys g hh hp)) pa_nil) (nst_ok hs _ X.env)) (okName_n bi_name) (okName_d bi_name) (nst_ok hs _ X.env) rfl) fun σ H Q ⟨ρ, G, O, w, ag, h⟩ => by
    rw [evE] at h
    refine tX.next (Step.refl true) h w ag fun x ρ1 h1 v1 H1 G1 Od1 O1 st1 w1 r1 a1 => ?_
    obtain ⟨d, e, h1⟩ := goX_lft h1
    obtain ⟨b, e1, rfl⟩ := Option.map_eq_some_iff.mp e
    have ne := isiD_ne h5 e1
    refine ⟨by rw [List.length_map]; exact Nat.le_trans hl (by decide), fun q hq => ?_⟩
    obtain ⟨s1, s2⟩ := step_junk w1 hq (.tup ((t :: ts).map V.ty))
    have cs : ∀ l : List String, Paired ClsV (l.map V.ty) (l.map Value.type) := fun l => by
      induction l with
      | nil => exact .nil
      | cons t l ih => exact .cons (.ty t) ih
    exact ⟨v1, q, (t :: ts).map V.ty, .type (tyD x), (t :: ts).map Value.type, b, rfl, upd_same, cs _, tyx_of g.kK s2 (r1.keep s1 (by simp)) ne, isi_any e1,
      h1 _ _ G1 [] O1 ((st1.trans s1).wk fun z => by rw [show pureM ma = true from z]; rfl) s2 ⟨rfl, rfl⟩ (a1.frame s1.gg fun _ _ _ z => s1.sm rfl _ _ z)⟩
/-! ### calls of defs -/
/-- what the arguments are -/
def GsR (C : RC) (G : Hp) (σ : St) : List (D ⊕ Nat) → List V → Prop
  | [], vs => vs = []
  | .inl d :: gs, vs => ∃ v ws, vs = v :: ws ∧ Rp C G d v ∧ GsR C G σ gs ws
  | .inr i :: gs, vs => ∃ v ws, vs = v :: ws ∧ σ[i]? = some (some v) ∧ GsR C G σ gs ws
theorem GsR.same {G G' : Hp} {σ : St} (e : Same G G') : ∀ {gs : List (D ⊕ Nat)} {vs : List V}, GsR C G σ gs vs → GsR C G' σ gs vs
  | [], _, h => h
  | .inl d :: gs, _, ⟨v, ws, h1, h2, h3⟩ => ⟨v, ws, h1, Rp.same e d v h2, h3.same e⟩
  | .inr i :: gs, _, ⟨v, ws, h1, h2, h3⟩ => ⟨v, ws, h1, h2, h3.same e⟩
def hideA : List (D ⊕ Nat) → DEnv → DEnv
  | [], ρ => ρ
  | .inl _ :: gs, ρ => hideA gs ρ
  | .inr i :: gs, ρ => hideA gs (ρ.set i none)
theorem args_out {G H : Hp} {σ : St} : ∀ {gs : List (D ⊕ Nat)} {ρ : DEnv} {O : List Addr} {vs : List V} {ds : List D}, AgL C G H ρ σ O → argD gs ρ = some ds → GsR C G σ gs vs →
    ∃ O0 R, O.Perm (O0 ++ R) ∧ RpOs C G H ds vs O0 ∧ AgL C G H (hideA gs ρ) σ R
  | [], ρ, O, vs, ds, ag, e, h => by
    cases e
    exact ⟨[], O, List.Perm.refl _, ⟨h, rfl⟩, ag⟩
  | .inl d :: gs, ρ, O, _, ds, ag, e, ⟨v, ws, e0, h2, h3⟩ => by
    subst e0
    obtain ⟨ds', e1, rfl⟩ := Option.map_eq_some_iff.mp e
    obtain ⟨O0, R, q1, q2, q3⟩ := args_out ag e1 h3
    exact ⟨O0, R, q1, ⟨v, ws, [], O0, rfl, rfl, Rp.own (Rp.isFz h2) h2, q2⟩, q3⟩
  | .inr i :: gs, ρ, O, _, ds, ag, e, ⟨v, ws, e0, h2, h3⟩ => by
    subst e0
    unfold argD at e
    split at e
    · rename_i d ed
      split at e
      · cases e
      · obtain ⟨ds', e1, rfl⟩ := Option.map_eq_some_iff.mp e
        obtain ⟨v', O1, R1, q1, q2, q3, q4⟩ := AgL.out i ag ed
        rw [h2] at q1
        obtain rfl : v = v' := Option.some.inj (Option.some.inj q1)
        obtain ⟨O0, R, p1, p2, p3⟩ := args_out q4 e1 h3
        refine ⟨O1 ++ O0, R, ?_, ⟨v, ws, O1, O0, rfl, rfl, q2, p2⟩, p3⟩
        rw [List.append_assoc]
        exact q3.trans (p1.append_left O1)
    · cases e
theorem argD_no {i : Nat} : ∀ {gs : List (D ⊕ Nat)} {ρ : DEnv} {ds : List D}, argD gs ρ = some ds → (∀ d, ρ[i]? ≠ some (some d)) → (.inr i : D ⊕ Nat) ∉ gs
  | [], _, _, _, _, h => by cases h
  | .inl d :: gs, ρ, ds, e, n, h => by
    obtain ⟨ds', e1, rfl⟩ := Option.map_eq_some_iff.mp e
    rcases List.mem_cons.mp h with z | z
    · cases z
    · exact argD_no e1 n z
  | .inr j :: gs, ρ, ds, e, n, h => by
    unfold argD at e
    split at e
    · rename_i d ed
      split at e
      · cases e
      · obtain ⟨ds', e1, rfl⟩ := Option.map_eq_some_iff.mp e
        rcases List.mem_cons.mp h with z | z
        · cases z; exact n d ed
        · refine argD_no e1 (fun d' hd => ?_) z
          by_cases hij : j = i
          · subst hij
            have hj : j < ρ.length := (List.getElem?_eq_some_iff.mp ed).1
            rw [List.getElem?_set_self hj] at hd; cases hd
          · rw [List.getElem?_set_ne hij] at hd; exact n d' hd
    · cases e
theorem backA_comm {i : Nat} {x : Option D} : ∀ {gs : List (D ⊕ Nat)} {ds : List D} {ρ : DEnv}, (.inr i : D ⊕ Nat) ∉ gs → backA gs ds (ρ.set i x) = (backA gs ds ρ).set i x
  | [], _, _, _ => rfl
  | .inl _ :: gs, [], _, _ => rfl
  | .inr _ :: gs, [], _, _ => rfl
  | .inl d :: gs, d' :: ds, ρ, h => backA_comm (gs := gs) fun z => h (List.mem_cons_of_mem _ z)
  | .inr j :: gs, d' :: ds, ρ, h => by
    show backA gs ds ((ρ.set i x).set j (some d')) = (backA gs ds (ρ.set j (some d'))).set i x
    have hij : i ≠ j := fun e => h (e ▸ List.mem_cons_self)
    rw [List.set_comm _ _ hij]
    exact backA_comm fun z => h (List.mem_cons_of_mem _ z)
theorem backA_get {i : Nat} : ∀ {gs : List (D ⊕ Nat)} {ds : List D} {ρ : DEnv}, (.inr i : D ⊕ Nat) ∉ gs → (backA gs ds ρ)[i]? = ρ[i]?
  | [], _, _, _ => rfl
  | .inl _ :: gs, [], _, _ => rfl
  | .inr _ :: gs, [], _, _ => rfl
  | .inl d :: gs, d' :: ds, ρ, h => backA_get (gs := gs) fun z => h (List.mem_cons_of_mem _ z)
  | .inr j :: gs, d' :: ds, ρ, h => by
    show (backA gs ds (ρ.set j (some d')))[i]? = ρ[i]?
    have hij : j ≠ i := fun e => h (e ▸ List.mem_cons_self)
    rw [backA_get fun z => h (List.mem_cons_of_mem _ z), List.getElem?_set_ne hij]
theorem args_back {G H G0 : Hp} {σ : St} : ∀ {gs : List (D ⊕ Nat)} {ρ : DEnv} {R O' : List Addr} {vs : List V} {ds ds' : List D}, argD gs ρ = some ds → GsR C G0 σ gs vs → AgL C G H (hideA gs ρ) σ R → RpOs C G H ds' vs O' →
    ∃ O, (∀ a ∈ O, a ∈ O' ++ R) ∧ ((O' ++ R).Nodup → O.Nodup) ∧ AgL C G H (backA gs ds' ρ) σ O
  | [], ρ, R, O', vs, ds, ds', e, h, ag, r => ⟨R, fun a ha => List.mem_append_right _ ha, fun n => (List.nodup_append.mp n).2.1, by cases ds' <;> exact ag⟩
  | .inl d :: gs, ρ, R, O', _, ds, ds', e, ⟨v, ws, e0, h2, h3⟩, ag, r => by
    subst e0
    obtain ⟨ds1, e1, rfl⟩ := Option.map_eq_some_iff.mp e
    cases ds' with
    | nil => cases r.1
    | cons d' ds' =>
      obtain ⟨v', ws', O1, O2, e2, e3, r1, r2⟩ := r
      cases e2; subst e3
      obtain ⟨O, q1, q2, q3⟩ := args_back e1 h3 ag r2
      refine ⟨O, fun a ha => ?_, fun n => q2 ?_, q3⟩
      · rw [List.append_assoc]; exact List.mem_append_right _ (q1 a ha)
      · rw [List.append_assoc] at n; exact (List.nodup_append.mp n).2.1
  | .inr i :: gs, ρ, R, O', _, ds, ds', e, ⟨v, ws, e0, h2, h3⟩, ag, r => by
    subst e0
    unfold argD at e
    split at e
    · rename_i d ed
      split at e
      · cases e
      · obtain ⟨ds1, e1, rfl⟩ := Option.map_eq_some_iff.mp e
        have hi : i < ρ.length := (List.getElem?_eq_some_iff.mp ed).1
        cases ds' with
        | nil => cases r.1
        | cons d' ds' =>
          obtain ⟨v', ws', O1, O2, e2, e3, r1, r2⟩ := r
          cases e2; subst e3
          obtain ⟨O, q1, q2, q3⟩ := args_back e1 h3 ag r2
          have ni : (.inr i : D ⊕ Nat) ∉ gs := argD_no e1 fun d' hd => by rw [List.getElem?_set_self hi] at hd; cases hd
          obtain ⟨O3, p1, p2⟩ := AgL.put i q3 (by rw [backA_get ni, List.getElem?_set_self hi]) r1
          rw [← backA_comm ni, List.set_set] at p2
          have hs : σ.set i (some v) = σ := by
            obtain ⟨hj, ej⟩ := List.getElem?_eq_some_iff.mp h2
            rw [← ej]; exact List.set_getElem_self hj
          rw [hs] at p2
          refine ⟨O3, fun a ha => ?_, fun n => (p1.nodup_iff).mpr ?_, p2⟩
          · rw [List.append_assoc]
            rcases List.mem_append.mp ((p1.mem_iff).mp ha) with z | z
            · exact List.mem_append_left _ z
            · exact List.mem_append_right _ (q1 a z)
          · rw [List.append_assoc] at n
            obtain ⟨n1, n2, n3⟩ := List.nodup_append.mp n
            exact List.nodup_append.mpr ⟨n1, q2 n2, fun a ha b hb => n3 a ha b (q1 b hb)⟩
    · cases e
def okG (C : RC) (p : Bool) (H G : Hp) (O : List Addr) (σ : St) (Q : List V → Hp → Prop) : List (D ⊕ Nat) → DEnv → Prop := fun gs ρ => ∀ vs H' G' O', Step p H G O H' G' O' → Wd H' G' O' → GsR C G' σ gs vs → AgL C G' H' ρ σ O' → Q vs H'
def tG (C : RC) (W : WX) (p : Bool) (ev : DEnv → Option (RS (List (D ⊕ Nat)))) : TA := tX C W (okG C p) ev
theorem sg_nil : PAn X [] (tG C W (pureM .nil) (evG cf pins .nil)) :=
  PA.imp pa_nil fun σ H Q ⟨ρ, G, O, w, ag, h⟩ => by
    rw [evG] at h
    exact h [] H G O (Step.refl _) w rfl ag rfl
theorem sg_io {i : Nat} {es : List Expr} {ms : M} {q : Bool} (ha : PE X a (tPl (.sl i))) (hs : nst a = true) (hr : PAn X es (tG C W q (evG cf pins ms))) :
    PAn X (a :: es) (tG C W false (evG cf pins (.cons (.io i) ms))) :=
  PA.imp (pa_cons ha hr (nst_ok hs es X.env)) fun σ H Q ⟨ρ, G, O, w, ag, h⟩ => by
    rw [evG] at h
    split at h
    · rename_i d ed
      obtain ⟨v, Od, R, q1, q2, q3, q4⟩ := lens ag w.nd (.sl i) ed
      refine ⟨v, q1, ?_⟩
      refine tX.next (Step.refl true) h w ag fun xs ρ2 h2 vs H2 G2 O2 st2 w2 r2 a2 hl => ?_
      refine h2 (v :: vs) H2 G2 O2 st2.weak w2 ⟨v, vs, rfl, ?_, r2⟩ a2 (by simp [hl])
      unfold valP at q1
      split at q1
      · rename_i u eu; cases q1; exact eu
      · cases q1
    · exact h.elim
theorem sg_cons {es : List Expr} {ms : M} {q : Bool} (ha : Ev C W cf pins X ma a) (hm : ∀ i, ma ≠ .io i) (hs : nst a = true) (hr : PAn X es (tG C W q (evG cf pins ms))) :
    PAn X (a :: es) (tG C W false (evG cf pins (.cons ma ms))) :=
  PA.imp (pa_cons ha.frz hr (nst_ok hs es X.env)) fun σ H Q ⟨ρ, G, O, w, ag, h⟩ => by
    rw [show evG cf pins (.cons ma ms) ρ = bnd (evE cf pins ma ρ) fun x ρ1 => bnd (lft (frzM ma x) ρ1) fun x' ρ2 => bnd (evG cf pins ms ρ2) fun xs ρ3 => some (.ok (.inl x' :: xs) ρ3) by
      rw [evG]
      intro i e; exact hm i e] at h
    refine ha.frz' (Step.refl true) h w ag fun x ρ1 h1 v1 H1 G1 O1 st1 w1 r1 a1 => ?_
    refine tX.next st1 h1 w1 a1 fun xs ρ2 h2 vs H2 G2 O2 st2 w2 r2 a2 hl => ?_
    exact h2 (v1 :: vs) H2 G2 O2 (st1.trans st2).weak w2 ⟨v1, vs, rfl, Rp.same st2.gg _ _ r1, r2⟩ a2 (by simp [hl])
theorem PAn.weakG {p q : Bool} {es : List Expr} {ev : DEnv → Option (RS (List (D ⊕ Nat)))} (h : PAn X es (tG C W q ev)) (k : p = true → q = true) : PAn X es (tG C W p ev) :=
  h.imp fun σ H Q ⟨ρ, G, O, w, ag, z⟩ => ⟨ρ, G, O, w, ag, z.mono (fun gs ρ1 y vs H' G' O' st w' r a => y vs H' G' O' (st.wk k) w' r a) fun _ _ e => e⟩
/-- behind the arguments: the call's end as the caller sees it -/
theorem call_end {i : Nat} {H0 G0 H1 G1 : Hp} {O0 O1 : List Addr} {σ : St} {ρ1 : DEnv} {gs : List (D ⊕ Nat)} {ds : List D} {vs : List V} {p : Bool} {Q : VK} {n : Nat}
    (st1 : Step p H0 G0 O0 H1 G1 O1) (w1 : Wd H1 G1 O1) (r1 : GsR C G1 σ gs vs) (a1 : AgL C G1 H1 ρ1 σ O1) (e : argD gs ρ1 = some ds) (hl : vs.length = n)
    (h : goX (callD (cf i ds) gs ρ1) (okE C false H0 G0 O0 σ Q) (exK C W H0 G0 O0 σ)) : spF C n (cf i) vs H1 Q (WE W σ) := by
  obtain ⟨Oa, R, q1, q2, q3⟩ := args_out a1 e r1
  have wp : Wd H1 G1 (Oa ++ R) := w1.sub ((q1.nodup_iff).mp w1.nd) fun a ha => (q1.mem_iff).mpr ha
  have no := (List.nodup_append.mp wp.nd).2.2
  have hin := q3.inH
  refine ⟨hl, ds, G1, Oa, ?_⟩
  cases er : cf i ds with
  | none => rw [er] at h; exact h.elim
  | some r =>
    rw [er] at h
    refine ⟨r, wp.left, q2, rfl, ?_⟩
    have keepR : ∀ {H' G' : Hp} {O' : List Addr}, Step false H1 G1 Oa H' G' O' → Wd H' G' O' → AgL C G' H' (hideA gs ρ1) σ R ∧ Step false H1 G1 O1 H' G' (R ++ O') ∧ Wd H' G' (R ++ O') := fun {H' G' O'} st w' => by
      refine ⟨q3.frame st.gg fun a ha o eo => st.fr a o eo fun z => no a z a ha rfl, (st.beside R).from fun b hb => ?_, Wd.beside (R := R) (O1 := Oa) (wp.sub ?_ fun a ha => ?_) hin st w'⟩
      · rcases List.mem_append.mp hb with z | z
        · exact (q1.mem_iff).mpr (List.mem_append_right _ z)
        · exact (q1.mem_iff).mpr (List.mem_append_left _ z)
      · exact (List.perm_append_comm.nodup_iff).mp wp.nd
      · rcases List.mem_append.mp ha with z | z
        · exact List.mem_append_right _ z
        · exact List.mem_append_left _ z
    cases r with
    | ok d ds' =>
      intro v H' G' Od O' st w' r a
      obtain ⟨k1, k2, k3⟩ := keepR st w'
      obtain ⟨O2, m1, m2, m3⟩ := args_back e r1 k1 a
      have nall := k3.nd
      have nd2 : (O' ++ R).Nodup := by
        have : (R ++ O').Nodup := nall.sublist (List.Sublist.append_left (List.sublist_append_right Od O') R)
        exact (List.perm_append_comm.nodup_iff).mp this
      have mem : ∀ b ∈ Od ++ O2, b ∈ R ++ (Od ++ O') := fun b hb => by
        rcases List.mem_append.mp hb with z | z
        · exact List.mem_append_right _ (List.mem_append_left _ z)
        · rcases List.mem_append.mp (m1 b z) with y | y
          · exact List.mem_append_right _ (List.mem_append_right _ y)
          · exact List.mem_append_left _ y
      have nd3 : (Od ++ O2).Nodup := by
        obtain ⟨n1, n2, n3⟩ := List.nodup_append.mp nall
        obtain ⟨n4, n5, n6⟩ := List.nodup_append.mp n2
        refine List.nodup_append.mpr ⟨n4, m2 nd2, fun x hx y hy exy => ?_⟩
        subst exy
        rcases List.mem_append.mp (m1 x hy) with z | z
        · exact n6 x hx x z rfl
        · exact n3 x z x (List.mem_append_left _ hx) rfl
      exact h v H' G' Od O2 ((st1.trans k2).weak.sub mem) (k3.sub nd3 mem) r m3
    | exc x ds' =>
      intro cls dx H' G' O' st w' rx a
      obtain ⟨k1, k2, k3⟩ := keepR st w'
      obtain ⟨O2, m1, m2, m3⟩ := args_back e r1 k1 a
      have nd2 : (O' ++ R).Nodup := (List.perm_append_comm.nodup_iff).mp k3.nd
      have mem : ∀ b ∈ O2, b ∈ R ++ O' := fun b hb => by
        rcases List.mem_append.mp (m1 b hb) with z | z
        · exact List.mem_append_right _ z
        · exact List.mem_append_left _ z
      exact h cls dx H' G' O2 ((st1.trans k2).weak.sub mem) (k3.sub (m2 nd2) mem) rx m3
theorem agl_get1 {H G : Hp} {σ : St} {ρ : DEnv} {O : List Addr} (ag : AgL C G H ρ σ O) {v : Nat} {d : D} (f : PV.fz d = true) (e : ρ[v]? = some (some d)) : ∃ u, σ[v]? = some (some u) ∧ Rp C G d u := by
  obtain ⟨u, O1, R2, q1, q2, q3, q4⟩ := AgL.out v ag e
  exact ⟨u, q1, Rp.of f q2⟩
theorem se_call (g : Gd C F cf lev N sc X) (tk : Takes X W) {i : Nat} {es : List Expr} {ms : M} {q : Bool} {p : Pos} (hi : i < F.n) (hg : glB sc (F.nm i) = true) (hn : okName (F.nm i) = true) (ha : PAn X (a :: es) (tG C W q (evG cf pins ms))) (h1 : nst a = true) (h2 : es.all nst = true) (hl : (a :: es).length = (F.ps i).length) :
    PE X (.Call (.Name (F.nm i) p) (a :: es) [] pos) (tE C W (pureM (.call i ms)) (evE cf pins (.call i ms))) :=
  PE.imp (pe_callSD (E := fun σ => WE W σ) (g.fn i hi) g.room (g.gx hg) (g.mgf i hi) (g.kp i hi) (g.bd i hi) .nil (fun σ => passAt tk σ) ha (okName_d hn) (nst_ok h1 es X.env) (nst_all h2)) fun σ H Q ⟨ρ, G, O, w, ag, h⟩ => by
    rw [evE] at h
    refine tX.next (Step.refl true) h w ag fun gs ρ1 h1 vs H1 G1 O1 st1 w1 r1 a1 hlen => ?_
    show spF C (F.ps i).length (cf i) (vs ++ []) H1 Q (WE W σ)
    rw [List.append_nil]
    split at h1
    · rename_i ds e
      exact call_end st1 w1 r1 a1 e (hlen.trans hl) h1
    · exact h1.elim
theorem se_call0 (g : Gd C F cf lev N sc X) (tk : Takes X W) {i : Nat} {p : Pos} (hi : i < F.n) (hg : glB sc (F.nm i) = true) (hn : okName (F.nm i) = true) (hl : 0 = (F.ps i).length) :
    PE X (.Call (.Name (F.nm i) p) [] [] pos) (tE C W (pureM (.call i .nil)) (evE cf pins (.call i .nil))) := by
  refine ⟨fun pins' s σ H Q I h => ?_⟩
  obtain ⟨ρ, G, O, w, ag, h⟩ := h
  rw [evE, evG] at h
  have h : goX (callD (cf i []) [] ρ) (okE C false H G O σ Q) (exK C W H G O σ) := h
  refine (PE.mk (X := X) (t := fun σ H Q => spF C (F.ps i).length (cf i) [] H Q (WE W σ)) fun pins s σ H Q I h => ?_).run pins' s σ H Q I (call_end (Step.refl true) w (gs := []) rfl ag rfl hl h)
  refine wpAny_Call_Name_kw (ld_glob I (g.gx hg) (g.mgf i hi) ?_ (okName_d hn))
  exact PySem.W.callWith_K0 I.kIn (g.kp i hi) (run_fnSD (us := []) (vs := []) (dvs := []) (ds := []) (E := fun σ => WE W σ) (g.fn i hi) g.room (g.bd i hi) .nil (passAt tk σ) I .nil h)
/-- the name of a def as a value -/
theorem se_gfn (g : Gd C F cf lev N sc X) {i n : Nat} {p : Pos} (hi : i < F.n) (hg : glB sc (F.nm i) = true) (hn : okName (F.nm i) = true) (hl : n = (F.ps i).length) :
    PE X (.Name (F.nm i) p) (tE C W (pureM (.gfn i n)) (evE cf pins (.gfn i n))) :=
  se_ret (d := .fn i n) (pe_glob (g.gx hg) (g.mgf i hi) (v := .ref (F.adr i)) rfl (okName_d hn)) (fun ρ => by rw [evE]) (fun _ => ⟨by rw [(g.kF.2 i hi).1], by rw [g.kF.1]; exact hi, by rw [(g.kF.2 i hi).2]; exact hl⟩) rfl
/-- a call of what a name holds -/
theorem se_callv (g : Gd C F cf lev N sc X) (tk : Takes X W) {i n : Nat} {x : Str} {es : List Expr} {ms : M} {q : Bool} {p : Pos} (hi : N[i]? = some x) (hv : visB sc x = true) (hn : okName x = true) (ha : PAn X (a :: es) (tG C W q (evG cf pins ms))) (h1 : nst a = true) (h2 : es.all nst = true) (hl : (a :: es).length = n) :
    PE X (.Call (.Name x p) (a :: es) [] pos) (tE C W (pureM (.callv i n ms)) (evE cf pins (.callv i n ms))) := by
  refine ⟨fun pins' s σ H Q I h => ?_⟩
  obtain ⟨ρ, G, O, w, ag, h⟩ := h
  rw [evE] at h
  split at h
  · rename_i f m ef
    split at h
    · rename_i hm
      have ef' : ρ[i]? = some (some (.fn f m)) := by
        unfold getP at ef
        split at ef
        · rename_i d0 e0; cases ef; exact e0
        · cases ef
      obtain ⟨u, q1, q2, q3, q4⟩ := agl_get1 ag rfl ef'
      subst q2
      have hf : f < F.n := by rw [← g.kF.1]; exact q3
      refine wpAny_Call_Name_kw (thn ((pe_var (pos := p) (i := i) (by rw [g.nN]; exact hi) (by rw [g.scp]; exact visB_ok hv) (okName_d hn) (okName_c hn)).run pins' s σ H (fun v H1 => v = .ref (C.fa f) ∧ H1 = H) I ⟨_, q1, rfl, rfl⟩) fun u s1 ⟨v, H1, I1, r1, q1⟩ => ?_)
      obtain ⟨rfl, rfl⟩ := q1
      cases r1
      rw [(g.kF.2 f hf).1]
      refine PySem.W.callWith_K (h₀ := X.base) I1.ok.mod.kin (g.kp f hf) (thn (ha.run pos pins' s1 σ _ (fun vs H2 => spF C (F.ps f).length (cf f) (vs ++ []) H2 Q (WE W σ)) I1 ?_) fun us s2 ⟨vs, H2, I2, r, q⟩ => ⟨I2.kIn, run_fnSD (g.fn f hf) g.room (g.bd f hf) .nil (passAt tk σ) I2 r q⟩) (nst_ok h1 es X.env) (nst_all h2)
      refine tX.next (Step.refl true) h w ag fun gs ρ1 h1 vs H1 G1 O1 st1 w1 r1 a1 hlen => ?_
      rw [List.append_nil]
      split at h1
      · rename_i ds e
        exact call_end st1 w1 r1 a1 e (by rw [hlen, hl, ← hm, q4, (g.kF.2 f hf).2]) h1
      · exact h1.elim
    · exact h.elim
  · exact h.elim
/-- a call with a list that is handed in to be read alone: what comes back is without parts -/
theorem flat_R {d : D} {v : V} {G H G2 H2 : Hp} {Od : List Addr} (f : flatD d = true) (r : RpO C G H d v Od) : RpO C G2 H2 d v [] := by
  cases d <;> first | exact ⟨rfl, r.2⟩ | cases f
theorem se_callb (g : Gd C F cf lev N sc X) (tk : Takes X W) {f i : Nat} {x : Str} {p p2 : Pos} (hf : f < F.n) (hg : glB sc (F.nm f) = true) (hn : okName (F.nm f) = true) (hl : 1 = (F.ps f).length) (hi : N[i]? = some x) (hv : visB sc x = true) (hx : okName x = true) :
    PE X (.Call (.Name (F.nm f) p) [.Name x p2] [] pos) (tE C W (pureM (.callb f i)) (evE cf pins (.callb f i))) :=
  PE.imp (pe_callSD (E := fun σ => WE W σ) (g.fn f hf) g.room (g.gx hg) (g.mgf f hf) (g.kp f hf) (g.bd f hf) .nil (fun σ => passAt tk σ) (pa_cons (pe_var (pos := p2) (i := i) (by rw [g.nN]; exact hi) (by rw [g.scp]; exact visB_ok hv) (okName_d hx) (okName_c hx)) pa_nil rfl) (okName_d hn) rfl rfl) fun σ H Q ⟨ρ, G, O, w, ag, h⟩ => by
    rw [evE] at h
    split at h
    · rename_i ds ei
      have ei' : ρ[i]? = some (some (.acc ds)) := by
        unfold getP at ei
        split at ei
        · rename_i d0 e0; cases ei; exact e0
        · cases ei
      obtain ⟨u, O1, R, q1, q2, q3, q4⟩ := AgL.out i ag ei'
      obtain ⟨a, vs, rfl, rfl, ha, rv⟩ := q2
      have wp : Wd H G ([a] ++ R) := w.sub ((q3.nodup_iff).mp w.nd) fun b hb => (q3.mem_iff).mpr hb
      obtain ⟨s1, s2⟩ := step_freeze (O := []) wp.left ha
      split at h
      · rename_i d ds' ec
        split at h
        · rename_i fl
          refine ⟨.ref a, q1, ?_⟩
          refine ⟨hl, [.lst ds], upd G a (.lst vs), [], _, s2, ⟨.ref a, [], [], [], rfl, rfl, ⟨rfl, a, vs, rfl, upd_same, Rps.same s1.gg _ _ rv⟩, rfl, rfl⟩, ec, ?_⟩
          intro v H' G' Od O' st w' r _
          have keep : ∀ (b : Addr) (o : HO), H b = some o → H' b = some o := fun b o e => st.fr b o e (by simp)
          have wd : Wd H' G O := ⟨fun b o e => keep b o (w.gh b o e), w.nd, w.og⟩
          exact h v H' G [] O ⟨Same.refl _, fun b o e _ => keep b o e, fun _ z => .inl z, fun _ z => .inl z, fun z => nomatch z⟩ wd (flat_R fl r) (ag.frame (Same.refl _) fun b _ o e => keep b o e)
        · exact h.elim
      · exact h.elim
    · exact h.elim
theorem se_callb2 (g : Gd C F cf lev N sc X) (tk : Takes X W) {f i : Nat} {x : Str} {me : M} {e : Expr} {p p2 : Pos} (he : Ev C W cf pins X me e) (h1 : nst e = true) (hf : f < F.n) (hg : glB sc (F.nm f) = true) (hn : okName (F.nm f) = true) (hl : 2 = (F.ps f).length) (hi : N[i]? = some x) (hv : visB sc x = true) (hx : okName x = true) :
    PE X (.Call (.Name (F.nm f) p) [e, .Name x p2] [] pos) (tE C W (pureM (.callb2 f me i)) (evE cf pins (.callb2 f me i))) :=
  PE.imp (pe_callSD (E := fun σ => WE W σ) (g.fn f hf) g.room (g.gx hg) (g.mgf f hf) (g.kp f hf) (g.bd f hf) .nil (fun σ => passAt tk σ) (pa_cons he.frz (pa_cons (pe_var (pos := p2) (i := i) (by rw [g.nN]; exact hi) (by rw [g.scp]; exact visB_ok hv) (okName_d hx) (okName_c hx)) pa_nil rfl) (nst_ok h1 [.Name x p2] X.env)) (okName_d hn) (nst_ok h1 [.Name x p2] X.env) rfl) fun σ H Q ⟨ρ, G, O, w, ag, h⟩ => by
    rw [evE] at h
    refine he.frz' (Step.refl true) h w ag fun y ρ1 h1 v1 H1 G1 O1 st1 w1 r1 a1 => ?_
    split at h1
    · rename_i ds ei
      have ei' : ρ1[i]? = some (some (.acc ds)) := by
        unfold getP at ei
        split at ei
        · rename_i d0 e0; cases ei; exact e0
        · cases ei
      obtain ⟨u, Oa, R, q1, q2, q3, q4⟩ := AgL.out i a1 ei'
      obtain ⟨a, vs, rfl, rfl, ha, rv⟩ := q2
      have wp : Wd H1 G1 ([a] ++ R) := w1.sub ((q3.nodup_iff).mp w1.nd) fun b hb => (q3.mem_iff).mpr hb
      obtain ⟨s1, s2⟩ := step_freeze (O := []) wp.left ha
      split at h1
      · rename_i d ds' ec
        split at h1
        · rename_i fl
          refine ⟨.ref a, q1, ?_⟩
          refine ⟨hl, [y, .lst ds], upd G1 a (.lst vs), [], _, s2, ⟨v1, [.ref a], [], [], rfl, rfl, Rp.own (Rp.isFz r1) (Rp.same s1.gg _ _ r1), ⟨.ref a, [], [], [], rfl, rfl, ⟨rfl, a, vs, rfl, upd_same, Rps.same s1.gg _ _ rv⟩, rfl, rfl⟩⟩, ec, ?_⟩
          intro v H' G' Od O' st w' r _
          have keep : ∀ (b : Addr) (o : HO), H1 b = some o → H' b = some o := fun b o e => st.fr b o e (by simp)
          have wd : Wd H' G1 O1 := ⟨fun b o e => keep b o (w1.gh b o e), w1.nd, w1.og⟩
          exact h1 v H' G1 [] O1 (st1.weak.trans (show Step false H1 G1 O1 H' G1 O1 from ⟨Same.refl _, fun b o e _ => keep b o e, fun _ z => .inl z, fun _ z => .inl z, fun z => nomatch z⟩)) wd (flat_R fl r) (a1.frame (Same.refl _) fun b _ o e => keep b o e)
        · exact h1.elim
      · exact h1.elim
    · exact h1.elim
/-- keywords' values -/
def PKn (X : Cx) (kws : List Keyword) (t : TA) : Prop := PK X kws (fun σ H Q => t σ H fun vs H' => vs.length = kws.length → Q vs H')
theorem PK.imp {kws : List Keyword} {t t' : TA} (h : PK X kws t) (k : ∀ σ H Q, t' σ H Q → t σ H Q) : PK X kws t' := ⟨fun pos pins s σ H Q I z => h.run pos pins s σ H Q I (k σ H Q z)⟩
theorem sk_nil : PKn X [] (tL C W (pureM .nil) (evL cf pins .nil)) :=
  PK.imp pk_nil fun σ H Q ⟨ρ, G, O, w, ag, h⟩ => by
    rw [evL] at h
    exact h [] H G O (Step.refl _) w rfl ag rfl
theorem sk_cons {nm : Option Str} {kpos : Pos} {kws : List Keyword} {ms : M} (ha : Ev C W cf pins X ma a) (hr : PKn X kws (tL C W (pureM ms) (evL cf pins ms))) :
    PKn X (⟨nm, a, kpos⟩ :: kws) (tL C W (pureM (.cons ma ms)) (evL cf pins (.cons ma ms))) :=
  PK.imp (pk_cons ha.frz hr) fun σ H Q ⟨ρ, G, O, w, ag, h⟩ => by
    rw [evL] at h
    refine ha.frz' (Step.refl true) h w ag fun x ρ1 h1 v1 H1 G1 O1 st1 w1 r1 a1 => ?_
    refine tX.next st1 h1 w1 a1 fun xs ρ2 h2 vs H2 G2 O2 st2 w2 r2 a2 hl => ?_
    exact h2 (v1 :: vs) H2 G2 O2 (st1.trans st2) w2 ⟨v1, vs, rfl, Rp.same st2.gg _ _ r1, r2⟩ a2 (by simp [hl])
theorem backTo_kw {pos : Pos} {env : Env} : ∀ {kws : List Keyword} {kn : List Str}, kws.map (·.arg) = kn.map some →
    (backToKw pos (keywordEach kws env)).all (·.1.isSome) = true ∧ (backToKw pos (keywordEach kws env)).filterMap (·.1) = kn ∧ (backToKw pos (keywordEach kws env)).any (·.1.isNone) = false
  | [], [], _ => ⟨rfl, rfl, rfl⟩
  | [], _ :: _, h => by cases h
  | _ :: _, [], h => by cases h
  | ⟨nm, e, kp⟩ :: kws, k :: kn, h => by
    injection h with h1 h2
    have h1 : nm = some k := h1
    subst h1
    obtain ⟨a1, a2, a3⟩ := backTo_kw (pos := pos) (env := env) h2
    refine ⟨?_, ?_, ?_⟩
    · show (true && (backToKw pos (keywordEach kws env)).all (·.1.isSome)) = true
      rw [a1]; rfl
    · show k :: (backToKw pos (keywordEach kws env)).filterMap (·.1) = k :: kn
      rw [a2]
    · show (false || (backToKw pos (keywordEach kws env)).any (·.1.isNone)) = false
      rw [a3]; rfl
theorem gs_all {G : Hp} {σ : St} : ∀ {ds : List D} {vs : List V}, Rps C G ds vs → RpOs C G G ds vs [] 
  | [], vs, h => ⟨h, rfl⟩
  | d :: ds, _, ⟨v, ws, e, h1, h2⟩ => ⟨v, ws, [], [], e, rfl, Rp.own (Rp.isFz h1) h1, gs_all (σ := σ) h2⟩
theorem rpos_H {G H H' : Hp} : ∀ {ds : List D} {vs : List V}, RpOs C G H ds vs [] → RpOs C G H' ds vs [] := fun {ds vs} h => RpOs.frame (Same.refl _) ds vs [] h fun a ha => by cases ha
theorem rps_pick {G : Hp} {ds : List D} {vs : List V} (h : Rps C G ds vs) : ∀ ks : List Nat, Rps C G (ks.map fun k => ds.getD k .non) (ks.map fun k => vs.getD k .non)
  | [] => rfl
  | k :: ks => by
    refine ⟨_, _, rfl, ?_, rps_pick h ks⟩
    show Rp C G (ds.getD k D.non) (vs.getD k V.non)
    rw [List.getD_eq_getElem?_getD, List.getD_eq_getElem?_getD]
    cases e : ds[k]? with
    | none =>
      have : vs[k]? = none := by
        have h1 := List.getElem?_eq_none_iff.mp e
        exact List.getElem?_eq_none_iff.mpr (by rw [← h.len]; exact h1)
      rw [this]; exact rfl
    | some d =>
      obtain ⟨v, e1, e2⟩ := h.get e
      rw [e1]; exact e2
theorem se_callk (g : Gd C F cf lev N sc X) (tk : Takes X W) {i : Nat} {kn : List Str} {ks : List Nat} {kws : List Keyword} {ms : M} {p : Pos} (hq : (i, kn, ks) ∈ F.kb) (hg : glB sc (F.nm i) = true) (hn : okName (F.nm i) = true)
    (hk : kws.map (·.arg) = kn.map some) (ha : PKn X kws (tL C W (pureM ms) (evL cf pins ms))) (hl : ks.length = (F.ps i).length) :
    PE X (.Call (.Name (F.nm i) p) [] kws pos) (tE C W (pureM (.callk i ks ms)) (evE cf pins (.callk i ks ms))) := by
  obtain ⟨hi, kb⟩ := g.kb _ hq
  obtain ⟨b1, b2, b3⟩ := backTo_kw (pos := pos) (env := X.env) hk
  have lk : kws.length = kn.length := by
    have := congrArg List.length hk
    simpa using this
  refine ⟨fun pins' s σ H Q I h => ?_⟩
  refine wpAny_Call_Name_kw (ld_glob I (g.gx hg) (g.mgf i hi) ?_ (okName_d hn))
  refine PySem.W.callWith_KW0 (h₀ := X.base) I.ok.mod.kin (g.kp i hi) b1 ?_ (by rw [b3]; rfl)
  refine thn (ha.run pos pins' s σ H (fun zs H2 => zs.length = kn.length ∧ spF C (F.ps i).length (cf i) (ks.map fun k => zs.getD k .non) H2 Q (WE W σ)) I ?_) fun ws s2 ⟨zs, H2, I2, rz, l2, q2⟩ => ⟨I2.kIn, ?_⟩
  · obtain ⟨ρ, G, O, w, ag, h⟩ := h
    rw [evE] at h
    refine tX.next (Step.refl true) h w ag fun ds ρ1 h1 vs H1 G1 O1 st1 w1 r1 a1 hlen => ⟨hlen.trans lk, ?_⟩
    refine ⟨by rw [List.length_map]; exact hl, ks.map (fun k => ds.getD k .non), G1, [], ?_⟩
    cases er : cf i (ks.map fun k => ds.getD k .non) with
    | none => rw [er] at h1; exact h1.elim
    | some r =>
      rw [er] at h1
      refine ⟨r, ⟨w1.gh, List.nodup_nil, fun a ha => by cases ha⟩, rpos_H (gs_all (σ := σ) (rps_pick r1 ks)), rfl, ?_⟩
      have fr : ∀ {H' G' : Hp} {O' : List Addr}, Step false H1 G1 [] H' G' O' → Wd H' G' O' → AgL C G' H' ρ1 σ O1 ∧ Step false H1 G1 O1 H' G' (O1 ++ O') ∧ Wd H' G' (O1 ++ O') := fun {H' G' O'} st w' => by
        have sm : Same H1 H' := fun b o e => st.fr b o e (by simp)
        refine ⟨a1.frame st.gg fun a _ o e => sm a o e, (st.beside O1).from fun b hb => by simpa using hb, Wd.beside (R := O1) (O1 := []) (by rw [List.append_nil]; exact w1) a1.inH st w'⟩
      cases r with
      | ok d ds' =>
        intro v H' G' Od O' st w' r a
        obtain ⟨k1, k2, k3⟩ := fr st w'
        refine h1 v H' G' Od O1 ((st1.trans k2).weak.sub fun b hb => ?_) (k3.sub ?_ fun b hb => ?_) r k1
        · rcases List.mem_append.mp hb with z | z
          · exact List.mem_append_right _ (List.mem_append_left _ z)
          · exact List.mem_append_left _ z
        · have := k3.nd.sublist (List.Sublist.append_left (List.sublist_append_left Od O') O1)
          exact (List.perm_append_comm.nodup_iff).mp this
        · rcases List.mem_append.mp hb with z | z
          · exact List.mem_append_right _ (List.mem_append_left _ z)
          · exact List.mem_append_left _ z
      | exc x ds' =>
        intro cls dx H' G' O' st w' rx a
        obtain ⟨k1, k2, k3⟩ := fr st w'
        exact h1 cls dx H' G' O1 ((st1.trans k2).weak.sub fun b hb => List.mem_append_left _ hb) k3.left rx k1
  · rw [b2]
    refine wpAny_call (codeAny_mono ((g.fn i hi).run X.A X.stack s2 H2 ⟨[], kn.zip ws⟩ (ks.map fun k => ws.getD k .none) (ks.map fun k => zs.getD k .non) Q (WE W σ) g.room I2.env0 (kb.to s2 [] ws I2.kIn rfl (rz.length.symm.trans l2)) (kb.rel .nil rz) q2) fun r s' hq => ?_)
    cases r with
    | error e => exact passAt tk σ pins' H2 s2 e s' I2 hq
    | ok fl =>
      cases fl with
      | ret u => exact I2.after hq
      | next => exact False.elim hq
      | brk => exact False.elim hq
      | cont => exact False.elim hq
end
end L2.PV
set_option Elab.async false
set_option linter.all false
set_option autoImplicit false
/-! The least of three. -/
namespace L2.PV
open PySem PySem.Spec PyProof.Rows
theorem bnd_assoc0 {α β γ : Type} (r : Option (RS α)) (f : α → DEnv → Option (RS β)) (g : β → DEnv → Option (RS γ)) : bnd (bnd r f) g = bnd r fun a ρ => bnd (f a ρ) g := by
  cases r with
  | none => rfl
  | some r => cases r <;> rfl
section
variable {C : RC} {F : FT} {cf : Nat → List D → Option CR} {lev : Nat} {N : List Str} {pins : List Nat} {sc : Scope} {X : Cx} {W : WX} {a b c : Expr} {ma mb mc : M} {pos : Pos}
theorem call_min3I (hc : X.calm = true) : CallR X (biV .min2) (fun xs H Q => ∃ i j k, xs = [.int i, .int j, .int k] ∧ Q (.int (if k < (if j < i then j else i) then k else (if j < i then j else i))) H) := by
  intro pins s σ H xs us Q I rv h
  obtain ⟨i, j, k, rfl, q⟩ := h
  have lt : ∀ i j : Int, nuLt (V.int i) (V.int j) = some (decide (i < j)) := fun _ _ => rfl
  have m2 : ∀ i j : Int, nuMin2 (V.int i) (V.int j) = some (V.int (if j < i then j else i)) := fun i j => by
    show (nuLt (V.int j) (V.int i)).map _ = _
    rw [lt]
    by_cases h : j < i <;> simp [h]
  have e : nuMin3 (V.int i) (V.int j) (V.int k) = some (V.int (if k < (if j < i then j else i) then k else (if j < i then j else i))) := by
    show (nuMin2 (V.int i) (V.int j)).bind _ = _
    rw [m2, Option.bind_some, m2]
  exact call_min3Nu hc pins s σ H _ us Q I rv ⟨.int i, .int j, .int k, _, rfl, e, q⟩
theorem se_min3 (g : Gd C F cf lev N sc X) (hg : glB sc (biNm .min2) = true) (ha : PE X a (tB C W (pureM ma) (evE cf pins ma))) (hb : PE X b (tB C W (pureM mb) (evE cf pins mb))) (hc : PE X c (tB C W (pureM mc) (evE cf pins mc))) (hs : nst a = true) (hs2 : nst b = true) (hs3 : nst c = true) {p : Pos} :
    PE X (.Call (.Name (biNm .min2) p) [a, b, c] [] pos) (tE C W (pureM (.bi2 .min2 (.bi2 .min2 ma mb) mc)) (evE cf pins (.bi2 .min2 (.bi2 .min2 ma mb) mc))) :=
  PE.imp (pe_bi g (call_min3I g.calm) hg (pa_cons ha (pa_cons hb (pa_cons hc pa_nil (nst_ok hs3 [] X.env)) (nst_ok hs2 [c] X.env)) (nst_ok hs [b, c] X.env)) hs (by rw [List.all_cons, List.all_cons, hs2, hs3]; rfl)) fun σ H Q ⟨ρ, G, O, w, ag, h⟩ => by
    rw [evE, evE, bnd_assoc0] at h
    simp only [bnd_assoc0] at h
    refine tX.next (Step.refl true) h w ag fun x ρ1 h1 v1 H1 G1 Od1 O1 st1 w1 r1 a1 => ?_
    refine tX.next st1 h1 w1 a1 fun y ρ2 h2 v2 H2 G2 Od2 O2 st2 w2 r2 a2 => ?_
    have key : ∃ i j, x = .int i ∧ y = .int j := by
      cases x <;> cases y <;> first | exact ⟨_, _, rfl, rfl⟩ | exact h2.elim
    obtain ⟨i, j, rfl, rfl⟩ := key
    have h2 : goX (bnd (evE cf pins mc ρ2) fun z ρ3 => lft (bi2D .min2 (.int (if j < i then j else i)) z) ρ3) (okE C (pureM (.bi2 .min2 (.bi2 .min2 ma mb) mc)) H G O σ Q) (exK C W H G O σ) := h2
    refine tX.next (st1.trans st2) h2 w2 a2 fun z ρ3 h3 v3 H3 G3 Od3 O3 st3 w3 r3 a3 => ?_
    cases z <;> first | exact h3.elim | skip
    rename_i k
    obtain rfl := r1.2; obtain rfl := r2.2; obtain rfl := r3.2
    have h3 : okE C (pureM (.bi2 .min2 (.bi2 .min2 ma mb) mc)) H G O σ Q (.int (if k < (if j < i then j else i) then k else (if j < i then j else i))) ρ3 := h3
    exact ⟨i, j, k, rfl, fin_int w3 rfl fun v H' G' Od st w' r => h3 v H' G' Od O3 ((((st1.trans st2).trans st3).trans st).wk fun z => by
      have z : (pureM ma && pureM mb && pureM mc) = true := z
      rw [z]; rfl) w' r (a3.frame st.gg fun _ _ _ z => st.sm rfl _ _ z)⟩
end
end L2.PV
set_option Elab.async false
set_option linter.all false
set_option autoImplicit false
/-! Objects that only keep what they are made of. -/
namespace L2.PV
open PySem PySem.Spec PyProof.Rows
section
variable {C : RC} {F : FT} {cf : Nat → List D → Option CR} {lev : Nat} {N : List Str} {pins : List Nat} {sc : Scope} {X : Cx} {W : WX} {a b c : Expr} {ma mb mc : M} {pos : Pos}
theorem kdG_zip {G : Hp} {x : Str} : ∀ {ns : List Str} {ds : List D} {vs : List V} {d : D}, Rps C G ds vs → kdG ns ds x = some d → ∃ v, (ns.zip vs).lookup x = some v ∧ Rp C G d v
  | [], _, _, _, _, e => by cases e
  | _ :: _, [], _, _, _, e => by cases e
  | k :: ns, d0 :: ds, _, d, ⟨v, ws, e0, r1, r2⟩, e => by
    subst e0
    unfold kdG at e
    rw [List.zip_cons_cons, List.lookup_cons]
    split at e
    · rename_i hk
      cases e
      subst hk
      exact ⟨v, by rw [beq_self_eq_true], r1⟩
    · rename_i hk
      have : (x == k) = false := beq_eq_false_iff_ne.mpr fun z => hk z.symm
      rw [this]
      exact kdG_zip r2 e
theorem kdG_mem {x : Str} : ∀ {ns : List Str} {ds : List D} {d : D}, kdG ns ds x = some d → x ∈ ns
  | [], _, _, e => by cases e
  | _ :: _, [], _, e => by cases e
  | k :: ns, d0 :: ds, d, e => by
    unfold kdG at e
    split at e
    · rename_i hk; rw [hk]; exact List.mem_cons_self
    · exact List.mem_cons_of_mem _ (kdG_mem e)
theorem se_att (g : Gd C F cf lev N sc X) {n : Str} {cs : List Nat} (ha : PE X a (tB C W (pureM ma) (evE cf pins ma))) (hb : nat a = true) (hc : ∀ c ∈ cs, ∃ q ∈ F.rc, q.1 = c ∧ n ∈ q.2.2) :
    PE X (.Attribute a n pos) (tE C W (pureM (.att ma n cs)) (evE cf pins (.att ma n cs))) :=
  PE.imp (pe_fld ha (nat_ok hb _ _)) fun σ H Q ⟨ρ, G, O, w, ag, h⟩ => by
    rw [evE] at h
    refine tX.next (Step.refl true) h w ag fun x ρ1 h1 v1 H1 G1 Od1 O1 st1 w1 r1 a1 => ?_
    obtain ⟨d, e, h2⟩ := goX_lft h1
    clear h1
    cases x <;> first | exact nomatch (show (none : Option D) = some d from e) | skip
    rename_i c0 ns ds
    have e : (if c0 ∈ cs then kdG ns ds n else none) = some d := e
    split at e
    · rename_i hm
      obtain ⟨q, hq, eq, hn⟩ := hc c0 hm
      obtain ⟨cls, noat, _, _⟩ := g.rcd q hq
      obtain ⟨_, p, dx, vs, rfl, hg, hl, rv⟩ := r1
      obtain ⟨v, e1, rd⟩ := kdG_zip rv e
      subst eq
      exact ⟨p, C.cl q.1, dx, _, v, rfl, w1.gh _ _ hg, cls, noat n hn, e1, h2 v H1 G1 [] O1 (st1.wk fun z => z) w1 (Rp.own (Rp.isFz rd) rd) a1⟩
    · cases e
theorem passF {P : Program} {w : World} (hP : X.prog = P) (hw : X.w = w) : Passes (L2.CX X.prog X.w) X (fun _ _ _ => False) := fun pins σ H s e s' I h => by
  obtain ⟨_, _, _, _, _, _, _, _, _, _, _, _, z⟩ := h
  exact z.elim
theorem se_new (g : Gd C F cf lev N sc X) {q : Nat × Str × List Str} (hq : q ∈ F.rc) {es : List Expr} {ms : M} {p : Pos} (hg : glB sc q.2.1 = true) (hn : okName q.2.1 = true) (ha : PAn X (a :: es) (tL C W (pureM ms) (evL cf pins ms))) (h1 : nst a = true) (h2 : es.all nst = true) (hl : (a :: es).length = q.2.2.length) :
    PE X (.Call (.Name q.2.1 p) (a :: es) [] pos) (tE C W (pureM (.new q.1 q.2.2 ms)) (evE cf pins (.new q.1 q.2.2 ms))) := by
  obtain ⟨_, _, mg, f, fd, ps, mk, F1, bd⟩ := g.rcd q hq
  refine PE.imp (pe_make (E := fun _ _ _ => False) (dvs := []) (ds := []) mk F1 (g.room.mono g.two) (g.gx hg) mg bd .nil (passF rfl rfl) ha (okName_d hn) (nst_ok h1 es X.env) (nst_all h2)) fun σ H Q ⟨ρ, G, O, w, ag, h⟩ => ?_
  rw [evE] at h
  refine tX.next (Step.refl true) h w ag fun ds ρ1 h1 vs H1 G1 O1 st1 w1 r1 a1 hlen => ?_
  obtain ⟨hd, h1⟩ := goX_ite h1
  intro x dx hx hdx hne
  refine ⟨x, dx, vs, by rw [List.append_nil], upd_same, hlen.trans hl, rfl, ?_⟩
  rw [upd_upd]
  obtain ⟨s1, w2⟩ := step_mine w1 a1.inH hdx (.own x)
  have s1 := s1.sub (O'' := O1) fun b hb => List.mem_cons_of_mem _ hb
  have w2 := w2.sub (O' := O1) w1.nd fun b hb => List.mem_cons_of_mem _ hb
  have a2 : AgL C G1 (upd H1 dx (.own x)) ρ1 σ O1 := a1.frame (Same.refl _) fun b _ o e => s1.sm rfl _ _ e
  have hx2 : upd H1 dx (.own x) x = none := by rw [upd_ne (Ne.symm hne)]; exact hx
  obtain ⟨s2, w3⟩ := step_new w2 a2.inH hx2 (.ins (C.cl q.1) dx (q.2.2.zip vs))
  exact h1 (.ref x) _ _ [] O1 (((st1.trans s1).trans s2).wk fun z => by rw [show pureM ms = true from z]; rfl) w3 ⟨rfl, x, dx, vs, rfl, upd_same, by rw [hlen]; exact hl.symm, Rps.same s2.gg _ _ r1⟩
    (a2.frame s2.gg fun b _ o e => s2.sm rfl _ _ e)
end
end L2.PV
set_option Elab.async false
set_option linter.all false
set_option autoImplicit false
set_option maxRecDepth 100000
/-! enumerate of a tuple. -/
namespace PySem
open Sem (wp)
/-- the object that enumerate makes behind the iterator -/
abbrev enO (it : Addr) : Obj := ⟨.type "enumerate", none, .fields #[.none, .bool false, .ref it, rawInt 0, .none, .none], #[]⟩
set_option maxHeartbeats 1000000 in
theorem enT_meets {v : Value} {o : Obj} {Z : Heap → Prop} (B : Begins v o Z) :
    Meets (Builtin.«enumerate.__new__» ⟨[.type "enumerate", v], []⟩)
      (fun _ R s => Z s.heap ∧ R (.ok (.ret (.ref (s.heap.push o).objs.size))) { s with heap := (s.heap.push o).push (enO s.heap.objs.size) }) :=
  .of_wp fun prog w A R s h => by
    obtain ⟨hp, g, d, tk, os⟩ := s
    obtain ⟨h1, h2⟩ := h
    have hsub := sub_enumerate
    have it1 : ∀ {A' : Around} {E' Q' : Value → Shared → Prop}, Q' (.ref hp.objs.size) ⟨hp.push o, g, d, tk, os⟩ → wpAny (model prog w) A' (pyIter v) Q' E' ⟨hp, g, d, tk, os⟩ :=
      fun z => B.iter prog w _ _ ⟨hp, g, d, tk, os⟩ _ h1 z
    wp_walk using it1
    refine wpAny_stack_any fun st => wpAny_pure ?_
    split
    · rename_i c _ _ _ _ _
      cases (c == Value.type "enumerate") <;> (wp_walk using it1; exact ⟨_, rfl, h2⟩)
    · wp_walk using it1
      exact ⟨_, rfl, h2⟩
section
variable {prog : Program} {w : World} {A : Around} {E : Value → Shared → Prop} {s : Shared}
theorem enT_call {v : Value} {o : Obj} {Z : Heap → Prop} {Q : Value → Shared → Prop} (B : Begins v o Z) (h1 : Z s.heap)
    (h : ∀ h', IsEnum h' (s.heap.objs.size + 1) s.heap.objs.size 0 .none → h'.get? s.heap.objs.size = some o → (∀ b u, s.heap.get? b = some u → h'.get? b = some u) →
      Q (.ref (s.heap.objs.size + 1)) { s with heap := h' }) : wpAny (model prog w) A (call (.type "enumerate") [v]) Q E s := by
  have hz : (s.heap.push o).objs.size = s.heap.objs.size + 1 := Heap.size_push ..
  have he : IsEnum ((s.heap.push o).push (enO s.heap.objs.size)) (s.heap.objs.size + 1) s.heap.objs.size 0 .none := by
    have z := Heap.get?_push_size (s.heap.push o) (o := enO s.heap.objs.size) rfl
    rw [hz] at z
    exact z
  refine callType_new F.called_enumerate (by decide) (F.typeCall_enumerate_1 _) (F.newCall_enumerate_1 _) (fun obj => F.args_object_init_2 obj _) F.entry_enumerate_new (enT_meets B) ⟨h1, ?_⟩
  show _ ∧ _
  rw [hz]
  exact ⟨⟨_, he, rfl⟩, h _ he (Heap.get?_push_of_some _ (Heap.get?_push_size _ B.free)) fun b u x => Heap.get?_push_of_some _ (Heap.get?_push_of_some _ x)⟩
end
end PySem
namespace L2.PV
open PySem PySem.Spec PyProof.Rows
/-- the tuple at a, its items in new pairs -/
def IteT (K : PySem.W.Frag) (a : Addr) : It where
  go := fun i H => ∃ (xs : List V) (x : V), SqT K H a xs ∧ xs[i]? = some x
  yld := fun i H v H' => ∃ T x, v = .ref T ∧ H T = none ∧ H' = upd H T (.tup [.int (i : Nat), x]) ∧ ∀ xs, SqT K H a xs → xs[i]? = some x
  stop := fun i H => ∃ xs : List V, SqT K H a xs ∧ xs.length ≤ i
theorem tup_iter_ne {h : Heap} {it a : Addr} {i : Nat} {its : Array Value} (h1 : h.IsTupleIter it a i) (h2 : h.IsTuple a its) : a ≠ it := by
  obtain ⟨o, e1, c1, _⟩ := h1
  obtain ⟨u, e2, c2, _⟩ := h2
  intro e
  subst e
  rw [e1] at e2
  cases e2
  have : (Value.type "tuple_iterator") = Value.type "tuple" := c1.symm.trans c2
  exact absurd this (by decide)
theorem enum_tup_ne {h : Heap} {e it a : Addr} {i : Int} {old : Value} {its : Array Value} (h1 : IsEnum h e it i old) (h2 : h.IsTuple a its) : e ≠ a := by
  obtain ⟨u, e2, c2, _⟩ := h2
  intro z
  subst z
  rw [show h.get? e = some _ from h1] at e2
  cases e2
  exact absurd (show (Value.type "enumerate") = Value.type "tuple" from c2) (by decide)
/-- nothing is drawn any more -/
theorem draws_out {prog : Program} {w : World} {A : Around} (hh : A.handled = none) (it t : Addr) (i : Nat) (items : Array Value) (hi : items[i]? = none) :
    Draws prog w A it [it, t] 0 (fun _ _ => False) (fun j h => h.IsTupleIter it t (i + j) ∧ h.IsTuple t items) where
  live := fun _ _ st => let ⟨o, ho, _⟩ := st.1; ⟨o, ho⟩
  frame := fun _ _ _ st hk => ⟨st.1.at fun o e => hk it (by simp) o e, st.2.at fun o e => hk t (by simp) o e⟩
  item := fun i s Q E hi => absurd hi (Nat.not_lt_zero _)
  done := fun s Q E st hE => wpAny_nextOf_tuple_end hh st.1 st.2 hi hE
theorem turn_enumT {P : Program} {w : World} {K : PySem.W.Frag} {elts : List Expr} {kk : Nat} {tpos : Pos} (a e it : Addr) :
    Turn P w K (.Tuple elts kk tpos) (IteT K a) [e, it] e (fun i h => (∃ old, IsEnum h e it ((i : Nat) : Int) old) ∧ h.IsTupleIter it a i ∧ e ≠ it) where
  mem := by simp
  obj := fun i h st b hb => by
    obtain ⟨⟨old, he⟩, ⟨o, ho, hc, hd⟩, _⟩ := st
    rcases (show b = e ∨ b = it by simpa using hb) with z | z
    · rw [z]; exact ⟨_, he, fun v q => nomatch q⟩
    · rw [z]; exact ⟨o, ho, fun v q => by rw [hd] at q; cases q⟩
  keep := fun i h h' st k => let ⟨⟨old, he⟩, hi, hne⟩ := st; ⟨⟨old, k e (by simp) _ he⟩, hi.at fun o q => k it (by simp) o q, hne⟩
  item := by
    intro X hP hw hK hc i pins s σ H E I hf st hg
    subst hP hw hK
    obtain ⟨⟨old, he⟩, hit, hne⟩ := st
    obtain ⟨xs, x, hq, hx⟩ := hg
    obtain ⟨its, rv, p, hz⟩ := I.tuple hq
    have p' : s.heap.IsTuple a its.toArray := p
    obtain ⟨u, hu, ru⟩ := rv.get hx
    have hel : e < s.heap.objs.size := Heap.lt_size he
    have hil : it < s.heap.objs.size := by obtain ⟨_, q, _⟩ := hit; exact Heap.lt_size q
    have hil2 : i < its.length := (List.getElem?_eq_some_iff.mp hu).1
    have D := Draws.tuple (prog := X.prog) (w := X.w) (A := X.A.in1) (I.ok.hd hc) it a (tup_iter_ne hit p') its.toArray
    have hef : e ∉ [it, a] := fun z => by
      rcases List.mem_cons.mp z with z | z
      · exact hne z
      · exact enum_tup_ne he p' (List.mem_singleton.mp z)
    refine wpAny_pyNext_enum_itemD D he ⟨hit, p'⟩ (by simpa using hil2) hne hef fun y h' tk hy ho hst hT hsz hk => ?_
    have ey : y = u := by
      have hy : its.toArray[i]? = some y := hy
      have hu' : its.toArray[i]? = some u := by simpa using hu
      rw [hy] at hu'; exact Option.some.inj hu'
    subst ey
    refine ⟨_, rfl, wpAny_letOwnedTupleGo_enum (s := { s with heap := h', toks := tk + 1 }) ho fun h'' he' sb => ?_⟩
    have hT2 := (sb.2 _ (Nat.ne_of_gt hel)).trans hT
    have new : ObjOk X.prog X.w (upd H s.heap.objs.size (.tup [.int (i : Nat), x])) h'' s.heap.objs.size (.tup [.int (i : Nat), x]) :=
      ⟨by show 2 ≤ sizeLine; decide, [.int i tk, y], .cons ⟨_, rfl⟩ (.cons ru .nil), ⟨_, hT2, rfl, _, rfl⟩⟩
    have I1 := I.turnedNew (t' := tk + 1) (ch := [e, it]) (fun b ob hb q => (sb.2 b (fun z => hb (by simp [z]))).trans (hk b ob (fun z => hb (by simp [z])) (fun z => hb (by simp [z])) q)) hf (Nat.le_refl _) new
    refine ⟨.ref s.heap.objs.size, _, I1, rfl, ⟨_, x, rfl, I.hok.fresh (Nat.le_refl _), rfl, fun ys hy => by rw [I.tuple_inj hy hq]; exact hx⟩, ⟨⟨y, ?_⟩, hst.1.at fun o q => (sb.2 it (Ne.symm hne)).trans q, hne⟩, fun b hb => ?_⟩
    · rw [show ((i + 1 : Nat) : Int) = (i : Int) + 1 by omega]; exact he'
    · have hb' : b < s.heap.objs.size := by
        rcases (show b = e ∨ b = it by simpa using hb) with z | z
        · rw [z]; exact hel
        · rw [z]; exact hil
      rw [upd_ne (Nat.ne_of_lt hb')]
      exact (hf b hb).1
  done := by
    intro X hP hw hK hc i pins s σ H E I hf st hg
    subst hP hw hK
    obtain ⟨⟨old, he⟩, hit, hne⟩ := st
    obtain ⟨xs, hq, hx⟩ := hg
    obtain ⟨its, rv, p, hz⟩ := I.tuple hq
    have p' : s.heap.IsTuple a its.toArray := p
    obtain ⟨f0, f1, f2, f3, f4, f5⟩ := hf it (by simp)
    have hl := rv.length
    have D := draws_out (prog := X.prog) (w := X.w) (A := X.A.in1) (I.ok.hd hc) it a i its.toArray (by simp; omega)
    exact wpAny_pyNext_enum_endD D he ⟨hit, p'⟩ fun h' eb => ⟨rfl, I.turned (t' := s.toks) (fun b o hb q => eb b o hb q) f0 f1 f3 f4 f5⟩
  self := fun A i s Q E st h => let ⟨⟨_, he⟩, _⟩ := st; wpAny_pyIter_enum he h
def iEnA (K : PySem.W.Frag) (ta : TA) : TI := fun σ H R => ta σ H fun vs H1 => ∃ a xs, vs = [.ref a] ∧ ((SqL K H1 a xs ∧ R (Ite K a) H1) ∨ (SqT K H1 a xs ∧ R (IteT K a) H1))
theorem pi_enA {X : Cx} {e : Expr} {ta : TA} {p pos tpos : Pos} {elts : List Expr} {kk : Nat} (hg : Gl X "enumerate") (hm : X.mg "enumerate" = none) (ha : PA X [e] ta) (hs : starEach [e] X.env = [(false, eval e X.env)]) :
    PI X (.Tuple elts kk tpos) (.Call (.Name "enumerate" p) [e] [] pos) (iEnA X.K ta) := by
  refine ⟨fun pins s σ H R I h => ?_⟩
  refine Call_ (ld_blt I hg hm boot_enumerate (PyProof.Rows.callWith_type1 (thn (ha.run pos pins s σ H _ I h) fun us s1 ⟨vs, H1, I1, r1, a, xs, ex, q1⟩ => ?_) hs rfl))
  subst ex
  cases r1 with
  | cons r rr =>
    cases rr
    cases r
    have fr : ∀ b ∈ [s1.heap.objs.size + 1, s1.heap.objs.size], FpOk X pins H1 b := fun b hb => by
      have hle : s1.heap.objs.size ≤ b := by
        rcases (show b = s1.heap.objs.size + 1 ∨ b = s1.heap.objs.size by simpa using hb) with z | z
        · rw [z]; exact Nat.le_add_right _ _
        · rw [z]; exact Nat.le_refl _
      exact I1.fpOk hle (I1.hok.fresh hle)
    rcases q1 with ⟨hq, q⟩ | ⟨hq, q⟩
    · obtain ⟨its, rv, p', hz⟩ := I1.list hq
      refine call_enumerate_list p'.isList fun h' he hit hsz hk => wpAny_pyIter_enum he ?_
      exact ⟨s1.heap.objs.size + 1, [s1.heap.objs.size + 1, s1.heap.objs.size], _, _, H1, rfl, I1.kept (t' := s1.toks) hk, turn_enum a (s1.heap.objs.size + 1) s1.heap.objs.size, ⟨⟨.none, he⟩, hit, Nat.succ_ne_self _⟩, fr, q⟩
    · obtain ⟨its, rv, p', hz⟩ := I1.tuple hq
      refine enT_call (begins_tuple a its.toArray) p' fun h' he hit hk => wpAny_pyIter_enum he ?_
      exact ⟨s1.heap.objs.size + 1, [s1.heap.objs.size + 1, s1.heap.objs.size], _, _, H1, rfl, I1.kept (t' := s1.toks) hk, turn_enumT a (s1.heap.objs.size + 1) s1.heap.objs.size, ⟨⟨.none, he⟩, ⟨_, hit, rfl, rfl⟩, Nat.succ_ne_self _⟩, fr, q⟩
end L2.PV
set_option Elab.async false
set_option linter.all false
set_option autoImplicit false
/-! What is walked; targets; comprehensions. -/
namespace L2.PV
open PySem PySem.Spec PyProof.Rows
/-- J walks ds -/
def Wk (C : RC) (G : Hp) (J : It) (ds : List D) : Prop := ∀ (i : Nat) (H G' : Hp) (O : List Addr), Same G G' → Wd H G' O → (∀ a ∈ O, H a ≠ none) →
  (∀ d, ds[i]? = some d → J.go i H ∧ ∀ x H', J.yld i H x H' → ∃ G'', Step true H G' O H' G'' O ∧ Wd H' G'' O ∧ Rp C G'' d x) ∧ (ds[i]? = none → J.stop i H)
def okI (C : RC) (p : Bool) (H G : Hp) (O : List Addr) (σ : St) (R : It → Hp → Prop) : List D → DEnv → Prop := fun ds ρ => ∀ J H' G' O', Step p H G O H' G' O' → Wd H' G' O' → Wk C G' J ds → AgL C G' H' ρ σ O' → R J H'
def tI (C : RC) (W : WX) (p : Bool) (ev : DEnv → Option (RS (List D))) : TI := tX C W (okI C p) ev
def iAny (K : PySem.W.Frag) (te : TE) : TI := fun σ H R => te σ H fun v H1 => (∃ a, v = .ref a ∧ (∃ xs, SqL K H1 a xs) ∧ R (Itl K a) H1) ∨ (∃ a, v = .ref a ∧ (∃ xs, SqT K H1 a xs) ∧ R (Itt K a) H1) ∨ ∃ x, v = .str x ∧ R (Its x) H1
theorem pi_any {X : Cx} {tg l : Expr} {tl : TE} (hl : PE X l tl) : PI X tg l (iAny X.K tl) := by
  refine ⟨fun pins s σ H R I h => ?_⟩
  refine thn (hl.run pins s σ H _ I h) fun v s1 ⟨x, H1, I1, r1, q1⟩ => ?_
  rcases q1 with ⟨a, e, ⟨xs, hq⟩, q⟩ | ⟨a, e, ⟨xs, hq⟩, q⟩ | ⟨y, e, q⟩
  · subst e
    cases r1
    obtain ⟨its, rv, p, hz⟩ := I1.list hq
    exact wpAny_pyIter_list p.isList (pi_one (tk := s1.toks) I1 _ (turn_list a _) ⟨_, Heap.get?_push_size _ rfl, rfl, rfl⟩ q)
  · subst e
    cases r1
    obtain ⟨its, rv, p, hz⟩ := I1.tuple hq
    exact wpAny_pyIter_tuple (show s1.heap.IsTuple a its.toArray from p) (pi_one (tk := s1.toks) I1 _ (turn_tuple a _) ⟨_, Heap.get?_push_size _ rfl, rfl, rfl⟩ q)
  · subst e
    obtain ⟨t, rfl⟩ := r1
    cases ha : y.cps.all (· < 128)
    · exact wpAny_pyIter_wide ha (pi_one (tk := s1.toks) I1 _ (turn_str _ y t "str_iterator" (.inr rfl)) ⟨_, Heap.get?_push_size _ rfl, rfl, rfl⟩ q)
    · exact wpAny_pyIter_ascii ha (pi_one (tk := s1.toks) I1 _ (turn_str _ y t "str_ascii_iterator" (.inl rfl)) ⟨_, Heap.get?_push_size _ rfl, rfl, rfl⟩ q)
section
variable {C : RC} {F : FT} {cf : Nat → List D → Option CR} {lev : Nat} {N : List Str} {pins : List Nat} {sc : Scope} {X : Cx} {W : WX} {a b c tg : Expr} {ma mb mc : M} {pos : Pos}
theorem PI.imp {e : Expr} {t t' : TI} (h : PI X tg e t) (k : ∀ σ H R, t' σ H R → t σ H R) : PI X tg e t' := ⟨fun pins s σ H R I z => h.run pins s σ H R I (k σ H R z)⟩
theorem SqL.inj {K : PySem.W.Frag} {H : Hp} {a : Addr} {xs ys : List V} (h : H a = some (.lst xs)) (k : SqL K H a ys) (no : K.lookup a = none) : ys = xs := by
  rcases k with (k | ⟨o, k⟩) | ⟨o, its, n, k, _⟩
  · rw [h] at k; cases k; rfl
  · rw [h] at k; cases k
  · rw [no] at k; cases k
/-- walks of rows that are read one by one -/
theorem wk_seq {G : Hp} {J : It} {ds : List D} {vs : List V} (r : Rps C G ds vs) (go : ∀ i H x, Same G H → vs[i]? = some x → J.go i H ∧ ∀ y H', J.yld i H y H' → H' = H ∧ y = x) (st : ∀ i H, Same G H → vs.length ≤ i → J.stop i H) : Wk C G J ds := by
  intro i H G' O sg w hin
  have sh : Same G H := sg.trans w.gh
  refine ⟨fun d e => ?_, fun e => st i H sh (by rw [← r.len]; exact List.getElem?_eq_none_iff.mp e)⟩
  obtain ⟨v, e1, e2⟩ := r.get e
  obtain ⟨g1, g2⟩ := go i H v sh e1
  refine ⟨g1, fun y H' hy => ?_⟩
  obtain ⟨rfl, rfl⟩ := g2 y H' hy
  exact ⟨G', Step.refl _, w, Rp.same sg _ _ e2⟩
theorem wk_list {G : Hp} {a : Addr} {ds : List D} {vs : List V} (r : Rps C G ds vs) (h : SqL X.K G a vs) : Wk C G (Itl X.K a) ds :=
  wk_seq r (fun i H x s e => ⟨⟨vs, x, s.seq h, e⟩, fun y H' hy => ⟨hy.1, by
    have := hy.2 vs (s.seq h)
    rw [e] at this; exact (Option.some.inj this).symm⟩⟩) fun i H s l => ⟨vs, s.seq h, l⟩
theorem wk_tup {G : Hp} {a : Addr} {ds : List D} {vs : List V} (r : Rps C G ds vs) (h : SqT X.K G a vs) : Wk C G (Itt X.K a) ds :=
  wk_seq r (fun i H x s e => ⟨⟨vs, x, SqT.same s h, e⟩, fun y H' hy => ⟨hy.1, by
    have := hy.2 vs (SqT.same s h)
    rw [e] at this; exact (Option.some.inj this).symm⟩⟩) fun i H s l => ⟨vs, SqT.same s h, l⟩
theorem wk_str {G : Hp} (s : Str) : Wk C G (Its s) (s.cps.toList.map fun c => D.str ⟨#[c]⟩) := by
  intro i H G' O sg w hin
  refine ⟨fun d e => ?_, fun e => ?_⟩
  · rw [List.getElem?_map] at e
    obtain ⟨c, e1, rfl⟩ := Option.map_eq_some_iff.mp e
    have hi : i < s.cps.size := by
      have := (List.getElem?_eq_some_iff.mp e1).1
      simpa using this
    refine ⟨hi, fun y H' hy => ?_⟩
    obtain ⟨rfl, c', e2, rfl⟩ := hy
    have : s.cps[i]? = some c := by rw [← e1, Array.getElem?_toList]
    rw [this] at e2; cases e2
    exact ⟨G', Step.refl _, w, rfl⟩
  · have := List.getElem?_eq_none_iff.mp e
    simp at this
    exact this
theorem wk_ints {G : Hp} {J : It} {n : Nat} {f : Nat → Int} (go : ∀ i H, i < n → J.go i H ∧ ∀ y H', J.yld i H y H' → H' = H ∧ y = .int (f i)) (st : ∀ i H, n ≤ i → J.stop i H) : Wk C G J ((List.range n).map fun i => D.int (f i)) := by
  intro i H G' O sg w hin
  refine ⟨fun d e => ?_, fun e => st i H (by have := List.getElem?_eq_none_iff.mp e; simpa using this)⟩
  rw [List.getElem?_map] at e
  obtain ⟨k, e1, rfl⟩ := Option.map_eq_some_iff.mp e
  have hi := (List.getElem?_eq_some_iff.mp e1).1
  have hk : k = i := by
    have := (List.getElem?_eq_some_iff.mp e1).2
    simpa using this.symm
  subst hk
  obtain ⟨g1, g2⟩ := go k H (by simpa using hi)
  refine ⟨g1, fun y H' hy => ?_⟩
  obtain ⟨rfl, rfl⟩ := g2 y H' hy
  exact ⟨G', Step.refl _, w, rfl⟩
theorem si_seq (hK : C.K = X.K) (ha : Ev C W cf pins X ma a) : PI X tg a (tI C W (pureM ma) (evI cf pins (.seq ma))) :=
  PI.imp (pi_any ha.frz) fun σ H R ⟨ρ, G, O, w, ag, h⟩ => by
    rw [evI] at h
    refine ha.frz' (Step.refl true) h w ag fun x ρ1 h1 v1 H1 G1 O1 st1 w1 r1 a1 => ?_
    cases x with
    | str s =>
      have e : v1 = .str s := r1
      exact .inr (.inr ⟨s, e, h1 (Its s) H1 G1 O1 st1 w1 (wk_str s) a1⟩)
    | tup ds =>
      obtain ⟨a, vs, rfl, h2, q1⟩ := r1
      exact .inr (.inl ⟨a, rfl, ⟨vs, hK ▸ SqT.same w1.gh h2⟩, h1 _ H1 G1 O1 st1 w1 (wk_tup (X := X) q1 (hK ▸ h2)) a1⟩)
    | lst ds =>
      obtain ⟨a, vs, rfl, h2, q1⟩ := r1
      exact .inl ⟨a, rfl, ⟨vs, SqL.of (w1.gh _ _ h2)⟩, h1 _ H1 G1 O1 st1 w1 (wk_list (X := X) q1 (SqL.of h2)) a1⟩
    | scr ds =>
      obtain ⟨a, vs, rfl, h2, q1⟩ := r1
      exact .inl ⟨a, rfl, ⟨vs, hK ▸ w1.gh.seq h2⟩, h1 _ H1 G1 O1 st1 w1 (wk_list (X := X) q1 (hK ▸ h2)) a1⟩
    | _ => first | exact h1.elim | exact (show False from r1).elim
theorem rg_free : ("range" : Str) ∈ freeB := by decide +kernel
theorem si_rg1 (g : Gd C F cf lev N sc X) (hg : glB sc "range" = true) (ha : PE X a (tB C W (pureM ma) (evE cf pins ma))) (hs : nst a = true) {p : Pos} : PI X tg (.Call (.Name "range" p) [a] [] pos) (tI C W (pureM ma) (evI cf pins (.rg1 ma))) :=
  PI.imp (pi_range1 (g.gx hg) (g.free _ rg_free) (pa_cons ha pa_nil (nst_ok hs [] X.env)) (nst_ok hs [] X.env)) fun σ H R ⟨ρ, G, O, w, ag, h⟩ => by
    rw [evI] at h
    refine tX.next (Step.refl true) h w ag fun x ρ1 h1 v1 H1 G1 Od1 O1 st1 w1 r1 a1 => ?_
    cases x <;> first | exact h1.elim | skip
    rename_i i
    obtain rfl := r1.2
    obtain ⟨ds, e, h1⟩ := goX_lft h1
    unfold rgD at e
    split at e
    · rename_i hb
      cases e
      refine ⟨i, rfl, hb.2.2.1, hb.2.2.2, h1 _ H1 G1 O1 st1 w1 ?_ a1⟩
      rw [Int.sub_zero]
      exact wk_ints (J := Itr 0 i.toNat) (f := fun k => 0 + (k : Int)) (fun k H hk => ⟨hk, fun y H' hy => hy⟩) fun k H hk => hk
    · cases e
theorem si_rg2 (g : Gd C F cf lev N sc X) (hg : glB sc "range" = true) (ha : PE X a (tB C W (pureM ma) (evE cf pins ma))) (hb : PE X b (tB C W (pureM mb) (evE cf pins mb))) (hs : nst a = true) (hs2 : nst b = true) {p : Pos} :
    PI X tg (.Call (.Name "range" p) [a, b] [] pos) (tI C W (pureM ma && pureM mb) (evI cf pins (.rg2 ma mb))) :=
  PI.imp (pi_range2 (g.gx hg) (g.free _ rg_free) (pa_cons ha (pa_cons hb pa_nil (nst_ok hs2 [] X.env)) (nst_ok hs [b] X.env)) (by rw [nst_ok hs, nst_ok hs2]; rfl) (nst_ok hs2 [] X.env)) fun σ H R ⟨ρ, G, O, w, ag, h⟩ => by
    rw [evI] at h
    refine tX.next (Step.refl true) h w ag fun x ρ1 h1 v1 H1 G1 Od1 O1 st1 w1 r1 a1 => ?_
    refine tX.next st1 h1 w1 a1 fun y ρ2 h2 v2 H2 G2 Od2 O2 st2 w2 r2 a2 => ?_
    cases x <;> cases y <;> first | exact h2.elim | skip
    rename_i i j
    obtain rfl := r1.2
    obtain rfl := r2.2
    obtain ⟨ds, e, h2⟩ := goX_lft h2
    unfold rgD at e
    split at e
    · rename_i hb
      cases e
      refine ⟨i, j, rfl, hb, h2 _ H2 G2 O2 (st1.trans st2) w2 ?_ a2⟩
      exact wk_ints (J := Itr i (j - i).toNat) (f := fun k => i + (k : Int)) (fun k H hk => ⟨hk, fun y H' hy => hy⟩) fun k H hk => hk
    · cases e
theorem si_rg3 (g : Gd C F cf lev N sc X) (hg : glB sc "range" = true) (ha : PE X a (tB C W (pureM ma) (evE cf pins ma))) (hb : PE X b (tB C W (pureM mb) (evE cf pins mb))) (hc : PE X c (tB C W (pureM mc) (evE cf pins mc))) (hs : nst a = true) (hs2 : nst b = true) (hs3 : nst c = true) {p : Pos} :
    PI X tg (.Call (.Name "range" p) [a, b, c] [] pos) (tI C W (pureM ma && pureM mb && pureM mc) (evI cf pins (.rg3 ma mb mc))) :=
  PI.imp (pi_range3 (g.gx hg) (g.free _ rg_free) (pa_cons ha (pa_cons hb (pa_cons hc pa_nil (nst_ok hs3 [] X.env)) (nst_ok hs2 [c] X.env)) (nst_ok hs [b, c] X.env)) (nst_ok hs [b, c] X.env) (nst_all (by rw [List.all_cons, List.all_cons, hs2, hs3]; rfl))) fun σ H R ⟨ρ, G, O, w, ag, h⟩ => by
    rw [evI] at h
    refine tX.next (Step.refl true) h w ag fun x ρ1 h1 v1 H1 G1 Od1 O1 st1 w1 r1 a1 => ?_
    refine tX.next st1 h1 w1 a1 fun y ρ2 h2 v2 H2 G2 Od2 O2 st2 w2 r2 a2 => ?_
    refine tX.next (st1.trans st2) h2 w2 a2 fun z ρ3 h3 v3 H3 G3 Od3 O3 st3 w3 r3 a3 => ?_
    cases x <;> first | exact h3.elim | skip
    cases y <;> first | exact h3.elim | skip
    cases z <;> first | exact h3.elim | skip
    rename_i i j k
    obtain rfl := r1.2
    obtain rfl := r2.2
    obtain rfl := r3.2
    obtain ⟨ds, e, h3⟩ := goX_lft h3
    unfold rg3D at e
    split at e
    · rename_i hb
      cases e
      have nn : 0 ≤ Builtin.Range.rangeSize i j k := by
        unfold Builtin.Range.rangeSize
        split
        · split
          · have := Int.ediv_nonneg (a := j - i - 1) (b := k) (by omega) (by omega); omega
          · omega
        · split
          · have := Int.ediv_nonneg (a := i - j - 1) (b := -k) (by omega) (by omega); omega
          · omega
      refine ⟨i, j, k, (Builtin.Range.rangeSize i j k).toNat, rfl, ⟨hb.1, hb.2.1, hb.2.2, by omega⟩, h3 _ H3 G3 O3 ((st1.trans st2).trans st3) w3 ?_ a3⟩
      exact wk_ints (J := Itc i k _) (f := fun n => i + (n : Int) * k) (fun n H hk => ⟨hk, fun y H' hy => hy⟩) fun n H hk => hk
    · cases e
/-! ### targets -/
def tgSl : M → List Nat
  | .tgn i => [i]
  | .tgt ts => tgSl ts
  | .cons t ts => tgSl t ++ tgSl ts
  | _ => []
/-- behind a target: the slots as they are told, others as they were -/
structure TgP (C : RC) (pins : List Nat) (H G : Hp) (O : List Addr) (sl : List Nat) (σ : St) (ρ' : DEnv) (σ' : St) (O' : List Addr) : Prop where
  w : Wd H G O'
  m : ∀ a ∈ O', a ∈ O
  ag : AgL C G H ρ' σ' O'
  len : σ'.length = σ.length
  oth : ∀ j, j ∉ sl → σ'[j]? = σ[j]?
  pin : ∀ j ∈ pins, σ'[j]? = σ[j]?
def gTg (C : RC) (pins : List Nat) (m : M) : TG := fun v σ H Q => ∃ ρ ρ' G O Od d, Wd H G (Od ++ O) ∧ RpO C G H d v Od ∧ AgL C G H ρ σ O ∧ tgM pins m d ρ = some ρ' ∧ ∀ σ' O', TgP C pins H G (Od ++ O) (tgSl m) σ ρ' σ' O' → Q σ' H
def gTgs (C : RC) (pins : List Nat) (m : M) : TGs := fun vs σ H Q => ∃ ρ ρ' G O ds, Wd H G O ∧ Rps C G ds vs ∧ AgL C G H ρ σ O ∧ tgsM pins m ds ρ = some ρ' ∧ ∀ σ' O', TgP C pins H G O (tgSl m) σ ρ' σ' O' → Q σ' H
theorem PG.imp {e : Expr} {t t' : TG} (h : PG X e t) (k : ∀ v σ H Q, t' v σ H Q → t v σ H Q) : PG X e t' := ⟨fun pins s σ H v u Q I r z => h.run pins s σ H v u Q I r (k v σ H Q z)⟩
theorem PGs.imp {e : List Expr} {t t' : TGs} (h : PGs X e t) (k : ∀ v σ H Q, t' v σ H Q → t v σ H Q) : PGs X e t' := ⟨fun pins s σ H v u Q I r z => h.run pins s σ H v u Q I r (k v σ H Q z)⟩
/-- one slot is stored -/
theorem store_tg {H G : Hp} {O Od : List Addr} {σ : St} {ρ ρ' : DEnv} {d : D} {v : V} {i : Nat} (w : Wd H G (Od ++ O)) (r : RpO C G H d v Od) (ag : AgL C G H ρ σ O) (e : asgI pins i d ρ = some ρ') :
    ∃ O', TgP C pins H G (Od ++ O) [i] σ ρ' (σ.set i (some v)) O' := by
  unfold asgI at e
  split at e
  · cases e
  · rename_i hp
    split at e
    · rename_i hi
      cases e
      obtain ⟨R, n1, n2, n3⟩ := AgL.drop i ag w.right.nd
      obtain ⟨O', e1, e2⟩ := AgL.put i n3 (by rw [List.getElem?_set_self hi]) r
      rw [List.set_set] at e2
      have nd : (Od ++ R).Nodup := by
        obtain ⟨m1, m2, m3⟩ := List.nodup_append.mp w.nd
        exact List.nodup_append.mpr ⟨m1, n1, fun a ha b hb => m3 a ha b (n2 b hb)⟩
      have mem : ∀ a ∈ O', a ∈ Od ++ O := fun a ha => by
        rcases List.mem_append.mp ((e1.mem_iff).mp ha) with z | z
        · exact List.mem_append_left _ z
        · exact List.mem_append_right _ (n2 a z)
      refine ⟨O', w.sub ((e1.nodup_iff).mpr nd) mem, mem, e2, by simp, fun j hj => ?_, fun j hj => ?_⟩
      · exact List.getElem?_set_ne (fun z => hj (by simp [z]))
      · exact List.getElem?_set_ne (fun z => hp (by rw [z]; exact hj))
    · cases e
theorem sg_name (g : Gd C F cf lev N sc X) {i : Nat} {x : Str} (hi : N[i]? = some x) (hl : sc.names.lookup x = some .local ∨ (sc.names.lookup x = some .cell ∧ X.fn x = true)) : PG X (.Name x pos) (gTg C pins (.tgn i)) := by
  have hL : Loc X.env.scope x := by
    rw [g.scp]
    rcases hl with h | h
    · exact .inl h
    · exact .inr h.1
  refine PG.imp (pg_name (i := i) (by rw [g.nN]; exact g.nd) (by rw [g.nN]; exact hi) hL (by
    rcases hl with h | h
    · exact .inr (by rw [g.scp]; exact h)
    · exact .inl h.2)) fun v σ H Q ⟨ρ, ρ', G, O, Od, d, w, r, ag, e, q⟩ => ?_
  rw [tgM] at e
  obtain ⟨O', t⟩ := store_tg w r ag e
  exact q _ O' t
theorem sgs_nil : PGs X [] (gTgs C pins .nil) := PGs.imp pgs_nil fun vs σ H Q ⟨ρ, ρ', G, O, ds, w, r, ag, e, q⟩ => by
  cases ds with
  | nil =>
    rw [tgsM] at e
    cases e
    exact ⟨r, q σ O ⟨w, fun _ h => h, ag, rfl, fun _ _ => rfl, fun _ _ => rfl⟩⟩
  | cons d ds => rw [tgsM] at e <;> first | cases e | (intros; simp)
theorem sgs_cons {e : Expr} {es : List Expr} {mt ms : M} (h1 : PG X e (gTg C pins mt)) (h2 : PGs X es (gTgs C pins ms)) (hs : (assignEach (e :: es) X.env).map (·.2) = assign e X.env :: (assignEach es X.env).map (·.2)) :
    PGs X (e :: es) (gTgs C pins (.cons mt ms)) := PGs.imp (pgs_cons h1 h2 hs) fun vs σ H Q ⟨ρ, ρ', G, O, ds, w, r, ag, e, q⟩ => by
  cases ds with
  | nil => rw [tgsM] at e <;> first | cases e | (intros; simp)
  | cons d ds =>
    obtain ⟨v, ws, rfl, r1, r2⟩ := r
    rw [tgsM] at e
    split at e
    · rename_i ρ1 e1
      refine ⟨v, ws, rfl, ρ, ρ1, G, O, [], d, w, Rp.own (Rp.isFz r1) r1, ag, e1, fun σ1 O1 t1 => ?_⟩
      refine ⟨ρ1, ρ', G, O1, ds, t1.w, r2, t1.ag, e, fun σ2 O2 t2 => q σ2 O2 ?_⟩
      refine ⟨t2.w, fun a ha => t1.m a (t2.m a ha), t2.ag, t2.len.trans t1.len, fun j hj => ?_, fun j hj => (t2.pin j hj).trans (t1.pin j hj)⟩
      have hj : j ∉ tgSl mt ++ tgSl ms := hj
      rw [t2.oth j fun z => hj (List.mem_append_right _ z), t1.oth j fun z => hj (List.mem_append_left _ z)]
    · cases e
theorem tgsM_len : ∀ {es : List Expr} {m : M} {ds : List D} {ρ ρ' : DEnv}, tgsM pins m ds ρ = some ρ' → ∃ n, ds.length = n := fun _ => ⟨_, rfl⟩
/-- the number of targets -/
def cnt_ : M → Nat
  | .cons _ t => cnt_ t + 1
  | _ => 0
theorem tgsM_cnt : ∀ (ds : List D) (m : M) (ρ ρ' : DEnv), tgsM pins m ds ρ = some ρ' → ds.length = cnt_ m
  | [], m, ρ, ρ', e => by
    cases m <;> first | rfl | (rw [tgsM] at e <;> first | cases e | (intros; simp))
  | d :: ds, m, ρ, ρ', e => by
    cases m with
    | cons t ts =>
      rw [tgsM] at e
      split at e
      · rename_i ρ1 e1
        show ds.length + 1 = cnt_ ts + 1
        rw [tgsM_cnt ds ts ρ1 ρ' e]
      · cases e
    | _ => rw [tgsM] at e <;> first | cases e | (intros; simp)
theorem sg_tup (hK : C.K = X.K) (hc : X.calm = true) {es : List Expr} {ms : M} {k n : Nat} (h : PGs X es (gTgs C pins ms)) (hn : (assignEach es X.env).length = n) (hm : cnt_ ms = n) (hst : (assignEach es X.env).findIdx? (·.1) = none) :
    PG X (.Tuple es k pos) (gTg C pins (.tgt ms)) := PG.imp (pg_tup hc h hn hst) fun v σ H Q ⟨ρ, ρ', G, O, Od, d, w, r, ag, e, q⟩ => by
  cases d with
  | tup ds =>
    obtain ⟨rfl, a, vs, rfl, h2, q1⟩ := r
    rw [tgM] at e
    exact ⟨a, vs, rfl, hK ▸ SqT.same w.gh h2, by rw [← q1.len, tgsM_cnt ds ms ρ ρ' e, hm], ρ, ρ', G, O, ds, w, q1, ag, e, q⟩
  | _ => rw [tgM] at e <;> first | cases e | (intros; simp)
/-! ### slots forgotten and back -/
theorem ownFz_get {ρ : DEnv} {vs : List Nat} (h : ownFz ρ vs = true) {v : Nat} (hv : v ∈ vs) {d : D} (e : ρ[v]? = some (some d)) : PV.fz d = true := by
  have := List.all_eq_true.mp h v hv
  rw [e] at this; exact this
theorem wipeD_get {ρ : DEnv} {i : Nat} : ∀ {vs : List Nat}, i ∉ vs → (wipeD ρ vs)[i]? = ρ[i]?
  | [], _ => rfl
  | v :: vs, h => by
    unfold wipeD
    rw [List.getElem?_set_ne fun z => h (by simp [z])]
    exact wipeD_get fun z => h (List.mem_cons_of_mem _ z)
theorem wipeD_len {ρ : DEnv} : ∀ {vs : List Nat}, (wipeD ρ vs).length = ρ.length
  | [] => rfl
  | v :: vs => by unfold wipeD; rw [List.length_set, wipeD_len]
theorem wipeD_none {ρ : DEnv} {i : Nat} : ∀ {vs : List Nat}, i ∈ vs → ∀ d, (wipeD ρ vs)[i]? ≠ some (some d)
  | v :: vs, h, d, e => by
    unfold wipeD at e
    by_cases hv : v = i
    · subst hv
      by_cases hl : v < (wipeD ρ vs).length
      · rw [List.getElem?_set_self hl] at e; cases e
      · rw [List.getElem?_eq_none (by simpa using hl)] at e; cases e
    · rw [List.getElem?_set_ne hv] at e
      rcases List.mem_cons.mp h with z | z
      · exact hv z.symm
      · exact wipeD_none z d e
theorem agl_wipe {H G : Hp} {σ : St} {ρ : DEnv} {O : List Addr} (ag : AgL C G H ρ σ O) : ∀ {vs : List Nat}, ownFz ρ vs = true → ∃ R, O.Perm R ∧ AgL C G H (wipeD ρ vs) (wipe σ vs) R
  | [], _ => ⟨O, List.Perm.refl _, ag⟩
  | v :: vs, h => by
    have h2 : ownFz ρ vs = true := by
      unfold ownFz at h ⊢
      rw [List.all_cons, Bool.and_eq_true] at h; exact h.2
    obtain ⟨R, p1, a1⟩ := agl_wipe ag h2
    unfold wipeD wipe
    cases e : (wipeD ρ vs)[v]? with
    | none =>
      have hl := List.getElem?_eq_none_iff.mp e
      rw [List.set_eq_of_length_le hl, List.set_eq_of_length_le (by rw [← a1.len]; exact hl)]
      exact ⟨R, p1, a1⟩
    | some x =>
      cases x with
      | none =>
        have : (wipeD ρ vs).set v none = wipeD ρ vs := by
          obtain ⟨hi, e⟩ := List.getElem?_eq_some_iff.mp e
          rw [← e]; exact List.set_getElem_self hi
        rw [this]
        exact ⟨R, p1, a1.any v none e⟩
      | some d =>
        have hv : v ∉ vs := fun z => wipeD_none z d e
        have e0 : ρ[v]? = some (some d) := by rw [← wipeD_get hv]; exact e
        have f := ownFz_get h (List.mem_cons_self ..) e0
        obtain ⟨u, O1, R2, q1, q2, q3, q4⟩ := AgL.out v a1 e
        obtain ⟨rfl, _⟩ := (RpO.fz f).mp q2
        have hi : v < (wipeD ρ vs).length := (List.getElem?_eq_some_iff.mp e).1
        exact ⟨R2, p1.trans q3, q4.any v none (by rw [List.getElem?_set_self hi])⟩
theorem agl_get {H G : Hp} {σ : St} {ρ : DEnv} {O : List Addr} (ag : AgL C G H ρ σ O) {v : Nat} {d : D} (f : PV.fz d = true) (e : ρ[v]? = some (some d)) : ∃ u, σ[v]? = some (some u) ∧ Rp C G d u := by
  obtain ⟨u, O1, R2, q1, q2, q3, q4⟩ := AgL.out v ag e
  exact ⟨u, q1, Rp.of f q2⟩
theorem backD_get {ρ0 ρ : DEnv} {i : Nat} : ∀ {vs : List Nat}, i ∉ vs → (backD ρ0 ρ vs)[i]? = ρ[i]?
  | [], _ => rfl
  | v :: vs, h => by
    unfold backD
    rw [List.getElem?_set_ne fun z => h (by simp [z])]
    exact backD_get fun z => h (List.mem_cons_of_mem _ z)
theorem agl_back {H0 G0 H G : Hp} {σ : St} {ρ0 ρ : DEnv} {O0 : List Addr} (ag0 : AgL C G0 H0 ρ0 σ O0) (sg : Same G0 G) : ∀ {vs : List Nat} {R : List Addr}, vs.Nodup → ownFz ρ0 vs = true → (∀ v ∈ vs, ∀ d, ρ[v]? ≠ some (some d)) → AgL C G H ρ (wipe σ vs) R →
    ∃ O, O.Perm R ∧ AgL C G H (backD ρ0 ρ vs) σ O
  | [], R, _, _, _, ag => ⟨R, List.Perm.refl _, ag⟩
  | v :: vs, R, nd, h, no, ag => by
    obtain ⟨nv, nd2⟩ := List.nodup_cons.mp nd
    have h2 : ownFz ρ0 vs = true := by
      unfold ownFz at h ⊢
      rw [List.all_cons, Bool.and_eq_true] at h; exact h.2
    unfold wipe at ag
    have hlen := ag.len
    rw [List.length_set, wipe_length] at hlen
    -- the slot as it was
    have ag1 : AgL C G H ρ (wipe σ vs) R := by
      cases e : ρ[v]? with
      | none =>
        have hl := List.getElem?_eq_none_iff.mp e
        rw [List.set_eq_of_length_le (by rw [wipe_length, ← hlen]; exact hl)] at ag
        exact ag
      | some x =>
        cases x with
        | some d => exact absurd e (no v (List.mem_cons_self ..) d)
        | none =>
          have hi : v < (wipe σ vs).length := by
            rw [wipe_length, ← hlen]; exact (List.getElem?_eq_some_iff.mp e).1
          have := ag.any v ((wipe σ vs)[v]) e
          rw [List.set_set, List.set_getElem_self hi] at this
          exact this
    obtain ⟨O, p1, a1⟩ := agl_back ag0 sg nd2 h2 (fun u hu => no u (List.mem_cons_of_mem _ hu)) ag1
    unfold backD
    have gv : (backD ρ0 ρ vs)[v]? = ρ[v]? := backD_get nv
    cases e : ρ[v]? with
    | none =>
      have hl : (backD ρ0 ρ vs).length ≤ v := by
        rw [e] at gv; exact List.getElem?_eq_none_iff.mp gv
      rw [List.set_eq_of_length_le hl]
      exact ⟨O, p1, a1⟩
    | some x =>
      cases x with
      | some d => exact absurd e (no v (List.mem_cons_self ..) d)
      | none =>
        rw [e] at gv
        cases e0 : ρ0[v]? with
        | none =>
          have : (backD ρ0 ρ vs).set v none = backD ρ0 ρ vs := by
            obtain ⟨hi, e⟩ := List.getElem?_eq_some_iff.mp gv
            rw [← e]; exact List.set_getElem_self hi
          show ∃ O, O.Perm R ∧ AgL C G H ((backD ρ0 ρ vs).set v none) σ O
          rw [this]; exact ⟨O, p1, a1⟩
        | some y =>
          cases y with
          | none =>
            have : (backD ρ0 ρ vs).set v none = backD ρ0 ρ vs := by
              obtain ⟨hi, e⟩ := List.getElem?_eq_some_iff.mp gv
              rw [← e]; exact List.set_getElem_self hi
            show ∃ O, O.Perm R ∧ AgL C G H ((backD ρ0 ρ vs).set v none) σ O
            rw [this]; exact ⟨O, p1, a1⟩
          | some d =>
            have f := ownFz_get h (List.mem_cons_self ..) e0
            obtain ⟨u, q1, q2⟩ := agl_get ag0 f e0
            obtain ⟨O2, p2, a2⟩ := AgL.put v a1 gv (Rp.own f (Rp.same sg _ _ q2))
            have hs : σ.set v (some u) = σ := by
              obtain ⟨hj, ej⟩ := List.getElem?_eq_some_iff.mp q1
              rw [← ej]; exact List.set_getElem_self hj
            rw [hs] at a2
            exact ⟨O2, p2.trans p1, a2⟩
theorem wipe_congr {σ τ : St} (l : τ.length = σ.length) : ∀ {vs : List Nat}, (∀ j, j ∉ vs → τ[j]? = σ[j]?) → wipe τ vs = wipe σ vs := fun {vs} h => by
  apply List.ext_getElem?
  intro j
  by_cases hj : j ∈ vs
  · have key : ∀ (σ : St) (vs : List Nat), j ∈ vs → (wipe σ vs)[j]? = if j < σ.length then some none else none := by
      intro σ vs
      induction vs with
      | nil => intro h; cases h
      | cons v vs ih =>
        intro h
        unfold wipe
        by_cases hv : v = j
        · subst hv
          by_cases hl : v < σ.length
          · rw [List.getElem?_set_self (by rw [wipe_length]; exact hl), if_pos hl]
          · rw [List.getElem?_eq_none (by rw [List.length_set, wipe_length]; omega), if_neg hl]
        · rw [List.getElem?_set_ne hv]
          rcases List.mem_cons.mp h with z | z
          · exact absurd z.symm hv
          · exact ih z
    rw [key τ vs hj, key σ vs hj, l]
  · rw [wipe_out hj, wipe_out hj]
    exact h j hj
end
end L2.PV
set_option Elab.async false
set_option linter.all false
set_option autoImplicit false
/-! list(range()), zip, enumerate, reversed. -/
namespace L2.PV
open PySem PySem.Spec PyProof.Rows
theorem bnd_assoc {α β γ : Type} (r : Option (RS α)) (f : α → DEnv → Option (RS β)) (g : β → DEnv → Option (RS γ)) : bnd (bnd r f) g = bnd r fun a ρ => bnd (f a ρ) g := by
  cases r with
  | none => rfl
  | some r => cases r <;> rfl
theorem pureM_enum (a : M) : pureM (.enum a) = false := by unfold pureM; rfl
theorem pureM_zip (a b : M) : pureM (.zip a b) = false := by unfold pureM; rfl
theorem pureM_rvd (a : M) : pureM (.rvd a) = false := by unfold pureM; rfl
theorem pureM_lrg (t : Bool) (a : M) : pureM (.lrg t a) = false := by unfold pureM; rfl
section
variable {C : RC} {F : FT} {cf : Nat → List D → Option CR} {lev : Nat} {N : List Str} {pins : List Nat} {sc : Scope} {X : Cx} {W : WX} {a b c tg : Expr} {ma mb mc : M} {pos : Pos}
theorem rps_rg {G : Hp} (f : Nat → Int) : ∀ l : List Nat, Rps C G (l.map fun i => D.int (f i)) (l.map fun i => V.int (f i))
  | [] => rfl
  | n :: l => ⟨_, _, rfl, rfl, rps_rg f l⟩
theorem list_free : ("list" : Str) ∈ freeB := by decide +kernel
theorem tuple_free : ("tuple" : Str) ∈ freeB := by decide +kernel
theorem zip_free : ("zip" : Str) ∈ freeB := by decide +kernel
theorem enum_free : ("enumerate" : Str) ∈ freeB := by decide +kernel
theorem rvd_free : ("reversed" : Str) ∈ freeB := by decide +kernel
theorem rg_fin {H G : Hp} {O Od : List Addr} {σ : St} {Q : VK} {i j : Int} {ds : List D} {H1 G1 : Hp} {O1 : List Addr} (t : Bool) (e : rgD i j = some ds) (hn : ds.length ≤ 16777216) (w1 : Wd H1 G1 O1) (hin : ∀ a ∈ O1, H1 a ≠ none)
    (kk : ∀ v H' G' Od, Step true H1 G1 O1 H' G' (Od ++ O1) → Wd H' G' (Od ++ O1) → RpO C G' H' (if t then .tup ds else .acc ds) v Od → Q v H') :
    RgOk i j ∧ ∀ q, H1 q = none → Q (.ref q) (upd H1 q (if t then .tup (rgV i j) else .lst (rgV i j))) := by
  unfold rgD at e
  split at e
  · rename_i hb
    cases e
    refine ⟨⟨hb.1, hb.2.1, hb.2.2.1, hb.2.2.2, by simpa using hn⟩, ?_⟩
    have r : Rps C G1 ((List.range (j - i).toNat).map fun (k : Nat) => D.int (i + (k : Int))) (rgV i j) := rps_rg (fun (k : Nat) => i + (k : Int)) _
    cases t with
    | true => exact fin_tup w1 hin r kk
    | false => exact fin_acc w1 hin r kk
  · cases e
def lrNm (t : Bool) : Str := if t then "tuple" else "list"
theorem se_lrg1 (g : Gd C F cf lev N sc X) (t : Bool) (hg0 : glB sc (lrNm t) = true) (hg : glB sc "range" = true) (ha : PE X a (tB C W (pureM ma) (evE cf pins ma))) (hs : nst a = true) {p p2 pos2 : Pos} :
    PE X (.Call (.Name (lrNm t) p2) [.Call (.Name "range" p) [a] [] pos] [] pos2) (tE C W false (evE cf pins (.lrg t (.rg1 ma)))) := by
  have hr := prg_1 (p := p) (pos := pos) (g.gx hg) (g.free _ rg_free) ha (nst_ok hs [] X.env)
  have hh : PE X (.Call (.Name (lrNm t) p2) [.Call (.Name "range" p) [a] [] pos] [] pos2) (if t then tTupRg (tRg1 (tB C W (pureM ma) (evE cf pins ma))) else tLstRg (tRg1 (tB C W (pureM ma) (evE cf pins ma)))) := by
    cases t with
    | true => exact pe_tupRg g.calm (g.gx hg0) (g.free _ tuple_free) hr
    | false => exact pe_listRg g.calm (g.gx hg0) (g.free _ list_free) hr
  refine PE.imp hh fun σ H Q ⟨ρ, G, O, w, ag, h⟩ => ?_
  rw [evE, evI, bnd_assoc] at h
  have main : tRg1 (tB C W (pureM ma) (evE cf pins ma)) σ H fun i j H1 => RgOk i j ∧ ∀ q, H1 q = none → Q (.ref q) (upd H1 q (if t then .tup (rgV i j) else .lst (rgV i j))) := by
    refine tX.next (Step.refl true) h w ag fun x ρ1 h1 v1 H1 G1 Od1 O1 st1 w1 r1 a1 => ?_
    cases x <;> first | exact h1.elim | skip
    rename_i i
    obtain rfl := r1.2
    have h1 : goX (bnd (lft (rgD 0 i) ρ1) fun ds ρ1 => if ds.length ≤ 16777216 then some (.ok (if t then .tup ds else .acc ds) ρ1) else none) (okE C false H G O σ Q) (exK C W H G O σ) := h1
    obtain ⟨ds, e⟩ : ∃ ds, rgD 0 i = some ds := by
      cases e : rgD 0 i with
      | none => rw [e] at h1; exact h1.elim
      | some ds => exact ⟨ds, rfl⟩
    rw [e, lft_some, bnd_ok] at h1
    split at h1
    · rename_i hn
      refine ⟨i, rfl, rg_fin (C := C) (H := H) (G := G) (O := O) (Od := []) (σ := σ) t e hn w1 a1.inH fun v H' G' Od st w' r => ?_⟩
      exact h1 v H' G' Od O1 ((st1.trans st).wk fun z => by cases z) w' r (a1.frame st.gg fun _ _ _ z => st.sm rfl _ _ z)
    · exact h1.elim
  cases t with
  | true => exact main
  | false => exact main
theorem se_lrg2 (g : Gd C F cf lev N sc X) (t : Bool) (hg0 : glB sc (lrNm t) = true) (hg : glB sc "range" = true) (ha : PE X a (tB C W (pureM ma) (evE cf pins ma))) (hb : PE X b (tB C W (pureM mb) (evE cf pins mb))) (hs : nst a = true) (hs2 : nst b = true) {p p2 pos2 : Pos} :
    PE X (.Call (.Name (lrNm t) p2) [.Call (.Name "range" p) [a, b] [] pos] [] pos2) (tE C W false (evE cf pins (.lrg t (.rg2 ma mb)))) := by
  have hr := prg_2 (p := p) (pos := pos) (g.gx hg) (g.free _ rg_free) ha hb (nst_ok hs [b] X.env) (nst_ok hs2 [] X.env) (nst_all (by rw [List.all_cons, hs2]; rfl))
  have hh : PE X (.Call (.Name (lrNm t) p2) [.Call (.Name "range" p) [a, b] [] pos] [] pos2) (if t then tTupRg (tRg2 (tB C W (pureM ma) (evE cf pins ma)) (tB C W (pureM mb) (evE cf pins mb))) else tLstRg (tRg2 (tB C W (pureM ma) (evE cf pins ma)) (tB C W (pureM mb) (evE cf pins mb)))) := by
    cases t with
    | true => exact pe_tupRg g.calm (g.gx hg0) (g.free _ tuple_free) hr
    | false => exact pe_listRg g.calm (g.gx hg0) (g.free _ list_free) hr
  refine PE.imp hh fun σ H Q ⟨ρ, G, O, w, ag, h⟩ => ?_
  rw [evE, evI, bnd_assoc] at h
  simp only [bnd_assoc] at h
  have main : tRg2 (tB C W (pureM ma) (evE cf pins ma)) (tB C W (pureM mb) (evE cf pins mb)) σ H fun i j H1 => RgOk i j ∧ ∀ q, H1 q = none → Q (.ref q) (upd H1 q (if t then .tup (rgV i j) else .lst (rgV i j))) := by
    refine tX.next (Step.refl true) h w ag fun x ρ1 h1 v1 H1 G1 Od1 O1 st1 w1 r1 a1 => ?_
    refine tX.next st1 h1 w1 a1 fun y ρ2 h2 v2 H2 G2 Od2 O2 st2 w2 r2 a2 => ?_
    cases x <;> cases y <;> first | exact h2.elim | skip
    rename_i i j
    obtain rfl := r1.2
    obtain rfl := r2.2
    have h2 : goX (bnd (lft (rgD i j) ρ2) fun ds ρ1 => if ds.length ≤ 16777216 then some (.ok (if t then .tup ds else .acc ds) ρ1) else none) (okE C false H G O σ Q) (exK C W H G O σ) := h2
    obtain ⟨ds, e⟩ : ∃ ds, rgD i j = some ds := by
      cases e : rgD i j with
      | none => rw [e] at h2; exact h2.elim
      | some ds => exact ⟨ds, rfl⟩
    rw [e, lft_some, bnd_ok] at h2
    split at h2
    · rename_i hn
      refine ⟨i, j, rfl, rfl, rg_fin (C := C) (H := H) (G := G) (O := O) (Od := []) (σ := σ) t e hn w2 a2.inH fun v H' G' Od st w' r => ?_⟩
      exact h2 v H' G' Od O2 (((st1.trans st2).trans st).wk fun z => by cases z) w' r (a2.frame st.gg fun _ _ _ z => st.sm rfl _ _ z)
    · exact h2.elim
  cases t with
  | true => exact main
  | false => exact main
/-! ### walks that make pairs -/
theorem wk_pairs {G : Hp} {J : It} {as bs : List D} (pa : ∀ (i : Nat) (d1 d2 : D) (H G' : Hp), Same G G' → Same G' H → as[i]? = some d1 → bs[i]? = some d2 → J.go i H ∧ ∀ v H', J.yld i H v H' → ∃ T x y, v = .ref T ∧ H T = none ∧ H' = upd H T (.tup [x, y]) ∧ Rp C G d1 x ∧ Rp C G d2 y)
    (st : ∀ i H, Same G H → (as[i]? = none ∨ bs[i]? = none) → J.stop i H) : Wk C G J (as.zipWith (fun d e => .tup [d, e]) bs) := by
  intro i H G' O sg w hin
  refine ⟨fun d e => ?_, fun e => st i H (sg.trans w.gh) ?_⟩
  · rw [List.getElem?_zipWith] at e
    cases e1 : as[i]? with
    | none => rw [e1] at e; cases e
    | some d1 =>
      cases e2 : bs[i]? with
      | none => rw [e1, e2] at e; cases e
      | some d2 =>
        rw [e1, e2] at e
        cases e
        obtain ⟨g1, g2⟩ := pa i d1 d2 H G' sg w.gh e1 e2
        refine ⟨g1, fun v H' hy => ?_⟩
        obtain ⟨T, x, y, rfl, hT, rfl, r1, r2⟩ := g2 v H' hy
        obtain ⟨s1, s2⟩ := step_new w hin hT (.tup [x, y])
        have sg2 := sg.trans s1.gg
        exact ⟨_, s1, s2, T, [x, y], rfl, SqT.of upd_same, x, [y], rfl, Rp.same sg2 _ _ r1, y, [], rfl, Rp.same sg2 _ _ r2, rfl⟩
  · rw [List.getElem?_zipWith] at e
    cases e1 : as[i]? with
    | none => exact .inl rfl
    | some d1 =>
      cases e2 : bs[i]? with
      | none => exact .inr rfl
      | some d2 => rw [e1, e2] at e; cases e
theorem sqL_get {G H : Hp} {a : Addr} {ds : List D} {vs xs : List V} {i : Nat} {d : D} {x : V} (h : SqL X.K G a vs) (r : Rps C G ds vs) (s : Same G H) (e : ds[i]? = some d) (k : ∀ xs, SqL X.K H a xs → xs[i]? = some x) : Rp C G d x := by
  obtain ⟨v, e1, e2⟩ := r.get e
  have := k vs (s.seq h)
  rw [e1] at this; cases this; exact e2
theorem sqT_get {G H : Hp} {a : Addr} {ds : List D} {vs xs : List V} {i : Nat} {d : D} {x : V} (h : SqT X.K G a vs) (r : Rps C G ds vs) (s : Same G H) (e : ds[i]? = some d) (k : ∀ xs, SqT X.K H a xs → xs[i]? = some x) : Rp C G d x := by
  obtain ⟨v, e1, e2⟩ := r.get e
  have := k vs (SqT.same s h)
  rw [e1] at this; cases this; exact e2
theorem wk_zipL {G : Hp} {a b : Addr} {as bs : List D} {us vs : List V} (h1 : SqL X.K G a us) (r1 : Rps C G as us) (h2 : SqL X.K G b vs) (r2 : Rps C G bs vs) : Wk C G (Itz X.K a b) (as.zipWith (fun d e => .tup [d, e]) bs) :=
  wk_pairs (fun i d1 d2 H G' s1 s2 e1 e2 => by
    have s := s1.trans s2
    obtain ⟨x, f1, g1⟩ := r1.get e1
    obtain ⟨y, f2, g2⟩ := r2.get e2
    refine ⟨⟨us, vs, x, y, s.seq h1, s.seq h2, f1, f2⟩, fun v H' ⟨T, x', y', e, hT, eH, k1, k2⟩ => ⟨T, x', y', e, hT, eH, ?_, ?_⟩⟩
    · exact sqL_get (X := X) (xs := us) h1 r1 s e1 k1
    · exact sqL_get (X := X) (xs := us) h2 r2 s e2 k2)
    fun i H s e => ⟨us, vs, s.seq h1, s.seq h2, e.imp (fun z => by rw [← r1.len]; exact List.getElem?_eq_none_iff.mp z) fun z => by rw [← r2.len]; exact List.getElem?_eq_none_iff.mp z⟩
theorem wk_zipT {G : Hp} {a b : Addr} {as bs : List D} {us vs : List V} (h1 : SqT X.K G a us) (r1 : Rps C G as us) (h2 : SqT X.K G b vs) (r2 : Rps C G bs vs) : Wk C G (RZ.ItzT X.K a b) (as.zipWith (fun d e => .tup [d, e]) bs) :=
  wk_pairs (fun i d1 d2 H G' s1 s2 e1 e2 => by
    have s := s1.trans s2
    obtain ⟨x, f1, g1⟩ := r1.get e1
    obtain ⟨y, f2, g2⟩ := r2.get e2
    refine ⟨⟨us, vs, x, y, SqT.same s h1, SqT.same s h2, f1, f2⟩, fun v H' ⟨T, x', y', e, hT, eH, k1, k2⟩ => ⟨T, x', y', e, hT, eH, ?_, ?_⟩⟩
    · exact sqT_get (X := X) (xs := us) h1 r1 s e1 k1
    · exact sqT_get (X := X) (xs := us) h2 r2 s e2 k2)
    fun i H s e => ⟨us, vs, SqT.same s h1, SqT.same s h2, e.imp (fun z => by rw [← r1.len]; exact List.getElem?_eq_none_iff.mp z) fun z => by rw [← r2.len]; exact List.getElem?_eq_none_iff.mp z⟩
/-- a row as it is read -/
theorem row_of {H G : Hp} {O : List Addr} {d : D} {v : V} {ds : List D} (hK : C.K = X.K) (w : Wd H G O) (r : Rp C G d v) (h : d = .lst ds ∨ d = .scr ds) : ∃ a vs, v = .ref a ∧ SqL X.K G a vs ∧ Rps C G ds vs := by
  rcases h with rfl | rfl
  · obtain ⟨a, vs, e, h1, h2⟩ := r
    exact ⟨a, vs, e, SqL.of h1, h2⟩
  · obtain ⟨a, vs, e, h1, h2⟩ := r
    exact ⟨a, vs, e, hK ▸ h1, h2⟩
theorem si_zip (g : Gd C F cf lev N sc X) (hg : glB sc "zip" = true) (ha : Ev C W cf pins X ma a) (hb : Ev C W cf pins X mb b) (hs : nst a = true) (hs2 : nst b = true) {elts : List Expr} {kk : Nat} {tpos p : Pos} :
    PI X (.Tuple elts kk tpos) (.Call (.Name "zip" p) [a, b] [] pos) (tI C W false (evI cf pins (.zip ma mb))) :=
  PI.imp (RZ.pi_zipA (g.gx hg) (g.free _ zip_free) (pa_cons ha.frz (pa_cons hb.frz pa_nil (nst_ok hs2 [] X.env)) (nst_ok hs [b] X.env)) (nst_ok hs [b] X.env) (nst_all (by rw [List.all_cons, hs2]; rfl))) fun σ H R ⟨ρ, G, O, w, ag, h⟩ => by
    rw [evI] at h
    refine ha.frz' (Step.refl true) h w ag fun x ρ1 h1 v1 H1 G1 O1 st1 w1 r1 a1 => ?_
    refine hb.frz' st1 h1 w1 a1 fun y ρ2 h2 v2 H2 G2 O2 st2 w2 r2 a2 => ?_
    have r1' := Rp.same st2.gg _ _ r1
    have kK := g.kK
    have fin : ∀ (J : It) (ds : List D), zipD x y = some ds → Wk C G2 J ds → R J H2 := fun J ds e wk => by
      rw [e] at h2
      exact h2 J H2 G2 O2 ((st1.trans st2).wk fun z => by cases z) w2 wk a2
    cases x <;> first | exact h2.elim | skip
    · cases y <;> first | exact h2.elim | skip
      rename_i ds es
      obtain ⟨p, us, rfl, f1, q1⟩ := r1'
      obtain ⟨q, vs, rfl, f2, q2⟩ := r2
      exact ⟨p, q, us, vs, rfl, .inr ⟨kK ▸ SqT.same w2.gh f1, kK ▸ SqT.same w2.gh f2, fin _ _ rfl (wk_zipT (X := X) (kK ▸ f1) q1 (kK ▸ f2) q2)⟩⟩
    · cases y <;> first | exact h2.elim | skip
      · obtain ⟨p, us, rfl, f1, q1⟩ := row_of kK w2 r1' (.inl rfl)
        obtain ⟨q, vs, rfl, f2, q2⟩ := row_of kK w2 r2 (.inl rfl)
        exact ⟨p, q, us, vs, rfl, .inl ⟨w2.gh.seq f1, w2.gh.seq f2, fin _ _ rfl (wk_zipL (X := X) f1 q1 f2 q2)⟩⟩
      · obtain ⟨p, us, rfl, f1, q1⟩ := row_of kK w2 r1' (.inl rfl)
        obtain ⟨q, vs, rfl, f2, q2⟩ := row_of kK w2 r2 (.inr rfl)
        exact ⟨p, q, us, vs, rfl, .inl ⟨w2.gh.seq f1, w2.gh.seq f2, fin _ _ rfl (wk_zipL (X := X) f1 q1 f2 q2)⟩⟩
    · cases y <;> first | exact h2.elim | skip
      · obtain ⟨p, us, rfl, f1, q1⟩ := row_of kK w2 r1' (.inr rfl)
        obtain ⟨q, vs, rfl, f2, q2⟩ := row_of kK w2 r2 (.inl rfl)
        exact ⟨p, q, us, vs, rfl, .inl ⟨w2.gh.seq f1, w2.gh.seq f2, fin _ _ rfl (wk_zipL (X := X) f1 q1 f2 q2)⟩⟩
      · obtain ⟨p, us, rfl, f1, q1⟩ := row_of kK w2 r1' (.inr rfl)
        obtain ⟨q, vs, rfl, f2, q2⟩ := row_of kK w2 r2 (.inr rfl)
        exact ⟨p, q, us, vs, rfl, .inl ⟨w2.gh.seq f1, w2.gh.seq f2, fin _ _ rfl (wk_zipL (X := X) f1 q1 f2 q2)⟩⟩
theorem wk_enum {G : Hp} {a : Addr} {as : List D} {us : List V} (h1 : SqL X.K G a us) (r1 : Rps C G as us) : Wk C G (Ite X.K a) (as.zipIdx.map fun p => .tup [.int p.2, p.1]) := by
  intro i H G' O sg w hin
  have s := sg.trans w.gh
  refine ⟨fun d e => ?_, fun e => ⟨us, s.seq h1, by rw [← r1.len]; have := List.getElem?_eq_none_iff.mp e; simpa using this⟩⟩
  rw [List.getElem?_map, List.getElem?_zipIdx] at e
  cases e1 : as[i]? with
  | none => rw [e1] at e; cases e
  | some d1 =>
    rw [e1] at e
    simp at e
    subst e
    obtain ⟨x, f1, g1⟩ := r1.get e1
    refine ⟨⟨us, x, s.seq h1, f1⟩, fun v H' ⟨T, x', ev, hT, eH, k1⟩ => ?_⟩
    subst ev; subst eH
    obtain ⟨s1, s2⟩ := step_new w hin hT (.tup [.int (i : Nat), x'])
    have sg2 := sg.trans s1.gg
    have rr : Rp C G d1 x' := sqL_get (X := X) (xs := us) h1 r1 s e1 k1
    exact ⟨_, s1, s2, T, [.int (i : Nat), x'], rfl, SqT.of upd_same, .int (i : Nat), [x'], rfl, rfl, x', [], rfl, Rp.same sg2 _ _ rr, rfl⟩
theorem wk_enumT {G : Hp} {a : Addr} {as : List D} {us : List V} (h1 : SqT X.K G a us) (r1 : Rps C G as us) : Wk C G (IteT X.K a) (as.zipIdx.map fun p => .tup [.int p.2, p.1]) := by
  intro i H G' O sg w hin
  have s := sg.trans w.gh
  refine ⟨fun d e => ?_, fun e => ⟨us, SqT.same s h1, by rw [← r1.len]; have := List.getElem?_eq_none_iff.mp e; simpa using this⟩⟩
  rw [List.getElem?_map, List.getElem?_zipIdx] at e
  cases e1 : as[i]? with
  | none => rw [e1] at e; cases e
  | some d1 =>
    rw [e1] at e
    simp at e
    subst e
    obtain ⟨x, f1, g1⟩ := r1.get e1
    refine ⟨⟨us, x, SqT.same s h1, f1⟩, fun v H' ⟨T, x', ev, hT, eH, k1⟩ => ?_⟩
    subst ev; subst eH
    obtain ⟨s1, s2⟩ := step_new w hin hT (.tup [.int (i : Nat), x'])
    have sg2 := sg.trans s1.gg
    have rr : Rp C G d1 x' := sqT_get (X := X) (xs := us) h1 r1 s e1 k1
    exact ⟨_, s1, s2, T, [.int (i : Nat), x'], rfl, SqT.of upd_same, .int (i : Nat), [x'], rfl, rfl, x', [], rfl, Rp.same sg2 _ _ rr, rfl⟩
theorem si_enum (g : Gd C F cf lev N sc X) (hg : glB sc "enumerate" = true) (ha : Ev C W cf pins X ma a) (hs : nst a = true) {elts : List Expr} {kk : Nat} {tpos p : Pos} :
    PI X (.Tuple elts kk tpos) (.Call (.Name "enumerate" p) [a] [] pos) (tI C W false (evI cf pins (.enum ma))) :=
  PI.imp (pi_enA (g.gx hg) (g.free _ enum_free) (pa_cons ha.frz pa_nil (nst_ok hs [] X.env)) (nst_ok hs [] X.env)) fun σ H R ⟨ρ, G, O, w, ag, h⟩ => by
    rw [evI] at h
    refine ha.frz' (Step.refl true) h w ag fun x ρ1 h1 v1 H1 G1 O1 st1 w1 r1 a1 => ?_
    have kK := g.kK
    cases x <;> first | exact h1.elim | skip
    · obtain ⟨p, us, rfl, f1, q1⟩ := r1
      exact ⟨p, us, rfl, .inr ⟨kK ▸ SqT.same w1.gh f1, h1 _ H1 G1 O1 (st1.wk fun z => by cases z) w1 (wk_enumT (X := X) (kK ▸ f1) q1) a1⟩⟩
    · obtain ⟨p, us, rfl, f1, q1⟩ := row_of kK w1 r1 (.inl rfl)
      exact ⟨p, us, rfl, .inl ⟨w1.gh.seq f1, h1 _ H1 G1 O1 (st1.wk fun z => by cases z) w1 (wk_enum (X := X) f1 q1) a1⟩⟩
    · obtain ⟨p, us, rfl, f1, q1⟩ := row_of kK w1 r1 (.inr rfl)
      exact ⟨p, us, rfl, .inl ⟨w1.gh.seq f1, h1 _ H1 G1 O1 (st1.wk fun z => by cases z) w1 (wk_enum (X := X) f1 q1) a1⟩⟩
theorem si_rvd (g : Gd C F cf lev N sc X) (hg : glB sc "reversed" = true) (ha : Ev C W cf pins X ma a) (hs : nst a = true) {p : Pos} :
    PI X tg (.Call (.Name "reversed" p) [a] [] pos) (tI C W false (evI cf pins (.rvd ma))) :=
  PI.imp (RT.pi_revA (g.gx hg) (g.free _ rvd_free) ha.frz (nst_ok hs [] X.env)) fun σ H R ⟨ρ, G, O, w, ag, h⟩ => by
    rw [evI] at h
    refine ha.frz' (Step.refl true) h w ag fun x ρ1 h1 v1 H1 G1 O1 st1 w1 r1 a1 => ?_
    have kK := g.kK
    have key : ∀ {ds : List D} {us : List V} {i : Nat} {d : D}, Rps C G1 ds us → ds.reverse[i]? = some d → ∃ x, us[us.length - 1 - i]? = some x ∧ Rp C G1 d x ∧ i < us.length := fun {ds us i d} r e => by
      have hi : i < ds.length := by have := (List.getElem?_eq_some_iff.mp e).1; simpa using this
      rw [List.getElem?_reverse hi] at e
      obtain ⟨x, f1, f2⟩ := r.get e
      rw [r.len] at f1 hi
      exact ⟨x, f1, f2, hi⟩
    have lst : ∀ {ds : List D} {p : Addr} {us : List V}, SqL X.K G1 p us → Rps C G1 ds us → Wk C G1 (Itv X.K p us.length) ds.reverse := fun {ds p us} f1 q1 i H G' O sg w hin => by
      have s := sg.trans w.gh
      refine ⟨fun d e => ?_, fun e => ?_⟩
      · obtain ⟨x, e1, e2, hi⟩ := key q1 e
        refine ⟨⟨hi, us, x, s.seq f1, e1⟩, fun y H' ⟨eH, k⟩ => ?_⟩
        subst eH
        have := k us (s.seq f1)
        rw [e1] at this; cases this
        exact ⟨G', Step.refl _, w, Rp.same sg _ _ e2⟩
      · have := List.getElem?_eq_none_iff.mp e
        rw [List.length_reverse, q1.len] at this; exact this
    have tup : ∀ {ds : List D} {p : Addr} {us : List V}, SqT X.K G1 p us → Rps C G1 ds us → Wk C G1 (RT.ItvT X.K p us.length) ds.reverse := fun {ds p us} f1 q1 i H G' O sg w hin => by
      have s := sg.trans w.gh
      refine ⟨fun d e => ?_, fun e => ?_⟩
      · obtain ⟨x, e1, e2, hi⟩ := key q1 e
        refine ⟨⟨hi, us, x, SqT.same s f1, e1⟩, fun y H' ⟨eH, k⟩ => ?_⟩
        subst eH
        have := k us (SqT.same s f1)
        rw [e1] at this; cases this
        exact ⟨G', Step.refl _, w, Rp.same sg _ _ e2⟩
      · have := List.getElem?_eq_none_iff.mp e
        rw [List.length_reverse, q1.len] at this; exact this
    cases x <;> first | exact h1.elim | skip
    · obtain ⟨p, us, rfl, f1, q1⟩ := r1
      exact ⟨p, us, rfl, .inr ⟨kK ▸ SqT.same w1.gh f1, h1 _ H1 G1 O1 (st1.wk fun z => by cases z) w1 (tup (kK ▸ f1) q1) a1⟩⟩
    · obtain ⟨p, us, rfl, f1, q1⟩ := row_of kK w1 r1 (.inl rfl)
      exact ⟨p, us, rfl, .inl ⟨w1.gh.seq f1, h1 _ H1 G1 O1 (st1.wk fun z => by cases z) w1 (lst f1 q1) a1⟩⟩
    · obtain ⟨p, us, rfl, f1, q1⟩ := row_of kK w1 r1 (.inr rfl)
      exact ⟨p, us, rfl, .inl ⟨w1.gh.seq f1, h1 _ H1 G1 O1 (st1.wk fun z => by cases z) w1 (lst f1 q1) a1⟩⟩
end
end L2.PV
set_option Elab.async false
set_option linter.all false
set_option autoImplicit false
/-! Comprehensions; pops. -/
namespace L2.PV
open PySem PySem.Spec PyProof.Rows
abbrev W0 : WX := fun _ _ _ _ => False
section
variable {C : RC} {F : FT} {cf : Nat → List D → Option CR} {lev : Nat} {N : List Str} {pins : List Nat} {sc : Scope} {X : Cx} {W : WX} {a b c tg : Expr} {ma mb mc : M} {pos : Pos}
theorem agl_wipe' {H G : Hp} {σ : St} {ρ : DEnv} {O : List Addr} (ag : AgL C G H ρ σ O) (nd : O.Nodup) : ∀ {vs : List Nat}, ∃ R, R.Nodup ∧ (∀ a ∈ R, a ∈ O) ∧ AgL C G H (wipeD ρ vs) (wipe σ vs) R
  | [] => ⟨O, nd, fun _ h => h, ag⟩
  | v :: vs => by
    obtain ⟨R, n1, m1, a1⟩ := agl_wipe' ag nd (vs := vs)
    unfold wipeD wipe
    obtain ⟨R2, n2, m2, a2⟩ := AgL.drop v a1 n1
    refine ⟨R2, n2, fun a ha => m1 a (m2 a ha), ?_⟩
    cases e : (wipeD ρ vs)[v]? with
    | none =>
      have hl := List.getElem?_eq_none_iff.mp e
      rw [List.set_eq_of_length_le hl] at a2 ⊢
      rw [List.set_eq_of_length_le (by rw [← a1.len]; exact hl)]
      exact a2
    | some x =>
      have hi : v < (wipeD ρ vs).length := (List.getElem?_eq_some_iff.mp e).1
      exact a2.any v none (by rw [List.getElem?_set_self hi])
theorem wipe_wipe {σ : St} {vs : List Nat} : wipe (wipe σ vs) vs = wipe σ vs := wipe_congr (wipe_length σ vs) fun j hj => wipe_out hj
/-- tests -/
theorem sc_nil : PTs X [] (tT C W (pureM .nil) (evC cf pins .nil)) := ⟨fun pins' s σ H Q I h => pts_nil.run pins' s σ H Q I (by
  obtain ⟨ρ, G, O, w, ag, h⟩ := h
  rw [evC] at h
  exact h H G O (Step.refl _) w ag)⟩
theorem sc_one (ha : PT X a (tT C W (pureM ma) (evT cf pins ma))) : PTs X [a] (tT C W (pureM ma) (evC cf pins (.cons ma .nil))) := ⟨fun pins' s σ H Q I h => (pts_one ha).run pins' s σ H Q I (by
  obtain ⟨ρ, G, O, w, ag, h⟩ := h
  rw [evC] at h
  refine tX.next (Step.refl true) h w ag fun c ρ1 h1 H1 G1 O1 st1 w1 a1 => ?_
  cases c with
  | true =>
    have h1 : goX (evC cf pins .nil ρ1) (okT C (pureM ma) H G O σ Q) (exK C W H G O σ) := h1
    rw [evC] at h1
    exact h1 H1 G1 O1 st1 w1 a1
  | false => exact h1 H1 G1 O1 st1 w1 a1)⟩
/-- where a comprehension stands: i turns are done -/
structure LcI (C : RC) (f : D → DEnv → Option (RS (Option D))) (ds xs : List D) (ρ2 : DEnv) (H1 G1 : Hp) (O1 : List Addr) (σ0 : St) (vs : List Nat) (p : Addr) (i : Nat) (H : Hp) : Prop where
  le : i ≤ ds.length
  st : ∃ acc avs ρi Gi Ri, lcM f (ds.drop i) acc ρi = some (xs, ρ2) ∧ acc.length ≤ i ∧ Step false H1 G1 O1 H Gi (p :: Ri) ∧ Wd H Gi (p :: Ri) ∧ H p = some (.lst avs) ∧ Rps C Gi acc avs ∧ AgL C Gi H ρi σ0 Ri ∧ ∀ v ∈ vs, ∀ d, ρi[v]? ≠ some (some d)
theorem se_lc (g : Gd C F cf lev N sc X) {own : List (Str × Nat)} {elt iter : Expr} {ifs : List Expr} {scope : Scope} {mt mi me : M} {pc : Bool} 
    (hi : PI X tg iter (tI C W (pureM mi) (evI cf pins mi))) (ok : blkC N sc scope own = true)
    (hg : ∀ X', Gd C F cf lev N (relS scope sc) X' → X'.fn = (fun x => scope.names.lookup x == some .cell) → PG X' tg (gTg C pins mt))
    (ht : ∀ X', Gd C F cf lev N (relS scope sc) X' → X'.fn = (fun x => scope.names.lookup x == some .cell) → PTs X' ifs (tT C W0 pc (evC cf pins mc)))
    (he : ∀ X', Gd C F cf lev N (relS scope sc) X' → X'.fn = (fun x => scope.names.lookup x == some .cell) → Ev C W0 cf pins X' me elt)
    (hs : ∀ x, foldedSetIterable iter X.env x = pure x) :
    PE X (.ListComp elt [⟨tg, iter, ifs, 0⟩] scope pos) (tLc (tI C W (pureM mi) (evI cf pins mi)) (gTg C pins mt) (tT C W0 pc (evC cf pins mc)) (tF C W0 (pureM me) (fun ρ => bnd (evE cf pins me ρ) fun d ρ1 => lft (frzM me d) ρ1)) (own.map (·.2))) := by
  have gd : ∀ (s : Shared) (H : Hp) (c : Addr) (cl : List (Str × Addr)) (fp : List Addr), Gd C F cf lev N (relS scope sc) (X.blk s H scope (compEnvC scope cl c X.env) fp) := fun s H c cl fp =>
    ⟨g.kK, g.kW, g.kF, g.nN, g.nd, by rw [← g.scp]; rfl, g.calm, g.room, g.free, g.fn, g.mgf, g.kp, g.bd, g.gl, g.kb, g.two, g.rcd⟩
  exact pe_lc g.calm (by rw [g.nN]; exact g.nd) hi (by rw [g.nN, g.scp]; exact blkOk_by ok) (fun s H c cl fp => hg _ (gd s H c cl fp) rfl) (fun s H c cl fp => ht _ (gd s H c cl fp) rfl) (fun s H c cl fp => (he _ (gd s H c cl fp) rfl).frz) hs
/-- the plain values of a comprehension -/
theorem lc_imp {mt mi me : M} {pc : Bool} {vs : List Nat} (nv : vs.Nodup) (sub : ∀ j ∈ tgSl mt, j ∈ vs) {σ : St} {H : Hp} {Q : VK} (h : tE C W false (evE cf pins (.lc vs mt mi mc me)) σ H Q) :
    tLc (tI C W (pureM mi) (evI cf pins mi)) (gTg C pins mt) (tT C W0 pc (evC cf pins mc)) (tF C W0 (pureM me) (fun ρ => bnd (evE cf pins me ρ) fun d ρ1 => lft (frzM me d) ρ1)) vs σ H Q := by
  obtain ⟨ρ, G, O, w, ag, h⟩ := h
  rw [evE] at h
  refine tX.next (Step.refl true) h w ag fun ds ρ1 h1 J H1 G1 O1 st1 w1 wk a1 => ?_
  intro p hp
  obtain ⟨hc, h1⟩ := goX_ite h1
  generalize hf : (fun d ρ => match tgM pins mt d ρ with
        | some ρ2 => bnd (evC cf pins mc ρ2) fun c ρ3 => match c with
          | true => bnd (evE cf pins me ρ3) fun x ρ4 => bnd (lft (frzM me x) ρ4) fun x' ρ5 => some (.ok (some x') (wipeD ρ5 vs))
          | false => some (.ok none (wipeD ρ3 vs))
        | none => none : D → DEnv → Option (RS (Option D))) = f at h1
  cases hl : lcM f ds [] (wipeD ρ1 vs) with
  | none => rw [hl] at h1; exact h1.elim
  | some r =>
    obtain ⟨xs, ρ2⟩ := r
    rw [hl] at h1
    obtain ⟨R, pm, a2⟩ := agl_wipe a1 hc.2
    have w2 : Wd H1 G1 R := w1.sub ((pm.nodup_iff).mp w1.nd) fun a ha => (pm.mem_iff).mpr ha
    obtain ⟨s1, s2⟩ := step_mine w2 a2.inH hp (.lst [])
    refine ⟨fun i m H => m = ds.length - i ∧ LcI C f ds xs ρ2 H1 G1 O1 (wipe σ vs) vs p i H, ⟨_, rfl, Nat.zero_le _, [], [], wipeD ρ1 vs, G1, R, hl, Nat.le_refl _, (s1.from fun b hb => (pm.mem_iff).mpr hb).weak, s2, upd_same, rfl, a2.frame (Same.refl _) fun b hb o e => s1.sm rfl _ _ e, fun v hv d => wipeD_none hv d⟩, ?_⟩
    rintro i m H2 ⟨rfl, le, acc, avs, ρi, Gi, Ri, el, la, st2, w3, ep, rp, a3, nn⟩
    have hinp : ∀ b ∈ p :: Ri, H2 b ≠ none := fun b hb => by
      rcases List.mem_cons.mp hb with z | z
      · rw [z, ep]; simp
      · exact a3.inH b z
    obtain ⟨wk1, wk2⟩ := wk i H2 Gi (p :: Ri) st2.gg w3 hinp
    by_cases hlt : i < ds.length
    · right
      have ed : ds[i]? = some ds[i] := by simp [hlt]
      obtain ⟨go, yl⟩ := wk1 _ ed
      refine ⟨go, fun H' => LcI C f ds xs ρ2 H1 G1 O1 (wipe σ vs) vs p (i + 1) H', fun H' z => ⟨_, by omega, rfl, z⟩, fun x H3 hy => ?_⟩
      obtain ⟨G3, st3, w4, rx⟩ := yl x H3 hy
      rw [List.drop_eq_getElem_cons hlt, lcM, ← hf] at el
      simp only [] at el
      rw [hf] at el
      cases et : tgM pins mt ds[i] ρi with
      | none => rw [et] at el; cases el
      | some ρt =>
        rw [et] at el
        have w4' : Wd H3 G3 ([] ++ Ri) := (show Wd H3 G3 ([p] ++ Ri) from w4).right
        refine ⟨ρi, ρt, G3, Ri, [], ds[i], w4', Rp.own (Rp.isFz rx) rx, a3.frame st3.gg fun b hb o e => st3.sm rfl _ _ e, et, fun σt Ot tp => ?_⟩
        have npR : p ∉ Ri := (List.nodup_cons.mp w4.nd).1
        have npO : p ∉ Ot := fun z => npR (tp.m p z)
        have wt : wipe σt vs = wipe σ vs := (wipe_congr (tp.len) fun j hj => tp.oth j fun z => hj (sub j z)).trans wipe_wipe
        refine ⟨wt, ?_⟩
        have w5 : Wd H3 G3 (p :: Ot) := w4.sub (List.nodup_cons.mpr ⟨npO, tp.w.nd⟩) fun a ha => by
          rcases List.mem_cons.mp ha with z | z
          · exact z ▸ List.mem_cons_self
          · exact List.mem_cons_of_mem _ (tp.m a z)
        have st4 : Step false H1 G1 O1 H3 G3 (p :: Ot) := ((st2.trans st3).weak).sub fun a ha => by
          rcases List.mem_cons.mp ha with z | z
          · exact z ▸ List.mem_cons_self
          · exact List.mem_cons_of_mem _ (tp.m a z)
        have ep3 : H3 p = some (.lst avs) := st3.sm rfl _ _ ep
        simp only [] at el
        refine ⟨ρt, G3, Ot, tp.w, tp.ag, ?_⟩
        cases ec : evC cf pins mc ρt with
        | none => rw [ec] at el; cases el
        | some rc =>
          cases rc with
          | exc _ _ => rw [ec] at el; cases el
          | ok c ρc =>
            rw [ec, bnd_ok] at el
            intro H4 G4 O4 st5 w6 a5
            have np4 : p ∉ O4 := fun z => by
              rcases st5.ow p z with y | y
              · exact npO y
              · rw [ep3] at y; cases y
            have ep4 : H4 p = some (.lst avs) := st5.fr p _ ep3 npO
            have w7 : Wd H4 G4 (p :: O4) := Wd.beside (R := [p]) w5 (fun a ha => by rw [List.mem_singleton.mp ha, ep3]; simp) st5 w6
            have st6 : Step false H1 G1 O1 H4 G4 (p :: O4) := (st4.trans (st5.beside [p])).weak
            have rp4 : Rps C G4 acc avs := Rps.same (st3.gg.trans st5.gg) _ _ rp
            cases c with
            | false =>
              rw [if_neg Bool.false_ne_true]
              obtain ⟨R5, n5, m5, a6⟩ := agl_wipe' a5 w6.nd (vs := vs)
              rw [wt] at a6
              have mm : ∀ a ∈ p :: R5, a ∈ p :: O4 := fun a ha => by
                rcases List.mem_cons.mp ha with z | z
                · exact z ▸ List.mem_cons_self
                · exact List.mem_cons_of_mem _ (m5 a z)
              exact ⟨hlt, acc, avs, wipeD ρc vs, G4, R5, el, Nat.le_succ_of_le la, st6.sub mm, w7.sub (List.nodup_cons.mpr ⟨fun z => np4 (m5 p z), n5⟩) mm, ep4, rp4, a6, fun v hv d => wipeD_none hv d⟩
            | true =>
              rw [if_pos rfl]
              refine ⟨ρc, G4, O4, w6, a5, ?_⟩
              simp only [] at el
              cases ee : evE cf pins me ρc with
              | none => rw [ee] at el; cases el
              | some re =>
                cases re with
                | exc _ _ => rw [ee] at el; cases el
                | ok x1 ρe =>
                  rw [ee, bnd_ok] at el
                  cases ef : frzM me x1 with
                  | none => rw [ef] at el; cases el
                  | some x2 =>
                    rw [ef, lft_some, bnd_ok] at el
                    show goX (bnd (evE cf pins me ρc) fun d ρ1 => lft (frzM me d) ρ1) _ _
                    rw [ee, bnd_ok, ef, lft_some]
                    intro y H5 G5 O5 st7 w8 r7 a7
                    have np5 : p ∉ O5 := fun z => by
                      rcases st7.ow p z with y | y
                      · exact np4 y
                      · rw [ep4] at y; cases y
                    have ep5 : H5 p = some (.lst avs) := st7.fr p _ ep4 np4
                    have w9 : Wd H5 G5 (p :: O5) := Wd.beside (R := [p]) w7 (fun a ha => by rw [List.mem_singleton.mp ha, ep4]; simp) st7 w8
                    have st8 : Step false H1 G1 O1 H5 G5 (p :: O5) := (st6.trans (st7.beside [p])).weak
                    have rp5 : Rps C G5 acc avs := Rps.same st7.gg _ _ rp4
                    refine ⟨avs, ep5, by have := rp.len; omega, hlt, acc ++ [x2], avs ++ [y], wipeD ρe vs, G5, ?_⟩
                    obtain ⟨R6, n6, m6, a8⟩ := agl_wipe' a7 w8.nd (vs := vs)
                    rw [wt] at a8
                    have mm : ∀ a ∈ p :: R6, a ∈ p :: O5 := fun a ha => by
                      rcases List.mem_cons.mp ha with z | z
                      · exact z ▸ List.mem_cons_self
                      · exact List.mem_cons_of_mem _ (m6 a z)
                    obtain ⟨s9, w10⟩ := step_write (o := .lst (avs ++ [y])) w9 (List.mem_cons_self (a := p))
                    refine ⟨R6, el, by simp; omega, ((st8.trans s9).weak).sub mm, w10.sub (List.nodup_cons.mpr ⟨fun z => np5 (m6 p z), n6⟩) mm, upd_same, rp5.snoc r7, a8.frame (Same.refl _) fun b hb o e => ?_, fun v hv d => wipeD_none hv d⟩
                    have : b ≠ p := fun z => np5 (m6 p (z ▸ hb))
                    rw [upd_ne this]; exact e
    · left
      have e : i = ds.length := by omega
      subst e
      rw [List.drop_length, lcM] at el
      cases el
      refine ⟨wk2 (List.getElem?_eq_none (Nat.le_refl _)), ?_⟩
      obtain ⟨O', pm2, a4⟩ := agl_back a1 st2.gg nv hc.2 nn a3
      have pm3 : ([p] ++ O').Perm (p :: Ri) := pm2.cons p
      exact h1 (.ref p) H2 Gi [p] O' ((st1.trans st2).weak.sub fun b hb => (pm3.mem_iff).mp hb) (w3.sub ((pm3.nodup_iff).mpr w3.nd) fun b hb => (pm3.mem_iff).mp hb) ⟨p, avs, rfl, rfl, ep, rp⟩ a4
end
end L2.PV
set_option Elab.async false
set_option linter.all false
set_option autoImplicit false
/-! Comprehensions of two clauses. -/
namespace L2.PV
open PySem PySem.Spec PyProof.Rows
section
variable {C : RC} {F : FT} {cf : Nat → List D → Option CR} {lev : Nat} {N : List Str} {pins : List Nat} {sc : Scope} {X : Cx} {W : WX} {a b c tg : Expr} {ma mb mc : M} {pos : Pos}
structure Lc2I (C : RC) (g : D → DEnv → Option DEnv) (it : DEnv → Option (RS (List D))) (f : D → DEnv → Option (RS (Option D))) (own1 : List Nat) (ds xs : List D) (ρ2 : DEnv) (H1 G1 : Hp) (O1 : List Addr) (σ0 : St) (vs : List Nat) (p : Addr) (i : Nat) (H : Hp) : Prop where
  le : i ≤ ds.length
  st : ∃ acc avs ρi Gi Ri, lc2M g it f vs own1 (ds.drop i) acc ρi = some (xs, ρ2) ∧ Step false H1 G1 O1 H Gi (p :: Ri) ∧ Wd H Gi (p :: Ri) ∧ H p = some (.lst avs) ∧ Rps C Gi acc avs ∧ AgL C Gi H ρi σ0 Ri ∧ ∀ v ∈ vs, ∀ d, ρi[v]? ≠ some (some d)
structure LcJ (C : RC) (G0 : Hp) (f : D → DEnv → Option (RS (Option D))) (ds xs : List D) (ρ2 : DEnv) (H1 G1 : Hp) (O1 : List Addr) (σ0 : St) (vs : List Nat) (p : Addr) (i : Nat) (H : Hp) : Prop where
  le : i ≤ ds.length
  st : ∃ acc avs ρi Gi Ri, lcM f (ds.drop i) acc ρi = some (xs, ρ2) ∧ acc.length + (ds.length - i) ≤ sizeLine ∧ Same G0 Gi ∧ Step false H1 G1 O1 H Gi (p :: Ri) ∧ Wd H Gi (p :: Ri) ∧ H p = some (.lst avs) ∧ Rps C Gi acc avs ∧ AgL C Gi H ρi σ0 Ri ∧ ∀ v ∈ vs, ∀ d, ρi[v]? ≠ some (some d)
theorem cons_sub {p : Addr} {A B : List Addr} (h : ∀ a ∈ A, a ∈ B) : ∀ a ∈ p :: A, a ∈ p :: B := fun a ha => by
  rcases List.mem_cons.mp ha with z | z
  · exact z ▸ List.mem_cons_self
  · exact List.mem_cons_of_mem _ (h a z)
theorem lc2_imp {mt mi mt1 mi1 me : M} {vs vs1 : List Nat} (nv : vs.Nodup) (sub : ∀ j ∈ tgSl mt, j ∈ vs) (sub1 : ∀ j ∈ tgSl mt1, j ∈ vs1) (s1v : ∀ j ∈ vs1, j ∈ vs) {σ : St} {H : Hp} {Q : VK} (h : tE C W false (evE cf pins (.lc2 vs mt mi vs1 mt1 mi1 me)) σ H Q) :
    tLc2 (tI C W (pureM mi) (evI cf pins mi)) (gTg C pins mt) tYes (tI C W0 (pureM mi1) (evI cf pins mi1)) (gTg C pins mt1) tYes (tF C W0 (pureM me) (fun ρ => bnd (evE cf pins me ρ) fun d ρ1 => lft (frzM me d) ρ1)) vs vs1 σ H Q := by
  obtain ⟨ρ, G, O, w, ag, h⟩ := h
  rw [evE] at h
  refine tX.next (Step.refl true) h w ag fun ds ρ1 h1 J H1 G1 O1 st1 w1 wk a1 => ?_
  intro p hp
  obtain ⟨hc, h1⟩ := goX_ite h1
  generalize hf : (fun d ρ => match tgM pins mt1 d ρ with
        | some ρ2 => bnd (evE cf pins me ρ2) fun x ρ4 => bnd (lft (frzM me x) ρ4) fun x' ρ5 => some (.ok (some x') (wipeD ρ5 vs1))
        | none => none : D → DEnv → Option (RS (Option D))) = f at h1
  generalize hg : (fun d ρ => tgM pins mt d ρ : D → DEnv → Option DEnv) = g at h1
  generalize hit : (fun ρ => evI cf pins mi1 ρ : DEnv → Option (RS (List D))) = it at h1
  cases hl : lc2M g it f vs vs1 ds [] (wipeD ρ1 vs) with
  | none => rw [hl] at h1; exact h1.elim
  | some r =>
    obtain ⟨xs, ρ2⟩ := r
    rw [hl] at h1
    obtain ⟨R, pm, a2⟩ := agl_wipe a1 hc.2
    have w2 : Wd H1 G1 R := w1.sub ((pm.nodup_iff).mp w1.nd) fun a ha => (pm.mem_iff).mpr ha
    obtain ⟨s1, s2⟩ := step_mine w2 a2.inH hp (.lst [])
    refine ⟨fun i m H => m = ds.length - i ∧ Lc2I C g it f vs1 ds xs ρ2 H1 G1 O1 (wipe σ vs) vs p i H, ⟨_, rfl, Nat.zero_le _, [], [], wipeD ρ1 vs, G1, R, hl, (s1.from fun b hb => (pm.mem_iff).mpr hb).weak, s2, upd_same, rfl, a2.frame (Same.refl _) fun b hb o e => s1.sm rfl _ _ e, fun v hv d => wipeD_none hv d⟩, ?_⟩
    rintro i m H2 ⟨rfl, le, acc, avs, ρi, Gi, Ri, el, st2, w3, ep, rp, a3, nn⟩
    have hinp : ∀ b ∈ p :: Ri, H2 b ≠ none := fun b hb => by
      rcases List.mem_cons.mp hb with z | z
      · rw [z, ep]; simp
      · exact a3.inH b z
    obtain ⟨wk1, wk2⟩ := wk i H2 Gi (p :: Ri) st2.gg w3 hinp
    by_cases hlt : i < ds.length
    · right
      have ed : ds[i]? = some ds[i] := by simp [hlt]
      obtain ⟨go, yl⟩ := wk1 _ ed
      refine ⟨go, fun H' => Lc2I C g it f vs1 ds xs ρ2 H1 G1 O1 (wipe σ vs) vs p (i + 1) H', fun H' z => ⟨_, by omega, rfl, z⟩, fun x H3 hy => ?_⟩
      obtain ⟨G3, st3, w4, rx⟩ := yl x H3 hy
      rw [List.drop_eq_getElem_cons hlt, lc2M, ← hg] at el
      simp only [] at el
      rw [hg] at el
      cases et : tgM pins mt ds[i] ρi with
      | none => rw [et] at el; cases el
      | some ρt =>
        rw [et] at el
        have w4' : Wd H3 G3 ([] ++ Ri) := (show Wd H3 G3 ([p] ++ Ri) from w4).right
        refine ⟨ρi, ρt, G3, Ri, [], ds[i], w4', Rp.own (Rp.isFz rx) rx, a3.frame st3.gg fun b hb o e => st3.sm rfl _ _ e, et, fun σt Ot tp => ?_⟩
        have npR : p ∉ Ri := (List.nodup_cons.mp w4.nd).1
        have npO : p ∉ Ot := fun z => npR (tp.m p z)
        have wt : wipe σt vs = wipe σ vs := (wipe_congr (tp.len) fun j hj => tp.oth j fun z => hj (sub j z)).trans wipe_wipe
        refine ⟨wt, ?_⟩
        have w5 : Wd H3 G3 (p :: Ot) := w4.sub (List.nodup_cons.mpr ⟨npO, tp.w.nd⟩) (cons_sub fun a z => tp.m a z)
        have st4 : Step false H1 G1 O1 H3 G3 (p :: Ot) := ((st2.trans st3).weak).sub (cons_sub fun a z => tp.m a z)
        have ep3 : H3 p = some (.lst avs) := st3.sm rfl _ _ ep
        show tYes σt H3 _
        unfold tYes
        refine cast (if_pos (rfl : true = true)).symm ?_
        simp only [] at el
        rw [← hit] at el
        simp only [] at el
        refine ⟨ρt, G3, Ot, tp.w, tp.ag, ?_⟩
        cases ei : evI cf pins mi1 ρt with
        | none => rw [ei] at el; cases el
        | some ri =>
          cases ri with
          | exc _ _ => rw [ei] at el; cases el
          | ok ds1 ρc =>
            rw [ei] at el
            simp only [] at el
            rw [hit] at el
            intro J1 H4 G4 O4 st5 w6 wkI a5
            have np4 : p ∉ O4 := fun z => by
              rcases st5.ow p z with y | y
              · exact npO y
              · rw [ep3] at y; cases y
            have ep4 : H4 p = some (.lst avs) := st5.fr p _ ep3 npO
            have w7 : Wd H4 G4 (p :: O4) := Wd.beside (R := [p]) w5 (fun a ha => by rw [List.mem_singleton.mp ha, ep3]; simp) st5.weak w6
            have st6 : Step false H1 G1 O1 H4 G4 (p :: O4) := (st4.trans (st5.weak.beside [p])).weak
            have rp4 : Rps C G4 acc avs := Rps.same (st3.gg.trans st5.gg) _ _ rp
            by_cases hz : acc.length + ds1.length ≤ sizeLine
            · rw [if_pos hz] at el
              cases el1 : lcM f ds1 acc (wipeD ρc vs1) with
              | none => rw [el1] at el; cases el
              | some r1 =>
                obtain ⟨acc', ρ4⟩ := r1
                rw [el1] at el
                simp only [] at el
                obtain ⟨R5, n5, m5, a6⟩ := agl_wipe' a5 w6.nd (vs := vs1)
                have mm := cons_sub (p := p) m5
                refine ⟨fun j k H => k = ds1.length - j ∧ LcJ C G4 f ds1 acc' ρ4 H1 G1 O1 (wipe σt vs1) vs1 p j H, ⟨_, rfl, Nat.zero_le _, acc, avs, wipeD ρc vs1, G4, R5, el1, by omega, Same.refl _, st6.sub mm, w7.sub (List.nodup_cons.mpr ⟨fun z => np4 (m5 p z), n5⟩) mm, ep4, rp4, a6, fun v hv d => wipeD_none hv d⟩, ?_⟩
                clear st6 w7 ep4 rp4 a6 n5 mm hz
                rintro j k H5 ⟨rfl, lej, accj, avj, ρj, Gj, Rj, elj, laj, gg5, stj, wj, epj, rpj, aj, nnj⟩
                have hinj : ∀ b ∈ p :: Rj, H5 b ≠ none := fun b hb => by
                  rcases List.mem_cons.mp hb with z | z
                  · rw [z, epj]; simp
                  · exact aj.inH b z
                obtain ⟨wkj1, wkj2⟩ := wkI j H5 Gj (p :: Rj) gg5 wj hinj
                by_cases hltj : j < ds1.length
                · right
                  have edj : ds1[j]? = some ds1[j] := by simp [hltj]
                  obtain ⟨goj, ylj⟩ := wkj1 _ edj
                  refine ⟨goj, fun H' => LcJ C G4 f ds1 acc' ρ4 H1 G1 O1 (wipe σt vs1) vs1 p (j + 1) H', fun H' z => ⟨_, by omega, rfl, z⟩, fun x H6 hy6 => ?_⟩
                  obtain ⟨G6, st6, w8, rx6⟩ := ylj x H6 hy6
                  rw [List.drop_eq_getElem_cons hltj, lcM, ← hf] at elj
                  simp only [] at elj
                  rw [hf] at elj
                  cases etj : tgM pins mt1 ds1[j] ρj with
                  | none => rw [etj] at elj; cases elj
                  | some ρu =>
                    rw [etj] at elj
                    have w8' : Wd H6 G6 ([] ++ Rj) := (show Wd H6 G6 ([p] ++ Rj) from w8).right
                    refine ⟨ρj, ρu, G6, Rj, [], ds1[j], w8', Rp.own (Rp.isFz rx6) rx6, aj.frame st6.gg fun b hb o e => st6.sm rfl _ _ e, etj, fun σu Ou tu => ?_⟩
                    have npj : p ∉ Rj := (List.nodup_cons.mp w8.nd).1
                    have npU : p ∉ Ou := fun z => npj (tu.m p z)
                    have wu : wipe σu vs1 = wipe σt vs1 := (wipe_congr (tu.len) fun j hj => tu.oth j fun z => hj (sub1 j z)).trans wipe_wipe
                    refine ⟨wu, ?_⟩
                    have w9 : Wd H6 G6 (p :: Ou) := w8.sub (List.nodup_cons.mpr ⟨npU, tu.w.nd⟩) (cons_sub fun a z => tu.m a z)
                    have st7 : Step false H1 G1 O1 H6 G6 (p :: Ou) := ((stj.trans st6).weak).sub (cons_sub fun a z => tu.m a z)
                    have ep6 : H6 p = some (.lst avj) := st6.sm rfl _ _ epj
                    refine cast (if_pos (rfl : true = true)).symm ?_
                    simp only [] at elj
                    refine ⟨ρu, G6, Ou, tu.w, tu.ag, ?_⟩
                    cases ee : evE cf pins me ρu with
                    | none => rw [ee] at elj; cases elj
                    | some re =>
                      cases re with
                      | exc _ _ => rw [ee] at elj; cases elj
                      | ok x1 ρe =>
                        rw [ee, bnd_ok] at elj
                        cases ef : frzM me x1 with
                        | none => rw [ef] at elj; cases elj
                        | some x2 =>
                          rw [ef, lft_some, bnd_ok] at elj
                          show goX (bnd (evE cf pins me ρu) fun d ρ1 => lft (frzM me d) ρ1) _ _
                          rw [ee, bnd_ok, ef, lft_some]
                          intro y H7 G7 O7 st8 w10 r7 a7
                          have np7 : p ∉ O7 := fun z => by
                            rcases st8.ow p z with y | y
                            · exact npU y
                            · rw [ep6] at y; cases y
                          have ep7 : H7 p = some (.lst avj) := st8.fr p _ ep6 npU
                          have w11 : Wd H7 G7 (p :: O7) := Wd.beside (R := [p]) w9 (fun a ha => by rw [List.mem_singleton.mp ha, ep6]; simp) st8 w10
                          have st9 : Step false H1 G1 O1 H7 G7 (p :: O7) := (st7.trans (st8.beside [p])).weak
                          have rp7 : Rps C G7 accj avj := Rps.same (st6.gg.trans st8.gg) _ _ rpj
                          refine ⟨avj, ep7, by have := rpj.len; omega, hltj, accj ++ [x2], avj ++ [y], wipeD ρe vs1, G7, ?_⟩
                          obtain ⟨R8, n8, m8, a8⟩ := agl_wipe' a7 w10.nd (vs := vs1)
                          rw [wu] at a8
                          have mm := cons_sub (p := p) m8
                          obtain ⟨s10, w12⟩ := step_write (o := .lst (avj ++ [y])) w11 (List.mem_cons_self (a := p))
                          refine ⟨R8, elj, by simp; omega, (gg5.trans st6.gg).trans st8.gg, ((st9.trans s10).weak).sub mm, w12.sub (List.nodup_cons.mpr ⟨fun z => np7 (m8 p z), n8⟩) mm, upd_same, rp7.snoc r7, a8.frame (Same.refl _) fun b hb o e => ?_, fun v hv d => wipeD_none hv d⟩
                          have : b ≠ p := fun z => np7 (m8 p (z ▸ hb))
                          rw [upd_ne this]; exact e
                · left
                  have e : j = ds1.length := by omega
                  subst e
                  rw [List.drop_length, lcM] at elj
                  cases elj
                  refine ⟨wkj2 (List.getElem?_eq_none (Nat.le_refl _)), hlt, acc', avj, wipeD ρ4 vs, Gj, ?_⟩
                  have ndj : Rj.Nodup := (List.nodup_cons.mp wj.nd).2
                  have npj : p ∉ Rj := (List.nodup_cons.mp wj.nd).1
                  obtain ⟨R9, n9, m9, a9⟩ := agl_wipe' aj ndj (vs := vs)
                  have ww : wipe (wipe σt vs1) vs = wipe σ vs := (wipe_congr (wipe_length _ _) fun j hj => wipe_out fun z => hj (s1v j z)).trans wt
                  rw [ww] at a9
                  have mm := cons_sub (p := p) m9
                  exact ⟨R9, el, stj.sub mm, wj.sub (List.nodup_cons.mpr ⟨fun z => npj (m9 p z), n9⟩) mm, epj, rpj, a9, fun v hv d => wipeD_none hv d⟩
            · rw [if_neg hz] at el; cases el
    · left
      have e : i = ds.length := by omega
      subst e
      rw [List.drop_length, lc2M] at el
      cases el
      refine ⟨wk2 (List.getElem?_eq_none (Nat.le_refl _)), ?_⟩
      obtain ⟨O', pm2, a4⟩ := agl_back a1 st2.gg nv hc.2 nn a3
      have pm3 : ([p] ++ O').Perm (p :: Ri) := pm2.cons p
      exact h1 (.ref p) H2 Gi [p] O' ((st1.trans st2).weak.sub fun b hb => (pm3.mem_iff).mp hb) (w3.sub ((pm3.nodup_iff).mpr w3.nd) fun b hb => (pm3.mem_iff).mp hb) ⟨p, avs, rfl, rfl, ep, rp⟩ a4
theorem se_lc2 (g : Gd C F cf lev N sc X) {own : List (Str × Nat)} {vs1 : List Nat} {elt iter tg1 iter1 : Expr} {scope : Scope} {mt mi mt1 mi1 me : M}
    (hi : PI X tg iter (tI C W (pureM mi) (evI cf pins mi))) (ok : blkC N sc scope own = true) (hv : ∀ j ∈ vs1, j ∈ own.map (·.2))
    (hg : ∀ X', Gd C F cf lev N (relS scope sc) X' → X'.fn = (fun x => scope.names.lookup x == some .cell) → PG X' tg (gTg C pins mt))
    (hi1 : ∀ X', Gd C F cf lev N (relS scope sc) X' → X'.fn = (fun x => scope.names.lookup x == some .cell) → PI X' tg1 iter1 (tI C W0 (pureM mi1) (evI cf pins mi1)))
    (hg1 : ∀ X', Gd C F cf lev N (relS scope sc) X' → X'.fn = (fun x => scope.names.lookup x == some .cell) → PG X' tg1 (gTg C pins mt1))
    (he : ∀ X', Gd C F cf lev N (relS scope sc) X' → X'.fn = (fun x => scope.names.lookup x == some .cell) → Ev C W0 cf pins X' me elt)
    (hs : ∀ x, foldedSetIterable iter X.env x = pure x) (hs1 : ∀ env x, foldedSetIterable iter1 env x = pure x) :
    PE X (.ListComp elt [⟨tg, iter, [], 0⟩, ⟨tg1, iter1, [], 0⟩] scope pos) (tLc2 (tI C W (pureM mi) (evI cf pins mi)) (gTg C pins mt) tYes (tI C W0 (pureM mi1) (evI cf pins mi1)) (gTg C pins mt1) tYes (tF C W0 (pureM me) (fun ρ => bnd (evE cf pins me ρ) fun d ρ1 => lft (frzM me d) ρ1)) (own.map (·.2)) vs1) := by
  have gd : ∀ (s : Shared) (H : Hp) (c : Addr) (cl : List (Str × Addr)) (fp : List Addr), Gd C F cf lev N (relS scope sc) (X.blk s H scope (compEnvC scope cl c X.env) fp) := fun s H c cl fp =>
    ⟨g.kK, g.kW, g.kF, g.nN, g.nd, by rw [← g.scp]; rfl, g.calm, g.room, g.free, g.fn, g.mgf, g.kp, g.bd, g.gl, g.kb, g.two, g.rcd⟩
  exact pe_lc2 g.calm (by rw [g.nN]; exact g.nd) hi (by rw [g.nN, g.scp]; exact blkOk_by ok) hv (fun s H c cl fp => hg _ (gd s H c cl fp) rfl) (fun s H c cl fp => pts_nil) (fun s H c cl fp => hi1 _ (gd s H c cl fp) rfl) (fun s H c cl fp => hg1 _ (gd s H c cl fp) rfl) (fun s H c cl fp => pts_nil) (fun s H c cl fp => (he _ (gd s H c cl fp) rfl).frz) hs hs1
end
end L2.PV
set_option Elab.async false
set_option linter.all false
set_option autoImplicit false
/-! Comprehensions over a list that a name owns. -/
namespace L2.PV
open PySem PySem.Spec PyProof.Rows
section
variable {C : RC} {F : FT} {cf : Nat → List D → Option CR} {lev : Nat} {N : List Str} {pins : List Nat} {sc : Scope} {X : Cx} {W : WX} {a b c tg : Expr} {ma mb mc : M} {pos : Pos}
theorem wipeD_out {ρ : DEnv} {i : Nat} : ∀ {vs : List Nat}, i ∉ vs → (wipeD ρ vs)[i]? = ρ[i]?
  | [], _ => rfl
  | v :: vs, h => by
    unfold wipeD
    rw [List.getElem?_set_ne (fun z => h (by rw [z]; simp)), wipeD_out fun z => h (by simp [z])]
structure LcO (C : RC) (s : Nat) (f : D → DEnv → Option (RS (Option D))) (ds xs : List D) (ρ2 : DEnv) (H1 G1 : Hp) (O1 : List Addr) (σ0 : St) (vs : List Nat) (p : Addr) (i : Nat) (H : Hp) : Prop where
  le : i ≤ ds.length
  st : ∃ acc avs ρi Gi Ri, lcM f (ds.drop i) acc ρi = some (xs, ρ2) ∧ acc.length ≤ i ∧ Step false H1 G1 O1 H Gi (p :: Ri) ∧ Wd H Gi (p :: Ri) ∧ H p = some (.lst avs) ∧ Rps C Gi acc avs ∧ AgL C Gi H ρi σ0 Ri ∧ (∀ v ∈ vs, ∀ d, ρi[v]? ≠ some (some d)) ∧ ρi[s]? = some (some (.acc ds))
/-- the plain values of a comprehension -/
theorem lco_imp {K : PySem.W.Frag} {mt me : M} {s : Nat} {pc : Bool} {vs : List Nat} (nv : vs.Nodup) (sub : ∀ j ∈ tgSl mt, j ∈ vs) (hs : s ∉ vs) {σ : St} {H1 : Hp} {Q : VK} (h : tE C W false (evE cf pins (.lco vs mt s mc me)) σ H1 Q) :
    tLc (iAny K (tPl (.sl s))) (gTg C pins mt) (tT C W0 pc (evC cf pins mc)) (tF C W0 (pureM me) (fun ρ => bnd (evE cf pins me ρ) fun d ρ1 => lft (frzM me d) ρ1)) vs σ H1 Q := by
  obtain ⟨ρ1, G1, O1, w, ag, h⟩ := h
  rw [evE] at h
  cases eg : getP (.sl s) ρ1 with
  | none => rw [eg] at h; exact h.elim
  | some dl_ =>
  cases dl_ with
  | acc ds =>
    rw [eg] at h
    have es : ρ1[s]? = some (some (.acc ds)) := by
      unfold getP at eg
      split at eg
      · rename_i d hd
        rw [hd]; cases eg; rfl
      · cases eg
    obtain ⟨v0, Oa, Rr, sv, ⟨a, vs0, rfl, rfl, ha0, rp0⟩, _, _⟩ := ag.out s es
    refine ⟨.ref a, ?_, .inl ⟨a, rfl, ⟨vs0, SqL.of ha0⟩, ?_⟩⟩
    · unfold valP
      rw [sv]
    have h1 : goX (if ds.length ≤ sizeLine ∧ ownFz ρ1 vs = true then _ else none) _ _ := h
    have a1 := ag
    have w1 := w
    have st1 : Step true H1 G1 O1 H1 G1 O1 := Step.refl _
    intro p hp
    obtain ⟨hc, h1⟩ := goX_ite h1
    generalize hf : (fun d ρ => match tgM pins mt d ρ with
          | some ρ2 => bnd (evC cf pins mc ρ2) fun c ρ3 => match c with
            | true => bnd (evE cf pins me ρ3) fun x ρ4 => bnd (lft (frzM me x) ρ4) fun x' ρ5 => keepsD s (.acc ds) ρ5 (some (.ok (some x') (wipeD ρ5 vs)))
            | false => keepsD s (.acc ds) ρ3 (some (.ok none (wipeD ρ3 vs)))
          | none => none : D → DEnv → Option (RS (Option D))) = f at h1
    cases hl : lcM f ds [] (wipeD ρ1 vs) with
    | none => rw [hl] at h1; exact h1.elim
    | some r =>
      obtain ⟨xs, ρ2⟩ := r
      rw [hl] at h1
      obtain ⟨R, pm, a2⟩ := agl_wipe a1 hc.2
      have w2 : Wd H1 G1 R := w1.sub ((pm.nodup_iff).mp w1.nd) fun a ha => (pm.mem_iff).mpr ha
      obtain ⟨s1, s2⟩ := step_mine w2 a2.inH hp (.lst [])
      refine ⟨fun i m H => m = ds.length - i ∧ LcO C s f ds xs ρ2 H1 G1 O1 (wipe σ vs) vs p i H, ⟨_, rfl, Nat.zero_le _, [], [], wipeD ρ1 vs, G1, R, hl, Nat.le_refl _, (s1.from fun b hb => (pm.mem_iff).mpr hb).weak, s2, upd_same, rfl, a2.frame (Same.refl _) fun b hb o e => s1.sm rfl _ _ e, fun v hv d => wipeD_none hv d, by rw [wipeD_out hs]; exact es⟩, ?_⟩
      rintro i m H2 ⟨rfl, le, acc, avs, ρi, Gi, Ri, el, la, st2, w3, ep, rp, a3, nn, nk⟩
      have hinp : ∀ b ∈ p :: Ri, H2 b ≠ none := fun b hb => by
        rcases List.mem_cons.mp hb with z | z
        · rw [z, ep]; simp
        · exact a3.inH b z
      obtain ⟨v2, Oa2, Rr2, sv2, ⟨a2', vs2, ev2, _, ha2, rp2⟩, _, _⟩ := a3.out s nk
      rw [wipe_out hs, sv] at sv2
      cases sv2
      cases ev2
      have sq2 : SqL K H2 a vs2 := SqL.of ha2
      by_cases hlt : i < ds.length
      · right
        have ed : ds[i]? = some ds[i] := by simp [hlt]
        obtain ⟨x0, ex0, rx0⟩ := rp2.get ed
        have go : (Itl K a).go i H2 := ⟨vs2, x0, sq2, ex0⟩
        refine ⟨go, fun H' => LcO C s f ds xs ρ2 H1 G1 O1 (wipe σ vs) vs p (i + 1) H', fun H' z => ⟨_, by omega, rfl, z⟩, fun x H3 hy => ?_⟩
        obtain ⟨hy1, hy2⟩ := hy
        have hy2 := hy2 vs2 sq2
        rw [ex0] at hy2
        cases hy2
        subst hy1
        obtain ⟨G3, hG3⟩ : ∃ G3, G3 = Gi := ⟨_, rfl⟩
        subst hG3
        have st3 : Step true H3 G3 (p :: Ri) H3 G3 (p :: Ri) := Step.refl _
        have w4 := w3
        have rx := rx0
        rw [List.drop_eq_getElem_cons hlt, lcM, ← hf] at el
        simp only [] at el
        rw [hf] at el
        cases et : tgM pins mt ds[i] ρi with
        | none => rw [et] at el; cases el
        | some ρt =>
          rw [et] at el
          have w4' : Wd H3 G3 ([] ++ Ri) := (show Wd H3 G3 ([p] ++ Ri) from w4).right
          refine ⟨ρi, ρt, G3, Ri, [], ds[i], w4', Rp.own (Rp.isFz rx) rx, a3.frame st3.gg fun b hb o e => st3.sm rfl _ _ e, et, fun σt Ot tp => ?_⟩
          have npR : p ∉ Ri := (List.nodup_cons.mp w4.nd).1
          have npO : p ∉ Ot := fun z => npR (tp.m p z)
          have wt : wipe σt vs = wipe σ vs := (wipe_congr (tp.len) fun j hj => tp.oth j fun z => hj (sub j z)).trans wipe_wipe
          refine ⟨wt, ?_⟩
          have w5 : Wd H3 G3 (p :: Ot) := w4.sub (List.nodup_cons.mpr ⟨npO, tp.w.nd⟩) fun a ha => by
            rcases List.mem_cons.mp ha with z | z
            · exact z ▸ List.mem_cons_self
            · exact List.mem_cons_of_mem _ (tp.m a z)
          have st4 : Step false H1 G1 O1 H3 G3 (p :: Ot) := ((st2.trans st3).weak).sub fun a ha => by
            rcases List.mem_cons.mp ha with z | z
            · exact z ▸ List.mem_cons_self
            · exact List.mem_cons_of_mem _ (tp.m a z)
          have ep3 : H3 p = some (.lst avs) := st3.sm rfl _ _ ep
          simp only [] at el
          refine ⟨ρt, G3, Ot, tp.w, tp.ag, ?_⟩
          cases ec : evC cf pins mc ρt with
          | none => rw [ec] at el; cases el
          | some rc =>
            cases rc with
            | exc _ _ => rw [ec] at el; cases el
            | ok c ρc =>
              rw [ec, bnd_ok] at el
              intro H4 G4 O4 st5 w6 a5
              have np4 : p ∉ O4 := fun z => by
                rcases st5.ow p z with y | y
                · exact npO y
                · rw [ep3] at y; cases y
              have ep4 : H4 p = some (.lst avs) := st5.fr p _ ep3 npO
              have w7 : Wd H4 G4 (p :: O4) := Wd.beside (R := [p]) w5 (fun a ha => by rw [List.mem_singleton.mp ha, ep3]; simp) st5 w6
              have st6 : Step false H1 G1 O1 H4 G4 (p :: O4) := (st4.trans (st5.beside [p])).weak
              have rp4 : Rps C G4 acc avs := Rps.same (st3.gg.trans st5.gg) _ _ rp
              cases c with
              | false =>
                rw [if_neg Bool.false_ne_true]
                simp only [] at el
                have hk : ρc[s]? = some (some (.acc ds)) := Classical.byContradiction fun z => by rw [keepsD_neg z] at el; cases el
                rw [keepsD_pos hk] at el
                obtain ⟨R5, n5, m5, a6⟩ := agl_wipe' a5 w6.nd (vs := vs)
                rw [wt] at a6
                have mm : ∀ a ∈ p :: R5, a ∈ p :: O4 := fun a ha => by
                  rcases List.mem_cons.mp ha with z | z
                  · exact z ▸ List.mem_cons_self
                  · exact List.mem_cons_of_mem _ (m5 a z)
                exact ⟨hlt, acc, avs, wipeD ρc vs, G4, R5, el, Nat.le_succ_of_le la, st6.sub mm, w7.sub (List.nodup_cons.mpr ⟨fun z => np4 (m5 p z), n5⟩) mm, ep4, rp4, a6, fun v hv d => wipeD_none hv d, by rw [wipeD_out hs]; exact hk⟩
              | true =>
                rw [if_pos rfl]
                refine ⟨ρc, G4, O4, w6, a5, ?_⟩
                simp only [] at el
                cases ee : evE cf pins me ρc with
                | none => rw [ee] at el; cases el
                | some re =>
                  cases re with
                  | exc _ _ => rw [ee] at el; cases el
                  | ok x1 ρe =>
                    rw [ee, bnd_ok] at el
                    cases ef : frzM me x1 with
                    | none => rw [ef] at el; cases el
                    | some x2 =>
                      rw [ef, lft_some, bnd_ok] at el
                      have hk : ρe[s]? = some (some (.acc ds)) := Classical.byContradiction fun z => by rw [keepsD_neg z] at el; cases el
                      rw [keepsD_pos hk] at el
                      show goX (bnd (evE cf pins me ρc) fun d ρ1 => lft (frzM me d) ρ1) _ _
                      rw [ee, bnd_ok, ef, lft_some]
                      intro y H5 G5 O5 st7 w8 r7 a7
                      have np5 : p ∉ O5 := fun z => by
                        rcases st7.ow p z with y | y
                        · exact np4 y
                        · rw [ep4] at y; cases y
                      have ep5 : H5 p = some (.lst avs) := st7.fr p _ ep4 np4
                      have w9 : Wd H5 G5 (p :: O5) := Wd.beside (R := [p]) w7 (fun a ha => by rw [List.mem_singleton.mp ha, ep4]; simp) st7 w8
                      have st8 : Step false H1 G1 O1 H5 G5 (p :: O5) := (st6.trans (st7.beside [p])).weak
                      have rp5 : Rps C G5 acc avs := Rps.same st7.gg _ _ rp4
                      refine ⟨avs, ep5, by have := rp.len; omega, hlt, acc ++ [x2], avs ++ [y], wipeD ρe vs, G5, ?_⟩
                      obtain ⟨R6, n6, m6, a8⟩ := agl_wipe' a7 w8.nd (vs := vs)
                      rw [wt] at a8
                      have mm : ∀ a ∈ p :: R6, a ∈ p :: O5 := fun a ha => by
                        rcases List.mem_cons.mp ha with z | z
                        · exact z ▸ List.mem_cons_self
                        · exact List.mem_cons_of_mem _ (m6 a z)
                      obtain ⟨s9, w10⟩ := step_write (o := .lst (avs ++ [y])) w9 (List.mem_cons_self (a := p))
                      refine ⟨R6, el, by simp; omega, ((st8.trans s9).weak).sub mm, w10.sub (List.nodup_cons.mpr ⟨fun z => np5 (m6 p z), n6⟩) mm, upd_same, rp5.snoc r7, a8.frame (Same.refl _) fun b hb o e => ?_, fun v hv d => wipeD_none hv d, by rw [wipeD_out hs]; exact hk⟩
                      have : b ≠ p := fun z => np5 (m6 p (z ▸ hb))
                      rw [upd_ne this]; exact e
      · left
        have e : i = ds.length := by omega
        subst e
        rw [List.drop_length, lcM] at el
        cases el
        refine ⟨⟨vs2, sq2, by rw [← rp2.len]; exact Nat.le_refl _⟩, ?_⟩
        obtain ⟨O', pm2, a4⟩ := agl_back a1 st2.gg nv hc.2 nn a3
        have pm3 : ([p] ++ O').Perm (p :: Ri) := pm2.cons p
        exact h1 (.ref p) H2 Gi [p] O' ((st1.trans st2).weak.sub fun b hb => (pm3.mem_iff).mp hb) (w3.sub ((pm3.nodup_iff).mpr w3.nd) fun b hb => (pm3.mem_iff).mp hb) ⟨p, avs, rfl, rfl, ep, rp⟩ a4
  | _ => rw [eg] at h; exact h.elim
theorem se_lco (g : Gd C F cf lev N sc X) {own : List (Str × Nat)} {elt iter : Expr} {ifs : List Expr} {scope : Scope} {mt me : M} {pc : Bool} {i : Nat}
    (hi : PE X iter (tPl (.sl i))) (ok : blkC N sc scope own = true)
    (hg : ∀ X', Gd C F cf lev N (relS scope sc) X' → X'.fn = (fun x => scope.names.lookup x == some .cell) → PG X' tg (gTg C pins mt))
    (ht : ∀ X', Gd C F cf lev N (relS scope sc) X' → X'.fn = (fun x => scope.names.lookup x == some .cell) → PTs X' ifs (tT C W0 pc (evC cf pins mc)))
    (he : ∀ X', Gd C F cf lev N (relS scope sc) X' → X'.fn = (fun x => scope.names.lookup x == some .cell) → Ev C W0 cf pins X' me elt)
    (hs : ∀ x, foldedSetIterable iter X.env x = pure x) :
    PE X (.ListComp elt [⟨tg, iter, ifs, 0⟩] scope pos) (tLc (iAny X.K (tPl (.sl i))) (gTg C pins mt) (tT C W0 pc (evC cf pins mc)) (tF C W0 (pureM me) (fun ρ => bnd (evE cf pins me ρ) fun d ρ1 => lft (frzM me d) ρ1)) (own.map (·.2))) := by
  have gd : ∀ (s : Shared) (H : Hp) (c : Addr) (cl : List (Str × Addr)) (fp : List Addr), Gd C F cf lev N (relS scope sc) (X.blk s H scope (compEnvC scope cl c X.env) fp) := fun s H c cl fp =>
    ⟨g.kK, g.kW, g.kF, g.nN, g.nd, by rw [← g.scp]; rfl, g.calm, g.room, g.free, g.fn, g.mgf, g.kp, g.bd, g.gl, g.kb, g.two, g.rcd⟩
  exact pe_lc g.calm (by rw [g.nN]; exact g.nd) (pi_any hi) (by rw [g.nN, g.scp]; exact blkOk_by ok) (fun s H c cl fp => hg _ (gd s H c cl fp) rfl) (fun s H c cl fp => ht _ (gd s H c cl fp) rfl) (fun s H c cl fp => (he _ (gd s H c cl fp) rfl).frz) hs
end
end L2.PV
set_option Elab.async false
set_option linter.all false
set_option autoImplicit false
/-! list.extend of a tuple -/
namespace L2.PV
open PySem PySem.Spec PyProof.Rows
theorem extend_tup (l : Addr) (items : Array Value) (n : Nat) (b : Addr) (items2 : Array Value) (n2 : Nat) (dd : Option Addr) (sl : Array (Option Value)) (hs0 : ¬(!items.isEmpty && Builtin.List.listTooLong (items.size + items2.size)) = true) (hs1 : items.size ≤ sizeLine) (hs2 : items.size + items2.size ≤ sizeLine + 1) :
    Meets (Builtin.«list.extend» ⟨[.ref l, .ref b], []⟩) (fun _ R s => s.heap.get? l = some { cls := .type "list", dict := none, data := .seq items n, slots := #[] } ∧ s.heap.get? b = some { cls := .type "tuple", dict := dd, data := .seq items2 n2, slots := sl } ∧ R (.ok (.ret Value.none)) { s with heap := s.heap.update l (Obj.mapSeq fun x => x ++ items2), toks := s.toks }) :=
  .of_wp fun prog w A R s h => by
    obtain ⟨hp, g, d, tk, os⟩ := s; obtain ⟨hl, hb, h⟩ := h; have f1 := AutoSeq1.idx_int; have f2 := AutoSeq1.sub_tuple_tuple; have f3 := AutoSeq1.sub_list_list; have f4 := AutoSeq1.sub_tuple_list; have f5 := AutoSeq1.sub_list_tuple;
    have hz' : (items ++ items2).size ≤ sizeLine + 1 := by rw [Array.size_append]; exact hs2
    wp_walk using (wpAny_updateSeq hl rfl (hz := hs1) (_hz' := hz')), AutoSeq1.wpAny_loadPart' hl, AutoSeq1.wpAny_loadPart' hb; exact ⟨_, rfl, h⟩
def rExtT (K : PySem.W.Frag) : V → List V → Hp → VK → Prop := fun x vs H Q => ∃ l b xs zs, x = .ref l ∧ vs = [.ref b] ∧ H l = some (.lst xs) ∧ SqT K H b zs ∧ xs.length + zs.length ≤ sizeLine ∧ Q .non (upd H l (.lst (xs ++ zs)))
theorem mt_extT {X : Cx} : MtM X "list.extend" (rExtT X.K) := by
  intro pins s σ H x vs v us Q I rx rv h
  obtain ⟨l, b, xs, zs, rfl, rfl, hH, hB, hz, q⟩ := h
  cases rx
  obtain ⟨u, rfl, ru⟩ := rv.one
  cases ru
  obtain ⟨z, its, n, r, hl, e⟩ := I.lstM hH
  obtain ⟨its2, r2, ⟨o, e2, hc, n2, hd⟩, z2⟩ := I.tuple hB
  have hl2 := r2.length
  obtain ⟨c, dd, dt, sl⟩ := o
  simp only at hc hd
  subst hc; subst hd
  have hsz : its.toArray.size + its2.toArray.size ≤ sizeLine := by rw [List.size_toArray, List.size_toArray]; omega
  have hlong : ¬ (!its.toArray.isEmpty && Builtin.List.listTooLong (its.toArray.size + its2.toArray.size)) = true := by
    rw [notLongL hsz, Bool.and_false]
    exact Bool.false_ne_true
  refine call_meets F.slot_list_extend ⟨_, e, rfl⟩ F.entry_list_extend (F.args_list_extend_2 _ _)
    (extend_tup l its.toArray n b its2.toArray n2 dd sl hlong (by rw [List.size_toArray]; omega) (by omega)) ⟨e, e2, ?_⟩
  refine ⟨.non, _, I.lset (its' := its ++ its2) hH e (by simp) (r.append r2) ?_, rfl, q⟩
  rw [List.length_append]
  omega
end L2.PV
set_option Elab.async false
set_option linter.all false
set_option autoImplicit false
/-! Statements. -/
namespace L2.PV
open PySem PySem.Spec PyProof.Rows
def Pn (pins : List Nat) (σ σ' : St) : Prop := σ'.length = σ.length ∧ ∀ j ∈ pins, σ'[j]? = σ[j]?
theorem Pn.refl {pins : List Nat} (σ : St) : Pn pins σ σ := ⟨rfl, fun _ _ => rfl⟩
theorem Pn.trans {pins : List Nat} {σ σ1 σ2 : St} (a : Pn pins σ σ1) (b : Pn pins σ1 σ2) : Pn pins σ σ2 := ⟨b.1.trans a.1, fun j h => (b.2 j h).trans (a.2 j h)⟩
section
variable (C : RC) (W : WX) (pins : List Nat)
def okN (H G : Hp) (O : List Addr) (σ : St) (K : St → Hp → Prop) (ρ : DEnv) : Prop := ∀ σ' H' G' O', Step false H G O H' G' O' → Wd H' G' O' → AgL C G' H' ρ σ' O' → Pn pins σ σ' → K σ' H'
def okR (H G : Hp) (O : List Addr) (σ : St) (K : VK) (d : D) (ρ : DEnv) : Prop := ∀ v σ' H' G' Od O', Step false H G O H' G' (Od ++ O') → Wd H' G' (Od ++ O') → RpO C G' H' d v Od → AgL C G' H' ρ σ' O' → Pn pins σ σ' → K v H'
def okX (H G : Hp) (O : List Addr) (σ : St) (x : Exn) (ρ : DEnv) : Prop := ∀ cls dx σ' H' G' O', Step false H G O H' G' O' → Wd H' G' O' → RpX C G' x cls dx → AgL C G' H' ρ σ' O' → Pn pins σ σ' → W cls dx σ' H'
def okS (H G : Hp) (O : List Addr) (σ : St) (Q : Ends) : SR → Prop
  | .nx ρ => okN C pins H G O σ Q.nx ρ
  | .br ρ => okN C pins H G O σ Q.bk ρ
  | .ct ρ => okN C pins H G O σ Q.ct ρ
  | .rt d ρ => okR C pins H G O σ Q.rt d ρ
  | .exc x ρ => okX C W pins H G O σ x ρ
def tS (ev : DEnv → Option SR) : TS := fun Q σ H => ∃ ρ G O r, Wd H G O ∧ AgL C G H ρ σ O ∧ ev ρ = some r ∧ okS C W pins H G O σ Q r
end
section
variable {C : RC} {F : FT} {cf : Nat → List D → Option CR} {lev : Nat} {N : List Str} {pins : List Nat} {sc : Scope} {X : Cx} {W : WX} {a b c tg : Expr} {ma mb mc : M} {pos : Pos}
theorem okS.rebase {p : Bool} {H G H1 G1 : Hp} {O O1 : List Addr} {σ σ1 : St} {Q : Ends} {r : SR} (h : okS C W pins H G O σ Q r) (st : Step p H G O H1 G1 O1) (pn : Pn pins σ σ1) : okS C W pins H1 G1 O1 σ1 Q r := by
  cases r with
  | nx ρ => exact fun σ' H' G' O' s w a k => h σ' H' G' O' (st.trans s).weak w a (pn.trans k)
  | br ρ => exact fun σ' H' G' O' s w a k => h σ' H' G' O' (st.trans s).weak w a (pn.trans k)
  | ct ρ => exact fun σ' H' G' O' s w a k => h σ' H' G' O' (st.trans s).weak w a (pn.trans k)
  | rt d ρ => exact fun v σ' H' G' Od O' s w r a k => h v σ' H' G' Od O' (st.trans s).weak w r a (pn.trans k)
  | exc x ρ => exact fun cls dx σ' H' G' O' s w r a k => h cls dx σ' H' G' O' (st.trans s).weak w r a (pn.trans k)
/-- from what an expression is worth -/
theorem sr_go {α : Type} {r : Option (RS α)} {ex : SR} {H G : Hp} {O : List Addr} {σ : St} {Q : Ends} {ok : α → DEnv → Prop} {f : α → DEnv → Option SR}
    (e : (match r with | none => none | some (.ok a ρ) => f a ρ | some (.exc x ρ) => some (.exc x ρ)) = some ex) (h : okS C W pins H G O σ Q ex) (k : ∀ a ρ, f a ρ = some ex → ok a ρ) : goX r ok (exK C W H G O σ) := by
  cases r with
  | none => cases e
  | some r =>
    cases r with
    | ok a ρ => exact k a ρ e
    | exc x ρ =>
      cases e
      exact fun cls d H' G' O' s w r a => h cls d σ H' G' O' s w r a (Pn.refl σ)
theorem sr_go' {r : Option (RS DEnv)} {ex : SR} {H G : Hp} {O : List Addr} {σ : St} {Q : Ends} {ok : DEnv → DEnv → Prop} (e : toSR r = some ex) (h : okS C W pins H G O σ Q ex) (k : ∀ a ρ, okN C pins H G O σ Q.nx a → ok a ρ) : goX r ok (exK C W H G O σ) := by
  cases r with
  | none => cases e
  | some r =>
    cases r with
    | ok a ρ =>
      cases e
      exact k a ρ h
    | exc x ρ =>
      cases e
      exact fun cls d H' G' O' s w r a => h cls d σ H' G' O' s w r a (Pn.refl σ)
/-! ### blocks -/
theorem ss_nil : PSs X [] (tS C W pins (evS cf pins .nil)) := PSs.imp pss_nil fun Q σ H ⟨ρ, G, O, r, w, ag, e, h⟩ => by
  rw [evS] at e; cases e
  exact h σ H G O (Step.refl _) w ag (Pn.refl σ)
theorem ss_cons {s : Stmt} {ss : List Stmt} (h1 : PS X s (tS C W pins (evS cf pins ma))) (h2 : PSs X ss (tS C W pins (evS cf pins mb))) : PSs X (s :: ss) (tS C W pins (evS cf pins (.cons ma mb))) := PSs.imp (pss_cons h1 h2) fun Q σ H ⟨ρ, G, O, r, w, ag, e, h⟩ => by
  rw [evS] at e
  cases e1 : evS cf pins ma ρ with
  | none => rw [e1] at e; cases e
  | some r1 =>
    rw [e1] at e
    refine ⟨ρ, G, O, r1, w, ag, e1, ?_⟩
    cases r1 with
    | nx ρ1 =>
      intro σ' H' G' O' st w' ag' pn
      exact ⟨ρ1, G', O', r, w', ag', e, h.rebase st pn⟩
    | br ρ1 => cases e; exact h
    | ct ρ1 => cases e; exact h
    | rt d ρ1 => cases e; exact h
    | exc x ρ1 => cases e; exact h
/-- a docstring goes before -/
theorem ss_doc {ss : List Stmt} {x : Str} {j : Nat} {p1 p2 : Pos} (h2 : PSs X ss (tS C W pins (evS cf pins mb))) : PSs X (.Expr (.Constant (.str x) j p1) p2 :: ss) (tS C W pins (evS cf pins mb)) := PSs.imp (pss_cons ps_doc h2) fun Q σ H h => h
theorem ss_pass : PS X (.Pass pos) (tS C W pins (evS cf pins .pss)) := PS.imp ps_pass fun Q σ H ⟨ρ, G, O, r, w, ag, e, h⟩ => by
  rw [evS] at e; cases e
  exact h σ H G O (Step.refl _) w ag (Pn.refl σ)
theorem ss_brk : PS X (.Break pos) (tS C W pins (evS cf pins .brk)) := PS.imp ps_break fun Q σ H ⟨ρ, G, O, r, w, ag, e, h⟩ => by
  rw [evS] at e; cases e
  exact h σ H G O (Step.refl _) w ag (Pn.refl σ)
theorem ss_cnt : PS X (.Continue pos) (tS C W pins (evS cf pins .cnt)) := PS.imp ps_continue fun Q σ H ⟨ρ, G, O, r, w, ag, e, h⟩ => by
  rw [evS] at e; cases e
  exact h σ H G O (Step.refl _) w ag (Pn.refl σ)
theorem ss_retn : PS X (.Return none pos) (tS C W pins (evS cf pins .retn)) := PS.imp ps_retN fun Q σ H ⟨ρ, G, O, r, w, ag, e, h⟩ => by
  rw [evS] at e; cases e
  exact h .non σ H G [] O (Step.refl _) w ⟨rfl, rfl⟩ ag (Pn.refl σ)
theorem ss_ret (ha : Ev C W cf pins X ma a) : PS X (.Return (some a) pos) (tS C W pins (evS cf pins (.ret ma))) := PS.imp (ps_ret ha.own) fun Q σ H ⟨ρ, G, O, r, w, ag, e, h⟩ => by
  rw [evS] at e
  refine ⟨ρ, G, O, w, ag, sr_go (f := fun d ρ1 => some (.rt d ρ1)) (r := bnd (evE cf pins ma ρ) fun x ρ1 => lft (ownM ma x) ρ1) (ex := r) ?_ h fun d ρ1 e1 => ?_⟩
  · rw [← e]
    cases bnd (evE cf pins ma ρ) fun x ρ1 => lft (ownM ma x) ρ1 with
    | none => rfl
    | some y => cases y <;> rfl
  · cases e1
    exact fun v H' G' Od O' s w r a => h v σ H' G' Od O' s.weak w r a (Pn.refl σ)
theorem ss_exp (ha : Ev C W cf pins X ma a) (hs : swapsWith a none pos.line X.env = pure false) : PS X (.Expr a pos) (tS C W pins (evS cf pins (.exp ma))) := PS.imp (ps_expr ha.b hs) fun Q σ H ⟨ρ, G, O, r, w, ag, e, h⟩ => by
  rw [evS] at e
  have q := sr_go' (ok := fun a ρ => okN C pins H G O σ Q.nx a) e h fun a _ z => z
  refine tX.next (Step.refl true) q w ag fun d ρ1 q1 v H1 G1 Od O1 s w1 r a1 => ?_
  exact q1 σ H1 G1 O1 s.weak w1 a1 (Pn.refl σ)
theorem ss_iff {ss1 ss2 : List Stmt} (ht : PT X a (tT C W (pureM ma) (evT cf pins ma))) (h1 : PSs X ss1 (tS C W pins (evS cf pins mb))) (h2 : PSs X ss2 (tS C W pins (evS cf pins mc))) : PS X (.If a ss1 ss2 pos) (tS C W pins (evS cf pins (.iff ma mb mc))) :=
  PS.imp (ps_if ht h1 h2) fun Q σ H ⟨ρ, G, O, r, w, ag, e, h⟩ => by
    rw [evS] at e
    refine ⟨ρ, G, O, w, ag, sr_go (f := fun (c : Bool) ρ1 => if c = true then evS cf pins mb ρ1 else evS cf pins mc ρ1) (r := evT cf pins ma ρ) (ex := r) ?_ h fun c ρ1 e1 H1 G1 O1 s w1 a1 => ?_⟩
    · rw [← e]
      cases evT cf pins ma ρ with
      | none => rfl
      | some y =>
        cases y with
        | exc _ _ => rfl
        | ok c ρ1 => cases c <;> rfl
    · cases c with
      | true =>
        rw [if_pos rfl] at e1 ⊢
        exact ⟨ρ1, G1, O1, r, w1, a1, e1, h.rebase s (Pn.refl σ)⟩
      | false =>
        rw [if_neg Bool.false_ne_true] at e1 ⊢
        exact ⟨ρ1, G1, O1, r, w1, a1, e1, h.rebase s (Pn.refl σ)⟩
/-! ### assignments -/
theorem asg_end {mt : M} {x : D} {ρ1 : DEnv} {H0 G0 H G : Hp} {O0 O Od : List Addr} {σ : St} {Q : Ends} {v : V} (w : Wd H G (Od ++ O)) (r : RpO C G H x v Od) (ag : AgL C G H ρ1 σ O) (st : Step false H0 G0 O0 H G (Od ++ O))
    (h : goX (bnd (lft (tgM pins mt x ρ1) ρ1) fun ρ3 _ => some (RS.ok ρ3 ρ3)) (fun a ρ => okN C pins H0 G0 O0 σ Q.nx a) (exK C W H0 G0 O0 σ)) : gTg C pins mt v σ H Q.nx := by
  cases e : tgM pins mt x ρ1 with
  | none => rw [e] at h; exact h.elim
  | some ρ' =>
    rw [e] at h
    exact ⟨ρ1, ρ', G, O, Od, x, w, r, ag, e, fun σ' O' t => h σ' H G O' (st.sub t.m) t.w t.ag ⟨t.len, t.pin⟩⟩
theorem ss_asg {mt : M} (ha : Ev C W cf pins X ma a) (hg : PG X tg (gTg C pins mt)) (hs : swapsWithSole [tg] a pos.line X.env = pure false) (hw : swappedStores [tg] a X.env = pure none) (h1 : (assignEach [tg] X.env).map (·.2) = [assign tg X.env]) :
    PS X (.Assign [tg] a pos) (tS C W pins (evS cf pins (.asg mt ma))) := PS.imp (ps_asg ha.own hg hs hw h1) fun Q σ H ⟨ρ, G, O, r, w, ag, e, h⟩ => by
  rw [evS] at e
  have q := sr_go' (ok := fun a ρ => okN C pins H G O σ Q.nx a) e h fun a _ z => z
  refine ha.own' (Step.refl true) q w ag fun d ρ1 q1 v H1 G1 Od O1 s w1 r a1 => ?_
  exact asg_end w1 r a1 s.weak q1
/-- name = [..] -/
theorem ss_lc (g : Gd C F cf lev N sc X) {own : List (Str × Nat)} {elt iter : Expr} {ifs : List Expr} {scope : Scope} {mt mi me : M} {pc : Bool} {i : Nat} {y : Str} {py spos : Pos} (hy : N[i]? = some y) (hyl : sc.names.lookup y = some .local)
    (hsw : swapsWith (.ListComp elt [⟨tg, iter, ifs, 0⟩] scope pos) (some (.Name y py)) spos.line X.env = pure true) (nv : (own.map (·.2)).Nodup) (sub : ∀ j ∈ tgSl mt, j ∈ own.map (·.2))
    (hi : PI X tg iter (tI C W (pureM mi) (evI cf pins mi))) (ok : blkC N sc scope own = true)
    (hg : ∀ X', Gd C F cf lev N (relS scope sc) X' → X'.fn = (fun x => scope.names.lookup x == some .cell) → PG X' tg (gTg C pins mt))
    (ht : ∀ X', Gd C F cf lev N (relS scope sc) X' → X'.fn = (fun x => scope.names.lookup x == some .cell) → PTs X' ifs (tT C W0 pc (evC cf pins mc)))
    (he : ∀ X', Gd C F cf lev N (relS scope sc) X' → X'.fn = (fun x => scope.names.lookup x == some .cell) → Ev C W0 cf pins X' me elt)
    (hs : ∀ x, foldedSetIterable iter X.env x = pure x) :
    PS X (.Assign [.Name y py] (.ListComp elt [⟨tg, iter, ifs, 0⟩] scope pos) spos) (tS C W pins (evS cf pins (.asg (.tgn i) (.lc (own.map (·.2)) mt mi mc me)))) := by
  have gd : ∀ (s : Shared) (H : Hp) (c : Addr) (cl : List (Str × Addr)) (fp : List Addr), Gd C F cf lev N (relS scope sc) (X.blk s H scope (compEnvC scope cl c X.env) fp) := fun s H c cl fp =>
    ⟨g.kK, g.kW, g.kF, g.nN, g.nd, by rw [← g.scp]; rfl, g.calm, g.room, g.free, g.fn, g.mgf, g.kp, g.bd, g.gl, g.kb, g.two, g.rcd⟩
  refine PS.imp (ps_setLc (X := X) (i := i) g.calm (by rw [g.nN]; exact g.nd) (by rw [g.nN]; exact hy) (by rw [g.scp]; exact hyl) hsw hi (by rw [g.nN, g.scp]; exact blkOk_by ok) (fun s H c cl fp => hg _ (gd s H c cl fp) rfl) (fun s H c cl fp => ht _ (gd s H c cl fp) rfl) (fun s H c cl fp => (he _ (gd s H c cl fp) rfl).frz) hs)
    fun Q σ H ⟨ρ, G, O, r, w, ag, e, h⟩ => lc_imp nv sub ?_
  rw [evS] at e
  have q := sr_go' (ok := fun a ρ => okN C pins H G O σ Q.nx a) e h fun a _ z => z
  refine tX.next (Step.refl true) q w ag fun d ρ1 q1 v H1 G1 Od O1 s w1 r a1 => ?_
  obtain ⟨d', e1, q1⟩ := goX_lft (by rw [goX_bnd] at q1; exact q1)
  have e1 : some d = some d' := e1
  cases e1
  have z := asg_end (mt := .tgn i) w1 r a1 s.weak q1
  obtain ⟨ρ2, ρ', G2, O2, Od2, d2, w2, r2, ag2, e2, k⟩ := z
  rw [tgM] at e2
  obtain ⟨O', t⟩ := store_tg w2 r2 ag2 e2
  exact k _ O' t
theorem ss_lc2 (g : Gd C F cf lev N sc X) {own : List (Str × Nat)} {vs1 : List Nat} {elt iter tg1 iter1 : Expr} {scope : Scope} {mt mi mt1 mi1 me : M} {i : Nat} {y : Str} {py spos : Pos} (hy : N[i]? = some y) (hyl : sc.names.lookup y = some .local)
    (hsw : swapsWith (.ListComp elt [⟨tg, iter, [], 0⟩, ⟨tg1, iter1, [], 0⟩] scope pos) (some (.Name y py)) spos.line X.env = pure true) (nv : (own.map (·.2)).Nodup) (sub : ∀ j ∈ tgSl mt, j ∈ own.map (·.2)) (sub1 : ∀ j ∈ tgSl mt1, j ∈ vs1)
    (hi : PI X tg iter (tI C W (pureM mi) (evI cf pins mi))) (ok : blkC N sc scope own = true) (hv : ∀ j ∈ vs1, j ∈ own.map (·.2))
    (hg : ∀ X', Gd C F cf lev N (relS scope sc) X' → X'.fn = (fun x => scope.names.lookup x == some .cell) → PG X' tg (gTg C pins mt))
    (hi1 : ∀ X', Gd C F cf lev N (relS scope sc) X' → X'.fn = (fun x => scope.names.lookup x == some .cell) → PI X' tg1 iter1 (tI C W0 (pureM mi1) (evI cf pins mi1)))
    (hg1 : ∀ X', Gd C F cf lev N (relS scope sc) X' → X'.fn = (fun x => scope.names.lookup x == some .cell) → PG X' tg1 (gTg C pins mt1))
    (he : ∀ X', Gd C F cf lev N (relS scope sc) X' → X'.fn = (fun x => scope.names.lookup x == some .cell) → Ev C W0 cf pins X' me elt)
    (hs : ∀ x, foldedSetIterable iter X.env x = pure x) (hs1 : ∀ env x, foldedSetIterable iter1 env x = pure x) :
    PS X (.Assign [.Name y py] (.ListComp elt [⟨tg, iter, [], 0⟩, ⟨tg1, iter1, [], 0⟩] scope pos) spos) (tS C W pins (evS cf pins (.asg (.tgn i) (.lc2 (own.map (·.2)) mt mi vs1 mt1 mi1 me)))) := by
  have gd : ∀ (s : Shared) (H : Hp) (c : Addr) (cl : List (Str × Addr)) (fp : List Addr), Gd C F cf lev N (relS scope sc) (X.blk s H scope (compEnvC scope cl c X.env) fp) := fun s H c cl fp =>
    ⟨g.kK, g.kW, g.kF, g.nN, g.nd, by rw [← g.scp]; rfl, g.calm, g.room, g.free, g.fn, g.mgf, g.kp, g.bd, g.gl, g.kb, g.two, g.rcd⟩
  refine PS.imp (ps_setLc2 (X := X) (i := i) g.calm (by rw [g.nN]; exact g.nd) (by rw [g.nN]; exact hy) (by rw [g.scp]; exact hyl) hsw hi (by rw [g.nN, g.scp]; exact blkOk_by ok) hv (fun s H c cl fp => hg _ (gd s H c cl fp) rfl) (fun s H c cl fp => pts_nil) (fun s H c cl fp => hi1 _ (gd s H c cl fp) rfl) (fun s H c cl fp => hg1 _ (gd s H c cl fp) rfl) (fun s H c cl fp => pts_nil) (fun s H c cl fp => (he _ (gd s H c cl fp) rfl).frz) hs hs1)
    fun Q σ H ⟨ρ, G, O, r, w, ag, e, h⟩ => lc2_imp nv sub sub1 hv ?_
  rw [evS] at e
  have q := sr_go' (ok := fun a ρ => okN C pins H G O σ Q.nx a) e h fun a _ z => z
  refine tX.next (Step.refl true) q w ag fun d ρ1 q1 v H1 G1 Od O1 s w1 r a1 => ?_
  obtain ⟨d', e1, q1⟩ := goX_lft (by rw [goX_bnd] at q1; exact q1)
  have e1 : some d = some d' := e1
  cases e1
  have z := asg_end (mt := .tgn i) w1 r a1 s.weak q1
  obtain ⟨ρ2, ρ', G2, O2, Od2, d2, w2, r2, ag2, e2, k⟩ := z
  rw [tgM] at e2
  obtain ⟨O', t⟩ := store_tg w2 r2 ag2 e2
  exact k _ O' t
theorem RpOs.two {G H : Hp} {ds : List D} {v u : V} {Od : List Addr} (r : RpOs C G H ds [v, u] Od) : ∃ d e O1 O2, ds = [d, e] ∧ Od = O1 ++ O2 ∧ RpO C G H d v O1 ∧ RpO C G H e u O2 := by
  match ds, r with
  | [], r => cases r.1
  | [d], ⟨v', ws, O1, O2, e1, e2, r1, r2⟩ => cases e1; cases r2.1
  | d :: e :: f :: ds, ⟨v', ws, O1, O2, e1, e2, r1, v2, ws2, O3, O4, e3, e4, r3, v3, ws3, O5, O6, e5, _⟩ => cases e1; cases e3; cases e5
  | [d, e], ⟨v', ws, O1, O2, e1, e2, r1, v2, ws2, O3, O4, e3, e4, r3, e5, e6⟩ =>
    cases e1; cases e3; subst e4; subst e6
    rw [List.append_nil] at e2
    exact ⟨d, e, O1, O3, rfl, e2, r1, r3⟩
/-- names at once, their values put in from the left -/
theorem par_end : ∀ {is : List Nat} {ds ρ1s : _} {vs : List V} {ρ1 ρ' : DEnv} {H G : Hp} {O Od : List Addr} {σ : St}, ρ1s = ρ1 → parD pins is ds ρ1 = some ρ' → RpOs C G H ds vs Od → Wd H G (Od ++ O) → AgL C G H ρ1 σ O →
    ∃ σ' O', Wd H G O' ∧ (∀ a ∈ O', a ∈ Od ++ O) ∧ AgL C G H ρ' σ' O' ∧ Pn pins σ σ' ∧ σ' = (is.zip vs).foldl (fun τ p => τ.set p.1 (some p.2)) σ
  | [], [], _, vs, ρ1, ρ', H, G, O, Od, σ, rfl, e, r, w, ag => by
    cases e
    obtain ⟨rfl, rfl⟩ := r
    exact ⟨σ, O, w, fun _ h => h, ag, Pn.refl σ, rfl⟩
  | i :: is, d :: ds, _, vs, ρ1, ρ', H, G, O, Od, σ, rfl, e, r, w, ag => by
    obtain ⟨v, ws, O1, O2, rfl, rfl, r1, r2⟩ := r
    unfold parD at e
    split at e
    · rename_i ρ2 e1
      have pm : ((O1 ++ O2) ++ O).Perm (O2 ++ (O1 ++ O)) := by
        rw [← List.append_assoc]; exact List.perm_append_comm.append_right O
      have w' : Wd H G (O2 ++ (O1 ++ O)) := w.sub ((pm.nodup_iff).mp w.nd) fun a ha => (pm.mem_iff).mpr ha
      obtain ⟨O3, t⟩ := store_tg w'.right r1 ag e1
      have dj := (List.nodup_append.mp w'.nd)
      have w3 : Wd H G (O2 ++ O3) := w'.sub (List.nodup_append.mpr ⟨dj.1, t.w.nd, fun a ha b hb => dj.2.2 a ha b (t.m b hb)⟩) fun a ha => (List.mem_append.mp ha).elim (fun z => List.mem_append_left _ z) fun z => List.mem_append_right _ (t.m a z)
      obtain ⟨σ', O', h1, h2, h3, h4, h5⟩ := par_end (ρ1s := ρ2) rfl e r2 w3 t.ag
      refine ⟨σ', O', h1, fun a ha => (pm.mem_iff).mpr ?_, h3, Pn.trans ⟨t.len, t.pin⟩ h4, h5⟩
      rcases List.mem_append.mp (h2 a ha) with z | z
      · exact List.mem_append_left _ z
      · exact List.mem_append_right _ (t.m a z)
    · cases e
  | [], _ :: _, _, _, _, _, _, _, _, _, _, rfl, e, _, _, _ => nomatch e
  | _ :: _, [], _, _, _, _, _, _, _, _, _, rfl, e, _, _, _ => nomatch e
theorem ss_par2 (g : Gd C F cf lev N sc X) {ms : M} {i j : Nat} {x y : Str} {px py pt : Pos} {kt k2 : Nat} {pt2 : Pos} (hi : N[i]? = some x) (hj : N[j]? = some y) (hij : i ≠ j) (hx : sc.names.lookup x = some .local) (hy : sc.names.lookup y = some .local)
    (ha : PAn X [a, b] (tW C W (pureM ms) (evW cf pins ms))) (hw : swappedStores [.Tuple [.Name x px, .Name y py] kt pt] (.Tuple [a, b] k2 pt2) X.env = pure (some [x, y])) :
    PS X (.Assign [.Tuple [.Name x px, .Name y py] kt pt] (.Tuple [a, b] k2 pt2) pos) (tS C W pins (evS cf pins (.par [i, j] ms))) :=
  PS.imp (ps_par (X := X) g.calm (by rw [g.nN]; exact g.nd) (by rw [g.nN]; exact hi) (by rw [g.nN]; exact hj) hij (by rw [g.scp]; exact hx) (by rw [g.scp]; exact hy) ha hw rfl) fun Q σ H ⟨ρ, G, O, r, w, ag, e, h⟩ => by
    rw [evS] at e
    have q := sr_go' (ok := fun a ρ => okN C pins H G O σ Q.nx a) e h fun a _ z => z
    refine tX.next (Step.refl true) q w ag fun ds ρ1 q1 vs H1 G1 Od O1 s w1 r a1 hl => ?_
    cases e : parD pins [i, j] ds ρ1 with
    | none => rw [e] at q1; exact q1.elim
    | some ρ' =>
      rw [e] at q1
      match vs, hl with
      | [v, u], _ =>
        obtain ⟨σ', O', h1, h2, h3, h4, rfl⟩ := par_end rfl e r w1 a1
        exact ⟨v, u, rfl, q1 _ H1 G1 O' (s.weak.sub h2) h1 h3 h4⟩
theorem ss_par3 (g : Gd C F cf lev N sc X) {ms : M} {i j l : Nat} {x y z : Str} {px py pz pt : Pos} {kt k2 : Nat} {pt2 : Pos} (hi : N[i]? = some x) (hj : N[j]? = some y) (hl : N[l]? = some z) (hij : i ≠ j) (hil : i ≠ l) (hjl : j ≠ l)
    (hx : sc.names.lookup x = some .local) (hy : sc.names.lookup y = some .local) (hz : sc.names.lookup z = some .local)
    (ha : PAn X [a, b, c] (tW C W (pureM ms) (evW cf pins ms))) (hw : swappedStores [.Tuple [.Name x px, .Name y py, .Name z pz] kt pt] (.Tuple [a, b, c] k2 pt2) X.env = pure (some [x, y, z])) :
    PS X (.Assign [.Tuple [.Name x px, .Name y py, .Name z pz] kt pt] (.Tuple [a, b, c] k2 pt2) pos) (tS C W pins (evS cf pins (.par [i, j, l] ms))) :=
  PS.imp (ps_par3 (X := X) g.calm (by rw [g.nN]; exact g.nd) (by rw [g.nN]; exact hi) (by rw [g.nN]; exact hj) (by rw [g.nN]; exact hl) hij hil hjl (by rw [g.scp]; exact hx) (by rw [g.scp]; exact hy) (by rw [g.scp]; exact hz) ha hw rfl) fun Q σ H ⟨ρ, G, O, r, w, ag, e, h⟩ => by
    rw [evS] at e
    have q := sr_go' (ok := fun a ρ => okN C pins H G O σ Q.nx a) e h fun a _ z => z
    refine tX.next (Step.refl true) q w ag fun ds ρ1 q1 vs H1 G1 Od O1 s w1 r a1 hl => ?_
    cases e : parD pins [i, j, l] ds ρ1 with
    | none => rw [e] at q1; exact q1.elim
    | some ρ' =>
      rw [e] at q1
      match vs, hl with
      | [v, u, t], _ =>
        obtain ⟨σ', O', h1, h2, h3, h4, rfl⟩ := par_end rfl e r w1 a1
        exact ⟨v, u, t, rfl, q1 _ H1 G1 O' (s.weak.sub h2) h1 h3 h4⟩
end
end L2.PV
set_option Elab.async false
set_option linter.all false
set_option autoImplicit false
/-! names, through a tuple. -/
namespace L2.PV
open PySem PySem.Spec PyProof.Rows
section
variable {C : RC} {F : FT} {cf : Nat → List D → Option CR} {lev : Nat} {N : List Str} {pins : List Nat} {sc : Scope} {X : Cx} {W : WX} {pos : Pos}
def gTgW (C : RC) (pins : List Nat) (is : List Nat) : TGs := fun vs σ H Q => ∃ ρ ρ' G O Od ds, Wd H G (Od ++ O) ∧ RpOs C G H ds vs Od ∧ AgL C G H ρ σ O ∧ parD pins is ds ρ = some ρ' ∧
  ∀ σ' O', Wd H G O' → (∀ a ∈ O', a ∈ Od ++ O) → AgL C G H ρ' σ' O' → Pn pins σ σ' → Q σ' H
theorem sgw_nil : PGs X [] (gTgW C pins []) := PGs.imp pgs_nil fun vs σ H Q ⟨ρ, ρ', G, O, Od, ds, w, r, ag, e, q⟩ => by
  cases ds with
  | nil =>
    unfold parD at e
    cases e
    obtain ⟨rfl, rfl⟩ := r
    exact ⟨rfl, q σ O w (fun _ h => h) ag (Pn.refl σ)⟩
  | cons d ds => cases e
theorem sgw_cons {e : Expr} {es : List Expr} {i : Nat} {is : List Nat} (h1 : PG X e (gTg C pins (.tgn i))) (h2 : PGs X es (gTgW C pins is)) (hs : (assignEach (e :: es) X.env).map (·.2) = assign e X.env :: (assignEach es X.env).map (·.2)) :
    PGs X (e :: es) (gTgW C pins (i :: is)) := PGs.imp (pgs_cons h1 h2 hs) fun vs σ H Q ⟨ρ, ρ', G, O, Od, ds, w, r, ag, e, q⟩ => by
  cases ds with
  | nil => cases e
  | cons d ds =>
    obtain ⟨v, ws, O1, O2, rfl, rfl, r1, r2⟩ := r
    unfold parD at e
    split at e
    · rename_i ρ2 e1
      have pm : ((O1 ++ O2) ++ O).Perm (O2 ++ (O1 ++ O)) := by
        rw [← List.append_assoc]; exact List.perm_append_comm.append_right O
      have w' : Wd H G (O2 ++ (O1 ++ O)) := w.sub ((pm.nodup_iff).mp w.nd) fun a ha => (pm.mem_iff).mpr ha
      refine ⟨v, ws, rfl, ρ, ρ2, G, O, O1, d, w'.right, r1, ag, by rw [tgM]; exact e1, fun σ1 O3 t => ?_⟩
      have dj := (List.nodup_append.mp w'.nd)
      have w3 : Wd H G (O2 ++ O3) := w'.sub (List.nodup_append.mpr ⟨dj.1, t.w.nd, fun a ha b hb => dj.2.2 a ha b (t.m b hb)⟩) fun a ha => (List.mem_append.mp ha).elim (fun z => List.mem_append_left _ z) fun z => List.mem_append_right _ (t.m a z)
      refine ⟨ρ2, ρ', G, O3, O2, ds, w3, r2, t.ag, e, fun σ' O' k1 k2 k3 k4 => q σ' O' k1 (fun a ha => (pm.mem_iff).mpr ?_) k3 (Pn.trans ⟨t.len, t.pin⟩ k4)⟩
      rcases List.mem_append.mp (k2 a ha) with z | z
      · exact List.mem_append_left _ z
      · exact List.mem_append_right _ (t.m a z)
    · cases e
theorem ss_parT (g : Gd C F cf lev N sc X) {ts es : List Expr} {ms : M} {is : List Nat} {kt k2 n : Nat} {pt pt2 : Pos} (ha : PAn X es (tW C W (pureM ms) (evW cf pins ms))) (hT : PGs X ts (gTgW C pins is))
    (hn : (assignEach ts X.env).length = n) (hst : (assignEach ts X.env).findIdx? (·.1) = none) (hl : es.length = n) (hl2 : es.length ≤ 1000)
    (hw : swappedStores [.Tuple ts kt pt] (.Tuple es k2 pt2) X.env = pure none) :
    PS X (.Assign [.Tuple ts kt pt] (.Tuple es k2 pt2) pos) (tS C W pins (evS cf pins (.par is ms))) :=
  PS.imp (ps_asg (pe_tup ha) (pg_tup g.calm hT hn hst) rfl hw rfl) fun Q σ H ⟨ρ, G, O, r, w, ag, e, h⟩ => by
    rw [evS] at e
    have q := sr_go' (ok := fun a ρ => okN C pins H G O σ Q.nx a) e h fun a _ z => z
    refine tX.next (Step.refl true) q w ag fun ds ρ1 q1 vs H1 G1 Od O1 s w1 r a1 hl' => ⟨by rw [hl']; exact Nat.le_trans hl2 (by decide), fun p hp => ?_⟩
    cases e : parD pins is ds ρ1 with
    | none => rw [e] at q1; exact q1.elim
    | some ρ' =>
      rw [e] at q1
      have hin : ∀ b ∈ Od ++ O1, H1 b ≠ none := fun b hb => (List.mem_append.mp hb).elim (RpOs.inH ds vs Od r b) (a1.inH b)
      obtain ⟨s1, s2⟩ := step_new w1 hin hp (.tup vs)
      refine ⟨p, vs, rfl, SqT.of upd_same, by rw [hl', hl], ρ1, ρ', _, O1, Od, ds, s2, RpOs.frame s1.gg ds vs Od r (fun a ha o eo => s1.sm rfl _ _ eo), a1.frame s1.gg (fun a ha o eo => s1.sm rfl _ _ eo), e, fun σ' O' k1 k2 k3 k4 => ?_⟩
      exact q1 _ _ _ O' ((s.trans s1).weak.sub k2) k1 k3 k4
end
end L2.PV
set_option Elab.async false
set_option linter.all false
set_option autoImplicit false
/-! One value for several names; an __init__ that keeps what it is handed. -/
namespace L2.PV
open PySem PySem.Spec PyProof.Rows
section
variable {C : RC} {F : FT} {cf : Nat → List D → Option CR} {lev : Nat} {N : List Str} {pins : List Nat} {sc : Scope} {X : Cx} {W : WX} {a : Expr} {ma : M} {pos : Pos}
theorem asgs_go {i : Nat} {is : List Nat} {x : D} {v : V} {G : Hp} {ρ1 ρ' : DEnv} {H : Hp} {O : List Addr} {σ : St} {Q : St → Hp → Prop} (e : asgsD pins (i :: is) x ρ1 = some ρ') (w : Wd H G O) (r : Rp C G x v) (ag : AgL C G H ρ1 σ O)
    (k : ∀ ρ2 σ2 O2, TgP C pins H G O [i] σ ρ2 σ2 O2 → asgsD pins is x ρ2 = some ρ' → Q σ2 H) : gTg C pins (.tgn i) v σ H Q := by
  unfold asgsD at e
  cases e1 : asgI pins i x ρ1 with
  | none => rw [e1] at e; cases e
  | some ρ2 =>
    rw [e1] at e
    exact ⟨ρ1, ρ2, G, O, [], x, w, Rp.own (Rp.isFz r) r, ag, by rw [tgM]; exact e1, fun σ2 O2 t => k ρ2 σ2 O2 t e⟩
theorem ss_asgs2 {t1 t2 : Expr} {i j : Nat} (ha : Ev C W cf pins X ma a) (h1 : PG X t1 (gTg C pins (.tgn i))) (h2 : PG X t2 (gTg C pins (.tgn j)))
    (hs : (assignEach [t1, t2] X.env).map (·.2) = [assign t1 X.env, assign t2 X.env]) (hw : swappedStores [t1, t2] a X.env = pure none) :
    PS X (.Assign [t1, t2] a pos) (tS C W pins (evS cf pins (.asgs [i, j] ma))) := PS.imp (ps_asg2 ha.frz h1 h2 hs hw) fun Q σ H ⟨ρ, G, O, r, w, ag, e, h⟩ => by
  rw [evS] at e
  have q := sr_go' (ok := fun a ρ => okN C pins H G O σ Q.nx a) e h fun a _ z => z
  refine ha.frz' (Step.refl true) q w ag fun d ρ1 q1 v H1 G1 O1 s w1 r a1 => ?_
  cases e : asgsD pins [i, j] d ρ1 with
  | none => rw [e] at q1; exact q1.elim
  | some ρ' =>
    rw [e] at q1
    refine asgs_go e w1 r a1 fun ρ2 σ2 O2 t2 e2 => asgs_go e2 t2.w r t2.ag fun ρ3 σ3 O3 t3 e3 => ?_
    unfold asgsD at e3
    cases e3
    exact q1 σ3 H1 G1 O3 (s.weak.sub fun b hb => t2.m b (t3.m b hb)) t3.w t3.ag (Pn.trans ⟨t2.len, t2.pin⟩ ⟨t3.len, t3.pin⟩)
theorem ss_asgs3 {t1 t2 t3 : Expr} {i j l : Nat} (ha : Ev C W cf pins X ma a) (h1 : PG X t1 (gTg C pins (.tgn i))) (h2 : PG X t2 (gTg C pins (.tgn j))) (h3 : PG X t3 (gTg C pins (.tgn l)))
    (hs : (assignEach [t1, t2, t3] X.env).map (·.2) = [assign t1 X.env, assign t2 X.env, assign t3 X.env]) (hw : swappedStores [t1, t2, t3] a X.env = pure none) :
    PS X (.Assign [t1, t2, t3] a pos) (tS C W pins (evS cf pins (.asgs [i, j, l] ma))) := PS.imp (ps_asg3 ha.frz h1 h2 h3 hs hw) fun Q σ H ⟨ρ, G, O, r, w, ag, e, h⟩ => by
  rw [evS] at e
  have q := sr_go' (ok := fun a ρ => okN C pins H G O σ Q.nx a) e h fun a _ z => z
  refine ha.frz' (Step.refl true) q w ag fun d ρ1 q1 v H1 G1 O1 s w1 r a1 => ?_
  cases e : asgsD pins [i, j, l] d ρ1 with
  | none => rw [e] at q1; exact q1.elim
  | some ρ' =>
    rw [e] at q1
    refine asgs_go e w1 r a1 fun ρ2 σ2 O2 t2 e2 => asgs_go e2 t2.w r t2.ag fun ρ3 σ3 O3 t3 e3 => asgs_go e3 t3.w r t3.ag fun ρ4 σ4 O4 t4 e4 => ?_
    unfold asgsD at e4
    cases e4
    exact q1 σ4 H1 G1 O4 (s.weak.sub fun b hb => t2.m b (t3.m b (t4.m b hb))) t4.w t4.ag (Pn.trans ⟨t2.len, t2.pin⟩ (Pn.trans ⟨t3.len, t3.pin⟩ ⟨t4.len, t4.pin⟩))
end
/-! ### an __init__ -/
def iniB (N : List Str) (sc : Scope) : List Str → Nat → List Stmt → Bool
  | [], _, [] => true
  | n :: fs, i, .Assign [.Attribute (.Name s _) f _] (.Name x _) _ :: ss => decide (f = n) && decide (N[0]? = some s) && decide (N[i]? = some x) && visB sc s && okName s && visB sc x && okName x && iniB N sc fs (i + 1) ss
  | _, _, _ => false
def iniD (N : List Str) (sc : Scope) (fs : List Str) : List Stmt → Bool
  | .Expr (.Constant (.str _) _ _) _ :: ss => iniB N sc fs 1 ss
  | ss => iniB N sc fs 1 ss
theorem putF_new {f : Str} {v : V} : ∀ {gs : List (Str × V)}, (∀ q ∈ gs, q.1 ≠ f) → putF f v gs = gs ++ [(f, v)]
  | [], _ => rfl
  | (g, x) :: r, h => by
    show (if g = f then (g, v) :: r else (g, x) :: putF f v r) = _
    rw [if_neg (h (g, x) List.mem_cons_self), putF_new fun q hq => h q (List.mem_cons_of_mem _ hq)]; rfl
def tIni (Ca : Addr) (fs : List Str) (i : Nat) : TS := fun D σ H => ∃ H0 a dx gs us, H = upd H0 a (.ins Ca dx gs) ∧ σ[0]? = some (some (V.ref a)) ∧ us.length = fs.length ∧ (∀ j, j < fs.length → σ[i + j]? = some us[j]?) ∧
  gs.length + fs.length < 1000 ∧ (∀ q ∈ gs, q.1 ∉ fs) ∧ fs.Nodup ∧ D.nx σ (upd H0 a (.ins Ca dx (gs ++ fs.zip us)))
theorem pss_ini {X : Cx} {Ca : Addr} (cls : Cls X.K Ca) : ∀ {fs : List Str} {i : Nat} {ss : List Stmt}, iniB X.N X.env.scope fs i ss = true → (∀ n ∈ fs, NoAttr X.K Ca n) → PSs X ss (tIni Ca fs i)
  | [], i, [], _, _ => PSs.imp pss_nil fun D σ H ⟨H0, a, dx, gs, us, e, _, hl, _, _, _, _, k⟩ => by
    cases us with
    | nil => rw [List.zip_nil_left, List.append_nil] at k; rw [e]; exact k
    | cons _ _ => cases hl
  | [], _, _ :: _, h, _ => by unfold iniB at h; cases h
  | n :: fs, i, [], h, _ => by unfold iniB at h; cases h
  | n :: fs, i, s :: ss, h, na => by
    unfold iniB at h
    split at h
    · rename_i e1 _
      cases e1
    · rename_i i fsA iA n' fs' i' s0 p0 f p1 x p2 p3 ss' e1 e2
      cases e1
      cases e2
      simp only [Bool.and_eq_true, decide_eq_true_eq] at h
      obtain ⟨⟨⟨⟨⟨⟨⟨h1, h2⟩, h3⟩, h4⟩, h5⟩, h6⟩, h7⟩, h8⟩ := h
      subst h1
      have ih := pss_ini cls h8 fun n hn => na n (List.mem_cons_of_mem _ hn)
      refine PSs.imp (pss_cons (ps_fld (pe_var (i := 0) h2 (visB_ok h4) (okName_d h5) (okName_c h5)) (pe_var (i := i) h3 (visB_ok h6) (okName_d h7) (okName_c h7)) rfl) ih) fun D σ H ⟨H0, a, dx, gs, us, e, e0, hl, hu, hn, hd, hf, k⟩ => ?_
      cases us with
      | nil => cases hl
      | cons u us =>
        have hu0 := hu 0 (Nat.succ_pos _)
        simp at hu0
        refine ⟨u, by simpa using hu0, .ref a, e0, a, Ca, dx, gs, rfl, by rw [e]; exact upd_same, cls, na f List.mem_cons_self, by simp at hn; omega, ?_⟩
        rw [e, upd_upd, putF_new fun q hq z => hd q hq (z ▸ List.mem_cons_self)]
        refine ⟨H0, a, dx, gs ++ [(f, u)], us, rfl, e0, by simpa using hl, fun j hj => ?_, by simp at hn ⊢; omega, fun q hq => ?_, (List.nodup_cons.mp hf).2, ?_⟩
        · have := hu (j + 1) (by simp; exact hj)
          rw [show i + (j + 1) = i + 1 + j by omega] at this
          simpa using this
        · rcases List.mem_append.mp hq with z | z
          · exact fun y => hd q z (List.mem_cons_of_mem _ y)
          · rw [List.mem_singleton.mp z]; exact (List.nodup_cons.mp hf).1
        · rw [List.append_assoc]; exact k
    · cases h
theorem pss_iniD {X : Cx} {Ca : Addr} (cls : Cls X.K Ca) {fs : List Str} {ss : List Stmt} (h : iniD X.N X.env.scope fs ss = true) (na : ∀ n ∈ fs, NoAttr X.K Ca n) : PSs X ss (tIni Ca fs 1) := by
  unfold iniD at h
  split at h
  · exact PSs.imp (pss_cons ps_doc (pss_ini cls h na)) fun D σ H k => k
  · exact pss_ini cls h na
/-- .. keeps its promise -/
theorem ini_ok {P : Program} {w : World} {K : PySem.W.Frag} {mg : Str → Option Value} {base : Heap} {N ps fs : List Str} {x qual : Str} {params : Arguments} {body : List Stmt} {scope : Scope} {f Ca : Addr} {fd : FuncData}
    (fD : FunD K x qual params body scope [] [] f fd) (S : FnScope N ps scope) (h : iniD N scope fs body = true) (hp : ps.length = fs.length + 1) (hN : N.length = ps.length) (nd : fs.Nodup) (hl : fs.length < 1000) (cls : Cls K Ca) (na : ∀ n ∈ fs, NoAttr K Ca n) :
    FnOk P w K mg base (L2.CX P w) 1 f fd ps (spNew Ca fs) := by
  refine fD.ok S (fun vs H Q E ⟨a, dx, us, e, _, e2, _⟩ => by rw [e, List.length_cons, e2, hp]) fun cdv A outer s H vs Q E hr k => ⟨_, pss_iniD cls h na, ?_⟩
  obtain ⟨a, dx, us, rfl, e1, e2, q⟩ := k
  have st : start N (V.ref a :: us) = (V.ref a :: us).map some := by
    unfold start
    rw [show N.length - (V.ref a :: us).length = 0 by rw [List.length_cons, e2, hN, hp]; omega]; simp
  rw [st]
  refine ⟨H, a, dx, [], us, (upd_self e1).symm, rfl, e2, fun j hj => ?_, by simpa using hl, fun q hq => (by cases hq), nd, q⟩
  rw [show 1 + j = j + 1 by omega]
  simp [e2 ▸ hj]
end L2.PV
set_option Elab.async false
set_option linter.all false
set_option autoImplicit false
/-! Statements, second part: methods of lists, items, loops; defs. -/
namespace L2.PV
open PySem PySem.Spec PyProof.Rows
section
variable {C : RC} {F : FT} {cf : Nat → List D → Option CR} {lev : Nat} {N : List Str} {pins : List Nat} {sc : Scope} {X : Cx} {W : WX} {a b c tg : Expr} {ma mb mc : M} {pos : Pos}
/-! ### name op= e -/
def augOp : BOp → Operator
  | .sub => .Sub
  | .fdiv => .FloorDiv
  | _ => .Add
theorem ip_aug (o : BOp) (ho : o = .add ∨ o = .sub ∨ o = .fdiv) : PIp X (augOp o) (fun x y H Q => ∃ i z, x = .int i ∧ (∃ j, y = .int j ∧ augI o i (.int j) = some z) ∧ Q (.int z) H) := by
  rcases ho with rfl | rfl | rfl
  · intro pins s σ H x y v u Q I rx ry h
    obtain ⟨i, z, rfl, ⟨j, rfl, e⟩, q⟩ := h
    cases e
    exact ip_add pins s σ H _ _ v u Q I rx ry ⟨i, j, rfl, rfl, q⟩
  · intro pins s σ H x y v u Q I rx ry h
    obtain ⟨i, z, rfl, ⟨j, rfl, e⟩, q⟩ := h
    cases e
    exact ip_sub pins s σ H _ _ v u Q I rx ry ⟨i, j, rfl, rfl, q⟩
  · intro pins s σ H x y v u Q I rx ry h
    obtain ⟨i, z, rfl, ⟨j, rfl, e⟩, q⟩ := h
    simp only [augI] at e
    split at e
    · rename_i hc
      cases e
      exact iop_fdivW pins s σ H _ _ v u Q I rx ry ⟨i, j, rfl, rfl, hc, q⟩
    · cases e
theorem augI_some {o : BOp} {i : Int} {d : D} {z : Int} (h : augI o i d = some z) : ∃ j, d = .int j := by
  cases o <;> cases d <;> first | exact ⟨_, rfl⟩ | cases h
theorem locOf (g : Gd C F cf lev N sc X) {x : Str} (hl : sc.names.lookup x = some .local ∨ (sc.names.lookup x = some .cell ∧ X.fn x = true)) : Loc X.env.scope x ∧ (X.fn x = true ∨ X.env.scope.names.lookup x = some .local) := by
  rw [g.scp]
  rcases hl with h | h
  · exact ⟨.inl h, .inr h⟩
  · exact ⟨.inr h.1, .inl h.2⟩
theorem ss_aug (g : Gd C F cf lev N sc X) (o : BOp) (ho : o = .add ∨ o = .sub ∨ o = .fdiv) {i : Nat} {x : Str} {p' : Pos} (hi : N[i]? = some x) (hl : sc.names.lookup x = some .local ∨ (sc.names.lookup x = some .cell ∧ X.fn x = true)) (ha : Ev C W cf pins X ma a) :
    PS X (.AugAssign (.Name x p') (augOp o) a pos) (tS C W pins (evS cf pins (.aug i o ma))) :=
  PS.imp (ps_aug (X := X) (i := i) (by rw [g.nN]; exact g.nd) (by rw [g.nN]; exact hi) (locOf g hl).1 ha.b (ip_aug o ho) (locOf g hl).2) fun Q σ H ⟨ρ, G, O, r, w, ag, e, h⟩ => by
    rw [evS] at e
    split at e
    · rename_i i0 ei
      have q := sr_go' (ok := fun a ρ => okN C pins H G O σ Q.nx a) e h fun a _ z => z
      have ei' : ρ[i]? = some (some (.int i0)) := by
        unfold getP at ei
        split at ei
        · rename_i d0 e0; cases ei; exact e0
        · cases ei
      obtain ⟨u, q1, q2⟩ := agl_get ag rfl ei'
      have q2 : u = .int i0 := q2
      subst q2
      refine ⟨_, q1, tX.next (Step.refl true) q w ag fun y ρ1 h1 v1 H1 G1 Od1 O1 st1 w1 r1 a1 => ?_⟩
      split at h1
      · rename_i z ez
        obtain ⟨j, rfl⟩ := augI_some ez
        obtain rfl := r1.2
        refine ⟨i0, z, rfl, ⟨j, rfl, ez⟩, ?_⟩
        obtain ⟨ρ', e2, h1⟩ := goX_lft (by rw [goX_bnd] at h1; exact h1)
        obtain ⟨O', t⟩ := store_tg (Od := []) (d := .int z) (v := .int z) w1 ⟨rfl, rfl⟩ a1 e2
        exact h1 _ H1 G1 O' (st1.weak.sub t.m) t.w t.ag ⟨t.len, t.pin⟩
      · exact h1.elim
    · cases e
/-! ### a place whose list is changed -/
theorem getP_val {H G : Hp} {ρ : DEnv} {σ : St} {O : List Addr} {p : Pl} {ds : List D} (ag : AgL C G H ρ σ O) (w : Wd H G O) (e : getP p ρ = some (.acc ds)) : ∃ a vs, valP p σ H = some (.ref a) ∧ H a = some (.lst vs) ∧ Rps C G ds vs := by
  obtain ⟨v, Od, R, q1, ⟨a, vs, rfl, rfl, h1, h2⟩, q3, q4⟩ := lens ag w.nd p e
  exact ⟨a, vs, q1, h1, h2⟩
theorem val_keep {p : Bool} {H G H' G' : Hp} {O O' : List Addr} {σ : St} {pl : Pl} {v : V} (st : Step p H G O H' G' O') (h : (pl.isSl || p) = true) (e : valP pl σ H = some v) : valP pl σ H' = some v := by
  rcases Bool.or_eq_true_iff.mp h with z | z
  · exact valP.sl z e
  · exact valP.same (st.sm z) e
theorem hfew1 (hs : nst a = true) : ((backTo pos (starEach [a] X.env)).all (fun x => !x.1) && (backToKw pos (keywordEach [] X.env)).all (fun x => x.1.isSome)
      && decide ([a].length + ([] : List Keyword).length + (if ([] : List Keyword).isEmpty then 0 else 1) < 30)) = true := by
  rw [nst_ok hs]; rfl
theorem rX : ∀ {r r' : V → List V → Hp → VK → Prop} {id : String}, MtM X id r → (∀ x vs H Q, r' x vs H Q → r x vs H Q) → MtR X id r' := fun h k pins s σ H x vs v us Q I rx rv z => h pins s σ H x vs v us Q I rx rv (k x vs H Q z)
theorem ss_app {p : Pl} {e o : Expr} {apos cpos : Pos} (hp : PE X o (tPl p)) (ho : nat o = true) (ha : Ev C W cf pins X ma e) (hs : nst e = true) (hl : (apos.endLine == cpos.line) = true) :
    PS X (.Expr (.Call (.Attribute o "append" apos) [e] [] cpos) pos) (tS C W pins (evS cf pins (.app p ma))) :=
  PS.imp (ps_expr (pe_bm (r := rAppend) PySem.F.plainAttrs_list PySem.F.slot_list_append PySem.F.type_list_append (rX mt_append fun _ _ _ _ z => z) hp (pa_cons ha.frz pa_nil (nst_ok hs [] X.env)) (nat_ok ho _ _) (hfew1 hs) hl (nst_ok hs [] X.env) rfl)) fun Q σ H ⟨ρ, G, O, r, w, ag, ee, h⟩ => by
    rw [evS] at ee
    split at ee
    · rename_i ds0 e0
      have q := sr_go' (ok := fun a ρ => okN C pins H G O σ Q.nx a) ee h fun a _ z => z
      obtain ⟨a0, vs0, z1, z2, _⟩ := getP_val ag w e0
      refine ⟨_, z1, .inl ⟨rfl, vs0, SqL.of z2⟩, ?_⟩
      refine ha.frz' (Step.refl true) q w ag fun x ρ1 h1 v1 H1 G1 O1 st1 w1 r1 a1 => ?_
      split at h1
      · rename_i ds e1
        obtain ⟨hk, h1⟩ := goX_ite h1
        obtain ⟨a2, vs, z3, z4, z5, k⟩ := lens_acc w1 a1 e1
        have z6 := val_keep st1 hk.2 z1
        rw [z3] at z6; cases z6
        obtain ⟨O', s2, w2, a3⟩ := k (ds ++ [x]) (vs ++ [v1]) (z5.snoc r1)
        exact ⟨a0, vs, v1, rfl, rfl, z4, by rw [← z5.len]; exact hk.1, h1 _ _ G1 O' (st1.trans s2).weak w2 a3 (Pn.refl σ)⟩
      · exact h1.elim
    · cases ee
def rExtA (K : PySem.W.Frag) : V → List V → Hp → VK → Prop := fun x vs H Q => rExtend x vs H Q ∨ rExtT K x vs H Q
theorem mt_extA : MtR X "list.extend" (rExtA X.K) := MtR.or (rX mt_extend fun _ _ _ _ z => z) (rX mt_extT fun _ _ _ _ z => z)
theorem ss_ext (g : Gd C F cf lev N sc X) {p : Pl} {e o : Expr} {apos cpos : Pos} (hp : PE X o (tPl p)) (ho : nat o = true) (ha : Ev C W cf pins X ma e) (hs : nst e = true) (hl : (apos.endLine == cpos.line) = true) :
    PS X (.Expr (.Call (.Attribute o "extend" apos) [e] [] cpos) pos) (tS C W pins (evS cf pins (.ext p ma))) :=
  PS.imp (ps_expr (pe_bm (r := rExtA X.K) PySem.F.plainAttrs_list PySem.F.slot_list_extend PySem.F.type_list_extend mt_extA hp (pa_cons ha.b pa_nil (nst_ok hs [] X.env)) (nat_ok ho _ _) (hfew1 hs) hl (nst_ok hs [] X.env) rfl)) fun Q σ H ⟨ρ, G, O, r, w, ag, ee, h⟩ => by
    rw [evS] at ee
    split at ee
    · rename_i ds0 e0
      have q := sr_go' (ok := fun a ρ => okN C pins H G O σ Q.nx a) ee h fun a _ z => z
      obtain ⟨a0, vs0, z1, z2, _⟩ := getP_val ag w e0
      refine ⟨_, z1, .inl ⟨rfl, vs0, SqL.of z2⟩, ?_⟩
      refine tX.next (Step.refl true) q w ag fun x ρ1 h1 v1 H1 G1 Od1 O1 st1 w1 r1 a1 => ?_
      split at h1
      · rename_i es ds e1 e2
        obtain ⟨hk, h1⟩ := goX_ite h1
        obtain ⟨a2, vs, z3, z4, z5, k⟩ := lens_acc w1 a1 e2
        have z6 := val_keep st1 hk.2 z1
        rw [z3] at z6; cases z6
        have fin : ∀ ws, Rps C G1 es ws → vs.length + ws.length ≤ sizeLine ∧ Q.nx σ (upd H1 a0 (.lst (vs ++ ws))) := fun ws rw' => by
          obtain ⟨O', s2, w2, a3⟩ := k (ds ++ es) (vs ++ ws) (z5.app rw')
          exact ⟨by rw [← z5.len, ← rw'.len]; exact hk.1, h1 _ _ G1 O' (st1.trans s2).weak w2 a3 (Pn.refl σ)⟩
        cases x with
        | lst xs =>
          cases e1
          obtain ⟨b, ws, rfl, k1, k2⟩ := list_of w1 r1 (.inl rfl)
          exact .inl ⟨a0, b, vs, ws, rfl, rfl, z4, k1, (fin ws k2).1, (fin ws k2).2⟩
        | acc xs =>
          cases e1
          obtain ⟨b, ws, rfl, k1, k2⟩ := list_of w1 r1 (.inr rfl)
          exact .inl ⟨a0, b, vs, ws, rfl, rfl, z4, k1, (fin ws k2).1, (fin ws k2).2⟩
        | tup xs =>
          cases e1
          obtain ⟨b, ws, rfl, g1, k1, k2⟩ := tup_of w1 r1
          exact .inr ⟨a0, b, vs, ws, rfl, rfl, z4, g.kK ▸ k1, (fin ws k2).1, (fin ws k2).2⟩
        | _ => cases e1
      · exact h1.elim
    · cases ee
theorem ss_rev {p : Pl} {o : Expr} {apos cpos : Pos} (hp : PE X o (tPl p)) (ho : nat o = true) (hl : (apos.endLine == cpos.line) = true) :
    PS X (.Expr (.Call (.Attribute o "reverse" apos) [] [] cpos) pos) (tS C W pins (evS cf pins (.rev p))) :=
  PS.imp (ps_expr (pe_bm0 (r := rReverse) PySem.F.plainAttrs_list PySem.F.slot_list_reverse PySem.F.type_list_reverse (rX mt_reverse fun _ _ _ _ z => z) hp (nat_ok ho _ _) hl)) fun Q σ H ⟨ρ, G, O, r, w, ag, ee, h⟩ => by
    rw [evS] at ee
    split at ee
    · rename_i ds e0
      cases ee
      obtain ⟨a0, vs, z1, z2, z5, k⟩ := lens_acc w ag e0
      obtain ⟨O', s2, w2, a3⟩ := k ds.reverse vs.reverse z5.rev
      exact ⟨_, z1, .inl ⟨rfl, vs, SqL.of z2⟩, a0, vs, rfl, rfl, z2, h σ _ G O' s2 w2 a3 (Pn.refl σ)⟩
    · cases ee
theorem se_pop {p : Pl} {o : Expr} {apos cpos : Pos} (hp : PE X o (tPl p)) (ho : nat o = true) (hl : (apos.endLine == cpos.line) = true) :
    PE X (.Call (.Attribute o "pop" apos) [] [] cpos) (tE C W (pureM (.pop p)) (evE cf pins (.pop p))) :=
  PE.imp (pe_bm0 (r := rPop) PySem.F.plainAttrs_list PySem.F.slot_list_pop PySem.F.type_list_pop (rX mt_pop fun _ _ _ _ z => z) hp (nat_ok ho _ _) hl) fun σ H Q ⟨ρ, G, O, w, ag, h⟩ => by
    rw [evE] at h
    split at h
    · rename_i ds e0
      split at h
      · rename_i d ed
        obtain ⟨a0, vs, z1, z2, z5, k⟩ := lens_acc w ag e0
        obtain ⟨v, ev, rv⟩ := z5.get ed
        obtain ⟨O', s2, w2, a3⟩ := k ds.dropLast vs.dropLast z5.dropLast
        exact ⟨_, z1, .inl ⟨rfl, vs, SqL.of z2⟩, a0, vs, v, rfl, rfl, z2, by rw [← z5.len]; exact ev, h v _ G [] O' s2 w2 (Rp.own (Rp.isFz rv) rv) a3⟩
      · exact h.elim
    · exact h.elim
theorem se_popAt {p : Pl} {o e : Expr} {apos cpos : Pos} (hp : PE X o (tPl p)) (ho : nat o = true) (ha : PE X e (tB C W (pureM ma) (evE cf pins ma))) (hs : nst e = true) (hl : (apos.endLine == cpos.line) = true) :
    PE X (.Call (.Attribute o "pop" apos) [e] [] cpos) (tE C W (pureM (.popAt p ma)) (evE cf pins (.popAt p ma))) :=
  PE.imp (pe_bm (r := rPopAt) PySem.F.plainAttrs_list PySem.F.slot_list_pop PySem.F.type_list_pop (rX mt_popAt fun _ _ _ _ z => z) hp (pa_cons ha pa_nil (nst_ok hs [] X.env)) (nat_ok ho _ _) (hfew1 hs) hl (nst_ok hs [] X.env) rfl) fun σ H Q ⟨ρ, G, O, w, ag, h⟩ => by
    rw [evE] at h
    split at h
    · rename_i ds0 e0
      obtain ⟨a0, vs0, z1, z2, _⟩ := getP_val ag w e0
      refine ⟨_, z1, .inl ⟨rfl, vs0, SqL.of z2⟩, ?_⟩
      refine tX.next (Step.refl true) h w ag fun y ρ1 h1 v1 H1 G1 Od1 O1 st1 w1 r1 a1 => ?_
      split at h1
      · rename_i i ds e2
        obtain rfl := r1.2
        split at h1
        · rename_i k ek
          split at h1
          · rename_i d ed
            obtain ⟨hk, h1⟩ := goX_ite h1
            obtain ⟨a2, vs, z3, z4, z5, kk⟩ := lens_acc w1 a1 e2
            have z6 := val_keep st1 hk.1 z1
            rw [z3] at z6; cases z6
            obtain ⟨v, ev, rv⟩ := z5.get ed
            obtain ⟨O', s2, w2, a3⟩ := kk (ds.eraseIdx k) (vs.eraseIdx k) (z5.erase k)
            obtain ⟨s1, s2', s3, s4⟩ := ixN_seq ek
            exact ⟨a0, vs, i, k, v, rfl, rfl, z4, hk.2.1, hk.2.2, by rw [← z5.len]; exact s1, ev, h1 v _ G1 [] O' (st1.trans s2).weak w2 (Rp.own (Rp.isFz rv) rv) a3⟩
          · exact h1.elim
        · exact h1.elim
      · exact h1.elim
    · exact h.elim
end
end L2.PV
set_option Elab.async false
set_option linter.all false
set_option autoImplicit false
/-! Items put in, loops, defs. -/
namespace L2.PV
open PySem PySem.Spec PyProof.Rows
section
variable {C : RC} {F : FT} {cf : Nat → List D → Option CR} {lev : Nat} {N : List Str} {pins : List Nat} {sc : Scope} {X : Cx} {W : WX} {a b c tg : Expr} {ma mb mc : M} {pos : Pos}
theorem RpOs.setf {G H : Hp} {x : D} {v : V} (rx : Rp C G x v) : ∀ {ds : List D} {vs : List V} {O : List Addr} {j : Nat} {d : D}, RpOs C G H ds vs O → ds[j]? = some d → PV.fz d = true → RpOs C G H (ds.set j x) (vs.set j v) O
  | [], _, _, _, _, _, e, _ => by simp at e
  | d0 :: ds, _, _, 0, d, ⟨u, ws, O1, O2, h1, h2, h3, h4⟩, e, f => by
    simp at e; subst e; subst h1; subst h2
    obtain ⟨rfl, _⟩ := (RpO.fz f).mp h3
    exact ⟨v, ws, [], O2, rfl, rfl, Rp.own (Rp.isFz rx) rx, h4⟩
  | d0 :: ds, _, _, j + 1, d, ⟨u, ws, O1, O2, h1, h2, h3, h4⟩, e, f => by
    subst h1; subst h2
    exact ⟨u, ws.set j v, O1, O2, rfl, rfl, h3, RpOs.setf rx h4 (by simpa using e) f⟩
theorem RpOs.len {G H : Hp} : ∀ {ds : List D} {vs : List V} {O : List Addr}, RpOs C G H ds vs O → ds.length = vs.length
  | [], _, _, h => by rw [h.1]; rfl
  | d :: ds, _, _, ⟨v, ws, O1, O2, h1, h2, h3, h4⟩ => by rw [h1]; simp [RpOs.len h4]
theorem asgSub_ok {o i : Expr} {p : Pos} (h : nsl i = true) (v : Value) : assign (.Subscript o i p) X.env v = (do
      let ov ← holding [v] (eval o X.env)
      let iv ← holding [v, ov] (eval i X.env)
      standAt p
      holding [v, ov, iv] (setItem ov iv v)
      release [v, ov, iv] []) := by
  cases i <;> first | rfl | cases h
theorem ss_seti {p : Pl} {e o i : Expr} {tpos : Pos} (hp : PE X o (tPl p)) (hi : PE X i (tB C W (pureM mb) (evE cf pins mb))) (ni : nsl i = true) (ha : Ev C W cf pins X ma e) (hs : swapsWithSole [.Subscript o i tpos] e pos.line X.env = pure false) (hw : swappedStores [.Subscript o i tpos] e X.env = pure none) :
    PS X (.Assign [.Subscript o i tpos] e pos) (tS C W pins (evS cf pins (.seti p mb ma))) :=
  PS.imp (ps_asg ha.frz (pg_sub hp hi set_list (asgSub_ok ni)) hs hw rfl) fun Q σ H ⟨ρ, G, O, r, w, ag, ee, h⟩ => by
    rw [evS] at ee
    have q := sr_go' (ok := fun a ρ => okN C pins H G O σ Q.nx a) ee h fun a _ z => z
    refine ha.frz' (Step.refl true) q w ag fun x ρ1 h1 v1 H1 G1 O1 st1 w1 r1 a1 => ?_
    cases e0 : getP p ρ1 with
    | none => rw [e0] at h1; exact h1.elim
    | some d0 =>
      rw [e0] at h1
      obtain ⟨v0, Od0, R0, z1, _, _, _⟩ := lens a1 w1.nd p e0
      refine ⟨v0, z1, tX.next st1 h1 w1 a1 fun y ρ2 h2 v2 H2 G2 Od2 O2 st2 w2 r2 a2 => ?_⟩
      split at h2
      · rename_i k ds e2
        obtain rfl := r2.2
        split at h2
        · rename_i j ej
          obtain ⟨hk, h2⟩ := goX_ite h2
          obtain ⟨a3, vs, z3, z4, z5, kk⟩ := lens_acc w2 a2 e2
          have z6 := val_keep st2 hk z1
          rw [z3] at z6; cases z6
          obtain ⟨O', s3, w3, a4⟩ := kk (ds.set j x) (vs.set j v1) (Rps.set (Rp.same st2.gg _ _ r1) j z5)
          exact ⟨a3, vs, k, j, rfl, rfl, z4, by rw [← z5.len]; exact ej, h2 σ _ G2 O' ((st1.trans st2).trans s3).weak w3 a4 (Pn.refl σ)⟩
        · exact h2.elim
      · rename_i k ds e2
        obtain rfl := r2.2
        split at h2
        · rename_i j ej
          obtain ⟨hk, h2⟩ := goX_ite h2
          rw [Bool.and_eq_true] at hk
          obtain ⟨v3, Od, R, z3, ⟨a3, vs, O3, rfl, rfl, z4, z5⟩, z7, z8⟩ := lens a2 w2.nd p e2
          have z6 := val_keep st2 hk.1 z1
          rw [z3] at z6; cases z6
          cases ed : ds[j]? with
          | none => rw [ed] at hk; cases hk.2
          | some dj =>
            have fj : PV.fz dj = true := by have := hk.2; rw [ed] at this; exact this
            have haO : a3 ∈ O2 := (z7.mem_iff).mpr List.mem_cons_self
            obtain ⟨s3, w3⟩ := step_write (o := .lst (vs.set j v1)) w2 haO
            have nd := (z7.nodup_iff).mp w2.nd
            have hne : ∀ b ∈ O3 ++ R, b ≠ a3 := fun b hb z => (List.nodup_cons.mp nd).1 (z ▸ hb)
            have z9 := RpOs.setf (Rp.same st2.gg _ _ r1) z5 ed fj
            obtain ⟨O', e1, e3⟩ := z8 (upd H2 a3 (.lst (vs.set j v1))) G2 (.box (ds.set j x)) (a3 :: O3) (Same.refl _) (fun b hb o h => by rw [upd_ne (hne b (List.mem_append_right _ hb))]; exact h)
              ⟨a3, _, O3, rfl, rfl, upd_same, RpOs.frame (Same.refl _) _ _ _ z9 fun b hb o h => by rw [upd_ne (hne b (List.mem_append_left _ hb))]; exact h⟩
            have pm : O'.Perm O2 := e1.trans z7.symm
            exact ⟨a3, vs, k, j, rfl, rfl, z4, by rw [← z5.len]; exact ej, h2 σ _ G2 O' ((st1.trans st2).trans (s3.sub fun b hb => (pm.mem_iff).mp hb)).weak (w3.sub ((pm.nodup_iff).mpr w2.nd) fun b hb => (pm.mem_iff).mp hb) e3 (Pn.refl σ)⟩
        · exact h2.elim
      · exact h2.elim
/-! ### loops -/
theorem ss_whl (hp : PassesOwn (model X.prog X.w) X.A X.env X.xe) {body : List Stmt} (ht : PT X a (tT C W (pureM ma) (evT cf pins ma))) (hb : PSs X body (tS C W pins (evS cf pins mb))) :
    PS X (.While a body [] pos) (tS C W pins (evS cf pins (.whl ma mb))) := PS.imp (ps_while hp ht hb) fun Q σ H ⟨ρ, G, O, r, w, ag, ee, h⟩ => by
  rw [evS] at ee
  obtain ⟨n, en⟩ := whM_ex ee
  refine ⟨fun m σ' H' => ∃ ρ' G' O', Wd H' G' O' ∧ AgL C G' H' ρ' σ' O' ∧ whN (evT cf pins ma) (evS cf pins mb) m ρ' = some r ∧ okS C W pins H' G' O' σ' Q r, ⟨n, ρ, G, O, w, ag, en, h⟩, ?_⟩
  rintro m σ1 H1 ⟨ρ1, G1, O1, w1, a1, e1, h1⟩
  cases m with
  | zero => cases e1
  | succ m =>
    unfold whN at e1
    refine ⟨ρ1, G1, O1, w1, a1, ?_⟩
    cases et : evT cf pins ma ρ1 with
    | none => rw [et] at e1; cases e1
    | some rt =>
      rw [et] at e1
      cases rt with
      | exc x ρ2 =>
        cases e1
        exact fun cls d H' G' O' s w r a => h1 cls d σ1 H' G' O' s w r a (Pn.refl σ1)
      | ok k ρ2 =>
        cases k with
        | false =>
          cases e1
          intro H2 G2 O2 st w2 a2
          rw [if_neg Bool.false_ne_true]
          exact h1 σ1 H2 G2 O2 st.weak w2 a2 (Pn.refl σ1)
        | true =>
          intro H2 G2 O2 st w2 a2
          rw [if_pos rfl]
          have h2 := h1.rebase st (Pn.refl σ1)
          refine ⟨fun σ' H' => ∃ m', m' < m + 1 ∧ ∃ ρ' G' O', Wd H' G' O' ∧ AgL C G' H' ρ' σ' O' ∧ whN (evT cf pins ma) (evS cf pins mb) m' ρ' = some r ∧ okS C W pins H' G' O' σ' Q r, fun _ _ z => z, ?_⟩
          simp only [] at e1
          cases eb : evS cf pins mb ρ2 with
          | none => rw [eb] at e1; cases e1
          | some rb =>
            rw [eb] at e1
            refine ⟨ρ2, G2, O2, rb, w2, a2, eb, ?_⟩
            cases rb with
            | nx ρ3 => exact fun σ' H' G' O' s w' a' pn => ⟨m, Nat.lt_succ_self m, ρ3, G', O', w', a', e1, h2.rebase s pn⟩
            | ct ρ3 => exact fun σ' H' G' O' s w' a' pn => ⟨m, Nat.lt_succ_self m, ρ3, G', O', w', a', e1, h2.rebase s pn⟩
            | br ρ3 => cases e1; exact h2
            | rt d ρ3 => cases e1; exact h2
            | exc x ρ3 => cases e1; exact h2
theorem ss_for (g : Gd C F cf lev N sc X) (hp : PassesOwn (model X.prog X.w) X.A X.env X.xe) {iter : Expr} {body : List Stmt} {mt mi : M} {p : Bool} (hi : PI X tg iter (tI C W p (evI cf pins mi))) (hg : PG X tg (gTg C pins mt)) (hb : PSs X body (tS C W pins (evS cf pins mb))) (hs : ∀ x, foldedSetIterable iter X.env x = pure x) :
    PS X (.For tg iter body [] pos) (tS C W pins (evS cf pins (.for_ mt mi mb))) := PS.imp (ps_for hp g.calm hi hg hb hs) fun Q σ H ⟨ρ, G, O, r, w, ag, ee, h⟩ => by
  rw [evS] at ee
  refine ⟨ρ, G, O, w, ag, ?_⟩
  cases ei : evI cf pins mi ρ with
  | none => rw [ei] at ee; cases ee
  | some ri =>
    rw [ei] at ee
    cases ri with
    | exc x ρ1 =>
      cases ee
      exact fun cls d H' G' O' s w r a => h cls d σ H' G' O' s w r a (Pn.refl σ)
    | ok ds ρ1 =>
      intro J H1 G1 O1 st w1 wk a1
      have h1 := h.rebase st (Pn.refl σ)
      simp only [] at ee
      generalize hf : (fun d ρ => match tgM pins mt d ρ with
        | some ρ2 => evS cf pins mb ρ2
        | none => none : D → DEnv → Option SR) = f at ee
      refine ⟨fun i m σ' H' => m = ds.length - i ∧ i ≤ ds.length ∧ ∃ ρ' G' O', Same G1 G' ∧ Wd H' G' O' ∧ AgL C G' H' ρ' σ' O' ∧ forM f (ds.drop i) ρ' = some r ∧ okS C W pins H' G' O' σ' Q r, ⟨_, rfl, Nat.zero_le _, ρ1, G1, O1, Same.refl _, w1, a1, ee, h1⟩, ?_⟩
      rintro i m σ2 H2 ⟨rfl, le, ρ2, G2, O2, sg, w2, a2, e2, h2⟩
      obtain ⟨wk1, wk2⟩ := wk i H2 G2 O2 sg w2 a2.inH
      by_cases hlt : i < ds.length
      · right
        have ed : ds[i]? = some ds[i] := by simp [hlt]
        obtain ⟨go, yl⟩ := wk1 _ ed
        refine ⟨go, fun σ' H' => i + 1 ≤ ds.length ∧ ∃ ρ' G' O', Same G1 G' ∧ Wd H' G' O' ∧ AgL C G' H' ρ' σ' O' ∧ forM f (ds.drop (i + 1)) ρ' = some r ∧ okS C W pins H' G' O' σ' Q r, fun σ' H' z => ⟨_, by omega, rfl, z⟩, fun x H3 hy => ?_⟩
        obtain ⟨G3, st3, w3, rx⟩ := yl x H3 hy
        rw [List.drop_eq_getElem_cons hlt, forM, ← hf] at e2
        simp only [] at e2
        rw [hf] at e2
        cases et : tgM pins mt ds[i] ρ2 with
        | none => rw [et] at e2; cases e2
        | some ρt =>
          rw [et] at e2
          have h3 := h2.rebase st3 (Pn.refl σ2)
          refine ⟨ρ2, ρt, G3, O2, [], ds[i], w3, Rp.own (Rp.isFz rx) rx, a2.frame st3.gg fun b hb o e => st3.sm rfl _ _ e, et, fun σt Ot tp => ?_⟩
          have h4 := h3.rebase ((Step.refl (H := H3) (G := G3) (O := O2) false).sub tp.m) ⟨tp.len, tp.pin⟩
          simp only [] at e2
          cases eb : evS cf pins mb ρt with
          | none => rw [eb] at e2; cases e2
          | some rb =>
            rw [eb] at e2
            refine ⟨ρt, G3, Ot, rb, tp.w, tp.ag, eb, ?_⟩
            cases rb with
            | nx ρ3 => exact fun σ' H' G' O' s w' a' pn => ⟨hlt, ρ3, G', O', (sg.trans st3.gg).trans s.gg, w', a', e2, h4.rebase s pn⟩
            | ct ρ3 => exact fun σ' H' G' O' s w' a' pn => ⟨hlt, ρ3, G', O', (sg.trans st3.gg).trans s.gg, w', a', e2, h4.rebase s pn⟩
            | br ρ3 => cases e2; exact h4
            | rt d ρ3 => cases e2; exact h4
            | exc x ρ3 => cases e2; exact h4
      · left
        have e : i = ds.length := by omega
        subst e
        rw [List.drop_length, forM] at e2
        cases e2
        exact ⟨wk2 (List.getElem?_eq_none (Nat.le_refl _)), h2 σ2 H2 G2 O2 (Step.refl _) w2 a2 (Pn.refl σ2)⟩
end
/-! ### defs -/
theorem outs_ok {C : RC} {G H G' H' : Hp} {io : List Nat} (sg : Same G G') : ∀ {ds : List D} {vs : List V} {O : List Addr} {n : Nat} {ρ : DEnv} {σ : St} {O' : List Addr} {ds' : List D}, outs io n ρ ds = some ds' → AgL C G' H' ρ σ O' → RpOs C G H ds vs O →
    (∀ j, n + j ∈ io → ∀ v, vs[j]? = some v → σ[j]? = some (some v)) → ∃ O2, O2.Sublist O' ∧ RpOs C G' H' ds' vs O2
  | [], _, _, _, _, _, O', _, e, _, r, _ => by
    rw [outs] at e; cases e
    obtain ⟨rfl, rfl⟩ := r
    exact ⟨[], List.nil_sublist _, rfl, rfl⟩
  | d :: ds, _, _, n, [], _, _, _, e, _, _, _ => by rw [outs] at e; cases e
  | d :: ds, _, _, n, s :: ρ, σ, O', ds', e, ag, ⟨v, ws, O1, O2, rfl, rfl, r1, r2⟩, k => by
    rw [outs] at e
    split at e
    · rename_i d' r e1 e2
      cases e
      cases s with
      | none =>
        obtain ⟨s', τ, rfl, ag2⟩ := ag
        split at e1
        · cases e1
        · split at e1
          · rename_i f
            cases e1
            obtain ⟨O3, l3, r3⟩ := outs_ok sg e2 ag2 r2 fun j hj v hv => by simpa using k (j + 1) (by rw [← Nat.add_assoc, Nat.add_right_comm]; exact hj) v (by simpa using hv)
            exact ⟨O3, l3, v, ws, [], O3, rfl, rfl, Rp.own f (Rp.same sg _ _ (Rp.of f r1)), r3⟩
          · cases e1
      | some d0 =>
        obtain ⟨u, τ, O5, O6, rfl, rfl, r5, ag2⟩ := ag
        obtain ⟨O3, l3, r3⟩ := outs_ok sg e2 ag2 r2 fun j hj v hv => by simpa using k (j + 1) (by rw [← Nat.add_assoc, Nat.add_right_comm]; exact hj) v (by simpa using hv)
        split at e1
        · rename_i hio
          cases e1
          have := k 0 (by simpa using hio) v (by simp)
          simp at this
          subst this
          exact ⟨O5 ++ O3, l3.append_left _, u, ws, O5, O3, rfl, rfl, r5, r3⟩
        · split at e1
          · rename_i f
            cases e1
            exact ⟨O3, l3.trans (List.sublist_append_right _ _), v, ws, [], O3, rfl, rfl, Rp.own f (Rp.same sg _ _ (Rp.of f r1)), r3⟩
          · cases e1
    · cases e
theorem agl_none {C : RC} {G H : Hp} : ∀ (k : Nat), AgL C G H (List.replicate k none) (List.replicate k none) []
  | 0 => ⟨rfl, rfl⟩
  | k + 1 => ⟨none, List.replicate k none, rfl, agl_none k⟩
theorem agl_start {C : RC} {G H : Hp} (k : Nat) : ∀ {ds : List D} {vs : List V} {O : List Addr}, RpOs C G H ds vs O → AgL C G H (ds.map some ++ List.replicate k none) (vs.map some ++ List.replicate k none) O
  | [], _, _, h => by
    obtain ⟨rfl, rfl⟩ := h
    exact agl_none k
  | d :: ds, _, _, ⟨v, ws, O1, O2, rfl, rfl, r1, r2⟩ => ⟨v, _, O1, O2, rfl, rfl, r1, agl_start k r2⟩
/-- what is known of a def's text -/
structure DefOk (C : RC) (F : FT) (N ps : List Str) (sc : Scope) (body : List Stmt) (fn : MFn) : Prop where
  fsc : FnScope N ps sc
  ar : fn.ar = ps.length
  sl : fn.sl = N.length
  io : fn.io.all (· < ps.length) = true
  bd : ∀ (cf : Nat → List D → Option CR) (lev : Nat) (X : Cx) (W : WX), Gd C F cf lev N sc X → X.fn = (fun _ => true) → PassesOwn (model X.prog X.w) X.A X.env X.xe → Takes X W → PSs X body (tS C W fn.io (evS cf fn.io fn.body))
/-- a body, run at its parameters -/
theorem body_ok {C : RC} {cf : Nat → List D → Option CR} {N ps : List Str} {fn : MFn} {E : XK} {vs : List V} {H G : Hp} {O : List Addr} {Q : VK} {ds : List D} {r : CR} (ar : fn.ar = ps.length) (sl : fn.sl = N.length) (io : fn.io.all (· < ps.length) = true) (hl : vs.length = ps.length)
    (w : Wd H G O) (r0 : RpOs C G H ds vs O) (e : finC fn ds (evS cf fn.io fn.body (ds.map some ++ List.replicate (fn.sl - fn.ar) none)) = some r) (h : okC C H G O vs Q E r) :
    tS C (fun cls d _ H => E cls d H) fn.io (evS cf fn.io fn.body) { nx := fun _ H' => Q .non H', rt := Q } (start N vs) H := by
  have key : ∀ (σ' : St) (H' G' : Hp) (ρ : DEnv) (O' : List Addr) (ds' : List D), Same G G' → Pn fn.io (start N vs) σ' → AgL C G' H' ρ σ' O' → outs fn.io 0 ρ ds = some ds' → ∃ O2, O2.Sublist O' ∧ RpOs C G' H' ds' vs O2 := fun σ' H' G' ρ O' ds' sg pn ag eo => by
    refine outs_ok sg eo ag r0 fun j hj v hv => ?_
    rw [Nat.zero_add] at hj
    rw [pn.2 j hj]
    unfold start
    have hj2 : j < vs.length := (List.getElem?_eq_some_iff.mp hv).1
    rw [List.getElem?_append_left (by simpa using hj2), List.getElem?_map, hv]
    rfl
  have e' := e
  unfold finC at e'
  cases es : evS cf fn.io fn.body (ds.map some ++ List.replicate (fn.sl - fn.ar) none) with
  | none => rw [es] at e'; cases e'
  | some sr =>
    rw [es] at e'
    refine ⟨_, G, O, sr, w, ?_, es, ?_⟩
    · have := agl_start (fn.sl - fn.ar) r0
      rw [sl, ar, ← hl] at this ⊢
      exact this
    · cases sr with
      | nx ρ =>
        obtain ⟨ds', eo, rfl⟩ := Option.map_eq_some_iff.mp e'
        intro σ' H' G' O' st w' ag pn
        obtain ⟨O2, l2, r2⟩ := key σ' H' G' ρ O' ds' st.gg pn ag eo
        exact h .non H' G' [] O2 (st.sub fun b hb => l2.subset hb) (w'.sub (l2.nodup w'.nd) fun b hb => l2.subset hb) ⟨rfl, rfl⟩ r2
      | rt d ρ =>
        obtain ⟨ds', eo, rfl⟩ := Option.map_eq_some_iff.mp e'
        intro v σ' H' G' Od O' st w' rd ag pn
        obtain ⟨O2, l2, r2⟩ := key σ' H' G' ρ O' ds' st.gg pn ag eo
        have l3 : (Od ++ O2).Sublist (Od ++ O') := l2.append_left Od
        exact h v H' G' Od O2 (st.sub fun b hb => l3.subset hb) (w'.sub (l3.nodup w'.nd) fun b hb => l3.subset hb) rd r2
      | exc x ρ =>
        obtain ⟨ds', eo, rfl⟩ := Option.map_eq_some_iff.mp e'
        intro cls dx σ' H' G' O' st w' rx ag pn
        obtain ⟨O2, l2, r2⟩ := key σ' H' G' ρ O' ds' st.gg pn ag eo
        exact h cls dx H' G' O2 (st.sub fun b hb => l2.subset hb) (w'.sub (l2.nodup w'.nd) fun b hb => l2.subset hb) rx r2
      | br ρ => cases e'
      | ct ρ => cases e'
section
variable {P : Program} {w : World} {C : RC} {mg : Str → Option Value} {base : Heap} {F : FT} {T : List MFn}
/-- what is known of the names of the text -/
structure Gn (C : RC) (F : FT) (mg : Str → Option Value) : Prop where
  kF : C.nf = F.n ∧ ∀ i, i < F.n → C.fa i = F.adr i ∧ C.ar i = (F.ps i).length
  free : ∀ x ∈ freeB, mg x = none
  mgf : ∀ i, i < F.n → mg (F.nm i) = some (.ref (F.adr i))
  kp : ∀ i, i < F.n → PySem.W.keepIn C.K (.ref (F.adr i)) = true
  bd : ∀ i, i < F.n → Binds C.K (F.fd i) (F.ps i) []
  gl : ∀ q ∈ F.gl, ∃ u v, mg q.1 = some u ∧ RelV v u ∧ ∀ G, Rp C G q.2 v
  kb : ∀ q ∈ F.kb, q.1 < F.n ∧ KBn C.K (F.fd q.1) (F.ps q.1) 0 q.2.1 (fun _ ws => q.2.2.map fun k => ws.getD k .none) (fun _ zs => q.2.2.map fun k => zs.getD k .non)
theorem all_ok (kW : C.w = w) (gn : Gn C F mg) (rcd : ∀ q ∈ F.rc, RcOk C P w C.K mg base q) (df : ∀ i, i < F.n → ∃ fn N qual params body scope dvs kws, T[i]? = some fn ∧ FunD C.K (F.nm i) qual params body scope dvs kws (F.adr i) (F.fd i) ∧ DefOk C F N (F.ps i) scope body fn) :
    ∀ (k i : Nat), i < F.n → FnOk P w C.K mg base (L2.CX P w) (k + 2) (F.adr i) (F.fd i) (F.ps i) (spF C (F.ps i).length (callM T k i))
  | 0, i, hi => ⟨fun vs H Q E h => h.1, fun A outer s H args us vs Q E hr e0 hb r h => by
    obtain ⟨_, ds, G, O, r, _, _, e, _⟩ := h
    rw [callM] at e; cases e⟩
  | k + 1, i, hi => by
    obtain ⟨fn, N, qual, params, body, scope, dvs, kws, eT, fD, dk⟩ := df i hi
    have ih := all_ok kW gn rcd df k
    refine fD.ok dk.fsc (fun vs H Q E h => h.1) fun cdv A outer s H vs Q E hr h => ?_
    refine ⟨_, dk.bd (callM T k) (k + 2) _ (fun cls d _ H => E cls d H) ⟨rfl, kW, gn.kF, rfl, dk.fsc.nd, rfl, rfl, hr, gn.free, ih, gn.mgf, gn.kp, gn.bd, gn.gl, gn.kb, by omega, rcd⟩ rfl (passes_of rfl) (takes_of rfl rfl rfl rfl), ?_⟩
    obtain ⟨hl, ds, G, O, r, wd, rp, e, h⟩ := h
    rw [callM, eT] at e
    simp only [] at e
    split at e
    · exact body_ok dk.ar dk.sl dk.io hl wd rp e h
    · cases e
end
end L2.PV
set_option Elab.async false
set_option linter.all false
set_option autoImplicit false
/-! The checker: a term matches a text. -/
namespace L2.PV
open PySem PySem.Spec PyProof.Rows
structure Tx where
  nm : List Str
  ps : List (List Str)
  gl : List (Str × D)
  kb : List (Nat × List Str × List Nat)
  rc : List (Nat × Str × List Str)
structure Ck where
  t : Tx
  N : List Str
  sc : Scope
  fn : Str → Bool
def mkF (t : Tx) (adr : Nat → Addr) (fd : Nat → FuncData) : FT := ⟨t.nm.length, fun i => t.nm.getD i default, adr, fd, fun i => t.ps.getD i [], t.gl, t.kb, t.rc⟩
mutual
def eqDD : D → D → Bool
  | .non, .non => true | .bl a, .bl b => a == b | .int a, .int b => decide (a = b) | .str a, .str b => decide (a = b)
  | .tup a, .tup b => eqDs a b | .lst a, .lst b => eqDs a b | .scr a, .scr b => eqDs a b | .kd ks a, .kd ls b => decide (ks = ls) && eqDs a b
  | _, _ => false
def eqDs : List D → List D → Bool
  | [], [] => true | a :: as, b :: bs => eqDD a b && eqDs as bs
  | _, _ => false
end
mutual
theorem eqDD_ok : ∀ {a b : D}, eqDD a b = true → a = b := fun {a b} h => by
  cases a <;> cases b <;> first | rfl | cases h | skip
  · exact congrArg D.bl (eq_of_beq h)
  · exact congrArg D.int (of_decide_eq_true h)
  · exact congrArg D.str (of_decide_eq_true h)
  · exact congrArg D.tup (eqDs_ok (by rw [eqDD] at h; exact h))
  · exact congrArg D.lst (eqDs_ok (by rw [eqDD] at h; exact h))
  · exact congrArg D.scr (eqDs_ok (by rw [eqDD] at h; exact h))
  · rw [eqDD, Bool.and_eq_true] at h
    rw [of_decide_eq_true h.1, eqDs_ok h.2]
termination_by a => sizeOf a
theorem eqDs_ok : ∀ {a b : List D}, eqDs a b = true → a = b := fun {a b} h => by
  cases a <;> cases b <;> first | rfl | cases h | skip
  rw [eqDs, Bool.and_eq_true] at h
  rw [eqDD_ok h.1, eqDs_ok h.2]
termination_by a => sizeOf a
end
def nmB (y : Str) (e : Expr) : Bool := match e with
  | .Name x _ => decide (x = y)
  | _ => false
def chkP (ck : Ck) : Pl → Expr → Bool
  | .sl i, e => (match e with | .Name x _ => decide (ck.N[i]? = some x) && visB ck.sc x && okName x | _ => false)
  | .it p k, e => (match e with
    | .Subscript o (.Constant (.int j) _ _) _ => decide (j = (k : Int)) && chkP ck p o
    | _ => false)
def conB (d : D) (e : Expr) : Bool := match e with
  | .Constant c _ _ => (match d, c with
    | .int i, .int j => decide (i = j)
    | .str i, .str j => decide (i = j)
    | .bl i, .bool j => i == j
    | .non, .none => true
    | _, _ => false)
  | _ => false
def nlc : Expr → Bool
  | .ListComp _ _ _ _ => false | .SetComp _ _ _ _ => false | .DictComp _ _ _ _ _ => false
  | _ => true
def nset : Expr → Bool
  | .Set _ _ _ => false
  | _ => true
def tyN : List String := ["int", "str", "bool", "list", "tuple", "dict"]
def tysB (sc : Scope) : List String → List Expr → Bool
  | [], [] => true
  | t :: ts, e :: es => decide (t ∈ tyN) && nmB (Str.ofString t) e && glB sc (Str.ofString t) && tysB sc ts es
  | _, _ => false
def swN (sc : Scope) (ts : List Expr) : List Str := ts.filterMap fun
    | .Name id pos => if sc.names.lookup id == some .local && pos.line == (ts.head?.map (·.pos.line)).getD 0 then some id else none
    | _ => none
/-- no stores are swapped -/
def nsw (sc : Scope) (tg e : Expr) : Bool := match tg, e with
  | .Tuple ts _ _, .Tuple vs _ _ => (!(ts.length == 2 || ts.length == 3) || vs.length != ts.length) || vs.any (fun | .Starred .. => true | _ => false) || ((swN sc ts).length != ts.length || (swN sc ts).eraseDups.length != (swN sc ts).length) || vs.all (foldedForSure 8)
  | .List _ _, .Tuple _ _ _ => false
  | _, _ => true
def locB (ck : Ck) (x : Str) : Bool := decide (ck.sc.names.lookup x = some .local) || (decide (ck.sc.names.lookup x = some .cell) && ck.fn x)
def ownN (N : List Str) (own : List Nat) : List (Str × Nat) := own.map fun i => (N.getD i default, i)
def blkK (ck : Ck) (scope : Scope) : Ck := { ck with sc := relS scope ck.sc, fn := fun x => scope.names.lookup x == some .cell }
mutual
def chkTg : M → Ck → Expr → Bool
  | .tgn i, ck, e => (match e with | .Name x _ => decide (ck.N[i]? = some x) && locB ck x | _ => false)
  | .tgt ts, ck, e => (match e with | .Tuple es _ _ => es.all nst && chkTgs ts ck es | _ => false)
  | _, _, _ => false
def chkTgs : M → Ck → List Expr → Bool
  | .nil, _, es => es.isEmpty
  | .cons t ts, ck, es => (match es with | e :: es => chkTg t ck e && chkTgs ts ck es | _ => false)
  | _, _, _ => false
end
def tupB : Expr → Bool
  | .Tuple _ _ _ => true
  | _ => false
theorem tupB_ok {e : Expr} (h : tupB e = true) : ∃ es k p, e = .Tuple es k p := by
  cases e <;> first | exact ⟨_, _, _, rfl⟩ | cases h
def tgI : M → Expr → Bool
  | .enum _, t => tupB t
  | .zip _ _, t => tupB t
  | _, _ => true
def opB (o : BOp) (op : Operator) : Bool := decide (op = opOf o)
def copB (o : COp) (op : CmpOp) : Bool := decide (op = copOf o)
def isB (n : Bool) (op : CmpOp) : Bool := decide (op = isOf n)
mutual
def chkE : M → Ck → Expr → Bool
  | .pl p, ck, e => chkP ck p e
  | .frv i, ck, e => chkP ck (.sl i) e
  | .mv i, ck, e => chkP ck (.sl i) e
  | .con d, _, e => conB d e
  | .glo x d, ck, e => nmB x e && glB ck.sc x && okName x && ck.t.gl.any fun q => decide (q.1 = x) && eqDD q.2 d
  | .bin o a b, ck, e => (match e with | .BinOp a' op b' _ => opB o op && chkE a ck a' && chkE b ck b' | _ => false)
  | .neg a, ck, e => (match e with | .UnaryOp op a' _ => decide (op = .USub) && chkE a ck a' | _ => false)
  | .cmp o a b, ck, e => (match e with | .Compare a' [op] [b'] _ => copB o op && chkE a ck a' && chkE b ck b' && !behindInMarks op b' | _ => false)
  | .cmp2 o o' a b c, ck, e => (match e with | .Compare a' [op, op'] [b', c'] _ => copB o op && copB o' op' && chkE a ck a' && chkE b ck b' && chkE c ck c' && !lastMarks [op, op'] [b', c'] | _ => false)
  | .isN n a, ck, e => (match e with | .Compare a' [op] [.Constant .none _ _] _ => isB n op && chkE a ck a' | _ => false)
  | .isB n k a, ck, e => (match e with | .Compare a' [op] [.Constant (.bool k') _ _] _ => isB n op && k == k' && chkE a ck a' | _ => false)
  | .bone a, ck, e => (match e with | .BoolOp _ [a'] _ => chkE a ck a' | _ => false)
  | .band a b, ck, e => (match e with | .BoolOp op (a' :: b' :: r) p => decide (op = .And) && chkE a ck a' && chkE b ck (.BoolOp .And (b' :: r) p) && !isPl b | _ => false)
  | .bor a b, ck, e => (match e with | .BoolOp op (a' :: b' :: r) p => decide (op = .Or) && chkE a ck a' && chkE b ck (.BoolOp .Or (b' :: r) p) && !isPl b | _ => false)
  | .bnot a, ck, e => (match e with | .UnaryOp op a' _ => decide (op = .Not) && chkE a ck a' | _ => false)
  | .ife t a b, ck, e => (match e with | .IfExp t' a' b' _ => chkT t ck t' && chkE a ck a' && chkE b ck b' | _ => false)
  | .fzE a, ck, e => chkE a ck e
  | .tup es, ck, e => (match e with | .Tuple es' _ _ => chkL es ck es' && decide (es'.length ≤ 1000) | _ => false)
  | .lst es, ck, e => (match e with | .List es' _ => chkL es ck es' && decide (es'.length ≤ 1000) | _ => false)
  | .box es, ck, e => (match e with | .List es' _ => chkL es ck es' && decide (es'.length ≤ 1000) | _ => false)
  | .idx a i, ck, e => (match e with | .Subscript a' i' _ => chkE a ck a' && chkE i ck i' && nsl i' | _ => false)
  | .slc a lo hi, ck, e => (match e with | .Subscript a' (.Slice l h none _) _ => chkE a ck a' && chkO lo ck l && chkO hi ck h | _ => false)
  | .rvs a, ck, e => (match e with | .Subscript a' (.Slice none none (some (.UnaryOp .USub (.Constant (.int i) _ _) _)) _) _ => decide (i = 1) && chkE a ck a' | _ => false)
  | .bi1 k a, ck, e => (match e with | .Call f [a'] [] _ => nmB (biNm k) f && glB ck.sc (biNm k) && chkE a ck a' && nst a' | _ => false)
  | .att a n cs, ck, e => (match e with | .Attribute a' f _ => decide (f = n) && chkE a ck a' && nat a' && cs.all fun c => ck.t.rc.any fun q => decide (q.1 = c) && decide (n ∈ q.2.2) | _ => false)
  | .new c ns as, ck, e => (match e with
    | .Call f' (a' :: as') [] _ => (ck.t.rc.any fun q => decide (q.1 = c) && decide (q.2.2 = ns) && nmB q.2.1 f' && glB ck.sc q.2.1 && okName q.2.1) && chkL as ck (a' :: as') && (a' :: as').all nst && decide ((a' :: as').length = ns.length)
    | _ => false)
  | .gfn f n, ck, e => decide (f < ck.t.nm.length) && nmB (ck.t.nm.getD f default) e && glB ck.sc (ck.t.nm.getD f default) && okName (ck.t.nm.getD f default) && decide (n = (ck.t.ps.getD f []).length)
  | .callv i n as, ck, e => (match e with
    | .Call (.Name x _) (a' :: as') [] _ => decide (ck.N[i]? = some x) && visB ck.sc x && okName x && chkG as ck (a' :: as') && (a' :: as').all nst && decide ((a' :: as').length = n)
    | _ => false)
  | .callb f i, ck, e => (match e with
    | .Call f' [.Name x _] [] _ => decide (f < ck.t.nm.length) && nmB (ck.t.nm.getD f default) f' && glB ck.sc (ck.t.nm.getD f default) && okName (ck.t.nm.getD f default) && decide (1 = (ck.t.ps.getD f []).length) && decide (ck.N[i]? = some x) && visB ck.sc x && okName x
    | _ => false)
  | .callb2 f a i, ck, e => (match e with
    | .Call f' [a', .Name x _] [] _ => decide (f < ck.t.nm.length) && nmB (ck.t.nm.getD f default) f' && glB ck.sc (ck.t.nm.getD f default) && okName (ck.t.nm.getD f default) && decide (2 = (ck.t.ps.getD f []).length) && decide (ck.N[i]? = some x) && visB ck.sc x && okName x && chkE a ck a' && nst a'
    | _ => false)
  | .jn z a, ck, e => (match e with | .Call (.Attribute (.Constant (.str z') _ _) nm ap) [a'] [] cp => decide (z' = z) && decide (nm = "join") && (ap.endLine == cp.line) && chkE a ck a' && nst a' | _ => false)
  | .bi2 k a c, ck, e => (match e with
    | .Call f [a', c'] [] _ => nmB (biNm k) f && glB ck.sc (biNm k) && chkE a ck a' && chkE c ck c' && nst a' && nst c'
    | .Call f [x', y', z'] [] _ => (match a with
      | .bi2 k2 x y => decide (k = .min2) && decide (k2 = .min2) && nmB (biNm .min2) f && glB ck.sc (biNm .min2) && chkE x ck x' && chkE y ck y' && chkE c ck z' && nst x' && nst y' && nst z'
      | _ => false)
    | _ => false)
  | .isi a one ts, ck, e => (match e with
    | .Call f [a', t'] [] _ => nmB "isinstance" f && glB ck.sc "isinstance" && chkE a ck a' && nst a' && (if one then decide (ts.length = 1) && tysB ck.sc ts [t'] else (match t' with | .Tuple es _ _ => tysB ck.sc ts es && decide (ts.length ≤ 1000) && !ts.isEmpty | _ => false))
    | _ => false)
  | .call f as, ck, e => (match e with
    | .Call f' as' [] _ => decide (f < ck.t.nm.length) && nmB (ck.t.nm.getD f default) f' && glB ck.sc (ck.t.nm.getD f default) && okName (ck.t.nm.getD f default) && chkG as ck as' && as'.all nst && decide (as'.length = (ck.t.ps.getD f []).length)
    | _ => false)
  | .callk f ks as, ck, e => (match e with
    | .Call f' [] kws _ => nmB (ck.t.nm.getD f default) f' && glB ck.sc (ck.t.nm.getD f default) && okName (ck.t.nm.getD f default) && chkK as ck kws && decide (ks.length = (ck.t.ps.getD f []).length) && (ck.t.kb.any fun q => decide (q.1 = f) && decide (kws.map (·.arg) = q.2.1.map some) && decide (q.2.2 = ks))
    | _ => false)
  | .lc own tg it cs elt, ck, e => (match e with
    | .ListComp elt' [⟨tg', it', ifs, 0⟩] scope _ => decide own.Nodup && (tgSl tg).all (fun j => decide (j ∈ own)) && blkC ck.N ck.sc scope (ownN ck.N own) && chkI it ck it' && tgI it tg' && nset it' && chkTg tg (blkK ck scope) tg' && chkC cs (blkK ck scope) ifs && chkE elt (blkK ck scope) elt'
    | _ => false)
  | .lco own tg i cs elt, ck, e => (match e with
    | .ListComp elt' [⟨tg', it', ifs, 0⟩] scope _ => decide own.Nodup && (tgSl tg).all (fun j => decide (j ∈ own)) && decide (i ∉ own) && blkC ck.N ck.sc scope (ownN ck.N own) && chkP ck (.sl i) it' && nset it' && chkTg tg (blkK ck scope) tg' && chkC cs (blkK ck scope) ifs && chkE elt (blkK ck scope) elt'
    | _ => false)
  | .lc2 own tg it own1 tg1 it1 elt, ck, e => (match e with
    | .ListComp elt' [⟨tg', it', [], 0⟩, ⟨tg1', it1', [], 0⟩] scope _ => decide own.Nodup && (tgSl tg).all (fun j => decide (j ∈ own)) && (tgSl tg1).all (fun j => decide (j ∈ own1)) && own1.all (fun j => decide (j ∈ own)) && blkC ck.N ck.sc scope (ownN ck.N own) && chkI it ck it' && tgI it tg' && nset it' && chkTg tg (blkK ck scope) tg' && chkI it1 (blkK ck scope) it1' && tgI it1 tg1' && nset it1' && chkTg tg1 (blkK ck scope) tg1' && chkE elt (blkK ck scope) elt'
    | _ => false)
  | .lrg t a, ck, e => (match e with | .Call f [a'] [] _ => nmB (lrNm t) f && glB ck.sc (lrNm t) && chkR a ck a' | _ => false)
  | .pop p, ck, e => (match e with | .Call (.Attribute o nm ap) [] [] cp => decide (nm = "pop") && chkP ck p o && nat o && (ap.endLine == cp.line) | _ => false)
  | .popAt p a, ck, e => (match e with | .Call (.Attribute o nm ap) [a'] [] cp => decide (nm = "pop") && chkP ck p o && nat o && (ap.endLine == cp.line) && chkE a ck a' && nst a' | _ => false)
  | _, _, _ => false
def chkT : M → Ck → Expr → Bool
  | .bone a, ck, e => (match e with | .BoolOp _ [a'] _ => chkT a ck a' | _ => false)
  | .band a b, ck, e => (match e with | .BoolOp op (a' :: b' :: r) p => decide (op = .And) && chkT a ck a' && chkT b ck (.BoolOp .And (b' :: r) p) | _ => false)
  | .bor a b, ck, e => (match e with | .BoolOp op (a' :: b' :: r) p => decide (op = .Or) && chkT a ck a' && chkT b ck (.BoolOp .Or (b' :: r) p) | _ => false)
  | .bnot a, ck, e => (match e with | .UnaryOp op a' _ => decide (op = .Not) && chkT a ck a' | _ => false)
  | .cmp o a b, ck, e => (match e with | .Compare a' [op] [b'] _ => copB o op && chkE a ck a' && chkE b ck b' && !behindInMarks op b' | _ => false)
  | .cmp2 o o' a b c, ck, e => (match e with | .Compare a' [op, op'] [b', c'] _ => copB o op && copB o' op' && chkE a ck a' && chkE b ck b' && chkE c ck c' && !lastMarks [op, op'] [b', c'] | _ => false)
  | .isN n a, ck, e => (match e with | .Compare a' [op] [.Constant .none _ _] _ => isB n op && chkE a ck a' | _ => false)
  | .isB n k a, ck, e => (match e with | .Compare a' [op] [.Constant (.bool k') _ _] _ => isB n op && k == k' && chkE a ck a' | _ => false)
  | .seq a, ck, e => chkE a ck e && ntr e
  | _, _, _ => false
def chkL : M → Ck → List Expr → Bool
  | .nil, _, es => es.isEmpty
  | .cons h t, ck, es => (match es with | e :: es => chkE h ck e && nst e && chkL t ck es | _ => false)
  | _, _, _ => false
def chkG : M → Ck → List Expr → Bool
  | .nil, _, es => es.isEmpty
  | .cons h t, ck, es => (match es with
    | e :: es => (match h with | .io i => chkP ck (.sl i) e | _ => chkE h ck e) && nst e && chkG t ck es
    | _ => false)
  | _, _, _ => false
def chkK : M → Ck → List Keyword → Bool
  | .nil, _, es => es.isEmpty
  | .cons h t, ck, es => (match es with | ⟨_, e, _⟩ :: es => chkE h ck e && chkK t ck es | _ => false)
  | _, _, _ => false
def chkO : M → Ck → Option Expr → Bool
  | .no, _, e => e.isNone
  | .seq a, ck, e => (match e with | some e => chkE a ck e | _ => false)
  | _, _, _ => false
def chkI : M → Ck → Expr → Bool
  | .seq a, ck, e => chkE a ck e
  | .rg1 a, ck, e => (match e with | .Call f [a'] [] _ => nmB "range" f && glB ck.sc "range" && chkE a ck a' && nst a' | _ => false)
  | .rg2 a b, ck, e => (match e with | .Call f [a', b'] [] _ => nmB "range" f && glB ck.sc "range" && chkE a ck a' && nst a' && chkE b ck b' && nst b' | _ => false)
  | .rg3 a b c, ck, e => (match e with | .Call f [a', b', c'] [] _ => nmB "range" f && glB ck.sc "range" && chkE a ck a' && nst a' && chkE b ck b' && nst b' && chkE c ck c' && nst c' | _ => false)
  | .enum a, ck, e => (match e with | .Call f [a'] [] _ => nmB "enumerate" f && glB ck.sc "enumerate" && chkE a ck a' && nst a' | _ => false)
  | .zip a b, ck, e => (match e with | .Call f [a', b'] [] _ => nmB "zip" f && glB ck.sc "zip" && chkE a ck a' && nst a' && chkE b ck b' && nst b' | _ => false)
  | .rvd a, ck, e => (match e with | .Call f [a'] [] _ => nmB "reversed" f && glB ck.sc "reversed" && chkE a ck a' && nst a' | _ => false)
  | _, _, _ => false
def chkR : M → Ck → Expr → Bool
  | .rg1 a, ck, e => (match e with | .Call f [a'] [] _ => nmB "range" f && glB ck.sc "range" && chkE a ck a' && nst a' | _ => false)
  | .rg2 a b, ck, e => (match e with | .Call f [a', b'] [] _ => nmB "range" f && glB ck.sc "range" && chkE a ck a' && nst a' && chkE b ck b' && nst b' | _ => false)
  | _, _, _ => false
def chkC : M → Ck → List Expr → Bool
  | .nil, _, es => es.isEmpty
  | .cons t ts, ck, es => (match ts, es with | .nil, [e] => chkT t ck e | _, _ => false)
  | _, _, _ => false
end
end L2.PV
set_option Elab.async false
set_option linter.all false
set_option autoImplicit false
/-! The checker tells the truth: expressions. -/
namespace L2.PV
open PySem PySem.Spec PyProof.Rows
theorem takes0' {X : Cx} : Takes X W0 := fun _ _ x => by
  obtain ⟨_, _, _, _, _, _, _, _, _, _, _, _, _, _, _, _, h⟩ := x
  exact h.elim
structure Sd (C : RC) (adr : Nat → Addr) (fd : Nat → FuncData) (cf : Nat → List D → Option CR) (lev : Nat) (ck : Ck) (X : Cx) (W : WX) : Prop where
  g : Gd C (mkF ck.t adr fd) cf lev ck.N ck.sc X
  fn : X.fn = ck.fn
  tk : Takes X W
section
variable {C : RC} {adr : Nat → Addr} {fd : Nat → FuncData} {cf : Nat → List D → Option CR} {lev : Nat} {pins : List Nat} {ck : Ck} {X : Cx} {W : WX}
theorem nmB_ok {y : Str} {e : Expr} (h : nmB y e = true) : ∃ p, e = .Name y p := by
  cases e <;> first | cases h | skip
  exact ⟨_, by rw [of_decide_eq_true h]⟩
theorem chkP_ok (s : Sd C adr fd cf lev ck X W) : ∀ {p : Pl} {e : Expr}, chkP ck p e = true → PE X e (tPl p)
  | .sl i, e, h => by
    cases e <;> first | cases h | skip
    rename_i x p
    have h : (decide (ck.N[i]? = some x) && visB ck.sc x && okName x) = true := h
    simp only [Bool.and_eq_true] at h
    exact sp_sl s.g (of_decide_eq_true h.1.1) h.1.2 h.2
  | .it p k, e, h => by
    unfold chkP at h
    split at h
    · simp only [Bool.and_eq_true] at h
      cases of_decide_eq_true h.1
      exact sp_it (chkP_ok s h.2)
    · cases h
theorem conB_ok {d : D} {e : Expr} (h : conB d e = true) : PE X e (tE C W (pureM (.con d)) (evE cf pins (.con d))) := by
  unfold conB at h
  split at h
  · split at h
    · cases of_decide_eq_true h
      exact se_ret (d := .int _) pe_int (fun ρ => by rw [evE]) (fun _ => rfl) rfl
    · cases of_decide_eq_true h
      exact se_ret (d := .str _) pe_str (fun ρ => by rw [evE]) (fun _ => rfl) rfl
    · cases eq_of_beq h
      exact se_ret (d := .bl _) pe_bl (fun ρ => by rw [evE]) (fun _ => rfl) rfl
    · exact se_ret (d := .non) pe_non (fun ρ => by rw [evE]) (fun _ => rfl) rfl
    · cases h
  · cases h
theorem nset_ok {e : Expr} (h : nset e = true) (env : Env) (x : Value) : foldedSetIterable e env x = pure x := by cases e <;> first | rfl | cases h
theorem tyN_ok (t : String) (h : t ∈ tyN) : okName (Str.ofString t) = true ∧ Str.ofString t ∈ freeB ∧ bootBuiltins (Str.ofString t) = some (.type t) ∧ t ≠ "" := by
  have k : ∀ t ∈ tyN, okName (Str.ofString t) = true ∧ Str.ofString t ∈ freeB ∧ bootBuiltins (Str.ofString t) = some (.type t) ∧ t ≠ "" := by decide +kernel
  exact k t h
theorem tysB_ok (s : Sd C adr fd cf lev ck X W) : ∀ {ts : List String} {es : List Expr}, tysB ck.sc ts es = true → (∀ t' ∈ ts, glB ck.sc (Str.ofString t') = true ∧ okName (Str.ofString t') = true ∧ X.mg (Str.ofString t') = none ∧ bootBuiltins (Str.ofString t') = some (.type t')) ∧ Paired (fun t e => ∃ p : Pos, e = Expr.Name (Str.ofString t) p) ts es
  | [], [], _ => ⟨fun _ h => (nomatch h), .nil⟩
  | [], _ :: _, h => nomatch h
  | _ :: _, [], h => nomatch h
  | t :: ts, e :: es, h => by
    unfold tysB at h
    simp only [Bool.and_eq_true, decide_eq_true_eq] at h
    obtain ⟨k1, k2, k3, k4⟩ := tyN_ok t h.1.1.1
    obtain ⟨q1, q2⟩ := tysB_ok s h.2
    obtain ⟨p, e1⟩ := nmB_ok h.1.1.2
    refine ⟨fun t' ht => ?_, .cons ⟨p, e1⟩ q2⟩
    rcases List.mem_cons.mp ht with z | z
    · subst z
      exact ⟨h.1.2, k1, s.g.free _ k2, k3⟩
    · exact q1 t' z
theorem locB_ok (s : Sd C adr fd cf lev ck X W) {x : Str} (h : locB ck x = true) : ck.sc.names.lookup x = some .local ∨ (ck.sc.names.lookup x = some .cell ∧ X.fn x = true) := by
  unfold locB at h
  rcases Bool.or_eq_true_iff.mp h with z | z
  · exact .inl (of_decide_eq_true z)
  · rw [Bool.and_eq_true] at z
    exact .inr ⟨of_decide_eq_true z.1, by rw [s.fn]; exact z.2⟩
theorem as_cons {e : Expr} (h : nst e = true) (es : List Expr) (env : Env) : assignEach (e :: es) env = (false, assign e env) :: assignEach es env := by
  cases e <;> first | rfl | cases h
theorem as_len : ∀ {es : List Expr} {env : Env}, es.all nst = true → (assignEach es env).length = es.length ∧ (assignEach es env).findIdx? (·.1) = none
  | [], _, _ => ⟨rfl, rfl⟩
  | e :: es, env, h => by
    rw [List.all_cons, Bool.and_eq_true] at h
    obtain ⟨h1, h2⟩ := as_len (env := env) h.2
    rw [as_cons h.1]
    exact ⟨by simp [h1], by rw [List.findIdx?_cons]; simp [h2]⟩
mutual
theorem chkTg_ok (s : Sd C adr fd cf lev ck X W) : ∀ {m : M} {e : Expr}, chkTg m ck e = true → PG X e (gTg C pins m)
  | .tgn i, e, h => by
    unfold chkTg at h
    split at h
    · have h := Bool.and_eq_true_iff.mp h
      exact sg_name s.g (of_decide_eq_true h.1) (locB_ok s h.2)
    · cases h
  | .tgt ts, e, h => by
    unfold chkTg at h
    split at h
    · have h := Bool.and_eq_true_iff.mp h
      obtain ⟨q1, q2⟩ := chkTgs_ok s h.2 h.1
      obtain ⟨l1, l2⟩ := as_len (env := X.env) h.1
      exact sg_tup s.g.kK s.g.calm q1 l1 q2 l2
    · cases h
theorem chkTgs_ok (s : Sd C adr fd cf lev ck X W) : ∀ {m : M} {es : List Expr}, chkTgs m ck es = true → es.all nst = true → PGs X es (gTgs C pins m) ∧ cnt_ m = es.length
  | .nil, es, h, _ => by
    unfold chkTgs at h
    cases List.isEmpty_iff.mp h
    exact ⟨sgs_nil, rfl⟩
  | .cons t ts, es, h, hn => by
    unfold chkTgs at h
    split at h
    · rename_i e es
      have h := Bool.and_eq_true_iff.mp h
      rw [List.all_cons, Bool.and_eq_true] at hn
      obtain ⟨q1, q2⟩ := chkTgs_ok s h.2 hn.2
      exact ⟨sgs_cons (chkTg_ok s h.1) q1 (by rw [as_cons hn.1]; rfl), by show cnt_ ts + 1 = _; rw [q2]; rfl⟩
    · cases h
end
end
end L2.PV
set_option Elab.async false
set_option linter.all false
set_option autoImplicit false
set_option maxHeartbeats 2000000
/-! The checker tells the truth: expressions, second part. -/
namespace L2.PV
open PySem PySem.Spec PyProof.Rows
section
variable {C : RC} {adr : Nat → Addr} {fd : Nat → FuncData} {cf : Nat → List D → Option CR} {lev : Nat} {pins : List Nat}
theorem glob_any {t : Tx} {x : Str} {d : D} (h : (t.gl.any fun q => decide (q.1 = x) && eqDD q.2 d) = true) : (x, d) ∈ t.gl := by
  obtain ⟨q, hq, h⟩ := List.any_eq_true.mp h
  rw [Bool.and_eq_true] at h
  have e1 := of_decide_eq_true h.1
  have e2 := eqDD_ok h.2
  rw [← e1, ← e2]; exact hq
theorem mk_nm {t : Tx} {f : Nat} : (mkF t adr fd).nm f = t.nm.getD f default := rfl
theorem pureM_io (i : Nat) : ∀ m : M, m = .io i ∨ ∀ j, m ≠ .io j ∨ j ≠ i := fun m => by
  by_cases h : m = .io i
  · exact .inl h
  · exact .inr fun j => by
      by_cases e : j = i
      · subst e; exact .inl h
      · exact .inr e
def chkCp : M → Bool
  | .cons t _ => pureM t
  | _ => true
theorem sg_io0 {X : Cx} {W : WX} {a : Expr} {i : Nat} {es : List Expr} {ms : M} (ha : PE X a (tPl (.sl i))) (hs : nst a = true) (hr : PAn X es (tG C W false (evG cf pins ms))) :
    PAn X (a :: es) (tG C W false (evG cf pins (.cons (.io i) ms))) := sg_io ha hs hr
mutual
theorem chkE_ok : ∀ (m : M) {ck : Ck} {X : Cx} {W : WX} {e : Expr}, Sd C adr fd cf lev ck X W → chkE m ck e = true → Ev C W cf pins X m e
  | .pl p, ck, X, W, e, s, h => by
    unfold chkE at h
    exact Ev.pl (chkP_ok s h)
  | .frv i, ck, X, W, e, s, h => by
    unfold chkE at h
    exact Ev.of (se_frv (chkP_ok s h))
  | .mv i, ck, X, W, e, s, h => by
    unfold chkE at h
    exact Ev.of (se_mv (chkP_ok s h))
  | .con d, ck, X, W, e, s, h => by
    unfold chkE at h
    exact Ev.of (conB_ok h)
  | .glo x d, ck, X, W, e, s, h => by
    unfold chkE at h
    simp only [Bool.and_eq_true] at h
    obtain ⟨p, rfl⟩ := nmB_ok h.1.1.1
    exact Ev.of (se_glo s.g (glob_any h.2) h.1.1.2 h.1.2)
  | .bin o a b, ck, X, W, e, s, h => by
    unfold chkE at h
    split at h
    · simp only [Bool.and_eq_true] at h
      cases of_decide_eq_true h.1.1
      exact Ev.of (se_bin s.g o (chkE_ok a s h.1.2).b (chkE_ok b s h.2).b)
    · cases h
  | .neg a, ck, X, W, e, s, h => by
    unfold chkE at h
    split at h
    · simp only [Bool.and_eq_true] at h
      cases of_decide_eq_true h.1
      exact Ev.of (se_neg (chkE_ok a s h.2).b)
    · cases h
  | .cmp o a b, ck, X, W, e, s, h => by
    unfold chkE at h
    split at h
    · simp only [Bool.and_eq_true, Bool.not_eq_true'] at h
      cases of_decide_eq_true h.1.1.1
      exact Ev.of (se_cmp s.g o (chkE_ok a s h.1.1.2).b (chkE_ok b s h.1.2).b h.2)
    · cases h
  | .cmp2 o o' a b c, ck, X, W, e, s, h => by
    unfold chkE at h
    split at h
    · simp only [Bool.and_eq_true, Bool.not_eq_true'] at h
      cases of_decide_eq_true h.1.1.1.1.1
      cases of_decide_eq_true h.1.1.1.1.2
      exact Ev.of (se_cmp2 s.g o o' (chkE_ok a s h.1.1.1.2).b (chkE_ok b s h.1.1.2).b (chkE_ok c s h.1.2).b h.2)
    · cases h
  | .isN n a, ck, X, W, e, s, h => by
    unfold chkE at h
    split at h
    · simp only [Bool.and_eq_true] at h
      cases of_decide_eq_true h.1
      exact Ev.of (se_isN n (chkE_ok a s h.2).b)
    · cases h
  | .isB n k a, ck, X, W, e, s, h => by
    unfold chkE at h
    split at h
    · simp only [Bool.and_eq_true] at h
      cases of_decide_eq_true h.1.1
      cases eq_of_beq h.1.2
      exact Ev.of (se_isB n k (chkE_ok a s h.2).b)
    · cases h
  | .bone a, ck, X, W, e, s, h => by
    unfold chkE at h
    split at h
    · exact Ev.of (se_bone (chkE_ok a s h))
    · cases h
  | .band a b, ck, X, W, e, s, h => by
    unfold chkE at h
    split at h
    · simp only [Bool.and_eq_true, Bool.not_eq_true'] at h
      cases of_decide_eq_true h.1.1.1
      exact Ev.of (se_band (chkE_ok a s h.1.1.2).b ((chkE_ok b s h.1.2).f h.2) h.2)
    · cases h
  | .bor a b, ck, X, W, e, s, h => by
    unfold chkE at h
    split at h
    · simp only [Bool.and_eq_true, Bool.not_eq_true'] at h
      cases of_decide_eq_true h.1.1.1
      exact Ev.of (se_bor (chkE_ok a s h.1.1.2).b ((chkE_ok b s h.1.2).f h.2) h.2)
    · cases h
  | .bnot a, ck, X, W, e, s, h => by
    unfold chkE at h
    split at h
    · simp only [Bool.and_eq_true] at h
      cases of_decide_eq_true h.1
      exact Ev.of (se_bnot (chkE_ok a s h.2).b)
    · cases h
  | .ife t a b, ck, X, W, e, s, h => by
    unfold chkE at h
    split at h
    · simp only [Bool.and_eq_true] at h
      exact Ev.of (se_ife (chkT_ok t s h.1.1).1 (chkE_ok a s h.1.2) (chkE_ok b s h.2))
    · cases h
  | .fzE a, ck, X, W, e, s, h => by
    unfold chkE at h
    exact Ev.of (se_fzE (chkE_ok a s h))
  | .tup es, ck, X, W, e, s, h => by
    unfold chkE at h
    split at h
    · simp only [Bool.and_eq_true] at h
      exact Ev.of (se_tup (chkL_ok es s h.1).1 (of_decide_eq_true h.2))
    · cases h
  | .lst es, ck, X, W, e, s, h => by
    unfold chkE at h
    split at h
    · simp only [Bool.and_eq_true] at h
      exact Ev.of (se_lst (chkL_ok es s h.1).1 (of_decide_eq_true h.2))
    · cases h
  | .box es, ck, X, W, e, s, h => by
    unfold chkE at h
    split at h
    · simp only [Bool.and_eq_true] at h
      exact Ev.of (se_box (chkL_ok es s h.1).2 (of_decide_eq_true h.2))
    · cases h
  | .idx a i, ck, X, W, e, s, h => by
    unfold chkE at h
    split at h
    · simp only [Bool.and_eq_true] at h
      exact Ev.of (se_idx s.g (chkE_ok a s h.1.1).b (chkE_ok i s h.1.2).b h.2)
    · cases h
  | .slc a lo hi, ck, X, W, e, s, h => by
    unfold chkE at h
    split at h
    · simp only [Bool.and_eq_true] at h
      exact Ev.of (se_slc s.g (mlo := lo) (mhi := hi) (chkE_ok a s h.1.1).b (chkO_ok lo s h.1.2) (chkO_ok hi s h.2) rfl rfl)
    · cases h
  | .rvs a, ck, X, W, e, s, h => by
    unfold chkE at h
    split at h
    · simp only [Bool.and_eq_true] at h
      cases of_decide_eq_true h.1
      exact Ev.of (se_rvs s.g (chkE_ok a s h.2).b)
    · cases h
  | .bi1 k a, ck, X, W, e, s, h => by
    unfold chkE at h
    split at h
    · simp only [Bool.and_eq_true] at h
      obtain ⟨p, rfl⟩ := nmB_ok h.1.1.1
      exact Ev.of (se_bi1 s.g k h.1.1.2 (chkE_ok a s h.1.2).b h.2)
    · cases h
  | .att a n cs, ck, X, W, e, s, h => by
    unfold chkE at h
    split at h
    · simp only [Bool.and_eq_true, decide_eq_true_eq] at h
      obtain ⟨⟨⟨h1, h2⟩, h3⟩, h4⟩ := h
      subst h1
      refine Ev.of (se_att s.g (chkE_ok a s h2).b h3 fun c hc => ?_)
      obtain ⟨q, hq, h5⟩ := List.any_eq_true.mp (List.all_eq_true.mp h4 c hc)
      simp only [Bool.and_eq_true, decide_eq_true_eq] at h5
      exact ⟨q, hq, h5.1, h5.2⟩
    · cases h
  | .new c ns as, ck, X, W, e, s, h => by
    unfold chkE at h
    split at h
    · simp only [Bool.and_eq_true, decide_eq_true_eq] at h
      obtain ⟨⟨⟨h1, h2⟩, h3⟩, h4⟩ := h
      obtain ⟨q, hq, h5⟩ := List.any_eq_true.mp h1
      simp only [Bool.and_eq_true, decide_eq_true_eq] at h5
      obtain ⟨⟨⟨⟨k1, k2⟩, k3⟩, k4⟩, k5⟩ := h5
      obtain ⟨p, rfl⟩ := nmB_ok k3
      subst k1; subst k2
      rw [List.all_cons, Bool.and_eq_true] at h3
      exact Ev.of (se_new s.g hq k4 k5 (chkL_ok as s h2).1 h3.1 h3.2 h4)
    · cases h
  | .gfn f n, ck, X, W, e, s, h => by
    unfold chkE at h
    simp only [Bool.and_eq_true, decide_eq_true_eq] at h
    obtain ⟨⟨⟨⟨h1, h2⟩, h3⟩, h4⟩, h5⟩ := h
    obtain ⟨p, rfl⟩ := nmB_ok h2
    exact Ev.of (se_gfn s.g h1 h3 h4 h5)
  | .callv i n as, ck, X, W, e, s, h => by
    unfold chkE at h
    split at h
    · simp only [Bool.and_eq_true, decide_eq_true_eq] at h
      obtain ⟨⟨⟨⟨⟨h1, h2⟩, h3⟩, h4⟩, h5⟩, h6⟩ := h
      rw [List.all_cons, Bool.and_eq_true] at h5
      exact Ev.of (se_callv s.g s.tk h1 h2 h3 (chkG_ok as s h4) h5.1 h5.2 h6)
    · cases h
  | .callb f i, ck, X, W, e, s, h => by
    unfold chkE at h
    split at h
    · simp only [Bool.and_eq_true, decide_eq_true_eq] at h
      obtain ⟨⟨⟨⟨⟨⟨⟨h1, h2⟩, h3⟩, h4⟩, h5⟩, h6⟩, h7⟩, h8⟩ := h
      obtain ⟨p, rfl⟩ := nmB_ok h2
      exact Ev.of (se_callb s.g s.tk h1 h3 h4 h5 h6 h7 h8)
    · cases h
  | .callb2 f a i, ck, X, W, e, s, h => by
    unfold chkE at h
    split at h
    · simp only [Bool.and_eq_true, decide_eq_true_eq] at h
      obtain ⟨⟨⟨⟨⟨⟨⟨⟨⟨h1, h2⟩, h3⟩, h4⟩, h5⟩, h6⟩, h7⟩, h8⟩, h9⟩, h10⟩ := h
      obtain ⟨p, rfl⟩ := nmB_ok h2
      exact Ev.of (se_callb2 s.g s.tk (chkE_ok a s h9) h10 h1 h3 h4 h5 h6 h7 h8)
    · cases h
  | .jn z a, ck, X, W, e, s, h => by
    unfold chkE at h
    split at h
    · simp only [Bool.and_eq_true, decide_eq_true_eq] at h
      obtain ⟨⟨⟨⟨h1, h2⟩, h3⟩, h4⟩, h5⟩ := h
      subst h1; subst h2
      exact Ev.of (se_jn s.g (chkE_ok a s h4).b h5 h3)
    · cases h
  | .bi2 k a c, ck, X, W, e, s, h => by
    unfold chkE at h
    split at h
    · simp only [Bool.and_eq_true] at h
      obtain ⟨p, rfl⟩ := nmB_ok h.1.1.1.1.1
      exact Ev.of (se_bi2 s.g k h.1.1.1.1.2 (chkE_ok a s h.1.1.1.2).b (chkE_ok c s h.1.1.2).b h.1.2 h.2)
    · split at h
      · rename_i k2 x y
        simp only [Bool.and_eq_true, decide_eq_true_eq] at h
        obtain ⟨⟨⟨⟨⟨⟨⟨⟨⟨h1, h2⟩, h3⟩, h4⟩, h5⟩, h6⟩, h7⟩, h8⟩, h9⟩, h10⟩ := h
        subst h1; subst h2
        obtain ⟨p, rfl⟩ := nmB_ok h3
        exact Ev.of (se_min3 s.g h4 (chkE_ok x s h5).b (chkE_ok y s h6).b (chkE_ok c s h7).b h8 h9 h10)
      · cases h
    · cases h
  | .isi a one ts, ck, X, W, e, s, h => by
    unfold chkE at h
    split at h
    · simp only [Bool.and_eq_true] at h
      obtain ⟨p, rfl⟩ := nmB_ok h.1.1.1.1
      have ha := chkE_ok a s h.1.1.2
      cases one with
      | true =>
        have h2 := h.2
        rw [if_pos rfl, Bool.and_eq_true] at h2
        match ts, of_decide_eq_true h2.1, h2.2 with
        | [t], _, h3 =>
          unfold tysB at h3
          simp only [Bool.and_eq_true, decide_eq_true_eq] at h3
          obtain ⟨k1, k2, k3, k4⟩ := tyN_ok t h3.1.1.1
          obtain ⟨p2, rfl⟩ := nmB_ok h3.1.1.2
          exact Ev.of (se_isi s.g h.1.1.1.2 ha.b h.1.2 h3.1.2 k1 (s.g.free _ k2) k3 k4)
      | false =>
        have h2 := h.2
        rw [if_neg Bool.false_ne_true] at h2
        split at h2
        · simp only [Bool.and_eq_true, decide_eq_true_eq, Bool.not_eq_true'] at h2
          obtain ⟨q1, q2⟩ := tysB_ok s h2.1.1
          match ts, h2.2, q1, q2, h2.1.2 with
          | t :: ts, _, q1, q2, h3 =>
            have ht : t ∈ tyN := by
              have h4 := h2.1.1
              cases q2
              unfold tysB at h4
              simp only [Bool.and_eq_true, decide_eq_true_eq] at h4
              exact h4.1.1.1
            exact Ev.of (se_isiT s.g h.1.1.1.2 ha.b h.1.2 q1 (tyN_ok t ht).2.2.2 q2 h3)
        · cases h2
    · cases h
  | .call f as, ck, X, W, e, s, h => by
    unfold chkE at h
    split at h
    · rename_i f' as' p
      simp only [Bool.and_eq_true, decide_eq_true_eq] at h
      obtain ⟨⟨⟨⟨⟨⟨h1, h2⟩, h3⟩, h4⟩, h5⟩, h6⟩, h7⟩ := h
      obtain ⟨p, rfl⟩ := nmB_ok h2
      cases as' with
      | nil =>
        have : as = .nil := by
          cases as <;> first | rfl | (unfold chkG at h5; cases h5)
        subst this
        exact Ev.of (se_call0 s.g s.tk h1 h3 h4 h7)
      | cons a' as' =>
        rw [List.all_cons, Bool.and_eq_true] at h6
        exact Ev.of (se_call s.g s.tk h1 h3 h4 (chkG_ok as s h5) h6.1 h6.2 h7)
    · cases h
  | .callk f ks as, ck, X, W, e, s, h => by
    unfold chkE at h
    split at h
    · rename_i f' kws p
      simp only [Bool.and_eq_true, decide_eq_true_eq] at h
      obtain ⟨⟨⟨⟨⟨h1, h2⟩, h3⟩, h4⟩, h5⟩, h6⟩ := h
      obtain ⟨p, rfl⟩ := nmB_ok h1
      obtain ⟨q, hq, h7⟩ := List.any_eq_true.mp h6
      simp only [Bool.and_eq_true, decide_eq_true_eq] at h7
      obtain ⟨⟨e1, e2⟩, e3⟩ := h7
      obtain ⟨q1, q2, q3⟩ := q
      simp only at e1 e2 e3
      subst e1; subst e3
      exact Ev.of (se_callk s.g s.tk hq h2 h3 e2 (chkK_ok as s h4) h5)
    · cases h
  | .lc own tg it cs elt, ck, X, W, e, s, h => by
    unfold chkE at h
    split at h
    · simp only [Bool.and_eq_true, decide_eq_true_eq] at h
      obtain ⟨⟨⟨⟨⟨⟨⟨⟨h1, h2⟩, h3⟩, h4⟩, hti⟩, h5⟩, h6⟩, h7⟩, h8⟩ := h
      have eo : (ownN ck.N own).map (·.2) = own := by
        unfold ownN; rw [List.map_map]; exact List.map_id' own
      rename_i lpos
      have k := se_lc (W := W) (pins := pins) (mt := tg) (mi := it) (me := elt) (mc := cs) (pos := lpos) s.g (pc := chkCp cs) (own := ownN ck.N own) (chkI_ok it s h4 hti) h3
        (fun X' g' f' => chkTg_ok ⟨g', f', takes0'⟩ h6) (fun X' g' f' => chkC_ok cs ⟨g', f', takes0'⟩ h7) (fun X' g' f' => chkE_ok elt ⟨g', f', takes0'⟩ h8) (nset_ok h5 _)
      rw [eo] at k
      exact Ev.of (PE.imp k fun σ H Q z => lc_imp h1 (fun j hj => by have := List.all_eq_true.mp h2 j hj; exact of_decide_eq_true this) z)
    · cases h
  | .lco own tg i cs elt, ck, X, W, e, s, h => by
    unfold chkE at h
    split at h
    · simp only [Bool.and_eq_true, decide_eq_true_eq] at h
      obtain ⟨⟨⟨⟨⟨⟨⟨⟨h1, h2⟩, hn⟩, h3⟩, h4⟩, h5⟩, h6⟩, h7⟩, h8⟩ := h
      have eo : (ownN ck.N own).map (·.2) = own := by
        unfold ownN; rw [List.map_map]; exact List.map_id' own
      rename_i lpos
      have k := se_lco (pins := pins) (mt := tg) (i := i) (me := elt) (mc := cs) (pos := lpos) s.g (pc := chkCp cs) (own := ownN ck.N own) (chkP_ok s h4) h3
        (fun X' g' f' => chkTg_ok ⟨g', f', takes0'⟩ h6) (fun X' g' f' => chkC_ok cs ⟨g', f', takes0'⟩ h7) (fun X' g' f' => chkE_ok elt ⟨g', f', takes0'⟩ h8) (nset_ok h5 _)
      rw [eo] at k
      exact Ev.of (PE.imp k fun σ H Q z => lco_imp h1 (fun j hj => by have := List.all_eq_true.mp h2 j hj; exact of_decide_eq_true this) hn z)
    · cases h
  | .lc2 own tg it own1 tg1 it1 elt, ck, X, W, e, s, h => by
    unfold chkE at h
    split at h
    · simp only [Bool.and_eq_true, decide_eq_true_eq] at h
      obtain ⟨⟨⟨⟨⟨⟨⟨⟨⟨⟨⟨⟨⟨h1, h2⟩, h21⟩, h22⟩, h3⟩, h4⟩, hti⟩, h5⟩, h6⟩, k4⟩, kti⟩, k5⟩, k6⟩, h8⟩ := h
      have eo : (ownN ck.N own).map (·.2) = own := by
        unfold ownN; rw [List.map_map]; exact List.map_id' own
      rename_i lpos
      have hv : ∀ j ∈ own1, j ∈ (ownN ck.N own).map (·.2) := fun j hj => by
        rw [eo]; have := List.all_eq_true.mp h22 j hj; exact of_decide_eq_true this
      have k := se_lc2 (W := W) (pins := pins) (mt := tg) (mi := it) (mt1 := tg1) (mi1 := it1) (vs1 := own1) (me := elt) (pos := lpos) s.g (own := ownN ck.N own) (chkI_ok it s h4 hti) h3 hv
        (fun X' g' f' => chkTg_ok ⟨g', f', takes0'⟩ h6) (fun X' g' f' => chkI_ok it1 ⟨g', f', takes0'⟩ k4 kti) (fun X' g' f' => chkTg_ok ⟨g', f', takes0'⟩ k6) (fun X' g' f' => chkE_ok elt ⟨g', f', takes0'⟩ h8) (nset_ok h5 _) (fun env x => nset_ok k5 env x)
      rw [eo] at k
      exact Ev.of (PE.imp k fun σ H Q z => lc2_imp h1 (fun j hj => by have := List.all_eq_true.mp h2 j hj; exact of_decide_eq_true this) (fun j hj => by have := List.all_eq_true.mp h21 j hj; exact of_decide_eq_true this) (fun j hj => by have := hv j hj; rw [eo] at this; exact this) z)
    · cases h
  | .lrg t a, ck, X, W, e, s, h => by
    unfold chkE at h
    split at h
    · simp only [Bool.and_eq_true] at h
      obtain ⟨p, rfl⟩ := nmB_ok h.1.1
      exact Ev.of (by rw [pureM_lrg]; exact chkR_ok a s h.2 t _ _ h.1.2)
    · cases h
  | .pop p, ck, X, W, e, s, h => by
    unfold chkE at h
    split at h
    · simp only [Bool.and_eq_true, decide_eq_true_eq] at h
      obtain ⟨⟨⟨h1, h2⟩, h3⟩, h4⟩ := h
      subst h1
      exact Ev.of (se_pop (chkP_ok s h2) h3 h4)
    · cases h
  | .popAt p a, ck, X, W, e, s, h => by
    unfold chkE at h
    split at h
    · simp only [Bool.and_eq_true, decide_eq_true_eq] at h
      obtain ⟨⟨⟨⟨⟨h1, h2⟩, h3⟩, h4⟩, h5⟩, h6⟩ := h
      subst h1
      exact Ev.of (se_popAt (chkP_ok s h2) h3 (chkE_ok a s h5).b h6 h4)
    · cases h
  | .nil, _, _, _, _, _, h | .cons _ _, _, _, _, _, _, h | .no, _, _, _, _, _, h | .io _, _, _, _, _, _, h | .seq _, _, _, _, _, _, h | .rg1 _, _, _, _, _, _, h | .rg2 _ _, _, _, _, _, _, h | .rg3 _ _ _, _, _, _, _, _, h
  | .asgs _ _, _, _, _, _, _, h | .enum _, _, _, _, _, _, h | .zip _ _, _, _, _, _, _, h | .rvd _, _, _, _, _, _, h | .tgn _, _, _, _, _, _, h | .tgt _, _, _, _, _, _, h | .asg _ _, _, _, _, _, _, h | .par _ _, _, _, _, _, _, h | .aug _ _ _, _, _, _, _, _, h | .seti _ _ _, _, _, _, _, _, h
  | .exp _, _, _, _, _, _, h | .app _ _, _, _, _, _, _, h | .ext _ _, _, _, _, _, _, h | .rev _, _, _, _, _, _, h | .iff _ _ _, _, _, _, _, _, h | .whl _ _, _, _, _, _, _, h | .for_ _ _ _, _, _, _, _, _, h | .ret _, _, _, _, _, _, h | .retn, _, _, _, _, _, h
  | .brk, _, _, _, _, _, h | .cnt, _, _, _, _, _, h | .pss, _, _, _, _, _, h => by unfold chkE at h; cases h
theorem chkT_ok : ∀ (m : M) {ck : Ck} {X : Cx} {W : WX} {e : Expr}, Sd C adr fd cf lev ck X W → chkT m ck e = true → PT X e (tT C W (pureM m) (evT cf pins m)) ∧ ((∃ o es p, e = .BoolOp o es p) → PW X e (tT C W (pureM m) (evT cf pins m)))
  | .bone a, ck, X, W, e, s, h => by
    unfold chkT at h
    split at h
    · rename_i op a' p
      have k := (chkT_ok a s h).1
      have : PW X (.BoolOp op [a'] p) (tT C W (pureM (.bone a)) (evT cf pins (.bone a))) := by
        cases op
        · exact sw_and1 k
        · exact sw_or1 k
      exact ⟨this.pt, fun _ => this⟩
    · cases h
  | .band a b, ck, X, W, e, s, h => by
    unfold chkT at h
    split at h
    · simp only [Bool.and_eq_true] at h
      cases of_decide_eq_true h.1.1
      have k := sw_and (chkT_ok a s h.1.2).1 ((chkT_ok b s h.2).2 ⟨_, _, _, rfl⟩)
      exact ⟨k.pt, fun _ => k⟩
    · cases h
  | .bor a b, ck, X, W, e, s, h => by
    unfold chkT at h
    split at h
    · simp only [Bool.and_eq_true] at h
      cases of_decide_eq_true h.1.1
      have k := sw_or (chkT_ok a s h.1.2).1 ((chkT_ok b s h.2).2 ⟨_, _, _, rfl⟩)
      exact ⟨k.pt, fun _ => k⟩
    · cases h
  | .bnot a, ck, X, W, e, s, h => by
    unfold chkT at h
    split at h
    · simp only [Bool.and_eq_true] at h
      cases of_decide_eq_true h.1
      exact ⟨st_not (chkT_ok a s h.2).1, fun ⟨_, _, _, z⟩ => nomatch z⟩
    · cases h
  | .cmp o a b, ck, X, W, e, s, h => by
    unfold chkT at h
    split at h
    · simp only [Bool.and_eq_true, Bool.not_eq_true'] at h
      cases of_decide_eq_true h.1.1.1
      exact ⟨st_cmp s.g o (chkE_ok a s h.1.1.2).b (chkE_ok b s h.1.2).b h.2, fun ⟨_, _, _, z⟩ => nomatch z⟩
    · cases h
  | .cmp2 o o' a b c, ck, X, W, e, s, h => by
    unfold chkT at h
    split at h
    · simp only [Bool.and_eq_true, Bool.not_eq_true'] at h
      cases of_decide_eq_true h.1.1.1.1.1
      cases of_decide_eq_true h.1.1.1.1.2
      exact ⟨st_cmp2 s.g o o' (chkE_ok a s h.1.1.1.2).b (chkE_ok b s h.1.1.2).b (chkE_ok c s h.1.2).b h.2, fun ⟨_, _, _, z⟩ => nomatch z⟩
    · cases h
  | .isN n a, ck, X, W, e, s, h => by
    unfold chkT at h
    split at h
    · simp only [Bool.and_eq_true] at h
      cases of_decide_eq_true h.1
      exact ⟨st_isN n (chkE_ok a s h.2).b, fun ⟨_, _, _, z⟩ => nomatch z⟩
    · cases h
  | .isB n k a, ck, X, W, e, s, h => by
    unfold chkT at h
    split at h
    · simp only [Bool.and_eq_true] at h
      cases of_decide_eq_true h.1.1
      cases eq_of_beq h.1.2
      exact ⟨st_isB n k (chkE_ok a s h.2).b, fun ⟨_, _, _, z⟩ => nomatch z⟩
    · cases h
  | .seq a, ck, X, W, e, s, h => by
    unfold chkT at h
    simp only [Bool.and_eq_true] at h
    exact ⟨st_tru s.g.kK (chkE_ok a s h.1).b h.2, fun ⟨_, _, _, z⟩ => by subst z; cases h.2⟩
  | .pl _, _, _, _, _, _, h | .frv _, _, _, _, _, _, h | .mv _, _, _, _, _, _, h | .con _, _, _, _, _, _, h | .glo _ _, _, _, _, _, _, h | .bin _ _ _, _, _, _, _, _, h | .neg _, _, _, _, _, _, h | .ife _ _ _, _, _, _, _, _, h | .tup _, _, _, _, _, _, h
  | .lst _, _, _, _, _, _, h | .box _, _, _, _, _, _, h | .idx _ _, _, _, _, _, _, h | .slc _ _ _, _, _, _, _, _, h | .rvs _, _, _, _, _, _, h | .bi1 _ _, _, _, _, _, _, h | .bi2 _ _ _, _, _, _, _, _, h | .isi _ _ _, _, _, _, _, _, h | .call _ _, _, _, _, _, _, h
  | .callk _ _ _, _, _, _, _, _, h | .lc _ _ _ _ _, _, _, _, _, _, h | .pop _, _, _, _, _, _, h | .popAt _ _, _, _, _, _, _, h
  | .lco _ _ _ _ _, _, _, _, _, _, h | .lc2 _ _ _ _ _ _ _, _, _, _, _, _, h | .lrg _ _, _, _, _, _, _, h | .nil, _, _, _, _, _, h | .cons _ _, _, _, _, _, _, h | .no, _, _, _, _, _, h | .io _, _, _, _, _, _, h | .rg1 _, _, _, _, _, _, h | .rg2 _ _, _, _, _, _, _, h | .rg3 _ _ _, _, _, _, _, _, h
  | .enum _, _, _, _, _, _, h | .zip _ _, _, _, _, _, _, h | .rvd _, _, _, _, _, _, h | .tgn _, _, _, _, _, _, h | .tgt _, _, _, _, _, _, h | .asg _ _, _, _, _, _, _, h | .par _ _, _, _, _, _, _, h | .aug _ _ _, _, _, _, _, _, h | .seti _ _ _, _, _, _, _, _, h
  | .exp _, _, _, _, _, _, h | .app _ _, _, _, _, _, _, h | .ext _ _, _, _, _, _, _, h | .rev _, _, _, _, _, _, h | .iff _ _ _, _, _, _, _, _, h | .whl _ _, _, _, _, _, _, h | .for_ _ _ _, _, _, _, _, _, h | .ret _, _, _, _, _, _, h | .retn, _, _, _, _, _, h
  | .brk, _, _, _, _, _, h | .cnt, _, _, _, _, _, h | .fzE _, _, _, _, _, _, h | .jn _ _, _, _, _, _, _, h | .gfn _ _, _, _, _, _, _, h | .att _ _ _, _, _, _, _, _, h | .new _ _ _, _, _, _, _, _, h | .asgs _ _, _, _, _, _, _, h | .callv _ _ _, _, _, _, _, _, h | .callb _ _, _, _, _, _, _, h | .callb2 _ _ _, _, _, _, _, _, h | .pss, _, _, _, _, _, h => by unfold chkT at h; cases h
theorem chkL_ok : ∀ (m : M) {ck : Ck} {X : Cx} {W : WX} {es : List Expr}, Sd C adr fd cf lev ck X W → chkL m ck es = true → PAn X es (tL C W (pureM m) (evL cf pins m)) ∧ PAn X es (tW C W (pureM m) (evW cf pins m))
  | .nil, ck, X, W, es, s, h => by
    unfold chkL at h
    cases List.isEmpty_iff.mp h
    exact ⟨sl_nil, sw_nil⟩
  | .cons a t, ck, X, W, es, s, h => by
    unfold chkL at h
    split at h
    · simp only [Bool.and_eq_true] at h
      have k := chkL_ok t s h.2
      have ka := chkE_ok a s h.1.1
      exact ⟨sl_cons ka h.1.2 k.1, sw_cons ka h.1.2 k.2⟩
    · cases h
  | .pl _, _, _, _, _, _, h | .frv _, _, _, _, _, _, h | .mv _, _, _, _, _, _, h | .con _, _, _, _, _, _, h | .glo _ _, _, _, _, _, _, h | .bin _ _ _, _, _, _, _, _, h | .neg _, _, _, _, _, _, h 
  | .cmp _ _ _, _, _, _, _, _, h | .cmp2 _ _ _ _ _, _, _, _, _, _, h | .isN _ _, _, _, _, _, _, h | .isB _ _ _, _, _, _, _, _, h | .bone _, _, _, _, _, _, h | .band _ _, _, _, _, _, _, h 
  | .bor _ _, _, _, _, _, _, h | .bnot _, _, _, _, _, _, h | .ife _ _ _, _, _, _, _, _, h | .tup _, _, _, _, _, _, h | .lst _, _, _, _, _, _, h | .box _, _, _, _, _, _, h | .idx _ _, _, _, _, _, _, h 
  | .slc _ _ _, _, _, _, _, _, h | .rvs _, _, _, _, _, _, h | .bi1 _ _, _, _, _, _, _, h | .bi2 _ _ _, _, _, _, _, _, h | .isi _ _ _, _, _, _, _, _, h | .call _ _, _, _, _, _, _, h 
  | .callk _ _ _, _, _, _, _, _, h | .lc _ _ _ _ _, _, _, _, _, _, h | .pop _, _, _, _, _, _, h | .popAt _ _, _, _, _, _, _, h | .lco _ _ _ _ _, _, _, _, _, _, h | .lc2 _ _ _ _ _ _ _, _, _, _, _, _, h | .lrg _ _, _, _, _, _, _, h | .no, _, _, _, _, _, h | .io _, _, _, _, _, _, h 
  | .seq _, _, _, _, _, _, h | .rg1 _, _, _, _, _, _, h | .rg2 _ _, _, _, _, _, _, h | .rg3 _ _ _, _, _, _, _, _, h | .enum _, _, _, _, _, _, h | .zip _ _, _, _, _, _, _, h | .rvd _, _, _, _, _, _, h 
  | .tgn _, _, _, _, _, _, h | .tgt _, _, _, _, _, _, h | .asg _ _, _, _, _, _, _, h | .par _ _, _, _, _, _, _, h | .aug _ _ _, _, _, _, _, _, h | .seti _ _ _, _, _, _, _, _, h | .exp _, _, _, _, _, _, h 
  | .app _ _, _, _, _, _, _, h | .ext _ _, _, _, _, _, _, h | .rev _, _, _, _, _, _, h | .iff _ _ _, _, _, _, _, _, h | .whl _ _, _, _, _, _, _, h | .for_ _ _ _, _, _, _, _, _, h | .ret _, _, _, _, _, _, h 
  | .retn, _, _, _, _, _, h | .brk, _, _, _, _, _, h | .cnt, _, _, _, _, _, h | .fzE _, _, _, _, _, _, h | .jn _ _, _, _, _, _, _, h | .gfn _ _, _, _, _, _, _, h | .att _ _ _, _, _, _, _, _, h | .new _ _ _, _, _, _, _, _, h | .asgs _ _, _, _, _, _, _, h | .callv _ _ _, _, _, _, _, _, h | .callb _ _, _, _, _, _, _, h | .callb2 _ _ _, _, _, _, _, _, h | .pss, _, _, _, _, _, h => by unfold chkL at h; cases h
theorem chkG_ok : ∀ (m : M) {ck : Ck} {X : Cx} {W : WX} {es : List Expr}, Sd C adr fd cf lev ck X W → chkG m ck es = true → PAn X es (tG C W false (evG cf pins m))
  | .nil, ck, X, W, es, s, h => by
    unfold chkG at h
    cases List.isEmpty_iff.mp h
    exact PAn.weakG sg_nil fun z => nomatch z
  | .cons a t, ck, X, W, es, s, h => by
    unfold chkG at h
    split at h
    · simp only [Bool.and_eq_true] at h
      have k := chkG_ok t s h.2
      split at h
      · exact sg_io0 (chkP_ok s h.1.1) h.1.2 k
      · rename_i hne
        exact sg_cons (chkE_ok a s h.1.1) (fun i z => hne i z) h.1.2 k
    · cases h
  | .pl _, _, _, _, _, _, h | .frv _, _, _, _, _, _, h | .mv _, _, _, _, _, _, h | .con _, _, _, _, _, _, h | .glo _ _, _, _, _, _, _, h | .bin _ _ _, _, _, _, _, _, h | .neg _, _, _, _, _, _, h 
  | .cmp _ _ _, _, _, _, _, _, h | .cmp2 _ _ _ _ _, _, _, _, _, _, h | .isN _ _, _, _, _, _, _, h | .isB _ _ _, _, _, _, _, _, h | .bone _, _, _, _, _, _, h | .band _ _, _, _, _, _, _, h 
  | .bor _ _, _, _, _, _, _, h | .bnot _, _, _, _, _, _, h | .ife _ _ _, _, _, _, _, _, h | .tup _, _, _, _, _, _, h | .lst _, _, _, _, _, _, h | .box _, _, _, _, _, _, h | .idx _ _, _, _, _, _, _, h 
  | .slc _ _ _, _, _, _, _, _, h | .rvs _, _, _, _, _, _, h | .bi1 _ _, _, _, _, _, _, h | .bi2 _ _ _, _, _, _, _, _, h | .isi _ _ _, _, _, _, _, _, h | .call _ _, _, _, _, _, _, h 
  | .callk _ _ _, _, _, _, _, _, h | .lc _ _ _ _ _, _, _, _, _, _, h | .pop _, _, _, _, _, _, h | .popAt _ _, _, _, _, _, _, h | .lco _ _ _ _ _, _, _, _, _, _, h | .lc2 _ _ _ _ _ _ _, _, _, _, _, _, h | .lrg _ _, _, _, _, _, _, h | .no, _, _, _, _, _, h | .io _, _, _, _, _, _, h 
  | .seq _, _, _, _, _, _, h | .rg1 _, _, _, _, _, _, h | .rg2 _ _, _, _, _, _, _, h | .rg3 _ _ _, _, _, _, _, _, h | .enum _, _, _, _, _, _, h | .zip _ _, _, _, _, _, _, h | .rvd _, _, _, _, _, _, h 
  | .tgn _, _, _, _, _, _, h | .tgt _, _, _, _, _, _, h | .asg _ _, _, _, _, _, _, h | .par _ _, _, _, _, _, _, h | .aug _ _ _, _, _, _, _, _, h | .seti _ _ _, _, _, _, _, _, h | .exp _, _, _, _, _, _, h 
  | .app _ _, _, _, _, _, _, h | .ext _ _, _, _, _, _, _, h | .rev _, _, _, _, _, _, h | .iff _ _ _, _, _, _, _, _, h | .whl _ _, _, _, _, _, _, h | .for_ _ _ _, _, _, _, _, _, h | .ret _, _, _, _, _, _, h 
  | .retn, _, _, _, _, _, h | .brk, _, _, _, _, _, h | .cnt, _, _, _, _, _, h | .fzE _, _, _, _, _, _, h | .jn _ _, _, _, _, _, _, h | .gfn _ _, _, _, _, _, _, h | .att _ _ _, _, _, _, _, _, h | .new _ _ _, _, _, _, _, _, h | .asgs _ _, _, _, _, _, _, h | .callv _ _ _, _, _, _, _, _, h | .callb _ _, _, _, _, _, _, h | .callb2 _ _ _, _, _, _, _, _, h | .pss, _, _, _, _, _, h => by unfold chkG at h; cases h
theorem chkK_ok : ∀ (m : M) {ck : Ck} {X : Cx} {W : WX} {es : List Keyword}, Sd C adr fd cf lev ck X W → chkK m ck es = true → PKn X es (tL C W (pureM m) (evL cf pins m))
  | .nil, ck, X, W, es, s, h => by
    unfold chkK at h
    cases List.isEmpty_iff.mp h
    exact sk_nil
  | .cons a t, ck, X, W, es, s, h => by
    unfold chkK at h
    split at h
    · simp only [Bool.and_eq_true] at h
      exact sk_cons (chkE_ok a s h.1) (chkK_ok t s h.2)
    · cases h
  | .pl _, _, _, _, _, _, h | .frv _, _, _, _, _, _, h | .mv _, _, _, _, _, _, h | .con _, _, _, _, _, _, h | .glo _ _, _, _, _, _, _, h | .bin _ _ _, _, _, _, _, _, h | .neg _, _, _, _, _, _, h 
  | .cmp _ _ _, _, _, _, _, _, h | .cmp2 _ _ _ _ _, _, _, _, _, _, h | .isN _ _, _, _, _, _, _, h | .isB _ _ _, _, _, _, _, _, h | .bone _, _, _, _, _, _, h | .band _ _, _, _, _, _, _, h 
  | .bor _ _, _, _, _, _, _, h | .bnot _, _, _, _, _, _, h | .ife _ _ _, _, _, _, _, _, h | .tup _, _, _, _, _, _, h | .lst _, _, _, _, _, _, h | .box _, _, _, _, _, _, h | .idx _ _, _, _, _, _, _, h 
  | .slc _ _ _, _, _, _, _, _, h | .rvs _, _, _, _, _, _, h | .bi1 _ _, _, _, _, _, _, h | .bi2 _ _ _, _, _, _, _, _, h | .isi _ _ _, _, _, _, _, _, h | .call _ _, _, _, _, _, _, h 
  | .callk _ _ _, _, _, _, _, _, h | .lc _ _ _ _ _, _, _, _, _, _, h | .pop _, _, _, _, _, _, h | .popAt _ _, _, _, _, _, _, h | .lco _ _ _ _ _, _, _, _, _, _, h | .lc2 _ _ _ _ _ _ _, _, _, _, _, _, h | .lrg _ _, _, _, _, _, _, h | .no, _, _, _, _, _, h | .io _, _, _, _, _, _, h 
  | .seq _, _, _, _, _, _, h | .rg1 _, _, _, _, _, _, h | .rg2 _ _, _, _, _, _, _, h | .rg3 _ _ _, _, _, _, _, _, h | .enum _, _, _, _, _, _, h | .zip _ _, _, _, _, _, _, h | .rvd _, _, _, _, _, _, h 
  | .tgn _, _, _, _, _, _, h | .tgt _, _, _, _, _, _, h | .asg _ _, _, _, _, _, _, h | .par _ _, _, _, _, _, _, h | .aug _ _ _, _, _, _, _, _, h | .seti _ _ _, _, _, _, _, _, h | .exp _, _, _, _, _, _, h 
  | .app _ _, _, _, _, _, _, h | .ext _ _, _, _, _, _, _, h | .rev _, _, _, _, _, _, h | .iff _ _ _, _, _, _, _, _, h | .whl _ _, _, _, _, _, _, h | .for_ _ _ _, _, _, _, _, _, h | .ret _, _, _, _, _, _, h 
  | .retn, _, _, _, _, _, h | .brk, _, _, _, _, _, h | .cnt, _, _, _, _, _, h | .fzE _, _, _, _, _, _, h | .jn _ _, _, _, _, _, _, h | .gfn _ _, _, _, _, _, _, h | .att _ _ _, _, _, _, _, _, h | .new _ _ _, _, _, _, _, _, h | .asgs _ _, _, _, _, _, _, h | .callv _ _ _, _, _, _, _, _, h | .callb _ _, _, _, _, _, _, h | .callb2 _ _ _, _, _, _, _, _, h | .pss, _, _, _, _, _, h => by unfold chkK at h; cases h
theorem chkO_ok : ∀ (m : M) {ck : Ck} {X : Cx} {W : WX} {e : Option Expr}, Sd C adr fd cf lev ck X W → chkO m ck e = true → PO X e (tO C W (pureM m) (evO cf pins m))
  | .no, ck, X, W, e, s, h => by
    unfold chkO at h
    cases Option.isNone_iff_eq_none.mp h
    exact so_no
  | .seq a, ck, X, W, e, s, h => by
    unfold chkO at h
    split at h
    · exact so_some (chkE_ok a s h).b
    · cases h
  | .pl _, _, _, _, _, _, h | .frv _, _, _, _, _, _, h | .mv _, _, _, _, _, _, h | .con _, _, _, _, _, _, h | .glo _ _, _, _, _, _, _, h | .bin _ _ _, _, _, _, _, _, h | .neg _, _, _, _, _, _, h 
  | .cmp _ _ _, _, _, _, _, _, h | .cmp2 _ _ _ _ _, _, _, _, _, _, h | .isN _ _, _, _, _, _, _, h | .isB _ _ _, _, _, _, _, _, h | .bone _, _, _, _, _, _, h | .band _ _, _, _, _, _, _, h 
  | .bor _ _, _, _, _, _, _, h | .bnot _, _, _, _, _, _, h | .ife _ _ _, _, _, _, _, _, h | .tup _, _, _, _, _, _, h | .lst _, _, _, _, _, _, h | .box _, _, _, _, _, _, h | .idx _ _, _, _, _, _, _, h 
  | .slc _ _ _, _, _, _, _, _, h | .rvs _, _, _, _, _, _, h | .bi1 _ _, _, _, _, _, _, h | .bi2 _ _ _, _, _, _, _, _, h | .isi _ _ _, _, _, _, _, _, h | .call _ _, _, _, _, _, _, h 
  | .callk _ _ _, _, _, _, _, _, h | .lc _ _ _ _ _, _, _, _, _, _, h | .pop _, _, _, _, _, _, h | .popAt _ _, _, _, _, _, _, h | .lco _ _ _ _ _, _, _, _, _, _, h | .lc2 _ _ _ _ _ _ _, _, _, _, _, _, h | .lrg _ _, _, _, _, _, _, h | .nil, _, _, _, _, _, h 
  | .cons _ _, _, _, _, _, _, h | .io _, _, _, _, _, _, h | .rg1 _, _, _, _, _, _, h | .rg2 _ _, _, _, _, _, _, h | .rg3 _ _ _, _, _, _, _, _, h | .enum _, _, _, _, _, _, h | .zip _ _, _, _, _, _, _, h 
  | .rvd _, _, _, _, _, _, h | .tgn _, _, _, _, _, _, h | .tgt _, _, _, _, _, _, h | .asg _ _, _, _, _, _, _, h | .par _ _, _, _, _, _, _, h | .aug _ _ _, _, _, _, _, _, h | .seti _ _ _, _, _, _, _, _, h 
  | .exp _, _, _, _, _, _, h | .app _ _, _, _, _, _, _, h | .ext _ _, _, _, _, _, _, h | .rev _, _, _, _, _, _, h | .iff _ _ _, _, _, _, _, _, h | .whl _ _, _, _, _, _, _, h | .for_ _ _ _, _, _, _, _, _, h 
  | .ret _, _, _, _, _, _, h | .retn, _, _, _, _, _, h | .brk, _, _, _, _, _, h | .cnt, _, _, _, _, _, h | .fzE _, _, _, _, _, _, h | .jn _ _, _, _, _, _, _, h | .gfn _ _, _, _, _, _, _, h | .att _ _ _, _, _, _, _, _, h | .new _ _ _, _, _, _, _, _, h | .asgs _ _, _, _, _, _, _, h | .callv _ _ _, _, _, _, _, _, h | .callb _ _, _, _, _, _, _, h | .callb2 _ _ _, _, _, _, _, _, h | .pss, _, _, _, _, _, h => by unfold chkO at h; cases h
theorem chkI_ok : ∀ (m : M) {ck : Ck} {X : Cx} {W : WX} {tg e : Expr}, Sd C adr fd cf lev ck X W → chkI m ck e = true → tgI m tg = true → PI X tg e (tI C W (pureM m) (evI cf pins m))
  | .seq a, ck, X, W, tg, e, s, h => fun ht => by
    unfold chkI at h
    exact si_seq s.g.kK (chkE_ok a s h)
  | .rg1 a, ck, X, W, tg, e, s, h => fun ht => by
    unfold chkI at h
    split at h
    · simp only [Bool.and_eq_true] at h
      obtain ⟨p, rfl⟩ := nmB_ok h.1.1.1
      exact si_rg1 s.g h.1.1.2 (chkE_ok a s h.1.2).b h.2
    · cases h
  | .rg2 a b, ck, X, W, tg, e, s, h => fun ht => by
    unfold chkI at h
    split at h
    · simp only [Bool.and_eq_true] at h
      obtain ⟨p, rfl⟩ := nmB_ok h.1.1.1.1.1
      exact si_rg2 s.g h.1.1.1.1.2 (chkE_ok a s h.1.1.1.2).b (chkE_ok b s h.1.2).b h.1.1.2 h.2
    · cases h
  | .rg3 a b c, ck, X, W, tg, e, s, h => fun ht => by
    unfold chkI at h
    split at h
    · simp only [Bool.and_eq_true] at h
      obtain ⟨p, rfl⟩ := nmB_ok h.1.1.1.1.1.1.1
      exact si_rg3 s.g h.1.1.1.1.1.1.2 (chkE_ok a s h.1.1.1.1.1.2).b (chkE_ok b s h.1.1.1.2).b (chkE_ok c s h.1.2).b h.1.1.1.1.2 h.1.1.2 h.2
    · cases h
  | .enum a, ck, X, W, tg, e, s, h => fun ht => by
    unfold chkI at h
    split at h
    · simp only [Bool.and_eq_true] at h
      obtain ⟨p, rfl⟩ := nmB_ok h.1.1.1
      obtain ⟨es, k, q, rfl⟩ := tupB_ok ht
      rw [pureM_enum]
      exact si_enum s.g h.1.1.2 (chkE_ok a s h.1.2) h.2
    · cases h
  | .zip a b, ck, X, W, tg, e, s, h => fun ht => by
    unfold chkI at h
    split at h
    · simp only [Bool.and_eq_true] at h
      obtain ⟨p, rfl⟩ := nmB_ok h.1.1.1.1.1
      obtain ⟨es, k, q, rfl⟩ := tupB_ok ht
      rw [pureM_zip]
      exact si_zip s.g h.1.1.1.1.2 (chkE_ok a s h.1.1.1.2) (chkE_ok b s h.1.2) h.1.1.2 h.2
    · cases h
  | .rvd a, ck, X, W, tg, e, s, h => fun ht => by
    unfold chkI at h
    split at h
    · simp only [Bool.and_eq_true] at h
      obtain ⟨p, rfl⟩ := nmB_ok h.1.1.1
      rw [pureM_rvd]
      exact si_rvd s.g h.1.1.2 (chkE_ok a s h.1.2) h.2
    · cases h
  | .pl _, _, _, _, _, _, _, h | .frv _, _, _, _, _, _, _, h | .mv _, _, _, _, _, _, _, h | .con _, _, _, _, _, _, _, h | .glo _ _, _, _, _, _, _, _, h | .bin _ _ _, _, _, _, _, _, _, h 
  | .neg _, _, _, _, _, _, _, h | .cmp _ _ _, _, _, _, _, _, _, h | .cmp2 _ _ _ _ _, _, _, _, _, _, _, h | .isN _ _, _, _, _, _, _, _, h | .isB _ _ _, _, _, _, _, _, _, h | .bone _, _, _, _, _, _, _, h 
  | .band _ _, _, _, _, _, _, _, h | .bor _ _, _, _, _, _, _, _, h | .bnot _, _, _, _, _, _, _, h | .ife _ _ _, _, _, _, _, _, _, h | .tup _, _, _, _, _, _, _, h | .lst _, _, _, _, _, _, _, h 
  | .box _, _, _, _, _, _, _, h | .idx _ _, _, _, _, _, _, _, h | .slc _ _ _, _, _, _, _, _, _, h | .rvs _, _, _, _, _, _, _, h | .bi1 _ _, _, _, _, _, _, _, h | .bi2 _ _ _, _, _, _, _, _, _, h 
  | .isi _ _ _, _, _, _, _, _, _, h | .call _ _, _, _, _, _, _, _, h | .callk _ _ _, _, _, _, _, _, _, h | .lc _ _ _ _ _, _, _, _, _, _, _, h | .fzE _, _, _, _, _, _, _, h | .pop _, _, _, _, _, _, _, h 
  | .popAt _ _, _, _, _, _, _, _, h | .lco _ _ _ _ _, _, _, _, _, _, _, h | .lc2 _ _ _ _ _ _ _, _, _, _, _, _, _, h | .lrg _ _, _, _, _, _, _, _, h | .nil, _, _, _, _, _, _, h | .cons _ _, _, _, _, _, _, _, h | .no, _, _, _, _, _, _, h | .io _, _, _, _, _, _, _, h 
  | .tgn _, _, _, _, _, _, _, h | .tgt _, _, _, _, _, _, _, h | .asg _ _, _, _, _, _, _, _, h | .par _ _, _, _, _, _, _, _, h | .aug _ _ _, _, _, _, _, _, _, h | .seti _ _ _, _, _, _, _, _, _, h 
  | .exp _, _, _, _, _, _, _, h | .app _ _, _, _, _, _, _, _, h | .ext _ _, _, _, _, _, _, _, h | .rev _, _, _, _, _, _, _, h | .iff _ _ _, _, _, _, _, _, _, h | .whl _ _, _, _, _, _, _, _, h 
  | .for_ _ _ _, _, _, _, _, _, _, h | .ret _, _, _, _, _, _, _, h | .retn, _, _, _, _, _, _, h | .brk, _, _, _, _, _, _, h | .cnt, _, _, _, _, _, _, h | .jn _ _, _, _, _, _, _, _, h | .gfn _ _, _, _, _, _, _, _, h | .att _ _ _, _, _, _, _, _, _, h | .new _ _ _, _, _, _, _, _, _, h | .asgs _ _, _, _, _, _, _, _, h | .callv _ _ _, _, _, _, _, _, _, h | .callb _ _, _, _, _, _, _, _, h | .callb2 _ _ _, _, _, _, _, _, _, h | .pss, _, _, _, _, _, _, h => by unfold chkI at h; cases h
theorem chkR_ok : ∀ (m : M) {ck : Ck} {X : Cx} {W : WX} {e : Expr}, Sd C adr fd cf lev ck X W → chkR m ck e = true → ∀ (t : Bool) (p2 pos2 : Pos), glB ck.sc (lrNm t) = true → PE X (.Call (.Name (lrNm t) p2) [e] [] pos2) (tE C W false (evE cf pins (.lrg t m)))
  | .rg1 a, ck, X, W, e, s, h => fun t p2 pos2 hg => by
    unfold chkR at h
    split at h
    · simp only [Bool.and_eq_true] at h
      obtain ⟨p, rfl⟩ := nmB_ok h.1.1.1
      exact se_lrg1 s.g t hg h.1.1.2 (chkE_ok a s h.1.2).b h.2
    · cases h
  | .rg2 a b, ck, X, W, e, s, h => fun t p2 pos2 hg => by
    unfold chkR at h
    split at h
    · simp only [Bool.and_eq_true] at h
      obtain ⟨p, rfl⟩ := nmB_ok h.1.1.1.1.1
      exact se_lrg2 s.g t hg h.1.1.1.1.2 (chkE_ok a s h.1.1.1.2).b (chkE_ok b s h.1.2).b h.1.1.2 h.2
    · cases h
  | .pl _, _, _, _, _, _, h | .frv _, _, _, _, _, _, h | .mv _, _, _, _, _, _, h | .con _, _, _, _, _, _, h | .glo _ _, _, _, _, _, _, h | .bin _ _ _, _, _, _, _, _, h | .neg _, _, _, _, _, _, h 
  | .cmp _ _ _, _, _, _, _, _, h | .cmp2 _ _ _ _ _, _, _, _, _, _, h | .isN _ _, _, _, _, _, _, h | .isB _ _ _, _, _, _, _, _, h | .bone _, _, _, _, _, _, h | .band _ _, _, _, _, _, _, h 
  | .bor _ _, _, _, _, _, _, h | .bnot _, _, _, _, _, _, h | .ife _ _ _, _, _, _, _, _, h | .tup _, _, _, _, _, _, h | .lst _, _, _, _, _, _, h | .box _, _, _, _, _, _, h | .idx _ _, _, _, _, _, _, h 
  | .slc _ _ _, _, _, _, _, _, h | .rvs _, _, _, _, _, _, h | .bi1 _ _, _, _, _, _, _, h | .bi2 _ _ _, _, _, _, _, _, h | .isi _ _ _, _, _, _, _, _, h | .call _ _, _, _, _, _, _, h 
  | .callk _ _ _, _, _, _, _, _, h | .lc _ _ _ _ _, _, _, _, _, _, h | .fzE _, _, _, _, _, _, h | .pop _, _, _, _, _, _, h | .popAt _ _, _, _, _, _, _, h | .lco _ _ _ _ _, _, _, _, _, _, h | .lc2 _ _ _ _ _ _ _, _, _, _, _, _, h | .lrg _ _, _, _, _, _, _, h 
  | .nil, _, _, _, _, _, h | .cons _ _, _, _, _, _, _, h | .no, _, _, _, _, _, h | .io _, _, _, _, _, _, h | .seq _, _, _, _, _, _, h | .rg3 _ _ _, _, _, _, _, _, h | .enum _, _, _, _, _, _, h 
  | .zip _ _, _, _, _, _, _, h | .rvd _, _, _, _, _, _, h | .tgn _, _, _, _, _, _, h | .tgt _, _, _, _, _, _, h | .asg _ _, _, _, _, _, _, h | .par _ _, _, _, _, _, _, h | .aug _ _ _, _, _, _, _, _, h 
  | .seti _ _ _, _, _, _, _, _, h | .exp _, _, _, _, _, _, h | .app _ _, _, _, _, _, _, h | .ext _ _, _, _, _, _, _, h | .rev _, _, _, _, _, _, h | .iff _ _ _, _, _, _, _, _, h | .whl _ _, _, _, _, _, _, h 
  | .for_ _ _ _, _, _, _, _, _, h | .ret _, _, _, _, _, _, h | .retn, _, _, _, _, _, h | .brk, _, _, _, _, _, h | .cnt, _, _, _, _, _, h | .jn _ _, _, _, _, _, _, h | .gfn _ _, _, _, _, _, _, h | .att _ _ _, _, _, _, _, _, h | .new _ _ _, _, _, _, _, _, h | .asgs _ _, _, _, _, _, _, h | .callv _ _ _, _, _, _, _, _, h | .callb _ _, _, _, _, _, _, h | .callb2 _ _ _, _, _, _, _, _, h | .pss, _, _, _, _, _, h => by unfold chkR at h; cases h
theorem chkC_ok : ∀ (m : M) {ck : Ck} {X : Cx} {W : WX} {es : List Expr}, Sd C adr fd cf lev ck X W → chkC m ck es = true → PTs X es (tT C W (chkCp m) (evC cf pins m))
  | .nil, ck, X, W, es, s, h => by
    unfold chkC at h
    cases List.isEmpty_iff.mp h
    exact sc_nil
  | .cons a t, ck, X, W, es, s, h => by
    unfold chkC at h
    split at h
    · exact sc_one (chkT_ok a s h).1
    · cases h
  | .pl _, _, _, _, _, _, h | .frv _, _, _, _, _, _, h | .mv _, _, _, _, _, _, h | .con _, _, _, _, _, _, h | .glo _ _, _, _, _, _, _, h | .bin _ _ _, _, _, _, _, _, h | .neg _, _, _, _, _, _, h 
  | .cmp _ _ _, _, _, _, _, _, h | .cmp2 _ _ _ _ _, _, _, _, _, _, h | .isN _ _, _, _, _, _, _, h | .isB _ _ _, _, _, _, _, _, h | .bone _, _, _, _, _, _, h | .band _ _, _, _, _, _, _, h 
  | .bor _ _, _, _, _, _, _, h | .bnot _, _, _, _, _, _, h | .ife _ _ _, _, _, _, _, _, h | .tup _, _, _, _, _, _, h | .lst _, _, _, _, _, _, h | .box _, _, _, _, _, _, h | .idx _ _, _, _, _, _, _, h 
  | .slc _ _ _, _, _, _, _, _, h | .rvs _, _, _, _, _, _, h | .bi1 _ _, _, _, _, _, _, h | .bi2 _ _ _, _, _, _, _, _, h | .isi _ _ _, _, _, _, _, _, h | .call _ _, _, _, _, _, _, h 
  | .callk _ _ _, _, _, _, _, _, h | .lc _ _ _ _ _, _, _, _, _, _, h | .pop _, _, _, _, _, _, h | .popAt _ _, _, _, _, _, _, h | .lco _ _ _ _ _, _, _, _, _, _, h | .lc2 _ _ _ _ _ _ _, _, _, _, _, _, h | .lrg _ _, _, _, _, _, _, h | .no, _, _, _, _, _, h | .io _, _, _, _, _, _, h 
  | .seq _, _, _, _, _, _, h | .rg1 _, _, _, _, _, _, h | .rg2 _ _, _, _, _, _, _, h | .rg3 _ _ _, _, _, _, _, _, h | .enum _, _, _, _, _, _, h | .zip _ _, _, _, _, _, _, h | .rvd _, _, _, _, _, _, h 
  | .tgn _, _, _, _, _, _, h | .tgt _, _, _, _, _, _, h | .asg _ _, _, _, _, _, _, h | .par _ _, _, _, _, _, _, h | .aug _ _ _, _, _, _, _, _, h | .seti _ _ _, _, _, _, _, _, h | .exp _, _, _, _, _, _, h 
  | .app _ _, _, _, _, _, _, h | .ext _ _, _, _, _, _, _, h | .rev _, _, _, _, _, _, h | .iff _ _ _, _, _, _, _, _, h | .whl _ _, _, _, _, _, _, h | .for_ _ _ _, _, _, _, _, _, h | .ret _, _, _, _, _, _, h 
  | .retn, _, _, _, _, _, h | .brk, _, _, _, _, _, h | .cnt, _, _, _, _, _, h | .fzE _, _, _, _, _, _, h | .jn _ _, _, _, _, _, _, h | .gfn _ _, _, _, _, _, _, h | .att _ _ _, _, _, _, _, _, h | .new _ _ _, _, _, _, _, _, h | .asgs _ _, _, _, _, _, _, h | .callv _ _ _, _, _, _, _, _, h | .callb _ _, _, _, _, _, _, h | .callb2 _ _ _, _, _, _, _, _, h | .pss, _, _, _, _, _, h => by unfold chkC at h; cases h
end
end
end L2.PV
set_option Elab.async false
set_option linter.all false
set_option autoImplicit false
/-! The checker: statements, defs. -/
namespace L2.PV
open PySem PySem.Spec PyProof.Rows
def swB (sc : Scope) (y : Str) (py lp : Pos) (scope : Scope) : Bool := (if sc.kind.isAnnotationScope then ScopeKind.function else sc.kind) == .function && sc.names.lookup y == some .local && py.line == lp.line && !(scope.names.any fun (n, k) => n == y && (k == .local || k == .cell))
/-- the stores are swapped -/
def psw (sc : Scope) (ts vs : List Expr) : Bool := decide (sc.kind = .function) && ((ts.length == 2 || ts.length == 3) && vs.length == ts.length) && !vs.any (fun | .Starred .. => true | _ => false) && ((swN sc ts).length == ts.length && (swN sc ts).eraseDups.length == (swN sc ts).length) && !vs.all (foldedForSure 8) && !vs.all (constantsAlone 8)
def nmI (ck : Ck) (i : Nat) (e : Expr) : Bool := match e with
  | .Name x _ => decide (ck.N[i]? = some x) && decide (ck.sc.names.lookup x = some .local)
  | _ => false
def nmsB (ck : Ck) : List Nat → List Expr → Bool
  | [], [] => true
  | i :: is, .Name x _ :: ts => decide (ck.N[i]? = some x) && locB ck x && nmsB ck is ts
  | _, _ => false
def isCon : Expr → Bool
  | .Constant _ _ _ => true
  | _ => false
mutual
def chkS : M → Ck → Stmt → Bool
  | .asg tg e, ck, st => (match st with
    | .Assign [t'] e' _ => chkTg tg ck t' && chkE e ck e' && nst t' && nsw ck.sc t' e' && (nlc e' || (match e, e', t', tg with
      | .lc _ _ _ _ _, .ListComp _ _ _ _, .Name _ _, .tgn _ => true
      | .lc2 _ _ _ _ _ _ _, .ListComp _ _ _ _, .Name _ _, .tgn _ => true
      | _, _, _, _ => false))
    | _ => false)
  | .par is es, ck, st => (match st with
    | .Assign [.Tuple ts kt pt] (.Tuple vs k2 pt2) _ => chkL es ck vs && ((nmsB ck is ts && nsw ck.sc (.Tuple ts kt pt) (.Tuple vs k2 pt2) && decide (vs.length = ts.length) && decide (vs.length ≤ 1000)) || decide is.Nodup && psw ck.sc ts vs && (match is, ts, vs with
      | [i, j], [x, y], [_, _] => nmI ck i x && nmI ck j y
      | [i, j, l], [x, y, z], [_, _, _] => nmI ck i x && nmI ck j y && nmI ck l z
      | _, _, _ => false))
    | _ => false)
  | .asgs is e, ck, st => (match st with
    | .Assign ts e' _ => chkE e ck e' && isCon e' && (match is, ts with
      | [i, j], [x, y] => chkTg (.tgn i) ck x && chkTg (.tgn j) ck y
      | [i, j, l], [x, y, z] => chkTg (.tgn i) ck x && chkTg (.tgn j) ck y && chkTg (.tgn l) ck z
      | _, _ => false)
    | _ => false)
  | .aug i o e, ck, st => (match st with
    | .AugAssign (.Name x _) op e' _ => decide (op = augOp o) && (decide (o = .add) || (decide (o = .sub) || decide (o = .fdiv))) && decide (ck.N[i]? = some x) && locB ck x && chkE e ck e'
    | _ => false)
  | .seti p i e, ck, st => (match st with
    | .Assign [.Subscript o i' _] e' _ => chkP ck p o && chkE i ck i' && nsl i' && chkE e ck e' && nlc e'
    | _ => false)
  | .exp e, ck, st => (match st with | .Expr e' _ => chkE e ck e' && nlc e' | _ => false)
  | .app p e, ck, st => (match st with
    | .Expr (.Call (.Attribute o nm ap) [a'] [] cp) _ => decide (nm = "append") && chkP ck p o && nat o && (ap.endLine == cp.line) && chkE e ck a' && nst a'
    | _ => false)
  | .ext p e, ck, st => (match st with
    | .Expr (.Call (.Attribute o nm ap) [a'] [] cp) _ => decide (nm = "extend") && chkP ck p o && nat o && (ap.endLine == cp.line) && chkE e ck a' && nst a'
    | _ => false)
  | .rev p, ck, st => (match st with
    | .Expr (.Call (.Attribute o nm ap) [] [] cp) _ => decide (nm = "reverse") && chkP ck p o && nat o && (ap.endLine == cp.line)
    | _ => false)
  | .iff t a b, ck, st => (match st with | .If t' a' b' _ => chkT t ck t' && chkSs a ck a' && chkSs b ck b' | _ => false)
  | .whl t b, ck, st => (match st with | .While t' b' [] _ => chkT t ck t' && chkSs b ck b' | _ => false)
  | .for_ tg it b, ck, st => (match st with | .For tg' it' b' [] _ => chkTg tg ck tg' && chkI it ck it' && tgI it tg' && nset it' && chkSs b ck b' | _ => false)
  | .ret e, ck, st => (match st with | .Return (some e') _ => chkE e ck e' | _ => false)
  | .retn, _, st => (match st with | .Return none _ => true | _ => false)
  | .brk, _, st => (match st with | .Break _ => true | _ => false)
  | .cnt, _, st => (match st with | .Continue _ => true | _ => false)
  | .pss, _, st => (match st with | .Pass _ => true | _ => false)
  | _, _, _ => false
def chkSs : M → Ck → List Stmt → Bool
  | .nil, _, ss => ss.isEmpty
  | .cons s t, ck, ss => (match ss with | s' :: ss => chkS s ck s' && chkSs t ck ss | _ => false)
  | _, _, _ => false
end
section
variable {C : RC} {adr : Nat → Addr} {fd : Nat → FuncData} {cf : Nat → List D → Option CR} {lev : Nat} {pins : List Nat} {ck : Ck} {X : Cx} {W : WX}
theorem sws_nlc {t e : Expr} {l : Nat} {env : Env} (h : nlc e = true) : swapsWithSole [t] e l env = pure false := by
  cases e <;> first | rfl | cases h
theorem sw_nlc {e : Expr} {t : Option Expr} {l : Nat} {env : Env} (h : nlc e = true) : swapsWith e t l env = pure false := by
  cases e <;> first | rfl | cases h
theorem sw_lc {elt : Expr} {gs : List Comprehension} {scope : Scope} {lp py : Pos} {y : Str} {l : Nat} {env : Env} : swapsWith (.ListComp elt gs scope lp) (some (.Name y py)) l env = pure (swB env.scope y py lp scope) := rfl
theorem nsw_ok {sc : Scope} {t e : Expr} {env : Env} (hs : env.scope = sc) (h : nsw sc t e = true) : swappedStores [t] e env = pure none := by
  unfold nsw at h
  split at h
  · rename_i ts k1 p1 vs k2 p2
    subst hs
    simp only [swappedStores, pure_bind]
    have en : (ts.filterMap fun
        | .Name id pos => if env.kindOf id == some .local && pos.line == (ts.head?.map (·.pos.line)).getD 0 then some id else none
        | _ => none) = swN env.scope ts := rfl
    split
    · rfl
    · rename_i c1
      split
      · rfl
      · rename_i c2
        split
        · rfl
        · rename_i c3
          split
          · rfl
          · rename_i c4
            exfalso
            simp only [Bool.or_eq_true] at h c1 c3
            rcases h with ((h | h) | h) | h
            · exact c1 (.inl (h.imp_right fun z => z))
            · exact c2 h
            · exact c3 h
            · exact c4 h
  · cases h
  · rename_i k1 k2
    cases t <;> cases e <;> first | rfl | (exfalso; exact k1 _ _ _ _ _ _ rfl rfl) | (exfalso; exact k2 _ _ _ _ _ rfl rfl)
theorem psw_ok {sc : Scope} {ts vs : List Expr} {k1 k2 : Nat} {p1 p2 : Pos} {env : Env} (hs : env.scope = sc) (h : psw sc ts vs = true) : swappedStores [.Tuple ts k1 p1] (.Tuple vs k2 p2) env = pure (some (swN sc ts)) := by
  subst hs
  unfold psw at h
  simp only [Bool.and_eq_true, Bool.not_eq_true'] at h
  obtain ⟨⟨⟨⟨⟨h0, h1⟩, h2⟩, h3⟩, h4⟩, h5⟩ := h
  have hk : env.blockKind = .function := by
    unfold Env.blockKind
    rw [of_decide_eq_true h0]; rfl
  simp only [swappedStores, pure_bind]
  have en : (ts.filterMap fun
      | .Name id pos => if env.kindOf id == some .local && pos.line == (ts.head?.map (·.pos.line)).getD 0 then some id else none
      | _ => none) = swN env.scope ts := rfl
  split
  · rename_i c
    exfalso
    rw [hk] at c
    simp only [h1.1, eq_of_beq h1.2, bne_self_eq_false, Bool.not_true, Bool.or_self] at c
    exact absurd c (by decide)
  · split
    · rename_i c
      exact absurd (c.symm.trans h2) (by decide)
    · split
      · rename_i c
        exfalso
        have c : ((swN env.scope ts).length != ts.length || (swN env.scope ts).eraseDups.length != (swN env.scope ts).length) = true := c
        rcases Bool.or_eq_true_iff.mp c with z | z
        · rw [bne, h3.1] at z; cases z
        · rw [bne, h3.2] at z; cases z
      · split
        · rename_i c
          exact absurd (c.symm.trans h4) (by decide)
        · split
          · rename_i c
            exact absurd (c.symm.trans h5) (by decide)
          · rfl
theorem nmI_ok {i : Nat} {e : Expr} (h : nmI ck i e = true) : ∃ x p, e = .Name x p ∧ ck.N[i]? = some x ∧ ck.sc.names.lookup x = some .local := by
  unfold nmI at h
  split at h
  · rw [Bool.and_eq_true] at h
    exact ⟨_, _, rfl, of_decide_eq_true h.1, of_decide_eq_true h.2⟩
  · cases h
theorem nmsB_ok (s : Sd C adr fd cf lev ck X W) : ∀ {is : List Nat} {ts : List Expr}, nmsB ck is ts = true → PGs X ts (gTgW C pins is) ∧ ts.all nst = true
  | [], [], _ => ⟨sgw_nil, rfl⟩
  | i :: is, .Name x q :: ts, h => by
    unfold nmsB at h
    simp only [Bool.and_eq_true, decide_eq_true_eq] at h
    obtain ⟨q1, q2⟩ := nmsB_ok s h.2
    exact ⟨sgw_cons (sg_name s.g h.1.1 (locB_ok s h.1.2)) q1 (by rw [as_cons rfl]; rfl), by rw [List.all_cons, q2]; rfl⟩
theorem tgn_nm {i : Nat} {e : Expr} (h : chkTg (.tgn i) ck e = true) : ∃ x p, e = .Name x p := by
  unfold chkTg at h
  split at h
  · exact ⟨_, _, rfl⟩
  · cases h
theorem nsc_ok {e : Expr} {x1 : Str} {p1 : Pos} {t : Expr} {ts : List Expr} {env : Env} (h : isCon e = true) : swappedStores (.Name x1 p1 :: t :: ts) e env = pure none := by
  cases e <;> first | rfl | cases h
mutual
theorem chkS_ok (s : Sd C adr fd cf lev ck X W) (po : PassesOwn (model X.prog X.w) X.A X.env X.xe) : ∀ (m : M) {st : Stmt}, chkS m ck st = true → PS X st (tS C W pins (evS cf pins m))
  | .asg tg e, st, h => by
    unfold chkS at h
    split at h
    · rename_i t' e' p
      simp only [Bool.and_eq_true] at h
      obtain ⟨⟨⟨⟨h1, h2⟩, h3⟩, h4⟩, h5⟩ := h
      have ha : Ev C W cf pins X e e' := chkE_ok e s h2
      have hg : PG X t' (gTg C pins tg) := chkTg_ok s h1
      have hw : swappedStores [t'] e' X.env = pure none := nsw_ok s.g.scp h4
      have h6 : (assignEach [t'] X.env).map (·.2) = [assign t' X.env] := by rw [as_cons h3]; rfl
      rcases Bool.or_eq_true_iff.mp h5 with z | z
      · exact ss_asg ha hg (sws_nlc z) hw h6
      · split at z
        · rename_i own tg2 it cs elt elt' gs scope lp y py i
          cases hb : swB ck.sc y py lp scope with
          | false => exact ss_asg ha hg (by show swapsWith (.ListComp elt' gs scope lp) (some (.Name y py)) p.line X.env = pure false; rw [sw_lc, s.g.scp, hb]) hw h6
          | true =>
            unfold chkTg at h1
            simp only [Bool.and_eq_true, decide_eq_true_eq] at h1
            unfold chkE at h2
            split at h2
            · rename_i elt2 tg3 it2 ifs scope2 lp2 heq
              cases heq
              simp only [Bool.and_eq_true, decide_eq_true_eq] at h2
              obtain ⟨⟨⟨⟨⟨⟨⟨⟨k1, k2⟩, k3⟩, k4⟩, kti⟩, k5⟩, k6⟩, k7⟩, k8⟩ := h2
              have eo : (ownN ck.N own).map (·.2) = own := by
                unfold ownN; rw [List.map_map]; exact List.map_id' own
              have yl : ck.sc.names.lookup y = some .local := by
                unfold swB at hb
                simp only [Bool.and_eq_true] at hb
                exact eq_of_beq hb.1.1.2
              have k := ss_lc (W := W) (pins := pins) (mt := tg2) (mi := it) (me := elt) (mc := cs) (spos := p) s.g (pc := chkCp cs) (own := ownN ck.N own) h1.1 yl (by rw [sw_lc, s.g.scp, hb]) (by rw [eo]; exact k1)
                (by rw [eo]; exact fun j hj => by have := List.all_eq_true.mp k2 j hj; exact of_decide_eq_true this) (chkI_ok it s k4 kti) k3
                (fun X' g' f' => chkTg_ok ⟨g', f', takes0'⟩ k6) (fun X' g' f' => chkC_ok cs ⟨g', f', takes0'⟩ k7) (fun X' g' f' => chkE_ok elt ⟨g', f', takes0'⟩ k8) (nset_ok k5 _)
              rw [eo] at k
              exact k
            · cases h2
        · rename_i own tg2 it own1 tg1 it1 elt elt' gs scope lp y py i
          cases hb : swB ck.sc y py lp scope with
          | false => exact ss_asg ha hg (by show swapsWith (.ListComp elt' gs scope lp) (some (.Name y py)) p.line X.env = pure false; rw [sw_lc, s.g.scp, hb]) hw h6
          | true =>
            unfold chkTg at h1
            simp only [Bool.and_eq_true, decide_eq_true_eq] at h1
            unfold chkE at h2
            split at h2
            · rename_i elt2 tg3 it2 tg4 it4 scope2 lp2 heq
              cases heq
              simp only [Bool.and_eq_true, decide_eq_true_eq] at h2
              obtain ⟨⟨⟨⟨⟨⟨⟨⟨⟨⟨⟨⟨⟨k1, k2⟩, k21⟩, k22⟩, k3⟩, k4⟩, kti⟩, k5⟩, k6⟩, q4⟩, qti⟩, q5⟩, q6⟩, k8⟩ := h2
              have eo : (ownN ck.N own).map (·.2) = own := by
                unfold ownN; rw [List.map_map]; exact List.map_id' own
              have yl : ck.sc.names.lookup y = some .local := by
                unfold swB at hb
                simp only [Bool.and_eq_true] at hb
                exact eq_of_beq hb.1.1.2
              have hv : ∀ j ∈ own1, j ∈ (ownN ck.N own).map (·.2) := fun j hj => by
                rw [eo]; have := List.all_eq_true.mp k22 j hj; exact of_decide_eq_true this
              have k := ss_lc2 (W := W) (pins := pins) (mt := tg2) (mi := it) (mt1 := tg1) (mi1 := it1) (vs1 := own1) (me := elt) (spos := p) s.g (own := ownN ck.N own) h1.1 yl (by rw [sw_lc, s.g.scp, hb]) (by rw [eo]; exact k1)
                (by rw [eo]; exact fun j hj => by have := List.all_eq_true.mp k2 j hj; exact of_decide_eq_true this) (fun j hj => by have := List.all_eq_true.mp k21 j hj; exact of_decide_eq_true this) (chkI_ok it s k4 kti) k3 hv
                (fun X' g' f' => chkTg_ok ⟨g', f', takes0'⟩ k6) (fun X' g' f' => chkI_ok it1 ⟨g', f', takes0'⟩ q4 qti) (fun X' g' f' => chkTg_ok ⟨g', f', takes0'⟩ q6) (fun X' g' f' => chkE_ok elt ⟨g', f', takes0'⟩ k8) (nset_ok k5 _) (fun env x => nset_ok q5 env x)
              rw [eo] at k
              exact k
            · cases h2
        · cases z
    · cases h
  | .par is es, st, h => by
    unfold chkS at h
    split at h
    · rename_i ts kt pt vs k2 pt2 p
      have hh := Bool.and_eq_true_iff.mp h
      clear h
      obtain ⟨h2, h'⟩ := hh
      have hh := Bool.or_eq_true_iff.mp h'
      clear h'
      rcases hh with h | h
      · simp only [Bool.and_eq_true, decide_eq_true_eq] at h
        obtain ⟨⟨⟨h1, h3⟩, h4⟩, h5⟩ := h
        obtain ⟨q1, q2⟩ := nmsB_ok (pins := pins) s h1
        obtain ⟨l1, l2⟩ := as_len (env := X.env) q2
        exact ss_parT s.g (chkL_ok (pins := pins) (C := C) (cf := cf) es s h2).2 q1 l1 l2 h4 h5 (nsw_ok s.g.scp h3)
      simp only [Bool.and_eq_true, decide_eq_true_eq] at h
      obtain ⟨⟨h1, h3⟩, h4⟩ := h
      have hw := psw_ok (k1 := kt) (k2 := k2) (p1 := pt) (p2 := pt2) s.g.scp h3
      have hl := (chkL_ok (pins := pins) (C := C) (cf := cf) es s h2).2
      have hn : (swN ck.sc ts).length = ts.length := by
        unfold psw at h3
        simp only [Bool.and_eq_true] at h3
        exact eq_of_beq h3.1.1.2.1
      split at h4
      · rename_i i j x y a b
        simp only [Bool.and_eq_true] at h4
        obtain ⟨x1, p1, rfl, i1, l1⟩ := nmI_ok h4.1
        obtain ⟨x2, p2, rfl, i2, l2⟩ := nmI_ok h4.2
        have e : swN ck.sc [.Name x1 p1, .Name x2 p2] = [x1, x2] := by
          unfold swN at hn ⊢
          simp only [List.filterMap_cons, List.filterMap_nil] at hn ⊢
          split at hn <;> split at hn <;> simp_all
        rw [e] at hw
        have nd : i ≠ j := fun z => by subst z; simp at h1
        exact ss_par2 s.g i1 i2 nd l1 l2 hl hw
      · rename_i i j l x y z a b c
        simp only [Bool.and_eq_true] at h4
        obtain ⟨x1, p1, rfl, i1, l1⟩ := nmI_ok h4.1.1
        obtain ⟨x2, p2, rfl, i2, l2⟩ := nmI_ok h4.1.2
        obtain ⟨x3, p3, rfl, i3, l3⟩ := nmI_ok h4.2
        have e : swN ck.sc [.Name x1 p1, .Name x2 p2, .Name x3 p3] = [x1, x2, x3] := by
          unfold swN at hn ⊢
          simp only [List.filterMap_cons, List.filterMap_nil] at hn ⊢
          split at hn <;> split at hn <;> split at hn <;> simp_all
        rw [e] at hw
        have n1 : i ≠ j := fun z => by subst z; simp at h1
        have n2 : i ≠ l := fun z => by subst z; simp at h1
        have n3 : j ≠ l := fun z => by subst z; simp at h1
        exact ss_par3 s.g i1 i2 i3 n1 n2 n3 l1 l2 l3 hl hw
      · cases h4
    · cases h
  | .asgs is e, st, h => by
    unfold chkS at h
    split at h
    · simp only [Bool.and_eq_true, Bool.or_eq_true] at h
      obtain ⟨⟨h1, h2⟩, h3⟩ := h
      have ha : Ev C W cf pins X e _ := chkE_ok e s h1
      split at h3
      · simp only [Bool.and_eq_true] at h3
        have g1 := chkTg_ok (pins := pins) s h3.1
        have g2 := chkTg_ok (pins := pins) s h3.2
        obtain ⟨x1, p1, rfl⟩ := tgn_nm h3.1
        obtain ⟨x2, p2, rfl⟩ := tgn_nm h3.2
        exact ss_asgs2 ha g1 g2 rfl (nsc_ok h2)
      · simp only [Bool.and_eq_true] at h3
        obtain ⟨⟨h4, h5⟩, h6⟩ := h3
        have g1 := chkTg_ok (pins := pins) s h4
        have g2 := chkTg_ok (pins := pins) s h5
        have g3 := chkTg_ok (pins := pins) s h6
        obtain ⟨x1, p1, rfl⟩ := tgn_nm h4
        obtain ⟨x2, p2, rfl⟩ := tgn_nm h5
        obtain ⟨x3, p3, rfl⟩ := tgn_nm h6
        exact ss_asgs3 ha g1 g2 g3 rfl (nsc_ok h2)
      · cases h3
    · cases h
  | .aug i o e, st, h => by
    unfold chkS at h
    split at h
    · simp only [Bool.and_eq_true, Bool.or_eq_true, decide_eq_true_eq] at h
      obtain ⟨⟨⟨⟨h1, h2⟩, h3⟩, h4⟩, h5⟩ := h
      subst h1
      exact ss_aug s.g o h2 h3 (locB_ok s h4) (chkE_ok e s h5)
    · cases h
  | .seti p i e, st, h => by
    unfold chkS at h
    split at h
    · simp only [Bool.and_eq_true] at h
      obtain ⟨⟨⟨⟨h1, h2⟩, h3⟩, h4⟩, h5⟩ := h
      exact ss_seti (chkP_ok s h1) (chkE_ok i s h2).b h3 (chkE_ok e s h4) (sws_nlc h5) rfl
    · cases h
  | .exp e, st, h => by
    unfold chkS at h
    split at h
    · simp only [Bool.and_eq_true] at h
      exact ss_exp (chkE_ok e s h.1) (sw_nlc h.2)
    · cases h
  | .app p e, st, h => by
    unfold chkS at h
    split at h
    · simp only [Bool.and_eq_true, decide_eq_true_eq] at h
      obtain ⟨⟨⟨⟨⟨h1, h2⟩, h3⟩, h4⟩, h5⟩, h6⟩ := h
      subst h1
      exact ss_app (chkP_ok s h2) h3 (chkE_ok e s h5) h6 h4
    · cases h
  | .ext p e, st, h => by
    unfold chkS at h
    split at h
    · simp only [Bool.and_eq_true, decide_eq_true_eq] at h
      obtain ⟨⟨⟨⟨⟨h1, h2⟩, h3⟩, h4⟩, h5⟩, h6⟩ := h
      subst h1
      exact ss_ext s.g (chkP_ok s h2) h3 (chkE_ok e s h5) h6 h4
    · cases h
  | .rev p, st, h => by
    unfold chkS at h
    split at h
    · simp only [Bool.and_eq_true, decide_eq_true_eq] at h
      obtain ⟨⟨⟨h1, h2⟩, h3⟩, h4⟩ := h
      subst h1
      exact ss_rev (chkP_ok s h2) h3 h4
    · cases h
  | .iff t a b, st, h => by
    unfold chkS at h
    split at h
    · simp only [Bool.and_eq_true] at h
      exact ss_iff (chkT_ok t s h.1.1).1 (chkSs_ok s po a h.1.2) (chkSs_ok s po b h.2)
    · cases h
  | .whl t b, st, h => by
    unfold chkS at h
    split at h
    · simp only [Bool.and_eq_true] at h
      exact ss_whl po (chkT_ok t s h.1).1 (chkSs_ok s po b h.2)
    · cases h
  | .for_ tg it b, st, h => by
    unfold chkS at h
    split at h
    · simp only [Bool.and_eq_true] at h
      obtain ⟨⟨⟨⟨h1, h2⟩, hti⟩, h3⟩, h4⟩ := h
      exact ss_for s.g po (chkI_ok it s h2 hti) (chkTg_ok s h1) (chkSs_ok s po b h4) (nset_ok h3 _)
    · cases h
  | .ret e, st, h => by
    unfold chkS at h
    split at h
    · exact ss_ret (chkE_ok e s h)
    · cases h
  | .retn, st, h => by
    unfold chkS at h
    split at h
    · exact ss_retn
    · cases h
  | .brk, st, h => by
    unfold chkS at h
    split at h
    · exact ss_brk
    · cases h
  | .cnt, st, h => by
    unfold chkS at h
    split at h
    · exact ss_cnt
    · cases h
  | .pss, st, h => by
    unfold chkS at h
    split at h
    · exact ss_pass
    · cases h
  | .pl _, _, h | .frv _, _, h | .mv _, _, h | .con _, _, h | .glo _ _, _, h | .bin _ _ _, _, h | .neg _, _, h | .cmp _ _ _, _, h | .cmp2 _ _ _ _ _, _, h | .isN _ _, _, h | .isB _ _ _, _, h 
  | .bone _, _, h | .band _ _, _, h | .bor _ _, _, h | .bnot _, _, h | .ife _ _ _, _, h | .tup _, _, h | .lst _, _, h | .box _, _, h | .idx _ _, _, h | .slc _ _ _, _, h | .rvs _, _, h 
  | .bi1 _ _, _, h | .bi2 _ _ _, _, h | .isi _ _ _, _, h | .call _ _, _, h | .callk _ _ _, _, h | .lc _ _ _ _ _, _, h | .pop _, _, h | .popAt _ _, _, h | .lco _ _ _ _ _, _, h | .lc2 _ _ _ _ _ _ _, _, h | .lrg _ _, _, h | .nil, _, h 
  | .cons _ _, _, h | .no, _, h | .io _, _, h | .seq _, _, h | .rg1 _, _, h | .rg2 _ _, _, h | .rg3 _ _ _, _, h | .enum _, _, h | .zip _ _, _, h | .rvd _, _, h | .tgn _, _, h | .tgt _, _, h | .fzE _, _, h | .gfn _ _, _, h | .att _ _ _, _, h | .new _ _ _, _, h | .callv _ _ _, _, h | .callb _ _, _, h | .callb2 _ _ _, _, h | .jn _ _, _, h => by unfold chkS at h; cases h
theorem chkSs_ok (s : Sd C adr fd cf lev ck X W) (po : PassesOwn (model X.prog X.w) X.A X.env X.xe) : ∀ (m : M) {ss : List Stmt}, chkSs m ck ss = true → PSs X ss (tS C W pins (evS cf pins m))
  | .nil, ss, h => by
    unfold chkSs at h
    cases List.isEmpty_iff.mp h
    exact ss_nil
  | .cons a t, ss, h => by
    unfold chkSs at h
    split at h
    · rw [Bool.and_eq_true] at h
      exact ss_cons (chkS_ok s po a h.1) (chkSs_ok s po t h.2)
    · cases h
  | .pl _, _, h | .frv _, _, h | .mv _, _, h | .con _, _, h | .glo _ _, _, h | .bin _ _ _, _, h | .neg _, _, h | .cmp _ _ _, _, h | .cmp2 _ _ _ _ _, _, h | .isN _ _, _, h | .isB _ _ _, _, h 
  | .bone _, _, h | .band _ _, _, h | .bor _ _, _, h | .bnot _, _, h | .ife _ _ _, _, h | .tup _, _, h | .lst _, _, h | .box _, _, h | .idx _ _, _, h | .slc _ _ _, _, h | .rvs _, _, h 
  | .bi1 _ _, _, h | .bi2 _ _ _, _, h | .isi _ _ _, _, h | .call _ _, _, h | .callk _ _ _, _, h | .lc _ _ _ _ _, _, h | .pop _, _, h | .popAt _ _, _, h | .lco _ _ _ _ _, _, h | .lc2 _ _ _ _ _ _ _, _, h | .lrg _ _, _, h | .no, _, h 
  | .io _, _, h | .seq _, _, h | .rg1 _, _, h | .rg2 _ _, _, h | .rg3 _ _ _, _, h | .enum _, _, h | .zip _ _, _, h | .rvd _, _, h | .tgn _, _, h | .tgt _, _, h | .asgs _ _, _, h | .asg _ _, _, h | .par _ _, _, h 
  | .aug _ _ _, _, h | .seti _ _ _, _, h | .exp _, _, h | .app _ _, _, h | .ext _ _, _, h | .rev _, _, h | .iff _ _ _, _, h | .whl _ _, _, h | .for_ _ _ _, _, h | .ret _, _, h | .retn, _, h 
  | .brk, _, h | .cnt, _, h | .fzE _, _, h | .jn _ _, _, h | .gfn _ _, _, h | .att _ _ _, _, h | .new _ _ _, _, h | .callv _ _ _, _, h | .callb _ _, _, h | .callb2 _ _ _, _, h | .pss, _, h => by unfold chkSs at h; cases h
end
end
/-- a def's text -/
def fscB (N ps : List Str) (sc : Scope) : Bool := decide (sc.kind = .function) && decide (sc.isCoroutine = false) && decide (sc.isGenerator = false) && decide N.Nodup && decide (N.take ps.length = ps) && (ps.all fun x => decide (sc.names.lookup x = some .local) || decide (sc.names.lookup x = some .cell)) && sc.names.all fun y => decide (y.2 ≠ .free)
theorem fscB_ok {N ps : List Str} {sc : Scope} (h : fscB N ps sc = true) : FnScope N ps sc := by
  unfold fscB at h
  simp only [Bool.and_eq_true, decide_eq_true_eq, List.all_eq_true, Bool.or_eq_true] at h
  obtain ⟨⟨⟨⟨⟨⟨h1, h2⟩, h3⟩, h4⟩, h5⟩, h6⟩, h7⟩ := h
  exact ⟨h1, h2, h3, h4, h5, h6, h7⟩
def chkF (t : Tx) (N ps : List Str) (sc : Scope) (body : List Stmt) (fn : MFn) : Bool := fscB N ps sc && decide (fn.ar = ps.length) && decide (fn.sl = N.length) && fn.io.all (· < ps.length) && chkSs fn.body ⟨t, N, sc, fun _ => true⟩ body
theorem chkF_ok {C : RC} {t : Tx} {adr : Nat → Addr} {fd : Nat → FuncData} {N ps : List Str} {sc : Scope} {body : List Stmt} {fn : MFn} (h : chkF t N ps sc body fn = true) : DefOk C (mkF t adr fd) N ps sc body fn := by
  unfold chkF at h
  simp only [Bool.and_eq_true, decide_eq_true_eq] at h
  obtain ⟨⟨⟨⟨h1, h2⟩, h3⟩, h4⟩, h5⟩ := h
  exact ⟨fscB_ok h1, h2, h3, h4, fun cf lev X W g hf po tk => chkSs_ok (ck := ⟨t, N, sc, fun _ => true⟩) ⟨g, hf, tk⟩ po fn.body h5⟩
end L2.PV
set_option Elab.async false
set_option linter.all false
set_option autoImplicit false
/-! The head: what a law's text leaves. -/
namespace L2.PV
open PySem PySem.Spec PyProof.Rows
/-- a value of the top, as it stands in the written part -/
def vB (K : PySem.W.Frag) : Nat → D → Value → Bool
  | 0, _, _ => false
  | n + 1, d, u => match d, u with
    | .non, .none => true
    | .bl a, .bool b => a == b
    | .int a, .int b _ => decide (a = b)
    | .str a, .str b _ => decide (a = b)
    | .tup ds, .ref a => (match K.lookup a with
      | some ⟨.type c, _, .seq its _, _⟩ => decide (c = "tuple") && (decide (its.size ≤ sizeLine) && ((ds.length == its.toList.length) && (ds.zip its.toList).all fun p => vB K n p.1 p.2))
      | _ => false)
    | .scr ds, .ref a => (match K.lookup a with
      | some ⟨.type c, none, .seq its _, _⟩ => decide (c = "list") && (decide (its.size ≤ sizeLine) && ((ds.length == its.toList.length) && (ds.zip its.toList).all fun p => vB K n p.1 p.2))
      | _ => false)
    | _, _ => false
theorem vBs_ok {C : RC} {p : D → Value → Bool} (h : ∀ d u, p d u = true → ∃ v, RelV v u ∧ ∀ G, Rp C G d v) : ∀ {ds : List D} {us : List Value}, ds.length = us.length → (ds.zip us).all (fun q => p q.1 q.2) = true → ∃ vs, Vals vs us ∧ ∀ G, Rps C G ds vs
  | [], [], _, _ => ⟨[], .nil, fun _ => rfl⟩
  | [], _ :: _, l, _ => nomatch l
  | _ :: _, [], l, _ => nomatch l
  | d :: ds, u :: us, l, k => by
    rw [List.zip_cons_cons, List.all_cons, Bool.and_eq_true] at k
    obtain ⟨v, r1, g1⟩ := h d u k.1
    obtain ⟨vs, r2, g2⟩ := vBs_ok h (by simpa using l) k.2
    exact ⟨v :: vs, .cons r1 r2, fun G => ⟨v, vs, rfl, g1 G, g2 G⟩⟩
theorem vB_ok {C : RC} : ∀ (n : Nat) (d : D) (u : Value), vB C.K n d u = true → ∃ v, RelV v u ∧ ∀ G, Rp C G d v
  | 0, _, _, h => by unfold vB at h; cases h
  | n + 1, d, u, h => by
    unfold vB at h
    split at h
    · exact ⟨.non, rfl, fun _ => rfl⟩
    · cases eq_of_beq h
      exact ⟨.bl _, rfl, fun _ => rfl⟩
    · cases of_decide_eq_true h
      exact ⟨.int _, ⟨_, rfl⟩, fun _ => rfl⟩
    · cases of_decide_eq_true h
      exact ⟨.str _, ⟨_, rfl⟩, fun _ => rfl⟩
    · rename_i ds a
      split at h
      · rename_i c od its m osl e
        simp only [Bool.and_eq_true, decide_eq_true_eq] at h
        obtain ⟨h1, h2, h3, h4⟩ := h
        obtain ⟨vs, r, g⟩ := vBs_ok (C := C) (vB_ok n) (eq_of_beq h3) h4
        exact ⟨.ref a, rfl, fun G => ⟨a, vs, rfl, .inr ⟨_, its, m, e, congrArg Value.type h1, rfl, h2, r⟩, g G⟩⟩
      · cases h
    · rename_i ds a
      split at h
      · rename_i c its m osl e
        simp only [Bool.and_eq_true, decide_eq_true_eq] at h
        obtain ⟨h1, h2, h3, h4⟩ := h
        obtain ⟨vs, r, g⟩ := vBs_ok (C := C) (vB_ok n) (eq_of_beq h3) h4
        exact ⟨.ref a, rfl, fun G => ⟨a, vs, rfl, .inr ⟨_, its, m, e, congrArg Value.type h1, rfl, rfl, h2, r⟩, g G⟩⟩
      · cases h
    · cases h
/-- a dict with text keys: its values -/
def kdB (K : PySem.W.Frag) (a : Addr) : List Str → List D → Bool
  | [], [] => true
  | k :: ks, d :: ds => (match PySem.W.nsIn K a k with
    | some (some u) => vB K 9 d u
    | _ => false) && kdB K a ks ds
  | _, _ => false
theorem kdB_ok {C : RC} {a : Addr} {es : Array DictEntry} {n : Nat} (hk : L2.KDict C.K C.w a es n) : ∀ {ks : List Str} {ds : List D}, kdB C.K a ks ds = true →
    ∃ vs, ks.length = vs.length ∧ (∀ (i : Nat) (x : Str) (y : V), ks[i]? = some x → vs[i]? = some y → KDct C.K C.w a x y) ∧ ∀ G, Rps C G ds vs
  | [], [], _ => ⟨[], rfl, fun i x y h => by simp at h, fun _ => rfl⟩
  | [], _ :: _, h => nomatch h
  | _ :: _, [], h => nomatch h
  | k :: ks, d :: ds, h => by
    unfold kdB at h
    rw [Bool.and_eq_true] at h
    obtain ⟨h1, h2⟩ := h
    split at h1
    · rename_i u e
      obtain ⟨v, r, g⟩ := vB_ok (C := C) 9 d u h1
      obtain ⟨vs, l, q, g2⟩ := kdB_ok hk h2
      refine ⟨v :: vs, by simp [l], fun i x y e1 e2 => ?_, fun G => ⟨v, vs, rfl, g G, g2 G⟩⟩
      cases i with
      | zero =>
        simp at e1 e2
        subst e1; subst e2
        exact ⟨es, n, u, hk.at_, hk.lit, e, r⟩
      | succ i => exact q i x y (by simpa using e1) (by simpa using e2)
    · cases h1
def glK (K : PySem.W.Frag) (q : Str × D) : Bool := match PySem.W.nsIn K mainGlobals q.1 with
  | some (some u) => (match q.2, u with
    | .kd ks ds, .ref a => kdB K a ks ds
    | d, u => vB K 9 d u)
  | _ => false
/-- the dicts among the names -/
def tsOf (gl : List (Str × D)) : List He.Tab := gl.filterMap fun q => match q.2 with
  | .kd ks _ => some (fun K => He.ga K q.1, ks)
  | _ => none
theorem glK_ok {C : RC} {h : Heap} {mg : Str → Option Value} (X : C.K.In h) (G : h.Ns mainGlobals mg) {q : Str × D} (ht : ∀ ks ds, q.2 = .kd ks ds → ∃ es n, L2.KDict C.K C.w (He.ga C.K q.1) es n) (c : glK C.K q = true) : ∃ u v, mg q.1 = some u ∧ RelV v u ∧ ∀ G, Rp C G q.2 v := by
  unfold glK at c
  split at c
  · rename_i u e
    split at c
    · rename_i ks ds a e1
      obtain ⟨es, n, hk⟩ := ht ks ds e1
      have ea : He.ga C.K q.1 = a := by unfold He.ga; rw [e]
      rw [ea] at hk
      obtain ⟨vs, l, k1, k2⟩ := kdB_ok hk c
      exact ⟨_, .ref a, PySem.W.mg_of X G e, rfl, fun G => by rw [e1]; exact ⟨a, vs, rfl, l, k1, k2 G⟩⟩
    · obtain ⟨v, r, g⟩ := vB_ok (C := C) 9 q.2 _ c
      exact ⟨_, v, PySem.W.mg_of X G e, r, g⟩
  · cases c
/-! ### the Hook -/
abbrev AlP : Type := He.AlT × Bool
def obsP (fa : List He.Fa) (fn : List He.DefD) (gl : List (Str × D)) (K : PySem.W.Frag) : AlP := (He.obsT fa fn (tsOf gl) K, gl.all (glK K))
def valP' (fn : List He.DefD) (gl : List (Str × D)) (w : World) : AlP := (He.valT fn (tsOf gl) w, true)
def SaysP (fa : List He.Fa) (fn : List He.DefD) (gl : List (Str × D)) (w : World) (K : PySem.W.Frag) : Prop := obsP fa fn gl K = valP' fn gl w
def obsPG (n : Nat) (fa : List He.Fa) (fn : List He.DefD) (gl : List (Str × D)) (g : Addr → Option Obj) : AlP := obsP fa fn gl (He.frG g (He.asD g n))
def hookP (n : Nat) (fa : List He.Fa) (fn : List He.DefD) (gl : List (Str × D)) : PySem.W.Hook where
  α := AlP
  obs := fun s => obsPG n fa fn gl s.heap.get?
  val := fun w => valP' fn gl w
  says := fun w h => ∃ K : PySem.W.Frag, K.In h ∧ SaysP fa fn gl w K
  of := fun _ _ e => ⟨_, He.frG_in, e⟩
  keeps := fun _ _ _ ⟨K, hK, c⟩ k => ⟨K, PySem.W.Frag.In.keeps hK k, c⟩
theorem obsPG_eq {n : Nat} {fa : List He.Fa} {fn : List He.DefD} {gl : List (Str × D)} {g : Addr → Option Obj} {s : Shared} (h : ∀ a, g a = s.heap.get? a) : obsPG n fa fn gl g = (hookP n fa fn gl).obs s := by
  have e : g = s.heap.get? := funext h
  rw [e] <;> rfl
section
variable {fa : List He.Fa} {fn : List He.DefD} {gl : List (Str × D)} {w : World} {K : PySem.W.Frag}
theorem SaysP.t (c : SaysP fa fn gl w K) : He.SaysT fa fn (tsOf gl) w K := congrArg (fun z : AlP => z.1) c
theorem SaysP.d (c : SaysP fa fn gl w K) : He.SaysD fa fn K := c.t.d
theorem SaysP.g (c : SaysP fa fn gl w K) : gl.all (glK K) = true := congrArg (fun z : AlP => z.2) c
theorem SaysP.kd (c : SaysP fa fn gl w K) {q : Str × D} (hq : q ∈ gl) {ks : List Str} {ds : List D} (e : q.2 = .kd ks ds) : ∃ es n, L2.KDict K w (He.ga K q.1) es n := by
  have hm : ((fun K => He.ga K q.1, ks) : He.Tab) ∈ tsOf gl := List.mem_filterMap.mpr ⟨q, hq, by rw [e]⟩
  obtain ⟨i, hi, e⟩ := List.mem_iff_getElem.mp hm
  exact c.t.tab i (by rw [List.getElem?_eq_getElem hi, e])
end
/-! ### the text -/
def nmS : Stmt → Str
  | .FunctionDef (name := x) .. => x
  | _ => default
/-- a class whose objects only keep: its name, fields, __init__ (with its qualified name, slots, parameters) -/
structure Kd where
  nm : Str
  ns : List Str
  ini : Stmt
  ql : Str
  N : List Str
  ps : List Str
def mthS (st : Stmt) (i : Nat) : Stmt := match st with
  | .ClassDef (body := b) .. => b.getD i (.Pass ⟨0, 0, 0, 0⟩)
  | _ => .Pass ⟨0, 0, 0, 0⟩
def ddI (k : Kd) : He.DefD := ⟨(k.nm, some "__init__"), "__init__", k.ql, defArgs k.ini, defBody k.ini, defScope k.ini, [], []⟩
def ddOf (st : Stmt) : He.DefD := ⟨(nmS st, none), nmS st, nmS st, defArgs st, defBody st, defScope st, [], []⟩
def BindS (st : Stmt) (ps : List Str) : Prop := ∀ (kV doc pm : Value) (an : Option Addr) (cdv ct : Value) (us : List Value), us.length = ps.length → bindArgs (PySem.W.fnOf (nmS st) (nmS st) (defArgs st) (defBody st) (defScope st) .none kV doc pm an cdv ct) ⟨us, []⟩ = pure (ps.zip us)
def BindK (st : Stmt) (ps : List Str) (kn : List Str) (ks : List Nat) : Prop := ∀ (kV doc pm : Value) (an : Option Addr) (cdv ct : Value) (ws : List Value), ws.length = kn.length → bindArgs (PySem.W.fnOf (nmS st) (nmS st) (defArgs st) (defBody st) (defScope st) .none kV doc pm an cdv ct) ⟨[], kn.zip ws⟩ = pure (ps.zip (ks.map fun k => ws.getD k .none))
/-- one def of the text -/
structure Df where
  st : Stmt
  N : List Str
  ps : List Str
  fn : MFn
def Df.ok (t : Tx) (d : Df) : Prop := chkF t d.N d.ps (defScope d.st) (defBody d.st) d.fn = true ∧ BindS d.st d.ps
def rcs (ks : List Kd) : List (Nat × Str × List Str) := ks.zipIdx.map fun p => (p.2, p.1.nm, p.1.ns)
def txOf (ds : List Df) (gl : List (Str × D)) (kb : List (Nat × List Str × List Nat)) (ks : List Kd) : Tx := ⟨ds.map fun d => nmS d.st, ds.map (·.ps), gl, kb, rcs ks⟩
def BindI (k : Kd) : Prop := ∀ (kV doc pm : Value) (an : Option Addr) (cdv ct : Value) (us : List Value), us.length = k.ps.length → bindArgs (PySem.W.fnOf "__init__" k.ql (defArgs k.ini) (defBody k.ini) (defScope k.ini) .none kV doc pm an cdv ct) ⟨us, []⟩ = pure (k.ps.zip us)
def kdC (k : Kd) : Bool := fscB k.N k.ps (defScope k.ini) && iniD k.N (defScope k.ini) k.ns (defBody k.ini) && decide (k.ps.length = k.ns.length + 1) && decide (k.N.length = k.ps.length) && decide k.ns.Nodup && decide (k.ns.length < 1000)
def Kd.ok (k : Kd) : Prop := kdC k = true ∧ BindI k
def faOf (ds : List Df) (ks : List Kd) : List He.Fa := freeB.map .free ++ ((ds.map fun d => .glo (nmS d.st)) ++ ks.flatMap fun k => .glo k.nm :: .cls k.nm :: .mkr k.nm :: k.ns.map (.noat k.nm))
def fnOf' (ds : List Df) (ks : List Kd) : List He.DefD := (ds.map fun d => ddOf d.st) ++ ks.map ddI
theorem vals_getD {vs : List V} {us : List Value} (r : Vals vs us) (k : Nat) : RelV (vs.getD k .non) (us.getD k .none) := by
  induction r generalizing k with
  | nil => simp; rfl
  | cons a b ih =>
    cases k with
    | zero => simpa using a
    | succ k => simpa using ih k
theorem vals_map {vs : List V} {us : List Value} (r : Vals vs us) : ∀ ks : List Nat, Vals (ks.map fun k => vs.getD k .non) (ks.map fun k => us.getD k .none)
  | [] => .nil
  | k :: ks => .cons (vals_getD r k) (vals_map r ks)
theorem FunD.kbindsN {K : PySem.W.Frag} {x qual : Str} {params : Arguments} {body : List Stmt} {scope : Scope} {kws : List (Str × V)} {f : Addr} {fd : FuncData} {ps kn : List Str} {ks : List Nat} (F : FunD K x qual params body scope [] kws f fd)
    (h : ∀ (kV doc pm : Value) (an : Option Addr) (cdv ct : Value) (ws : List Value), ws.length = kn.length → bindArgs (PySem.W.fnOf x qual params body scope .none kV doc pm an cdv ct) ⟨[], kn.zip ws⟩ = pure (ps.zip (ks.map fun k => ws.getD k .none))) :
    KBn K fd ps 0 kn (fun _ ws => ks.map fun k => ws.getD k .none) (fun _ zs => ks.map fun k => zs.getD k .non) := by
  obtain ⟨oc, od, dV, kV, doc, pm, an, cdv, ct, osl, rfl, lk, hcd, hD, hK⟩ := F.ex
  rcases hD with ⟨_, rfl⟩ | ⟨e, _⟩
  · refine ⟨fun s us ws _ l1 l2 => ?_, fun _ r => vals_map r ks⟩
    cases List.length_eq_zero_iff.mp l1
    exact .of_eq (h kV doc pm an cdv ct ws l2)
  · exact absurd rfl e
/-- what the data leans on -/
def rcOf (K : PySem.W.Frag) (w : World) (ds : List Df) (ks : List Kd) : RC := ⟨K, fun i => He.ga K ((ks.map (·.nm)).getD i default), w, (ds.map fun d => nmS d.st).length, fun i => He.ga K ((ds.map fun d => nmS d.st).getD i default), fun i => ((ds.map (·.ps)).getD i []).length⟩
theorem facts_gen {P : Program} {w : World} {K : PySem.W.Frag} {h : Heap} {mg : Str → Option Value} {ds : List Df} {gl : List (Str × D)} {kb : List (Nat × List Str × List Nat)} {ks : List Kd} (X : K.In h) (G : h.Ns mainGlobals mg)
    (c : SaysP (faOf ds ks) (fnOf' ds ks) gl w K) (ok : ∀ d ∈ ds, d.ok (txOf ds gl kb ks)) (okc : ∀ k ∈ ks, k.ok) (okk : ∀ q ∈ kb, ∃ d, ds[q.1]? = some d ∧ BindK d.st d.ps q.2.1 q.2.2) :
    ∃ fd : Nat → FuncData, (∀ (i : Nat) (d : Df), ds[i]? = some d → mg (nmS d.st) = some (.ref (He.ga K (nmS d.st))) ∧ (∀ (s : Shared) (us : List Value), us.length = d.ps.length → BindsTo s (fd i) ⟨us, []⟩ (d.ps.zip us)) ∧
      ∀ (k : Nat) (base : Heap), FnOk P w K mg base (L2.CX P w) (k + 2) (He.ga K (nmS d.st)) (fd i) d.ps (spF (rcOf K w ds ks) d.ps.length (callM (ds.map (·.fn)) k i))) := by
  have hf : ∀ i : Nat, ∃ fd : FuncData, ∀ d, ds[i]? = some d → FunD K (nmS d.st) (nmS d.st) (defArgs d.st) (defBody d.st) (defScope d.st) [] [] (He.ga K (nmS d.st)) fd := fun i => by
    cases e : ds[i]? with
    | none => exact ⟨default, fun d h => nomatch h⟩
    | some d =>
      obtain ⟨fd, F⟩ := c.d.def_ i (d := ddOf d.st) (by
        unfold fnOf'
        rw [List.getElem?_append_left (by rw [List.length_map]; exact (List.getElem?_eq_some_iff.mp e).1), List.getElem?_map, e]; rfl)
      exact ⟨fd, fun d' h => by cases h; exact F⟩
  refine ⟨fun i => (hf i).choose, ?_⟩
  have hF := fun i => (hf i).choose_spec
  generalize hfd : (fun i => (hf i).choose) = fd at hF ⊢
  have hF : ∀ (i : Nat) (d : Df), ds[i]? = some d → FunD K (nmS d.st) (nmS d.st) (defArgs d.st) (defBody d.st) (defScope d.st) [] [] (He.ga K (nmS d.st)) (fd i) := fun i d e => by subst hfd; exact hF i d e
  have hfa : ∀ f ∈ faOf ds ks, f.ok K = true := fun f hm => by
    have c1 := (He.ba (show (((faOf ds ks).all fun f => f.ok K) && (fnOf' ds ks).all fun d => d.ok K) = true from congrArg (fun z : He.AlD => z.1) c.d)).1
    exact List.all_eq_true.mp c1 f hm
  have hglo : ∀ (i : Nat) (d : Df), ds[i]? = some d → mg (nmS d.st) = some (.ref (He.ga K (nmS d.st))) := fun i d e =>
    He.glo_ok X G (hfa _ (List.mem_append_right _ (List.mem_append_left _ (List.mem_map.mpr ⟨d, List.mem_of_getElem? e, rfl⟩))))
  let F : FT := mkF (txOf ds gl kb ks) (fun i => He.ga K ((txOf ds gl kb ks).nm.getD i default)) fd
  have hlen : F.n = ds.length := by show (ds.map fun d => nmS d.st).length = _; rw [List.length_map]
  have hget : ∀ i, i < F.n → ∃ d, ds[i]? = some d ∧ F.nm i = nmS d.st ∧ F.adr i = He.ga K (nmS d.st) ∧ F.ps i = d.ps := fun i hi => by
    rw [hlen] at hi
    have e : ds[i]? = some ds[i] := by simp [hi]
    have e1 : (ds.map fun d => nmS d.st).getD i default = nmS ds[i].st := by rw [List.getD_eq_getElem?_getD, List.getElem?_map, e]; rfl
    have e2 : (ds.map (·.ps)).getD i [] = ds[i].ps := by rw [List.getD_eq_getElem?_getD, List.getElem?_map, e]; rfl
    exact ⟨ds[i], e, e1, by show He.ga K ((ds.map fun d => nmS d.st).getD i default) = _; rw [e1], e2⟩
  have gn : Gn (rcOf K w ds ks) F mg := by
    refine ⟨⟨rfl, fun i _ => ⟨rfl, rfl⟩⟩, fun x hx => He.free_ok X G (hfa _ (List.mem_append_left _ (List.mem_map.mpr ⟨x, hx, rfl⟩))), fun i hi => ?_, fun i hi => ?_, fun i hi => ?_, fun q hq => ?_, fun q hq => ?_⟩
    · obtain ⟨d, e, e1, e2, e3⟩ := hget i hi
      rw [e1, e2]; exact hglo i d e
    · obtain ⟨d, e, e1, e2, e3⟩ := hget i hi
      rw [e2]; exact (hF i d e).kp
    · obtain ⟨d, e, e1, e2, e3⟩ := hget i hi
      rw [e3]
      exact (hF i d e).bindsN (ok d (List.mem_of_getElem? e)).2
    · exact glK_ok (C := rcOf K w ds ks) X G (fun ks ds e => c.kd hq e) (List.all_eq_true.mp c.g q hq)
    · obtain ⟨d, e, b⟩ := okk q hq
      have hi : q.1 < F.n := by rw [hlen]; exact (List.getElem?_eq_some_iff.mp e).1
      refine ⟨hi, ?_⟩
      obtain ⟨d', e', e1, e2, e3⟩ := hget q.1 hi
      rw [e] at e'; cases e'
      rw [e3]
      exact FunD.kbindsN (hF _ d e) b
  have hrc : ∀ (base : Heap), ∀ q ∈ rcs ks, RcOk (rcOf K w ds ks) P w K mg base q := fun base q hq => by
    obtain ⟨p, hp, rfl⟩ := List.mem_map.mp hq
    have ep : ks[p.2]? = some p.1 := List.mem_zipIdx_iff_getElem?.mp hp
    have hm := List.mem_of_getElem? ep
    obtain ⟨hc, hb⟩ := okc _ hm
    unfold kdC at hc
    simp only [Bool.and_eq_true, decide_eq_true_eq] at hc
    obtain ⟨⟨⟨⟨⟨h1, h2⟩, h3⟩, h4⟩, h5⟩, h6⟩ := hc
    have ecl : (rcOf K w ds ks).cl p.2 = He.ga K p.1.nm := by
      show He.ga K ((ks.map (·.nm)).getD p.2 default) = _
      rw [List.getD_eq_getElem?_getD, List.getElem?_map, ep]; rfl
    have inF : ∀ f, f ∈ (He.Fa.glo p.1.nm :: .cls p.1.nm :: .mkr p.1.nm :: p.1.ns.map (.noat p.1.nm)) → f.ok K = true := fun f hf =>
      hfa _ (List.mem_append_right _ (List.mem_append_right _ (List.mem_flatMap.mpr ⟨p.1, hm, hf⟩)))
    have na : ∀ n ∈ p.1.ns, NoAttr K (He.ga K p.1.nm) n := fun n hn => He.noat_ok (inF _ (by simp [hn]))
    have cls := He.cls_ok (inF (.cls p.1.nm) (by simp))
    have mk := He.mkr_ok (inF (.mkr p.1.nm) (by simp))
    obtain ⟨fd, F⟩ := c.d.def_ (ds.length + p.2) (d := ddI p.1) (by
      unfold fnOf'
      rw [List.getElem?_append_right (by rw [List.length_map]; exact Nat.le_add_right _ _), List.length_map, Nat.add_sub_cancel_left, List.getElem?_map, ep]; rfl)
    refine ⟨by rw [ecl]; exact cls, fun n hn => by rw [ecl]; exact na n hn, by rw [ecl]; exact He.glo_ok X G (inF (.glo p.1.nm) (by simp)), _, fd, p.1.ps, by rw [ecl]; exact mk, ?_, F.bindsN hb⟩
    rw [ecl]
    exact ini_ok F (fscB_ok h1) h2 h3 h4 h5 h6 cls na
  have all := fun (k : Nat) (base : Heap) => all_ok (P := P) (w := w) (base := base) (T := ds.map (·.fn)) (C := rcOf K w ds ks) rfl gn (hrc base) (fun i hi => by
    obtain ⟨d, e, e1, e2, e3⟩ := hget i hi
    refine ⟨d.fn, d.N, nmS d.st, defArgs d.st, defBody d.st, defScope d.st, [], [], by rw [List.getElem?_map, e]; rfl, ?_, ?_⟩
    · rw [e1, e2]; exact hF i d e
    · rw [e3]; exact chkF_ok (ok d (List.mem_of_getElem? e)).1) k
  refine fun i d e => ⟨hglo i d e, (hF i d e).bindsA (ok d (List.mem_of_getElem? e)).2, fun k base => ?_⟩
  have hi : i < F.n := by rw [hlen]; exact (List.getElem?_eq_some_iff.mp e).1
  obtain ⟨d', e', e1, e2, e3⟩ := hget i hi
  rw [e] at e'; cases e'
  have := all k base i hi
  rw [e2, e3] at this
  exact this
/-- the script as it is handed in -/
def scrD (ns : List Int) : D := .scr (ns.map .int)
/-- what a law's def promises -/
theorem law_sp {C : RC} {f : List D → Option CR} {n : Nat} (h : ∀ ns : List Int, ns.length ≤ n → ∃ ds, f [scrD ns] = some (.ok (.bl true) ds)) (H : Hp) (a : Addr) (ns : List Int) (hl : ns.length ≤ n) (hS : SqL C.K H a (ns.map V.int)) :
    spF C 1 f [.ref a] H (fun v _ => v = .bl true) fun _ _ _ => False := by
  obtain ⟨ds, e⟩ := h ns hl
  refine ⟨rfl, [scrD ns], H, [], _, ⟨Same.refl _, List.nodup_nil, fun a ha => nomatch ha⟩, ?_, e, ?_⟩
  · exact ⟨_, [], [], [], rfl, rfl, ⟨rfl, a, ns.map V.int, rfl, hS, Rps.ints ns⟩, rfl, rfl⟩
  · exact fun v H' G' Od O' _ _ r _ => r.2
theorem room_of {k : Nat} (h : k ≤ 200) : Room (k + 2) callerA := ⟨rfl, by show 301 + 3 * (k + 2) + 5 < 1000; omega, by show 4 + 16 * (k + 2) + 200 < 9900; omega⟩
/-- a law's end -/
theorem law_end {l : PySem.W.OpenLaw} {q : Program} {loose : List Str} {XP : (Str → Option Value) → Heap → Prop} {ds : List Df} {gl : List (Str × D)} {kb : List (Nat × List Str × List Nat)} {ks : List Kd} {d : DefRec} {k li m : Nat} (most : l.most = some 63) (dfl : d.params.defaults = []) (deep : k ≤ 200)
    (ok : ∀ d ∈ ds, d.ok (txOf ds gl kb ks)) (okc : ∀ k ∈ ks, k.ok) (okk : ∀ q ∈ kb, ∃ d, ds[q.1]? = some d ∧ BindK d.st d.ps q.2.1 q.2.2) (hli : ∃ dl, ds[li]? = some dl ∧ nmS dl.st = d.name ∧ dl.ps = [("script" : Str)])
    (says : ∀ ns : List Int, ns.length ≤ 63 → ∃ ds', callM (ds.map (·.fn)) k li [scrD ns] = some (.ok (.bl true) ds')) :
    PySem.W.WalkO q loose XP (hookP m (faOf ds ks) (fnOf' ds ks) gl).says l.row.toRowW d [] (fun f vs => PySem.call f vs) := by
  refine Att.attach_call most dfl fun w sa sb mg mb fl ob pmod cdo dc adr vals nums GG YY h1 h2 h3 hm h4 h5 h6 h7 => ?_
  obtain ⟨K, KX, c⟩ := YY
  obtain ⟨dl, e1, e2, e3⟩ := hli
  obtain ⟨fd, hf⟩ := facts_gen (P := l.prog) (w := w) KX GG.T.g c ok okc okk
  obtain ⟨f1, f2, f3⟩ := hf li dl e1
  rw [e3] at f2 f3
  rw [e2] at f1
  cases hm.symm.trans f1
  rw [← e2]
  exact law_call KX GG.T.g GG.T.b GG.T.builtins GG.T.nolimit h7 h4 h5 (Nat.le_trans h6 (by decide)) (k := k + 2) (room_of deep)
    (fun base _ _ => f3 k base) (fun s u => f2 s [u] rfl) (fun H hO hS => law_sp (C := rcOf K w ds ks) says H adr nums h6 hS) fun H e s' z => by
      obtain ⟨_, _, _, _, _, _, _, _, _, _, _, _, z⟩ := z
      exact z
end L2.PV
set_option Elab.async false
set_option linter.all false
set_option autoImplicit false
/-! What the terms are worth, as equations for simp. -/
namespace L2.PV
open PySem PySem.Spec PyProof.Rows
section
variable {cf : Nat → List D → Option CR} {pins : List Nat}
@[simp] theorem evE_pl (p : Pl) (ρ : DEnv) : evE cf pins (.pl p) ρ = lft (getP p ρ) ρ := by
  rw [evE]
  try rfl
@[simp] theorem evE_frv (i : Nat) (ρ : DEnv) : evE cf pins (.frv i) ρ = match getP (.sl i) ρ with
    | some d => if i ∈ pins then none else match frzD d with
      | some d' => some (.ok d' (ρ.set i (some d')))
      | none => none
    | none => none := by
  rw [evE]
  try rfl
@[simp] theorem evE_mv (i : Nat) (ρ : DEnv) : evE cf pins (.mv i) ρ = match getP (.sl i) ρ with
    | some d => if i ∈ pins then none else some (.ok d (ρ.set i none))
    | none => none := by
  rw [evE]
  try rfl
@[simp] theorem evE_con (d : D) (ρ : DEnv) : evE cf pins (.con d) ρ = some (.ok d ρ) := by
  rw [evE]
  try rfl
@[simp] theorem evE_glo (x : Str) (d : D) (ρ : DEnv) : evE cf pins (.glo x d) ρ = some (.ok d ρ) := by
  rw [evE]
  try rfl
@[simp] theorem evE_bin (o : BOp) (a : M) (b : M) (ρ : DEnv) : evE cf pins (.bin o a b) ρ = bnd (evE cf pins a ρ) fun x ρ1 => bnd (evE cf pins b ρ1) fun y ρ2 => if bok x b then lft (binD o x y) ρ2 else none := by
  rw [evE]
  try rfl
@[simp] theorem evE_neg (a : M) (ρ : DEnv) : evE cf pins (.neg a) ρ = bnd (evE cf pins a ρ) fun x ρ1 => match x with
    | .int i => some (.ok (.int (-i)) ρ1)
    | _ => none := by
  rw [evE]
  try rfl
@[simp] theorem evE_cmp (o : COp) (a : M) (b : M) (ρ : DEnv) : evE cf pins (.cmp o a b) ρ = bnd (evE cf pins a ρ) fun x ρ1 => bnd (evE cf pins b ρ1) fun y ρ2 => if bok x b then lft ((cmpD o x y).map .bl) ρ2 else none := by
  rw [evE]
  try rfl
@[simp] theorem evE_cmp2 (o : COp) (o' : COp) (a : M) (b : M) (c : M) (ρ : DEnv) : evE cf pins (.cmp2 o o' a b c) ρ = bnd (evE cf pins a ρ) fun x ρ1 => bnd (evE cf pins b ρ1) fun y ρ2 => if fz x && fz y then match cmpD o x y with
    | some true => bnd (evE cf pins c ρ2) fun z ρ3 => lft ((cmpD o' y z).map .bl) ρ3
    | some false => some (.ok (.bl false) ρ2)
    | none => none
    else none := by
  rw [evE]
  try rfl
@[simp] theorem evE_isN (n : Bool) (a : M) (ρ : DEnv) : evE cf pins (.isN n a) ρ = bnd (evE cf pins a ρ) fun x ρ1 => some (.ok (.bl (if n then isNon x else !isNon x)) ρ1) := by
  rw [evE]
  try rfl
@[simp] theorem evE_isB (n : Bool) (b : Bool) (a : M) (ρ : DEnv) : evE cf pins (.isB n b a) ρ = bnd (evE cf pins a ρ) fun x ρ1 => some (.ok (.bl (if n then isBl b x else !isBl b x)) ρ1) := by
  rw [evE]
  try rfl
@[simp] theorem evE_bone (a : M) (ρ : DEnv) : evE cf pins (.bone a) ρ = bnd (evE cf pins a ρ) fun d ρ1 => lft (ownM a d) ρ1 := by
  rw [evE]
  try rfl
@[simp] theorem evE_band (a : M) (b : M) (ρ : DEnv) : evE cf pins (.band a b) ρ = bnd (evE cf pins a ρ) fun x ρ1 => match x with
    | .bl true => bnd (evE cf pins b ρ1) fun d ρ2 => lft (ownM b d) ρ2
    | .bl false => some (.ok (.bl false) ρ1)
    | _ => none := by
  rw [evE]
  try rfl
@[simp] theorem evE_bor (a : M) (b : M) (ρ : DEnv) : evE cf pins (.bor a b) ρ = bnd (evE cf pins a ρ) fun x ρ1 => match x with
    | .bl false => bnd (evE cf pins b ρ1) fun d ρ2 => lft (ownM b d) ρ2
    | .bl true => some (.ok (.bl true) ρ1)
    | _ => none := by
  rw [evE]
  try rfl
@[simp] theorem evE_bnot (a : M) (ρ : DEnv) : evE cf pins (.bnot a) ρ = bnd (evE cf pins a ρ) fun x ρ1 => match x with
    | .bl b => some (.ok (.bl (!b)) ρ1)
    | _ => none := by
  rw [evE]
  try rfl
@[simp] theorem evE_ife (t : M) (a : M) (b : M) (ρ : DEnv) : evE cf pins (.ife t a b) ρ = bnd (evT cf pins t ρ) fun c ρ1 => match c with
    | true => bnd (evE cf pins a ρ1) fun d ρ2 => lft (ownM a d) ρ2
    | false => bnd (evE cf pins b ρ1) fun d ρ2 => lft (ownM b d) ρ2 := by
  rw [evE]
  try rfl
@[simp] theorem evE_jn (z : Str) (a : M) (ρ : DEnv) : evE cf pins (.jn z a) ρ = bnd (evE cf pins a ρ) fun x ρ1 => lft (joinD z x) ρ1 := by
  rw [evE]
  try rfl
@[simp] theorem evE_gfn (f n : Nat) (ρ : DEnv) : evE cf pins (.gfn f n) ρ = some (.ok (.fn f n) ρ) := by
  rw [evE]
  try rfl
@[simp] theorem evE_att (a : M) (n : Str) (cs : List Nat) (ρ : DEnv) : evE cf pins (.att a n cs) ρ = bnd (evE cf pins a ρ) fun x ρ1 => lft (attD cs n x) ρ1 := by
  rw [evE]
@[simp] theorem evE_new (c : Nat) (ns : List Str) (as : M) (ρ : DEnv) : evE cf pins (.new c ns as) ρ = bnd (evL cf pins as ρ) fun ds ρ1 => if ds.length = ns.length then some (.ok (.obj c ns ds) ρ1) else none := by
  rw [evE]
@[simp] theorem evE_callv (i n : Nat) (as : M) (ρ : DEnv) : evE cf pins (.callv i n as) ρ = match getP (.sl i) ρ with
    | some (.fn f m) => if m = n then bnd (evG cf pins as ρ) fun gs ρ1 => match argD gs ρ1 with
      | some ds => callD (cf f ds) gs ρ1
      | none => none
      else none
    | _ => none := by
  rw [evE]
  try rfl
@[simp] theorem evE_callb2 (f : Nat) (e : M) (i : Nat) (ρ : DEnv) : evE cf pins (.callb2 f e i) ρ = bnd (evE cf pins e ρ) fun x ρ1 => bnd (lft (frzM e x) ρ1) fun x' ρ2 => match getP (.sl i) ρ2 with
    | some (.acc ds) => match cf f [x', .lst ds] with
      | some (.ok d _) => if flatD d then some (.ok d ρ2) else none
      | _ => none
    | _ => none := by
  rw [evE]
  try rfl
@[simp] theorem evE_callb (f i : Nat) (ρ : DEnv) : evE cf pins (.callb f i) ρ = match getP (.sl i) ρ with
    | some (.acc ds) => match cf f [.lst ds] with
      | some (.ok d _) => if flatD d then some (.ok d ρ) else none
      | _ => none
    | _ => none := by
  rw [evE]
  try rfl
@[simp] theorem evE_fzE (a : M) (ρ : DEnv) : evE cf pins (.fzE a) ρ = bnd (evE cf pins a ρ) fun d ρ1 => lft (frzM a d) ρ1 := by
  rw [evE]
  try rfl
@[simp] theorem evE_tup (es : M) (ρ : DEnv) : evE cf pins (.tup es) ρ = bnd (evL cf pins es ρ) fun ds ρ1 => some (.ok (.tup ds) ρ1) := by
  rw [evE]
  try rfl
@[simp] theorem evE_lst (es : M) (ρ : DEnv) : evE cf pins (.lst es) ρ = bnd (evL cf pins es ρ) fun ds ρ1 => some (.ok (.acc ds) ρ1) := by
  rw [evE]
  try rfl
@[simp] theorem evE_box (es : M) (ρ : DEnv) : evE cf pins (.box es) ρ = bnd (evW cf pins es ρ) fun ds ρ1 => some (.ok (.box ds) ρ1) := by
  rw [evE]
  try rfl
@[simp] theorem evE_idx (a : M) (i : M) (ρ : DEnv) : evE cf pins (.idx a i) ρ = bnd (evE cf pins a ρ) fun x ρ1 => bnd (evE cf pins i ρ1) fun y ρ2 => if bok x i then lft (idxD x y) ρ2 else none := by
  rw [evE]
  try rfl
@[simp] theorem evE_slc (a : M) (lo : M) (hi : M) (ρ : DEnv) : evE cf pins (.slc a lo hi) ρ = bnd (evE cf pins a ρ) fun x ρ1 => bnd (evO cf pins lo ρ1) fun l ρ2 => bnd (evO cf pins hi ρ2) fun h ρ3 => if fz x || (pureM lo && pureM hi) then lft (slcD x l h) ρ3 else none := by
  rw [evE]
  try rfl
@[simp] theorem evE_rvs (a : M) (ρ : DEnv) : evE cf pins (.rvs a) ρ = bnd (evE cf pins a ρ) fun x ρ1 => lft (rvsD x) ρ1 := by
  rw [evE]
  try rfl
@[simp] theorem evE_bi1 (b : BI) (a : M) (ρ : DEnv) : evE cf pins (.bi1 b a) ρ = bnd (evE cf pins a ρ) fun x ρ1 => lft (bi1D b x) ρ1 := by
  rw [evE]
  try rfl
@[simp] theorem evE_bi2 (b : BI) (a : M) (c : M) (ρ : DEnv) : evE cf pins (.bi2 b a c) ρ = bnd (evE cf pins a ρ) fun x ρ1 => bnd (evE cf pins c ρ1) fun y ρ2 => lft (bi2D b x y) ρ2 := by
  rw [evE]
  try rfl
@[simp] theorem evE_isi (a : M) (one : Bool) (ts : List String) (ρ : DEnv) : evE cf pins (.isi a one ts) ρ = bnd (evE cf pins a ρ) fun x ρ1 => lft ((isiD x ts).map .bl) ρ1 := by
  rw [evE]
  try rfl
@[simp] theorem evE_call (f : Nat) (as : M) (ρ : DEnv) : evE cf pins (.call f as) ρ = bnd (evG cf pins as ρ) fun gs ρ1 => match argD gs ρ1 with
    | some ds => callD (cf f ds) gs ρ1
    | none => none := by
  rw [evE]
  try rfl
@[simp] theorem evE_callk (f : Nat) (ks : List Nat) (as : M) (ρ : DEnv) : evE cf pins (.callk f ks as) ρ = bnd (evL cf pins as ρ) fun ds ρ1 => callD (cf f (ks.map fun k => ds.getD k .non)) [] ρ1 := by
  rw [evE]
  try rfl
theorem evE_lco (own : List Nat) (tg : M) (s : Nat) (cs : M) (elt : M) (ρ : DEnv) : evE cf pins (.lco own tg s cs elt) ρ = match getP (.sl s) ρ with
    | some (.acc ds) => if ds.length ≤ sizeLine ∧ ownFz ρ own = true then
      match lcM (fun d ρ => match tgM pins tg d ρ with
        | some ρ2 => bnd (evC cf pins cs ρ2) fun c ρ3 => match c with
          | true => bnd (evE cf pins elt ρ3) fun x ρ4 => bnd (lft (frzM elt x) ρ4) fun x' ρ5 => keepsD s (.acc ds) ρ5 (some (.ok (some x') (wipeD ρ5 own)))
          | false => keepsD s (.acc ds) ρ3 (some (.ok none (wipeD ρ3 own)))
        | none => none) ds [] (wipeD ρ own) with
      | some (xs, ρ2) => some (.ok (.acc xs) (backD ρ ρ2 own))
      | none => none
      else none
    | _ => none := by
  rw [evE]
  try rfl
theorem evE_lc2 (own : List Nat) (tg : M) (it : M) (own1 : List Nat) (tg1 : M) (it1 : M) (elt : M) (ρ : DEnv) : evE cf pins (.lc2 own tg it own1 tg1 it1 elt) ρ = bnd (evI cf pins it ρ) fun ds ρ1 => if ds.length ≤ sizeLine ∧ ownFz ρ1 own = true then
      match lc2M (fun d ρ => tgM pins tg d ρ) (fun ρ => evI cf pins it1 ρ) (fun d ρ => match tgM pins tg1 d ρ with
        | some ρ2 => bnd (evE cf pins elt ρ2) fun x ρ4 => bnd (lft (frzM elt x) ρ4) fun x' ρ5 => some (.ok (some x') (wipeD ρ5 own1))
        | none => none) own own1 ds [] (wipeD ρ1 own) with
      | some (xs, ρ2) => some (.ok (.acc xs) (backD ρ1 ρ2 own))
      | none => none
      else none := by
  rw [evE]
  try rfl
theorem evE_lc (own : List Nat) (tg : M) (it : M) (cs : M) (elt : M) (ρ : DEnv) : evE cf pins (.lc own tg it cs elt) ρ = bnd (evI cf pins it ρ) fun ds ρ1 => if ds.length ≤ sizeLine ∧ ownFz ρ1 own = true then
      match lcM (fun d ρ => match tgM pins tg d ρ with
        | some ρ2 => bnd (evC cf pins cs ρ2) fun c ρ3 => match c with
          | true => bnd (evE cf pins elt ρ3) fun x ρ4 => bnd (lft (frzM elt x) ρ4) fun x' ρ5 => some (.ok (some x') (wipeD ρ5 own))
          | false => some (.ok none (wipeD ρ3 own))
        | none => none) ds [] (wipeD ρ1 own) with
      | some (xs, ρ2) => some (.ok (.acc xs) (backD ρ1 ρ2 own))
      | none => none
    else none := by
  rw [evE]
  try rfl
@[simp] theorem evE_pop (p : Pl) (ρ : DEnv) : evE cf pins (.pop p) ρ = match getP p ρ with
    | some (.acc ds) => match ds[ds.length - 1]? with
      | some d => some (.ok d (putP p (.acc ds.dropLast) ρ))
      | none => none
    | _ => none := by
  rw [evE]
  try rfl
@[simp] theorem evE_popAt (p : Pl) (e : M) (ρ : DEnv) : evE cf pins (.popAt p e) ρ = match getP p ρ with
    | some (.acc _) => bnd (evE cf pins e ρ) fun y ρ1 => match y, getP p ρ1 with
      | .int i, some (.acc ds) => match ixN ds.length i with
        | some k => match ds[k]? with
          | some d => if (p.isSl || pureM e) = true ∧ -(2 ^ 63) ≤ i ∧ i < 2 ^ 63 then some (.ok d (putP p (.acc (ds.eraseIdx k)) ρ1)) else none
          | none => none
        | none => none
      | _, _ => none
    | _ => none := by
  rw [evE]
  try rfl
@[simp] theorem evE_lrg (t : Bool) (it : M) (ρ : DEnv) : evE cf pins (.lrg t it) ρ = bnd (evI cf pins it ρ) fun ds ρ1 => if ds.length ≤ 16777216 then some (.ok (if t then .tup ds else .acc ds) ρ1) else none := by
  rw [evE]
  try rfl
@[simp] theorem evT_bone (a : M) (ρ : DEnv) : evT cf pins (.bone a) ρ = evT cf pins a ρ := by
  rw [evT]
  try rfl
@[simp] theorem evT_band (a : M) (b : M) (ρ : DEnv) : evT cf pins (.band a b) ρ = bnd (evT cf pins a ρ) fun c ρ1 => match c with
    | true => evT cf pins b ρ1
    | false => some (.ok false ρ1) := by
  rw [evT]
  try rfl
@[simp] theorem evT_bor (a : M) (b : M) (ρ : DEnv) : evT cf pins (.bor a b) ρ = bnd (evT cf pins a ρ) fun c ρ1 => match c with
    | true => some (.ok true ρ1)
    | false => evT cf pins b ρ1 := by
  rw [evT]
  try rfl
@[simp] theorem evT_bnot (a : M) (ρ : DEnv) : evT cf pins (.bnot a) ρ = bnd (evT cf pins a ρ) fun c ρ1 => some (.ok (!c) ρ1) := by
  rw [evT]
  try rfl
@[simp] theorem evT_cmp (o : COp) (a : M) (b : M) (ρ : DEnv) : evT cf pins (.cmp o a b) ρ = bnd (evE cf pins a ρ) fun x ρ1 => bnd (evE cf pins b ρ1) fun y ρ2 => if bok x b then lft (cmpD o x y) ρ2 else none := by
  rw [evT]
  try rfl
@[simp] theorem evT_cmp2 (o : COp) (o' : COp) (a : M) (b : M) (c : M) (ρ : DEnv) : evT cf pins (.cmp2 o o' a b c) ρ = bnd (evE cf pins a ρ) fun x ρ1 => bnd (evE cf pins b ρ1) fun y ρ2 => if fz x && fz y then match cmpD o x y with
    | some true => bnd (evE cf pins c ρ2) fun z ρ3 => lft (cmpD o' y z) ρ3
    | some false => some (.ok false ρ2)
    | none => none
    else none := by
  rw [evT]
  try rfl
@[simp] theorem evT_isN (n : Bool) (a : M) (ρ : DEnv) : evT cf pins (.isN n a) ρ = bnd (evE cf pins a ρ) fun x ρ1 => some (.ok (if n then isNon x else !isNon x) ρ1) := by
  rw [evT]
  try rfl
@[simp] theorem evT_isB (n : Bool) (b : Bool) (a : M) (ρ : DEnv) : evT cf pins (.isB n b a) ρ = bnd (evE cf pins a ρ) fun x ρ1 => some (.ok (if n then isBl b x else !isBl b x) ρ1) := by
  rw [evT]
  try rfl
@[simp] theorem evT_seq (e : M) (ρ : DEnv) : evT cf pins (.seq e) ρ = bnd (evE cf pins e ρ) fun x ρ1 => lft (truD x) ρ1 := by
  rw [evT]
  try rfl
@[simp] theorem evL_nil  (ρ : DEnv) : evL cf pins (.nil) ρ = some (.ok [] ρ) := by
  rw [evL]
  try rfl
@[simp] theorem evL_cons (h : M) (t : M) (ρ : DEnv) : evL cf pins (.cons h t) ρ = bnd (evE cf pins h ρ) fun x ρ1 => bnd (lft (frzM h x) ρ1) fun x' ρ2 => bnd (evL cf pins t ρ2) fun xs ρ3 => some (.ok (x' :: xs) ρ3) := by
  rw [evL]
  try rfl
@[simp] theorem evW_nil  (ρ : DEnv) : evW cf pins (.nil) ρ = some (.ok [] ρ) := by
  rw [evW]
  try rfl
@[simp] theorem evW_cons (h : M) (t : M) (ρ : DEnv) : evW cf pins (.cons h t) ρ = bnd (evE cf pins h ρ) fun x ρ1 => bnd (lft (ownM h x) ρ1) fun x' ρ2 => bnd (evW cf pins t ρ2) fun xs ρ3 => some (.ok (x' :: xs) ρ3) := by
  rw [evW]
  try rfl
@[simp] theorem evG_nil  (ρ : DEnv) : evG cf pins (.nil) ρ = some (.ok [] ρ) := by
  rw [evG]
  try rfl
@[simp] theorem evG_cons_io (i : Nat) (t : M) (ρ : DEnv) : evG cf pins (.cons (.io i) t) ρ = match getP (.sl i) ρ with
    | some _ => bnd (evG cf pins t ρ) fun xs ρ3 => some (.ok (.inr i :: xs) ρ3)
    | none => none := by
  rw [evG]
  try rfl
@[simp] theorem evG_cons (h : M) (t : M) (hio : ∀ i, h ≠ .io i) (ρ : DEnv) : evG cf pins (.cons h t) ρ = bnd (evE cf pins h ρ) fun x ρ1 => bnd (lft (frzM h x) ρ1) fun x' ρ2 => bnd (evG cf pins t ρ2) fun xs ρ3 => some (.ok (.inl x' :: xs) ρ3) := by
  rw [evG]
  all_goals first | rfl | (intro i e; exact hio i e)
@[simp] theorem evO_no  (ρ : DEnv) : evO cf pins (.no) ρ = some (.ok none ρ) := by
  rw [evO]
  try rfl
@[simp] theorem evO_seq (e : M) (ρ : DEnv) : evO cf pins (.seq e) ρ = bnd (evE cf pins e ρ) fun x ρ1 => match x with
    | .int i => some (.ok (some i) ρ1)
    | _ => none := by
  rw [evO]
  try rfl
@[simp] theorem evI_seq (e : M) (ρ : DEnv) : evI cf pins (.seq e) ρ = bnd (evE cf pins e ρ) fun x ρ1 => bnd (lft (frzM e x) ρ1) fun x' ρ2 => match x' with
    | .str s => some (.ok (s.cps.toList.map fun c => .str ⟨#[c]⟩) ρ2)
    | x' => lft (seqD x') ρ2 := by
  rw [evI]
  try rfl
@[simp] theorem evI_rg1 (a : M) (ρ : DEnv) : evI cf pins (.rg1 a) ρ = bnd (evE cf pins a ρ) fun x ρ1 => match x with
    | .int i => lft (rgD 0 i) ρ1
    | _ => none := by
  rw [evI]
  try rfl
@[simp] theorem evI_rg2 (a : M) (b : M) (ρ : DEnv) : evI cf pins (.rg2 a b) ρ = bnd (evE cf pins a ρ) fun x ρ1 => bnd (evE cf pins b ρ1) fun y ρ2 => match x, y with
    | .int i, .int j => lft (rgD i j) ρ2
    | _, _ => none := by
  rw [evI]
  try rfl
@[simp] theorem evI_rg3 (a : M) (b : M) (c : M) (ρ : DEnv) : evI cf pins (.rg3 a b c) ρ = bnd (evE cf pins a ρ) fun x ρ1 => bnd (evE cf pins b ρ1) fun y ρ2 => bnd (evE cf pins c ρ2) fun z ρ3 => match x, y, z with
    | .int i, .int j, .int k => lft (rg3D i j k) ρ3
    | _, _, _ => none := by
  rw [evI]
  try rfl
@[simp] theorem evI_enum (e : M) (ρ : DEnv) : evI cf pins (.enum e) ρ = bnd (evE cf pins e ρ) fun x ρ1 => bnd (lft (frzM e x) ρ1) fun x' ρ2 => lft (enumD x') ρ2 := by
  rw [evI]
  try rfl
@[simp] theorem evI_zip (a : M) (b : M) (ρ : DEnv) : evI cf pins (.zip a b) ρ = bnd (evE cf pins a ρ) fun x ρ1 => bnd (lft (frzM a x) ρ1) fun x' ρ2 => bnd (evE cf pins b ρ2) fun y ρ3 => bnd (lft (frzM b y) ρ3) fun y' ρ4 => lft (zipD x' y') ρ4 := by
  rw [evI]
  try rfl
@[simp] theorem evI_rvd (e : M) (ρ : DEnv) : evI cf pins (.rvd e) ρ = bnd (evE cf pins e ρ) fun x ρ1 => bnd (lft (frzM e x) ρ1) fun x' ρ2 => lft (rvdD x') ρ2 := by
  rw [evI]
  try rfl
@[simp] theorem evC_nil  (ρ : DEnv) : evC cf pins (.nil) ρ = some (.ok true ρ) := by
  rw [evC]
  try rfl
@[simp] theorem evC_cons (t : M) (ts : M) (ρ : DEnv) : evC cf pins (.cons t ts) ρ = bnd (evT cf pins t ρ) fun c ρ1 => match c with
    | true => evC cf pins ts ρ1
    | false => some (.ok false ρ1) := by
  rw [evC]
  try rfl
@[simp] theorem evS_nil  (ρ : DEnv) : evS cf pins (.nil) ρ = some (.nx ρ) := by
  rw [evS]
  try rfl
@[simp] theorem evS_cons (s : M) (t : M) (ρ : DEnv) : evS cf pins (.cons s t) ρ = match evS cf pins s ρ with
    | some (.nx ρ') => evS cf pins t ρ'
    | r => r := by
  rw [evS]
  try rfl
@[simp] theorem evS_asg (tg : M) (e : M) (ρ : DEnv) : evS cf pins (.asg tg e) ρ = toSR (bnd (evE cf pins e ρ) fun x ρ1 => bnd (lft (ownM e x) ρ1) fun x' ρ2 => bnd (lft (tgM pins tg x' ρ2) ρ2) fun ρ3 _ => some (.ok ρ3 ρ3)) := by
  rw [evS]
  try rfl
@[simp] theorem evS_par (is : List Nat) (es : M) (ρ : DEnv) : evS cf pins (.par is es) ρ = toSR (bnd (evW cf pins es ρ) fun ds ρ1 => bnd (lft (parD pins is ds ρ1) ρ1) fun ρ3 _ => some (.ok ρ3 ρ3)) := by
  rw [evS]
  try rfl
@[simp] theorem evS_asgs (is : List Nat) (e : M) (ρ : DEnv) : evS cf pins (.asgs is e) ρ = toSR (bnd (evE cf pins e ρ) fun x ρ1 => bnd (lft (frzM e x) ρ1) fun x' ρ2 => bnd (lft (asgsD pins is x' ρ2) ρ2) fun ρ3 _ => some (.ok ρ3 ρ3)) := by
  rw [evS]
@[simp] theorem evS_aug (i : Nat) (o : BOp) (e : M) (ρ : DEnv) : evS cf pins (.aug i o e) ρ = match getP (.sl i) ρ with
    | some (.int x) => toSR (bnd (evE cf pins e ρ) fun y ρ1 => match augI o x y with
      | some z => bnd (lft (asgI pins i (.int z) ρ1) ρ1) fun ρ3 _ => some (.ok ρ3 ρ3)
      | none => none)
    | _ => none := by
  rw [evS]
  try rfl
@[simp] theorem evS_seti (p : Pl) (i : M) (e : M) (ρ : DEnv) : evS cf pins (.seti p i e) ρ = toSR (bnd (evE cf pins e ρ) fun x ρ1 => bnd (lft (frzM e x) ρ1) fun x' ρ2 => match getP p ρ2 with
    | none => none
    | some _ => bnd (evE cf pins i ρ2) fun y ρ3 => match y, getP p ρ3 with
      | .int k, some (.acc ds) => match ixN ds.length k with
        | some j => if p.isSl || pureM i then some (.ok (putP p (.acc (ds.set j x')) ρ3) ρ3) else none
        | none => none
      | .int k, some (.box ds) => match ixN ds.length k with
        | some j => if (p.isSl || pureM i) && (ds[j]?.elim false fz) then some (.ok (putP p (.box (ds.set j x')) ρ3) ρ3) else none
        | none => none
      | _, _ => none) := by
  rw [evS]
  try rfl
@[simp] theorem evS_exp (e : M) (ρ : DEnv) : evS cf pins (.exp e) ρ = toSR (bnd (evE cf pins e ρ) fun _ ρ1 => some (.ok ρ1 ρ1)) := by
  rw [evS]
  try rfl
@[simp] theorem evS_app (p : Pl) (e : M) (ρ : DEnv) : evS cf pins (.app p e) ρ = match getP p ρ with
    | some (.acc _) => toSR (bnd (evE cf pins e ρ) fun x ρ1 => bnd (lft (frzM e x) ρ1) fun x' ρ2 => match getP p ρ2 with
      | some (.acc ds) => if ds.length < sizeLine ∧ (p.isSl || pureM e) = true then some (.ok (putP p (.acc (ds ++ [x'])) ρ2) ρ2) else none
      | _ => none)
    | _ => none := by
  rw [evS]
  try rfl
@[simp] theorem evS_ext (p : Pl) (e : M) (ρ : DEnv) : evS cf pins (.ext p e) ρ = match getP p ρ with
    | some (.acc _) => toSR (bnd (evE cf pins e ρ) fun x ρ1 => match extD x, getP p ρ1 with
      | some es, some (.acc ds) => if ds.length + es.length ≤ sizeLine ∧ (p.isSl || pureM e) = true then some (.ok (putP p (.acc (ds ++ es)) ρ1) ρ1) else none
      | _, _ => none)
    | _ => none := by
  rw [evS]
  try rfl
@[simp] theorem evS_rev (p : Pl) (ρ : DEnv) : evS cf pins (.rev p) ρ = match getP p ρ with
    | some (.acc ds) => some (.nx (putP p (.acc ds.reverse) ρ))
    | _ => none := by
  rw [evS]
  try rfl
@[simp] theorem evS_iff (t : M) (a : M) (b : M) (ρ : DEnv) : evS cf pins (.iff t a b) ρ = match evT cf pins t ρ with
    | some (.ok true ρ1) => evS cf pins a ρ1
    | some (.ok false ρ1) => evS cf pins b ρ1
    | some (.exc x ρ1) => some (.exc x ρ1)
    | none => none := by
  rw [evS]
  try rfl
@[simp] theorem evS_whl (t : M) (b : M) (ρ : DEnv) : evS cf pins (.whl t b) ρ = whM (evT cf pins t) (evS cf pins b) ρ := by
  rw [evS]
  try rfl
@[simp] theorem evS_for_ (tg : M) (it : M) (b : M) (ρ : DEnv) : evS cf pins (.for_ tg it b) ρ = match evI cf pins it ρ with
    | some (.ok ds ρ1) => forM (fun d ρ => match tgM pins tg d ρ with
      | some ρ2 => evS cf pins b ρ2
      | none => none) ds ρ1
    | some (.exc x ρ1) => some (.exc x ρ1)
    | none => none := by
  rw [evS]
  try rfl
@[simp] theorem evS_ret (e : M) (ρ : DEnv) : evS cf pins (.ret e) ρ = match bnd (evE cf pins e ρ) fun x ρ1 => lft (ownM e x) ρ1 with
    | some (.ok d ρ1) => some (.rt d ρ1)
    | some (.exc x ρ1) => some (.exc x ρ1)
    | none => none := by
  rw [evS]
  try rfl
@[simp] theorem evS_retn  (ρ : DEnv) : evS cf pins (.retn) ρ = some (.rt .non ρ) := by
  rw [evS]
  try rfl
@[simp] theorem evS_brk  (ρ : DEnv) : evS cf pins (.brk) ρ = some (.br ρ) := by
  rw [evS]
  try rfl
@[simp] theorem evS_cnt  (ρ : DEnv) : evS cf pins (.cnt) ρ = some (.ct ρ) := by
  rw [evS]
  try rfl
@[simp] theorem evS_pss  (ρ : DEnv) : evS cf pins (.pss) ρ = some (.nx ρ) := by
  rw [evS]
  try rfl
end
end L2.PV
set_option Elab.async false
set_option linter.all false
set_option autoImplicit false
/-! Values: small steps. -/
namespace L2.PV
open PySem PySem.Spec PyProof.Rows
/-- a call, its body told -/
theorem callM_of {T : List MFn} {k i : Nat} {fn : MFn} {ds : List D} (hT : T[i]? = some fn) (hl : ds.length = fn.ar) : callM T (k + 1) i ds = finC fn ds (evS (callM T k) fn.io fn.body (ds.map some ++ List.replicate (fn.sl - fn.ar) none)) := by
  rw [callM, hT]
  simp only [hl, if_true]
theorem log2_lt {n k : Nat} (h : n < 2 ^ k) (hk : 0 < k) : n.log2 < k := by
  by_cases h0 : n = 0
  · subst h0; rw [Nat.log2_zero]; exact hk
  · exact (Nat.log2_lt h0).mpr h
/-- of some hundred thousand figures at most -/
def Sm (i : Int) : Prop := i.natAbs < 2 ^ 400000
theorem p64 : (2 : Nat) ^ 64 ≤ 2 ^ 8000 := Nat.pow_le_pow_right (by decide) (by decide)
theorem sm_of {i : Int} (h : i.natAbs < 2 ^ 64) : Sm i := Nat.lt_of_lt_of_le h (Nat.pow_le_pow_right (by decide) (by decide))
@[simp] theorem binD_mul {i j : Int} (hi : Sm i) (hj : Sm j) : binD .mul (.int i) (.int j) = some (.int (i * j)) := by
  have h1 := log2_lt hi (by decide)
  have h2 := log2_lt hj (by decide)
  simp only [binD]
  rw [if_pos (by omega)]
@[simp] theorem binD_fdiv {i j : Int} (h : 0 < j) (hj : j.natAbs < 2 ^ 8000) : binD .fdiv (.int i) (.int j) = some (.int (i / j)) := by
  have h2 := log2_lt hj (by decide)
  simp only [binD]
  rw [if_pos ⟨h, by omega⟩]
@[simp] theorem binD_mod {i j : Int} (h : 0 < j) : binD .mod (.int i) (.int j) = some (.int (i % j)) := by
  simp only [binD]
  rw [if_pos h]
section
variable {pins : List Nat}
@[simp] theorem tgM_tgn (i : Nat) (d : D) (ρ : DEnv) : tgM pins (.tgn i) d ρ = asgI pins i d ρ := (rfl)
@[simp] theorem tgM_tgt (ts : M) (ds : List D) (ρ : DEnv) : tgM pins (.tgt ts) (.tup ds) ρ = tgsM pins ts ds ρ := (rfl)
@[simp] theorem tgsM_nil (ρ : DEnv) : tgsM pins .nil [] ρ = some ρ := (rfl)
@[simp] theorem tgsM_cons (t ts : M) (d : D) (ds : List D) (ρ : DEnv) : tgsM pins (.cons t ts) (d :: ds) ρ = match tgM pins t d ρ with
  | some ρ' => tgsM pins ts ds ρ'
  | none => none := by rw [tgsM] <;> rfl
@[simp] theorem asgI_ok {i : Nat} {d : D} {ρ : DEnv} (h : i ∉ pins) (h2 : i < ρ.length) : asgI pins i d ρ = some (ρ.set i (some d)) := by unfold asgI; rw [if_neg h, if_pos h2]
@[simp] theorem getP_sl (i : Nat) (ρ : DEnv) : getP (.sl i) ρ = ρ[i]?.join := by
  rw [getP]
  cases ρ[i]? with
  | none => rfl
  | some x => cases x <;> rfl
@[simp] theorem getP_it (p : Pl) (k : Nat) (ρ : DEnv) : getP (.it p k) ρ = match getP p ρ with
  | some (.box ds) => ds[k]?
  | _ => none := by rw [getP] <;> rfl
@[simp] theorem putP_sl (i : Nat) (d : D) (ρ : DEnv) : putP (.sl i) d ρ = ρ.set i (some d) := (rfl)
@[simp] theorem putP_it (p : Pl) (k : Nat) (d : D) (ρ : DEnv) : putP (.it p k) d ρ = match getP p ρ with
  | some (.box ds) => putP p (.box (ds.set k d)) ρ
  | _ => ρ := by rw [putP] <;> rfl
@[simp] theorem outs_nil (io : List Nat) (n : Nat) (ρ : DEnv) : outs io n ρ [] = some [] := by cases ρ <;> rfl
@[simp] theorem outs_cons (io : List Nat) (n : Nat) (s : Option D) (ρ : DEnv) (d : D) (ds : List D) : outs io n (s :: ρ) (d :: ds) = match (if n ∈ io then s else if fz d then some d else none), outs io (n + 1) ρ ds with
  | some d', some r => some (d' :: r)
  | _, _ => none := by rw [outs] <;> rfl
@[simp] theorem finC_rt (fn : MFn) (ds : List D) (d : D) (ρ : DEnv) : finC fn ds (some (.rt d ρ)) = (outs fn.io 0 ρ ds).map (.ok d) := (rfl)
@[simp] theorem finC_nx (fn : MFn) (ds : List D) (ρ : DEnv) : finC fn ds (some (.nx ρ)) = (outs fn.io 0 ρ ds).map (.ok .non) := (rfl)
@[simp] theorem parD_nil (ρ : DEnv) : parD pins [] [] ρ = some ρ := (rfl)
@[simp] theorem parD_cons (i : Nat) (is : List Nat) (d : D) (ds : List D) (ρ : DEnv) : parD pins (i :: is) (d :: ds) ρ = match asgI pins i d ρ with
  | some ρ' => parD pins is ds ρ'
  | none => none := by rw [parD] <;> rfl
@[simp] theorem toSR_ok (ρ ρ' : DEnv) : toSR (some (.ok ρ ρ')) = some (.nx ρ) := (rfl)
@[simp] theorem argD_nil (ρ : DEnv) : argD [] ρ = some [] := (rfl)
@[simp] theorem argD_inl (d : D) (gs : List (D ⊕ Nat)) (ρ : DEnv) : argD (.inl d :: gs) ρ = (argD gs ρ).map (d :: ·) := (rfl)
@[simp] theorem argD_inr' (i : Nat) (gs : List (D ⊕ Nat)) (ρ : DEnv) : argD (.inr i :: gs) ρ = match ρ[i]? with
  | some (some d) => if fz d then none else (argD gs (ρ.set i none)).map (d :: ·)
  | _ => none := by rw [argD] <;> rfl
theorem argD_inr {i : Nat} {d : D} {gs : List (D ⊕ Nat)} {ρ : DEnv} (h : ρ[i]? = some (some d)) (f : fz d = false) : argD (.inr i :: gs) ρ = (argD gs (ρ.set i none)).map (d :: ·) := by
  rw [argD, h]
  show (if fz d = true then none else (argD gs (ρ.set i none)).map (d :: ·)) = _
  rw [if_neg (by rw [f]; decide)]
@[simp] theorem backA_nil (ds : List D) (ρ : DEnv) : backA [] ds ρ = ρ := by cases ds <;> rfl
@[simp] theorem backA_inl (d d' : D) (gs : List (D ⊕ Nat)) (ds : List D) (ρ : DEnv) : backA (.inl d :: gs) (d' :: ds) ρ = backA gs ds ρ := (rfl)
@[simp] theorem backA_inr (i : Nat) (d' : D) (gs : List (D ⊕ Nat)) (ds : List D) (ρ : DEnv) : backA (.inr i :: gs) (d' :: ds) ρ = backA gs ds (ρ.set i (some d')) := (rfl)
@[simp] theorem callD_ok (d : D) (ds : List D) (gs : List (D ⊕ Nat)) (ρ : DEnv) : callD (some (.ok d ds)) gs ρ = some (.ok d (backA gs ds ρ)) := (rfl)
@[simp] theorem wipeD_nil (ρ : DEnv) : wipeD ρ [] = ρ := (rfl)
@[simp] theorem wipeD_cons (ρ : DEnv) (v : Nat) (vs : List Nat) : wipeD ρ (v :: vs) = (wipeD ρ vs).set v none := (rfl)
@[simp] theorem backD_nil (ρ0 ρ : DEnv) : backD ρ0 ρ [] = ρ := (rfl)
@[simp] theorem backD_cons (ρ0 ρ : DEnv) (v : Nat) (vs : List Nat) : backD ρ0 ρ (v :: vs) = (backD ρ0 ρ vs).set v (ρ0[v]?.join) := (rfl)
@[simp] theorem frzD_int (i : Int) : frzD (.int i) = some (.int i) := (rfl)
@[simp] theorem frzD_non : frzD .non = some .non := (rfl)
@[simp] theorem frzD_bl (b : Bool) : frzD (.bl b) = some (.bl b) := (rfl)
@[simp] theorem frzD_str (s : Str) : frzD (.str s) = some (.str s) := (rfl)
@[simp] theorem frzD_tup (ds : List D) : frzD (.tup ds) = some (.tup ds) := (rfl)
@[simp] theorem frzD_lst (ds : List D) : frzD (.lst ds) = some (.lst ds) := (rfl)
@[simp] theorem frzD_scr (ds : List D) : frzD (.scr ds) = some (.scr ds) := (rfl)
@[simp] theorem frzD_acc (ds : List D) : frzD (.acc ds) = some (.lst ds) := (rfl)
@[simp] theorem bok_fz {d : D} {b : M} (h : fz d = true) : bok d b = true := by unfold bok; rw [h]; rfl
@[simp] theorem pureM_pl (p : Pl) : pureM (.pl p) = true := (rfl)
@[simp] theorem pureM_con (d : D) : pureM (.con d) = true := (rfl)
@[simp] theorem pureM_glo (x : Str) (d : D) : pureM (.glo x d) = true := (rfl)
@[simp] theorem pureM_frv (i : Nat) : pureM (.frv i) = true := (rfl)
@[simp] theorem pureM_bin (o : BOp) (a b : M) : pureM (.bin o a b) = (pureM a && pureM b) := (rfl)
@[simp] theorem pureM_neg (a : M) : pureM (.neg a) = pureM a := (rfl)
@[simp] theorem pureM_lst (a : M) : pureM (.lst a) = pureM a := (rfl)
@[simp] theorem pureM_tup (a : M) : pureM (.tup a) = pureM a := (rfl)
@[simp] theorem pureM_nil : pureM .nil = true := (rfl)
@[simp] theorem pureM_no : pureM .no = true := (rfl)
@[simp] theorem pureM_cons (a b : M) : pureM (.cons a b) = (pureM a && pureM b) := (rfl)
@[simp] theorem pureM_seq (a : M) : pureM (.seq a) = pureM a := (rfl)
@[simp] theorem pureM_bi1 (k : BI) (a : M) : pureM (.bi1 k a) = pureM a := (rfl)
@[simp] theorem pureM_slc (a b c : M) : pureM (.slc a b c) = (pureM a && pureM b && pureM c) := (rfl)
@[simp] theorem pureM_idx (a b : M) : pureM (.idx a b) = (pureM a && pureM b) := (rfl)
@[simp] theorem bok_pu {d : D} {b : M} (h : pureM b = true) : bok d b = true := by unfold bok; rw [h]; exact Bool.or_true _
@[simp] theorem binD_fdiv64 {i j : Int} (h : 0 < j) (hj : j < 18446744073709551616) : binD .fdiv (.int i) (.int j) = some (.int (i / j)) := binD_fdiv h (Nat.lt_of_lt_of_le (show j.natAbs < 2 ^ 64 by omega) p64)
@[simp] theorem binD_addI (i j : Int) : binD .add (.int i) (.int j) = some (.int (i + j)) := (rfl)
@[simp] theorem binD_subI (i j : Int) : binD .sub (.int i) (.int j) = some (.int (i - j)) := (rfl)
end
end L2.PV
namespace L2.PV
theorem forM_inv {f : D → DEnv → Option SR} (P : Nat → DEnv → Prop) : ∀ {ds : List D} {ρ : DEnv}, P 0 ρ → (∀ i d ρ, ds[i]? = some d → P i ρ → ∃ ρ', f d ρ = some (.nx ρ') ∧ P (i + 1) ρ') → ∃ ρ', forM f ds ρ = some (.nx ρ') ∧ P ds.length ρ'
  | [], ρ, h, _ => ⟨ρ, rfl, h⟩
  | d :: ds, ρ, h, k => by
    obtain ⟨ρ1, e1, p1⟩ := k 0 d ρ rfl h
    obtain ⟨ρ2, e2, p2⟩ := forM_inv (fun i => P (i + 1)) (ds := ds) p1 fun i d' ρ' hd hp => k (i + 1) d' ρ' (by simpa using hd) hp
    exact ⟨ρ2, by rw [forM, e1]; exact e2, by simpa using p2⟩
theorem lcM_inv {f : D → DEnv → Option (RS (Option D))} (P : Nat → List D → DEnv → Prop) : ∀ {ds : List D} {acc : List D} {ρ : DEnv}, P 0 acc ρ → (∀ i d acc ρ, ds[i]? = some d → P i acc ρ → (∃ x ρ', f d ρ = some (.ok (some x) ρ') ∧ P (i + 1) (acc ++ [x]) ρ') ∨ (∃ ρ', f d ρ = some (.ok none ρ') ∧ P (i + 1) acc ρ')) →
    ∃ xs ρ', lcM f ds acc ρ = some (xs, ρ') ∧ P ds.length xs ρ'
  | [], acc, ρ, h, _ => ⟨acc, ρ, rfl, h⟩
  | d :: ds, acc, ρ, h, k => by
    rcases k 0 d acc ρ rfl h with ⟨x, ρ1, e1, p1⟩ | ⟨ρ1, e1, p1⟩
    · obtain ⟨xs, ρ2, e2, p2⟩ := lcM_inv (fun i => P (i + 1)) (ds := ds) p1 fun i d' acc' ρ' hd hp => k (i + 1) d' acc' ρ' (by simpa using hd) hp
      exact ⟨xs, ρ2, by rw [lcM, e1]; exact e2, by simpa using p2⟩
    · obtain ⟨xs, ρ2, e2, p2⟩ := lcM_inv (fun i => P (i + 1)) (ds := ds) p1 fun i d' acc' ρ' hd hp => k (i + 1) d' acc' ρ' (by simpa using hd) hp
      exact ⟨xs, ρ2, by rw [lcM, e1]; exact e2, by simpa using p2⟩
theorem take_succ_fold {α β : Type} (g : α → β → α) (a : α) {xs : List β} {i : Nat} {x : β} (h : xs[i]? = some x) : (xs.take (i + 1)).foldl g a = g ((xs.take i).foldl g a) x := by
  rw [List.take_add_one, h]; simp
theorem map_get {α : Type} {c : α → D} {xs : List α} {i : Nat} {d : D} (h : (xs.map c)[i]? = some d) : ∃ x, xs[i]? = some x ∧ d = c x := by
  rw [List.getElem?_map] at h
  obtain ⟨x, e, rfl⟩ := Option.map_eq_some_iff.mp h
  exact ⟨x, e, rfl⟩
end L2.PV
namespace L2.PV
open PySem PySem.Spec PyProof.Rows
section
variable {cf : Nat → List D → Option CR} {pins : List Nat}
theorem callM_rt {T : List MFn} {k i : Nat} {fn : MFn} {ds ds' : List D} {d : D} {ρ : DEnv} (hT : T[i]? = some fn) (hl : ds.length = fn.ar) (h : evS (callM T k) fn.io fn.body (ds.map some ++ List.replicate (fn.sl - fn.ar) none) = some (.rt d ρ)) (ho : outs fn.io 0 ρ ds = some ds') : callM T (k + 1) i ds = some (.ok d ds') := by
  rw [callM_of hT hl, h, finC_rt, ho]; rfl
theorem seq_nx {s t : M} {ρ ρ1 : DEnv} {r : Option SR} (h1 : evS cf pins s ρ = some (.nx ρ1)) (h2 : evS cf pins t ρ1 = r) : evS cf pins (.cons s t) ρ = r := by
  rw [evS, h1]; exact h2
theorem seq_rt {s t : M} {ρ ρ1 : DEnv} {d : D} (h1 : evS cf pins s ρ = some (.rt d ρ1)) : evS cf pins (.cons s t) ρ = some (.rt d ρ1) := by
  rw [evS, h1]
theorem seq_for {tg it b t : M} {ρ ρ1 : DEnv} {ds : List D} {r : Option SR} (P : Nat → DEnv → Prop) (hi : evI cf pins it ρ = some (.ok ds ρ1)) (h0 : P 0 ρ1)
    (hs : ∀ i d ρ, ds[i]? = some d → P i ρ → ∃ ρ2 ρ', tgM pins tg d ρ = some ρ2 ∧ evS cf pins b ρ2 = some (.nx ρ') ∧ P (i + 1) ρ') (hk : ∀ ρ', P ds.length ρ' → evS cf pins t ρ' = r) : evS cf pins (.cons (.for_ tg it b) t) ρ = r := by
  obtain ⟨ρ', e, p⟩ := forM_inv (f := fun d ρ => match tgM pins tg d ρ with | some ρ2 => evS cf pins b ρ2 | none => none) P h0 fun i d ρ hd hp => by
    obtain ⟨ρ2, ρ3, e1, e2, p⟩ := hs i d ρ hd hp
    refine ⟨ρ3, ?_, p⟩
    simp only [e1, e2]
  refine seq_nx (ρ1 := ρ') ?_ (hk ρ' p)
  rw [evS, hi]
  exact e
theorem seq_whl {t b rest : M} {ρ : DEnv} {r : Option SR} (W : Nat → DEnv → Prop) (J : DEnv → Prop) {n : Nat} (h0 : W n ρ)
    (hs : ∀ n ρ, W n ρ → (∃ ρ1, evT cf pins t ρ = some (.ok false ρ1) ∧ J ρ1) ∨ (∃ ρ1 ρ2 m, evT cf pins t ρ = some (.ok true ρ1) ∧ evS cf pins b ρ1 = some (.nx ρ2) ∧ m < n ∧ W m ρ2)) (hk : ∀ ρ', J ρ' → evS cf pins rest ρ' = r) : evS cf pins (.cons (.whl t b) rest) ρ = r := by
  have key : ∀ n ρ, W n ρ → ∃ ρ', evS cf pins (.whl t b) ρ = some (.nx ρ') ∧ J ρ' := by
    intro n
    induction n using Nat.strongRecOn with
    | ind n ih =>
      intro ρ w
      rcases hs n ρ w with ⟨ρ1, e, j⟩ | ⟨ρ1, ρ2, m, e1, e2, lt, w2⟩
      · exact ⟨ρ1, by rw [evS]; exact whM_false e, j⟩
      · obtain ⟨ρ', e, j⟩ := ih m lt ρ2 w2
        rw [evS] at e
        exact ⟨ρ', by rw [evS]; exact whM_nx e1 e2 e, j⟩
  obtain ⟨ρ', e, j⟩ := key n ρ h0
  exact seq_nx e (hk ρ' j)
theorem ev_lc {own : List Nat} {tg it cs elt : M} {ρ ρ1 : DEnv} {ds : List D} {P : Nat → List D → DEnv → Prop} (hi : evI cf pins it ρ = some (.ok ds ρ1)) (hl : ds.length ≤ sizeLine) (ho : ownFz ρ1 own = true) (h0 : P 0 [] (wipeD ρ1 own))
    (hs : ∀ i d acc ρ, ds[i]? = some d → P i acc ρ → ∃ ρ2 ρ3 c, tgM pins tg d ρ = some ρ2 ∧ evC cf pins cs ρ2 = some (.ok c ρ3) ∧
      if c = true then ∃ x x' ρ4, evE cf pins elt ρ3 = some (.ok x ρ4) ∧ frzM elt x = some x' ∧ P (i + 1) (acc ++ [x']) (wipeD ρ4 own) else P (i + 1) acc (wipeD ρ3 own)) :
    ∃ xs ρ2, evE cf pins (.lc own tg it cs elt) ρ = some (.ok (.acc xs) (backD ρ1 ρ2 own)) ∧ P ds.length xs ρ2 := by
  obtain ⟨xs, ρ', e, p⟩ := lcM_inv (f := fun d ρ => match tgM pins tg d ρ with
        | some ρ2 => bnd (evC cf pins cs ρ2) fun c ρ3 => match c with
          | true => bnd (evE cf pins elt ρ3) fun x ρ4 => bnd (lft (frzM elt x) ρ4) fun x' ρ5 => some (.ok (some x') (wipeD ρ5 own))
          | false => some (.ok none (wipeD ρ3 own))
        | none => none) P h0 fun i d acc ρ hd hp => by
    obtain ⟨ρ2, ρ3, c, e1, e2, h⟩ := hs i d acc ρ hd hp
    cases c with
    | true =>
      rw [if_pos rfl] at h
      obtain ⟨x, x', ρ4, e3, e4, p⟩ := h
      exact .inl ⟨x', wipeD ρ4 own, by simp only [e1, e2, bnd_ok, e3, e4, lft_some], p⟩
    | false =>
      rw [if_neg Bool.false_ne_true] at h
      exact .inr ⟨wipeD ρ3 own, by simp only [e1, e2, bnd_ok], h⟩
  refine ⟨xs, ρ', ?_, p⟩
  rw [evE, hi, bnd_ok, if_pos ⟨hl, ho⟩]
  generalize hF : lcM _ ds [] (wipeD ρ1 own) = q
  have hq : q = some (xs, ρ') := hF.symm.trans e
  rw [hq]
/-- two clauses over frozen things: the turns' values -/
theorem lc2_rows {own own1 : List Nat} {tg it1 tg1 elt : M} {E : DEnv} (hE : wipeD E own = E) (rows : D → List D) (ins : D → List D) (E1 : D → DEnv) :
    ∀ (ds acc : List D), (∀ d ∈ ds, tgM pins tg d E = some (E1 d) ∧ evI cf pins it1 (E1 d) = some (.ok (ins d) (E1 d)) ∧ wipeD (wipeD (E1 d) own1) own = E ∧ acc.length + (ds.map fun d => (ins d).length).sum ≤ sizeLine ∧
      ∀ acc : List D, lcM (fun d ρ => match tgM pins tg1 d ρ with
        | some ρ2 => bnd (evE cf pins elt ρ2) fun x ρ4 => bnd (lft (frzM elt x) ρ4) fun x' ρ5 => some (.ok (some x') (wipeD ρ5 own1))
        | none => none) (ins d) acc (wipeD (E1 d) own1) = some (acc ++ rows d, wipeD (E1 d) own1) ∧ (rows d).length = (ins d).length) →
    lc2M (fun d ρ => tgM pins tg d ρ) (fun ρ => evI cf pins it1 ρ) (fun d ρ => match tgM pins tg1 d ρ with
        | some ρ2 => bnd (evE cf pins elt ρ2) fun x ρ4 => bnd (lft (frzM elt x) ρ4) fun x' ρ5 => some (.ok (some x') (wipeD ρ5 own1))
        | none => none) own own1 ds acc E = some (acc ++ ds.flatMap rows, E)
  | [], acc, _ => by simp [lc2M]
  | d :: ds, acc, h => by
    obtain ⟨e1, e2, e3, e4, e5⟩ := h d (by simp)
    obtain ⟨e5, e6⟩ := e5 acc
    have hl : acc.length + (ins d).length ≤ sizeLine := by
      simp only [List.map_cons, List.sum_cons] at e4; omega
    rw [lc2M]
    simp only [e1, e2]
    rw [if_pos hl, e5]
    simp only [e3]
    rw [lc2_rows hE rows ins E1 ds (acc ++ rows d) fun d' hd' => by
      obtain ⟨f1, f2, f3, f4, f5⟩ := h d' (by simp [hd'])
      refine ⟨f1, f2, f3, ?_, f5⟩
      simp only [List.map_cons, List.sum_cons, List.length_append] at f4 ⊢
      omega]
    simp
/-- a block's end, whatever it is -/
def Run (cf : Nat → List D → Option CR) (pins : List Nat) (m : M) (ρ : DEnv) (K : SR → Prop) : Prop := ∃ r, evS cf pins m ρ = some r ∧ K r
variable {K : SR → Prop} {s t a b rest tg it e : M} {ρ ρ1 : DEnv} {ds : List D}
theorem run_nx (h1 : evS cf pins s ρ = some (.nx ρ1)) (h2 : Run cf pins t ρ1 K) : Run cf pins (.cons s t) ρ K := by
  obtain ⟨r, e, k⟩ := h2
  exact ⟨r, seq_nx h1 e, k⟩
theorem run_nil (h : K (.nx ρ)) : Run cf pins .nil ρ K := ⟨_, by rw [evS], h⟩
theorem run_rt {d : D} (h1 : evS cf pins s ρ = some (.rt d ρ1)) (h : K (.rt d ρ1)) : Run cf pins (.cons s t) ρ K := ⟨_, seq_rt h1, h⟩
theorem Run.imp {K' : SR → Prop} (h : Run cf pins s ρ K) (k : ∀ r, K r → K' r) : Run cf pins s ρ K' := by
  obtain ⟨r, e, q⟩ := h
  exact ⟨r, e, k r q⟩
/-- and then the rest -/
def Then (cf : Nat → List D → Option CR) (pins : List Nat) (t : M) (K : SR → Prop) : SR → Prop
  | .nx ρ => Run cf pins t ρ K
  | r => K r
theorem run_seq (h : Run cf pins s ρ (Then cf pins t K)) : Run cf pins (.cons s t) ρ K := by
  obtain ⟨r, e, k⟩ := h
  cases r with
  | nx ρ1 => exact run_nx e k
  | _ => exact ⟨_, by rw [evS, e], k⟩
theorem run_ift (ht : evT cf pins s ρ = some (.ok true ρ1)) (h : Run cf pins a ρ1 K) : Run cf pins (.iff s a b) ρ K := by
  obtain ⟨r, e, k⟩ := h
  exact ⟨r, by rw [evS, ht]; exact e, k⟩
theorem run_iff (ht : evT cf pins s ρ = some (.ok false ρ1)) (h : Run cf pins b ρ1 K) : Run cf pins (.iff s a b) ρ K := by
  obtain ⟨r, e, k⟩ := h
  exact ⟨r, by rw [evS, ht]; exact e, k⟩
theorem run_if {c : Bool} (ht : evT cf pins s ρ = some (.ok c ρ1)) (h1 : c = true → Run cf pins a ρ1 (Then cf pins t K)) (h2 : c = false → Run cf pins b ρ1 (Then cf pins t K)) : Run cf pins (.cons (.iff s a b) t) ρ K := by
  cases c with
  | true => exact run_seq (run_ift ht (h1 rfl))
  | false => exact run_seq (run_iff ht (h2 rfl))
theorem run_for (P : Nat → DEnv → Prop) (hi : evI cf pins it ρ = some (.ok ds ρ1)) (h0 : P 0 ρ1)
    (hs : ∀ i d ρ, ds[i]? = some d → P i ρ → ∃ ρ2, tgM pins tg d ρ = some ρ2 ∧ Run cf pins b ρ2 fun r => ∃ ρ', r = .nx ρ' ∧ P (i + 1) ρ') (hk : ∀ ρ', P ds.length ρ' → Run cf pins t ρ' K) : Run cf pins (.cons (.for_ tg it b) t) ρ K := by
  obtain ⟨ρ', e, p⟩ := forM_inv (f := fun d ρ => match tgM pins tg d ρ with | some ρ2 => evS cf pins b ρ2 | none => none) P h0 fun i d ρ hd hp => by
    obtain ⟨ρ2, e1, r, e2, ρ3, rfl, p⟩ := hs i d ρ hd hp
    refine ⟨ρ3, ?_, p⟩
    simp only [e1, e2]
  refine run_nx (ρ1 := ρ') ?_ (hk ρ' p)
  rw [evS, hi]
  exact e
theorem run_whl (W : Nat → DEnv → Prop) (J : DEnv → Prop) {n : Nat} (h0 : W n ρ)
    (hs : ∀ n ρ, W n ρ → (∃ ρ1, evT cf pins s ρ = some (.ok false ρ1) ∧ J ρ1) ∨ (∃ ρ1, evT cf pins s ρ = some (.ok true ρ1) ∧ Run cf pins b ρ1 fun r => ∃ ρ2 m, r = .nx ρ2 ∧ m < n ∧ W m ρ2)) (hk : ∀ ρ', J ρ' → Run cf pins rest ρ' K) : Run cf pins (.cons (.whl s b) rest) ρ K := by
  have key : ∀ n ρ, W n ρ → ∃ ρ', evS cf pins (.whl s b) ρ = some (.nx ρ') ∧ J ρ' := by
    intro n
    induction n using Nat.strongRecOn with
    | ind n ih =>
      intro ρ w
      rcases hs n ρ w with ⟨ρ1, e, j⟩ | ⟨ρ1, e1, r, e2, ρ2, m, rfl, lt, w2⟩
      · exact ⟨ρ1, by rw [evS]; exact whM_false e, j⟩
      · obtain ⟨ρ', e, j⟩ := ih m lt ρ2 w2
        rw [evS] at e
        exact ⟨ρ', by rw [evS]; exact whM_nx e1 e2 e, j⟩
  obtain ⟨ρ', e, j⟩ := key n ρ h0
  exact run_nx e (hk ρ' j)
/-- a def by its body -/
theorem callM_run {T : List MFn} {k i : Nat} {fn : MFn} {ds : List D} {Q : D → List D → Prop} (hT : T[i]? = some fn) (hl : ds.length = fn.ar)
    (h : Run (callM T k) fn.io fn.body (ds.map some ++ List.replicate (fn.sl - fn.ar) none) fun r => ∃ d ds', finC fn ds (some r) = some (.ok d ds') ∧ Q d ds') : ∃ d ds', callM T (k + 1) i ds = some (.ok d ds') ∧ Q d ds' := by
  obtain ⟨r, e, d, ds', e2, q⟩ := h
  exact ⟨d, ds', by rw [callM_of hT hl, e]; exact e2, q⟩
theorem callM_is {T : List MFn} {k i : Nat} {fn : MFn} {ds ds' : List D} {d : D} (hT : T[i]? = some fn) (hl : ds.length = fn.ar)
    (h : Run (callM T k) fn.io fn.body (ds.map some ++ List.replicate (fn.sl - fn.ar) none) fun r => finC fn ds (some r) = some (.ok d ds')) : callM T (k + 1) i ds = some (.ok d ds') := by
  obtain ⟨r, e, e2⟩ := h
  rw [callM_of hT hl, e]; exact e2
end
end L2.PV
set_option Elab.async false
set_option linter.all false
set_option autoImplicit false
/-! Equality of rows of numbers; the end of a row. -/
namespace L2.PV
open PySem PySem.Spec PyProof.Rows
theorem toPys_ints : ∀ ns : List Int, toPys (ns.map .int) = some (ns.map .int)
  | [] => rfl
  | n :: ns => by
    show (match toPy (.int n), toPys (ns.map .int) with | some x, some xs => some (x :: xs) | _, _ => none) = _
    rw [toPys_ints ns]; rfl
theorem lay_ints : ∀ ns : List Int, PyData.canLayAll0 (ns.map .int) = true
  | [] => rfl
  | n :: ns => by rw [List.map_cons, PyData.canLayAll0, lay_ints ns]; rfl
theorem dep_ints : ∀ ns : List Int, PyData.depthAll (ns.map .int) ≤ 1
  | [] => by decide
  | n :: ns => by
    rw [List.map_cons, PyData.depthAll]
    have := dep_ints ns
    have h : PyData.depth (.int n) ≤ 1 := by rw [PyData.depth] <;> first | decide | (intros; simp)
    omega
theorem eqv_ints : ∀ ns ms : List Int, PyData.eqvAll (ns.map .int) (ms.map .int) = decide (ns = ms)
  | [], [] => rfl
  | [], m :: ms => rfl
  | n :: ns, [] => rfl
  | n :: ns, m :: ms => by
    rw [List.map_cons, List.map_cons, PyData.eqvAll, eqv_ints ns ms, PyData.eqv]
    by_cases h : n = m <;> by_cases k : ns = ms <;> simp [h, k]
theorem shaped_l (ns : List Int) : SeqAt.shaped (.list (ns.map .int)) = true := by
  unfold SeqAt.shaped
  rw [PyData.canLay0, lay_ints, PyData.depth]
  have := dep_ints ns
  rw [decide_eq_true (by omega)]; rfl
theorem shaped_t (ns : List Int) : SeqAt.shaped (.tuple (ns.map .int)) = true := by
  unfold SeqAt.shaped
  rw [PyData.canLay0, lay_ints, PyData.depth]
  have := dep_ints ns
  rw [decide_eq_true (by omega)]; rfl
theorem toPy_acc (ns : List Int) : toPy (.acc (ns.map .int)) = some (.list (ns.map .int)) := by rw [toPy, toPys_ints]; rfl
theorem toPy_lst (ns : List Int) : toPy (.lst (ns.map .int)) = some (.list (ns.map .int)) := by rw [toPy, toPys_ints]; rfl
theorem toPy_tup (ns : List Int) : toPy (.tup (ns.map .int)) = some (.tuple (ns.map .int)) := by rw [toPy, toPys_ints]; rfl
theorem eqD_of {x y : D} {a b : PyData} (hx : toPy x = some a) (hy : toPy y = some b) (sa : SeqAt.shaped a = true) (sb : SeqAt.shaped b = true) (n1 : ∀ i, x ≠ .int i) (n2 : ∀ i, x ≠ .str i) (n3 : ∀ i, x ≠ .bl i) : eqD x y = some (PyData.eqv a b) := by
  unfold eqD
  split
  · exact absurd rfl (n1 _)
  · exact absurd rfl (n2 _)
  · exact absurd rfl (n3 _)
  · rw [hx, hy]
    simp only [sa, sb, Bool.and_self, if_true]
theorem eqD_acc (ns ms : List Int) : eqD (.acc (ns.map .int)) (.acc (ms.map .int)) = some (decide (ns = ms)) := by
  rw [eqD_of (toPy_acc ns) (toPy_acc ms) (shaped_l ns) (shaped_l ms) (fun _ h => nomatch h) (fun _ h => nomatch h) (fun _ h => nomatch h), PyData.eqv, eqv_ints]
theorem eqD_lst (ns ms : List Int) : eqD (.lst (ns.map .int)) (.acc (ms.map .int)) = some (decide (ns = ms)) := by
  rw [eqD_of (toPy_lst ns) (toPy_acc ms) (shaped_l ns) (shaped_l ms) (fun _ h => nomatch h) (fun _ h => nomatch h) (fun _ h => nomatch h), PyData.eqv, eqv_ints]
@[simp] theorem ne_nil_acc (ns : List Int) : cmpD .ne (.acc (ns.map .int)) (.acc []) = some (!decide (ns = [])) := by
  have := eqD_acc ns []
  simp only [List.map_nil] at this
  simp only [cmpD, this, Option.map_some]
@[simp] theorem ne_nil_lst (ns : List Int) : cmpD .ne (.lst (ns.map .int)) (.acc []) = some (!decide (ns = [])) := by
  have := eqD_lst ns []
  simp only [List.map_nil] at this
  simp only [cmpD, this, Option.map_some]
@[simp] theorem ne_nil0 : cmpD .ne (.acc []) (.acc []) = some false := ne_nil_acc []
@[simp] theorem ne_nil1 (ns : List Int) (n : Int) : cmpD .ne (.acc (ns.map .int ++ [.int n])) (.acc []) = some true := by
  have := ne_nil_acc (ns ++ [n])
  simpa using this
theorem snoc_cases (cs : List Int) : cs = [] ∨ ∃ xs x, cs = xs ++ [x] := by
  rcases List.eq_nil_or_concat cs with h | ⟨xs, x, h⟩
  · exact .inl h
  · exact .inr ⟨xs, x, by simpa using h⟩
@[simp] theorem cmpD_eqI (i j : Int) : cmpD .eq (.int i) (.int j) = some (i == j) := (rfl)
@[simp] theorem cmpD_neI (i j : Int) : cmpD .ne (.int i) (.int j) = some (!(i == j)) := (rfl)
@[simp] theorem cmpD_ltI (i j : Int) : cmpD .lt (.int i) (.int j) = some (decide (i < j)) := (rfl)
@[simp] theorem cmpD_leI (i j : Int) : cmpD .le (.int i) (.int j) = some (decide (i ≤ j)) := (rfl)
@[simp] theorem cmpD_gtI (i j : Int) : cmpD .gt (.int i) (.int j) = some (decide (j < i)) := (rfl)
@[simp] theorem cmpD_geI (i j : Int) : cmpD .ge (.int i) (.int j) = some (decide (j ≤ i)) := (rfl)
theorem atI_nn {α : Type} {xs : List α} {i : Nat} {x : α} (h : xs[i]? = some x) : atI xs (i : Int) = some x := atI_nat h
theorem atI_last {α : Type} (xs : List α) (x : α) : atI (xs ++ [x]) (-1) = some x := by
  unfold atI ixN
  have h1 : ¬ (0 : Int) ≤ -1 := by decide
  rw [if_neg h1, if_pos (by simp; omega)]
  show (xs ++ [x])[((-1 : Int) + ((xs ++ [x]).length : Nat)).toNat]? = some x
  have : ((-1 : Int) + ((xs ++ [x]).length : Nat)).toNat = xs.length := by simp; omega
  rw [this]; simp
@[simp] theorem lenD_tup (ds : List D) : lenD (.tup ds) = some ds.length := (rfl)
@[simp] theorem lenD_lst (ds : List D) : lenD (.lst ds) = some ds.length := (rfl)
@[simp] theorem lenD_acc (ds : List D) : lenD (.acc ds) = some ds.length := (rfl)
@[simp] theorem lenD_scr (ds : List D) : lenD (.scr ds) = some ds.length := (rfl)
@[simp] theorem idxD_tup (ds : List D) (i : Int) : idxD (.tup ds) (.int i) = atI ds i := (rfl)
@[simp] theorem idxD_lst (ds : List D) (i : Int) : idxD (.lst ds) (.int i) = atI ds i := (rfl)
@[simp] theorem idxD_acc (ds : List D) (i : Int) : idxD (.acc ds) (.int i) = atI ds i := (rfl)
@[simp] theorem seqD_tup (ds : List D) : seqD (.tup ds) = some ds := (rfl)
@[simp] theorem seqD_lst (ds : List D) : seqD (.lst ds) = some ds := (rfl)
@[simp] theorem seqD_acc (ds : List D) : seqD (.acc ds) = some ds := (rfl)
@[simp] theorem seqD_scr (ds : List D) : seqD (.scr ds) = some ds := (rfl)
@[simp] theorem bi1D_intI (i : Int) : bi1D .int (.int i) = some (.int i) := (rfl)
@[simp] theorem bi1D_abs (i : Int) : bi1D .abs (.int i) = some (.int (if i < 0 then -i else i)) := (rfl)
@[simp] theorem bi1D_len (d : D) : bi1D .len d = (lenD d).map .int := by cases d <;> rfl
@[simp] theorem bi1D_tuple (d : D) : bi1D .tuple d = (seqD d).map .tup := by cases d <;> rfl
@[simp] theorem bi1D_list (d : D) : bi1D .list d = (seqD d).map .acc := by cases d <;> rfl
def rgN (n : Nat) : List D := (List.range n).map fun (i : Nat) => D.int (i : Int)
@[simp] theorem rgN_len (n : Nat) : (rgN n).length = n := by simp [rgN]
theorem rgD_nat {n : Nat} (h : n ≤ 16777216) : rgD 0 (n : Int) = some (rgN n) := by
  unfold rgD rgN
  rw [if_pos (by omega)]
  simp
theorem rgN_get {n i : Nat} {d : D} (h : (rgN n)[i]? = some d) : i < n ∧ d = .int (i : Int) := by
  unfold rgN at h
  rw [List.getElem?_map] at h
  obtain ⟨j, e, rfl⟩ := Option.map_eq_some_iff.mp h
  have hi := (List.getElem?_eq_some_iff.mp e).1
  have ej := (List.getElem?_eq_some_iff.mp e).2
  simp at hi ej
  exact ⟨hi, by rw [ej]⟩
@[simp] theorem then_rt (cf : Nat → List D → Option CR) (pins : List Nat) (t : M) (K : SR → Prop) (d : D) (ρ : DEnv) : Then cf pins t K (.rt d ρ) = K (.rt d ρ) := (rfl)
@[simp] theorem then_nx (cf : Nat → List D → Option CR) (pins : List Nat) (t : M) (K : SR → Prop) (ρ : DEnv) : Then cf pins t K (.nx ρ) = Run cf pins t ρ K := (rfl)
theorem cut_to {α : Type} (xs : List α) (k : Nat) : cutG xs none (some (k : Int)) = xs.take k := by
  unfold cutG
  rw [HT.sIx_none, HT.sIx_nat, List.drop_zero, Nat.sub_zero]
  by_cases h : k ≤ xs.length
  · rw [Nat.min_eq_left h]
  · rw [Nat.min_eq_right (by omega), List.take_of_length_le (Nat.le_refl _), List.take_of_length_le (by omega)]
theorem cut_from {α : Type} (xs : List α) (k : Nat) : cutG xs (some (k : Int)) none = xs.drop k := by
  unfold cutG
  rw [HT.sIx_none, HT.sIx_nat]
  by_cases h : k ≤ xs.length
  · rw [Nat.min_eq_left h, List.take_of_length_le (by simp)]
  · rw [Nat.min_eq_right (by omega), List.drop_of_length_le (Nat.le_refl _), List.drop_of_length_le (by omega)]; simp
theorem cut_last {α : Type} (xs : List α) : cutG xs none (some (-1)) = xs.dropLast := by
  have h : HT.sIx xs.length xs.length (some (-1)) = xs.length - 1 := by
    show (if (-1 : Int) < 0 then ((-1 : Int) + (xs.length : Int)).toNat else min (-1 : Int).toNat xs.length) = _
    rw [if_pos (by decide)]; omega
  unfold cutG
  rw [h, HT.sIx_none, List.drop_zero, Nat.sub_zero, List.dropLast_eq_take]
theorem sz : sizeLine = 16777216 := rfl
theorem Sm.le {i j : Int} (h : Sm j) (k : i.natAbs ≤ j.natAbs) : Sm i := Nat.lt_of_le_of_lt k h
end L2.PV
set_option Elab.async false
set_option linter.all false
set_option autoImplicit false
set_option maxRecDepth 100000
set_option maxHeartbeats 0
/-! What the laws' own helpers do, over any table of defs. -/
namespace L2.PV
open PySem PySem.Spec PyProof.Rows
def In (m : Int) (i : Int) : Prop := 0 ≤ i ∧ i < m
theorem In.sm {m i : Int} (h : In m i) (hm : m ≤ 2 ^ 63) : Sm i := sm_of (by have := h.1; have := h.2; omega)
def dl (cs : List Int) (m : Int) : D := .box [.acc (cs.map .int), .int m]
structure DOk (cs : List Int) (m : Int) : Prop where
  c : ∀ c ∈ cs, 0 ≤ c ∧ Sm c
  m : In 2147483647 m
  l : cs.length ≤ 63
@[simp] theorem fz_dl (cs : List Int) (m : Int) : fz (dl cs m) = false := (rfl)
section
variable {T : List MFn} {i0 : Nat}
def bAny1 : M := (.cons (.whl (.band (.cmp .ne (.pl (.it (.sl 0) 0)) (.lst .nil)) (.bone (.cmp .eq (.idx (.pl (.it (.sl 0) 0)) (.neg (.con (.int 1)))) (.con (.int 0))))) (.cons (.exp (.pop (.it (.sl 0) 0))) .nil)) (.cons (.iff (.cmp .ne (.pl (.it (.sl 0) 0)) (.lst .nil)) (.cons (.asg (.tgn 2) (.bi1 .int (.pop (.it (.sl 0) 0)))) (.cons (.app (.it (.sl 0) 0) (.bin .fdiv (.pl (.sl 2)) (.pl (.sl 1)))) (.cons (.ret (.bin .mod (.pl (.sl 2)) (.pl (.sl 1)))) .nil))) .nil) (.cons (.seti (.sl 0) (.con (.int 1)) (.bin .mod (.bi1 .int (.bin .add (.bin .mul (.pl (.it (.sl 0) 1)) (.con (.int 48271))) (.con (.int 31)))) (.con (.int 2147483647)))) (.cons (.ret (.bin .mod (.bi1 .int (.bin .fdiv (.pl (.it (.sl 0) 1)) (.con (.int 64)))) (.pl (.sl 1)))) .nil))))
theorem g_any1 (hT : T[i0]? = some ⟨2, 3, [0], bAny1⟩) (k : Nat) {cs : List Int} {m b : Int} (h : DOk cs m) (hb : 0 < b) (hb2 : b < 18446744073709551616) : ∃ r cs' m', DOk cs' m' ∧ In b r ∧ callM T (k + 1) i0 [dl cs m, .int b] = some (.ok (.int r) [dl cs' m', .int b]) := by
  have key := callM_run (T := T) (k := k) (i := i0) (fn := ⟨2, 3, [0], bAny1⟩) (ds := [dl cs m, .int b]) (Q := fun d ds' => ∃ r cs' m', DOk cs' m' ∧ In b r ∧ d = .int r ∧ ds' = [dl cs' m', .int b]) hT rfl ?_
  · obtain ⟨d, ds', e, r, cs', m', h1, h2, rfl, rfl⟩ := key
    exact ⟨r, cs', m', h1, h2, e⟩
  show Run _ [0] bAny1 [some (dl cs m), some (.int b), none] _
  refine run_whl (fun n ρ => ∃ cs, n = cs.length ∧ DOk cs m ∧ ρ = [some (dl cs m), some (.int b), none]) (fun ρ => ∃ cs, DOk cs m ∧ ρ = [some (dl cs m), some (.int b), none]) (n := cs.length) ⟨cs, rfl, h, rfl⟩ ?_ ?_
  · rintro n ρ ⟨cs, rfl, h, rfl⟩
    rcases snoc_cases cs with rfl | ⟨xs, x, rfl⟩
    · exact .inl ⟨[some (dl [] m), some (.int b), none], by simp [dl], [], h, rfl⟩
    · by_cases hx : x = 0
      · refine .inr ⟨[some (dl (xs ++ [x]) m), some (.int b), none], ?_, ?_⟩
        · simp [dl, atI_last, hx]
        · refine run_nx (ρ1 := [some (dl xs m), some (.int b), none]) (by simp [dl]) (run_nil ⟨_, xs.length, rfl, by simp, xs, rfl, ⟨fun c hc => h.c c (List.mem_append_left _ hc), h.m, by have := h.l; simp at this; omega⟩, rfl⟩)
      · refine .inl ⟨[some (dl (xs ++ [x]) m), some (.int b), none], ?_, _, h, rfl⟩
        simp [dl, atI_last, hx]
  · rintro ρ ⟨cs, h, rfl⟩
    rcases snoc_cases cs with rfl | ⟨xs, x, rfl⟩
    · refine run_if (c := false) (ρ1 := [some (dl [] m), some (.int b), none]) (by simp [dl]) (fun z => nomatch z) fun _ => run_nil ?_
      have sm : Sm m := h.m.sm (by decide)
      have s2 : Sm 48271 := sm_of (by decide)
      obtain ⟨m', em⟩ : ∃ m' : Int, m' = (m * 48271 + 31) % 2147483647 := ⟨_, rfl⟩
      have hm' : In 2147483647 m' := by rw [em]; exact ⟨Int.emod_nonneg _ (by decide), Int.emod_lt_of_pos _ (by decide)⟩
      refine run_nx (ρ1 := [some (dl [] m'), some (.int b), none]) (by simp [dl, sm, s2, ixN, Pl.isSl, em]) ?_
      exact run_rt (d := .int (m' / 64 % b)) (ρ1 := [some (dl [] m'), some (.int b), none]) (by simp [dl, hb]) ⟨.int (m' / 64 % b), [dl [] m', .int b], by simp, _, [], m', ⟨fun c hc => (nomatch hc), hm', by simp⟩, ⟨Int.emod_nonneg _ (by omega), Int.emod_lt_of_pos _ hb⟩, rfl, rfl⟩
    · have hx := h.c x (by simp)
      refine run_if (c := true) (ρ1 := [some (dl (xs ++ [x]) m), some (.int b), none]) (by simp [dl]) (fun _ => ?_) fun z => nomatch z
      refine run_nx (ρ1 := [some (dl xs m), some (.int b), some (.int x)]) (by simp [dl]) ?_
      have hd : (x / b).natAbs ≤ x.natAbs := by
        have := Int.ediv_le_self b hx.1
        have := Int.ediv_nonneg hx.1 (Int.le_of_lt hb)
        omega
      have hf : xs.length < sizeLine := by
        have := h.l
        have h2 : sizeLine = 16777216 := rfl
        simp at this; omega
      refine run_nx (ρ1 := [some (dl (xs ++ [x / b]) m), some (.int b), some (.int x)]) (by simp [dl, hb, hb2, Pl.isSl, hf]) ?_
      refine run_rt (d := .int (x % b)) (ρ1 := [some (dl (xs ++ [x / b]) m), some (.int b), some (.int x)]) (by simp [dl, hb]) ⟨.int (x % b), [dl (xs ++ [x / b]) m, .int b], by simp, x % b, xs ++ [x / b], m, ⟨fun c hc => ?_, h.m, by have := h.l; simp at this ⊢; omega⟩, ⟨Int.emod_nonneg _ (by omega), Int.emod_lt_of_pos _ hb⟩, rfl, rfl⟩
      rcases List.mem_append.mp hc with z | z
      · exact h.c c (List.mem_append_left _ z)
      · rw [List.mem_singleton.mp z]
        exact ⟨Int.ediv_nonneg hx.1 (Int.le_of_lt hb), hx.2.le hd⟩
def bOf (j : Nat) : M := (.cons (.ret (.idx (.pl (.sl 1)) (.call j (.cons (.io 0) (.cons (.bi1 .len (.pl (.sl 1))) .nil))))) .nil)
/-- what a drawing def promises -/
def AnyOk (T : List MFn) (k j : Nat) : Prop := ∀ {cs : List Int} {m b : Int}, DOk cs m → 0 < b → b < 18446744073709551616 → ∃ r cs' m', DOk cs' m' ∧ In b r ∧ callM T k j [dl cs m, .int b] = some (.ok (.int r) [dl cs' m', .int b])
theorem g_of {j : Nat} (hT : T[i0]? = some ⟨2, 2, [0], bOf j⟩) (k : Nat) (any : AnyOk T k j) {cs : List Int} {m : Int} (h : DOk cs m) {s : D} {xs : List D} (fs : fz s = true) (qs : lenD s = some xs.length) (is : ∀ i, idxD s (.int i) = atI xs i) (hx : xs ≠ []) (hl : xs.length < 16777217) :
    ∃ x cs' m', x ∈ xs ∧ DOk cs' m' ∧ callM T (k + 1) i0 [dl cs m, s] = some (.ok x [dl cs' m', s]) := by
  have hp : 0 < xs.length := List.length_pos_iff.mpr hx
  obtain ⟨r, cs', m', ok, hr, c⟩ := any h (b := (xs.length : Int)) (by omega) (by omega)
  obtain ⟨n, rfl⟩ := Int.eq_ofNat_of_zero_le hr.1
  have hn : n < xs.length := by have := hr.2; omega
  have e : xs[n]? = some xs[n] := by simp [hn]
  refine ⟨xs[n], cs', m', List.getElem_mem hn, ok, callM_is (fn := ⟨2, 2, [0], bOf j⟩) hT rfl ?_⟩
  show Run _ [0] (bOf j) [some (dl cs m), some s] _
  exact run_rt (d := xs[n]) (ρ1 := [some (dl cs' m'), some s]) (by simp [bOf, qs, fs, c, is, atI_nn e]) (by simp [fs])
def bDeal : M := (.cons (.asg (.tgn 2) (.bin .mul (.bin .mul (.bin .mul (.bin .mul (.bin .mul (.bin .pow (.con (.int 10)) (.con (.int 64))) (.bin .pow (.con (.int 10)) (.con (.int 64)))) (.bin .pow (.con (.int 10)) (.con (.int 64)))) (.bin .pow (.con (.int 10)) (.con (.int 64)))) (.bin .pow (.con (.int 10)) (.con (.int 64)))) (.bin .pow (.con (.int 10)) (.con (.int 64))))) (.cons (.asg (.tgn 3) (.lc [5] (.tgn 5) (.seq (.slc (.pl (.sl 0)) .no (.seq (.con (.int 63))))) .nil (.bin .mod (.bi1 .int (.bi1 .abs (.bi1 .int (.pl (.sl 5))))) (.pl (.sl 2))))) (.cons (.asg (.tgn 4) (.bin .add (.con (.int 70001)) (.bin .mul (.con (.int 7919)) (.pl (.sl 1))))) (.cons (.for_ (.tgn 5) (.seq (.frv 3)) (.cons (.asg (.tgn 4) (.bin .mod (.bi1 .int (.bin .add (.bin .add (.bin .mul (.pl (.sl 4)) (.con (.int 69621))) (.bin .mod (.bi1 .int (.pl (.sl 5))) (.con (.int 2147483563)))) (.con (.int 23)))) (.con (.int 2147483647)))) .nil)) (.cons (.ret (.box (.cons (.rvs (.lc [5] (.tgn 5) (.seq (.frv 3)) (.cons (.cmp .ge (.pl (.sl 5)) (.bin .pow (.con (.int 10)) (.con (.int 18)))) .nil) (.pl (.sl 5)))) (.cons (.pl (.sl 4)) .nil)))) .nil)))))
theorem g_deal (hT : T[i0]? = some ⟨2, 6, [], bDeal⟩) (k : Nat) {ns : List Int} (hl : ns.length ≤ 63) {salt : Int} (hs : In 1000 salt) : ∃ cs m, DOk cs m ∧ callM T (k + 1) i0 [scrD ns, .int salt] = some (.ok (dl cs m) [scrD ns, .int salt]) := by
  have key := callM_run (T := T) (k := k) (i := i0) (fn := ⟨2, 6, [], bDeal⟩) (ds := [scrD ns, .int salt]) (Q := fun d ds' => ∃ cs m, DOk cs m ∧ d = dl cs m ∧ ds' = [scrD ns, .int salt]) hT rfl ?_
  · obtain ⟨d, ds', e, cs, m, h1, rfl, rfl⟩ := key
    exact ⟨cs, m, h1, e⟩
  show Run _ [] bDeal [some (scrD ns), some (.int salt), none, none, none, none] _
  obtain ⟨E, hE⟩ : ∃ E : Int, E = 10 ^ 64 := ⟨_, rfl⟩
  have pw : binD .pow (.int 10) (.int 64) = some (.int E) := by
    rw [hE]; simp only [binD]; rw [if_pos (by decide)]; rfl
  have s1 : Sm E := by rw [hE]; unfold Sm; decide +kernel
  have s2 : Sm (E * E) := by rw [hE]; unfold Sm; decide +kernel
  have s3 : Sm (E * E * E) := by rw [hE]; unfold Sm; decide +kernel
  have s4 : Sm (E * E * E * E) := by rw [hE]; unfold Sm; decide +kernel
  have s5 : Sm (E * E * E * E * E) := by rw [hE]; unfold Sm; decide +kernel
  have s6 : Sm (E * E * E * E * E * E) := by rw [hE]; unfold Sm; decide +kernel
  have p6 : 0 < E * E * E * E * E * E := by rw [hE]; decide +kernel
  refine run_nx (ρ1 := [some (scrD ns), some (.int salt), some (.int (E * E * E * E * E * E)), none, none, none]) (by simp [pw, s1, s2, s3, s4, s5]) ?_
  clear hE pw s1 s2 s3 s4 s5
  generalize E * E * E * E * E * E = B at *
  have hcut : cutG (ns.map D.int) none (some 63) = ns.map D.int := by
    have := cut_to (ns.map D.int) 63
    rw [show ((63 : Nat) : Int) = 63 from rfl] at this
    rw [this, List.take_of_length_le (by simpa using hl)]
  obtain ⟨xs, ρ2, e, cs, r1, r2, r3, rfl⟩ := ev_lc (cf := callM T k) (pins := []) (own := [5]) (tg := .tgn 5) (it := .seq (.slc (.pl (.sl 0)) .no (.seq (.con (.int 63))))) (cs := .nil) (elt := .bin .mod (.bi1 .int (.bi1 .abs (.bi1 .int (.pl (.sl 5))))) (.pl (.sl 2)))
      (ρ := [some (scrD ns), some (.int salt), some (.int B), none, none, none]) (ρ1 := [some (scrD ns), some (.int salt), some (.int B), none, none, none]) (ds := ns.map .int)
      (P := fun i acc ρ => ∃ cs : List Int, cs.length = i ∧ acc = cs.map D.int ∧ (∀ c ∈ cs, 0 ≤ c ∧ Sm c) ∧ ρ = [some (scrD ns), some (.int salt), some (.int B), none, none, none])
      (by simp [scrD, slcD, hcut]) (by rw [sz]; simp; omega) rfl ⟨[], rfl, rfl, fun r hr => (nomatch hr), rfl⟩ (by
        rintro i d acc ρ hd ⟨rs, rfl, rfl, hr, rfl⟩
        obtain ⟨c, ec, rfl⟩ := map_get hd
        refine ⟨[some (scrD ns), some (.int salt), some (.int B), none, none, some (.int c)], [some (scrD ns), some (.int salt), some (.int B), none, none, some (.int c)], true, by simp, by simp, ?_⟩
        rw [if_pos rfl]
        refine ⟨.int ((if c < 0 then -c else c) % B), .int ((if c < 0 then -c else c) % B), [some (scrD ns), some (.int salt), some (.int B), none, none, some (.int c)], by simp [p6], by simp, rs ++ [(if c < 0 then -c else c) % B], by simp, by simp, fun x hx => ?_, by simp⟩
        rcases List.mem_append.mp hx with z | z
        · exact hr x z
        · rw [List.mem_singleton.mp z]
          have h1 := Int.emod_nonneg (if c < 0 then -c else c) (show B ≠ 0 by omega)
          have h2 := Int.emod_lt_of_pos (if c < 0 then -c else c) p6
          exact ⟨h1, s6.le (by omega)⟩)
  rw [List.length_map] at r1
  refine run_nx (ρ1 := [some (scrD ns), some (.int salt), some (.int B), some (.acc (cs.map .int)), none, none]) (by simp [e, r2]) ?_
  refine run_nx (ρ1 := [some (scrD ns), some (.int salt), some (.int B), some (.acc (cs.map .int)), some (.int (70001 + 7919 * salt)), none]) (by simp [sm_of, hs.sm (by decide)]) ?_
  refine run_for (fun i ρ => ∃ (m : Int) (z : Option D), In 2147483647 m ∧ (z = none ∨ ∃ c, z = some (.int c)) ∧ ρ = [some (scrD ns), some (.int salt), some (.int B), some (.lst (cs.map .int)), some (.int m), z]) (ds := cs.map .int) (ρ1 := [some (scrD ns), some (.int salt), some (.int B), some (.lst (cs.map .int)), some (.int (70001 + 7919 * salt)), none]) (by simp) ⟨70001 + 7919 * salt, none, ⟨by have := hs.1; omega, by have := hs.2; omega⟩, .inl rfl, rfl⟩ ?_ ?_
  · rintro i d ρ hd ⟨m, z, hm, hz, rfl⟩
    obtain ⟨c, ec, rfl⟩ := map_get hd
    have sm : Sm m := hm.sm (by decide)
    have sk : Sm 69621 := sm_of (by decide)
    exact ⟨[some (scrD ns), some (.int salt), some (.int B), some (.lst (cs.map .int)), some (.int m), some (.int c)], by simp, run_nx (ρ1 := [some (scrD ns), some (.int salt), some (.int B), some (.lst (cs.map .int)), some (.int ((m * 69621 + c % 2147483563 + 23) % 2147483647)), some (.int c)]) (by simp [sm, sk]) (run_nil ⟨_, rfl, _, _, ⟨Int.emod_nonneg _ (by decide), Int.emod_lt_of_pos _ (by decide)⟩, .inr ⟨c, rfl⟩, rfl⟩)⟩
  · rintro ρ ⟨m, z, hm, hz, rfl⟩
    have p18 : binD .pow (.int 10) (.int 18) = some (.int 1000000000000000000) := by
      simp only [binD]; rw [if_pos (by decide)]; rfl
    obtain ⟨xs, ρ2, e, rs, q1, q2, q3, rfl⟩ := ev_lc (cf := callM T k) (pins := []) (own := [5]) (tg := .tgn 5) (it := .seq (.frv 3)) (cs := (.cons (.cmp .ge (.pl (.sl 5)) (.bin .pow (.con (.int 10)) (.con (.int 18)))) .nil)) (elt := .pl (.sl 5))
      (ρ := [some (scrD ns), some (.int salt), some (.int B), some (.lst (cs.map .int)), some (.int m), z]) (ρ1 := [some (scrD ns), some (.int salt), some (.int B), some (.lst (cs.map .int)), some (.int m), z]) (ds := cs.map .int)
      (P := fun i acc ρ => ∃ rs : List Int, acc = rs.map D.int ∧ rs.length ≤ i ∧ (∀ c ∈ rs, c ∈ cs) ∧ ρ = [some (scrD ns), some (.int salt), some (.int B), some (.lst (cs.map .int)), some (.int m), none])
      (by simp) (by rw [sz]; simp; omega) (by rcases hz with rfl | ⟨c, rfl⟩ <;> rfl) ⟨[], rfl, Nat.le_refl _, fun r hr => (nomatch hr), by simp⟩ (by
        rintro i d acc ρ hd ⟨rs, rfl, hn, hr, rfl⟩
        obtain ⟨c, ec, rfl⟩ := map_get hd
        refine ⟨[some (scrD ns), some (.int salt), some (.int B), some (.lst (cs.map .int)), some (.int m), some (.int c)], [some (scrD ns), some (.int salt), some (.int B), some (.lst (cs.map .int)), some (.int m), some (.int c)], decide (1000000000000000000 ≤ c), by simp, ?_, ?_⟩
        · simp [p18]
          split <;> simp_all
        · split
          · refine ⟨.int c, .int c, [some (scrD ns), some (.int salt), some (.int B), some (.lst (cs.map .int)), some (.int m), some (.int c)], by simp, by simp, rs ++ [c], by simp, by simp; omega, fun x hx => ?_, by simp⟩
            rcases List.mem_append.mp hx with y | y
            · exact hr x y
            · rw [List.mem_singleton.mp y]; exact List.mem_of_getElem? ec
          · exact ⟨rs, rfl, by omega, hr, by simp⟩)
    rw [List.length_map] at q2
    refine run_rt (d := dl rs.reverse m) (ρ1 := [some (scrD ns), some (.int salt), some (.int B), some (.lst (cs.map .int)), some (.int m), z]) (by simp [e, q1, rvsD, dl]) ⟨dl rs.reverse m, [scrD ns, .int salt], by simp [scrD], rs.reverse, m, ⟨fun c hc => r3 c (q3 c (List.mem_reverse.mp hc)), hm, by simp; omega⟩, rfl, rfl⟩
end
end L2.PV
set_option Elab.async false
set_option linter.all false
set_option autoImplicit false
set_option maxRecDepth 100000
set_option maxHeartbeats 0
/-! What the laws' own helpers do, second part. -/
namespace L2.PV
open PySem PySem.Spec PyProof.Rows
section
variable {T : List MFn} {i0 : Nat}
def bAny2 : M := (.cons (.whl (.band (.cmp .gt (.bi1 .len (.pl (.it (.sl 0) 0))) (.con (.int 0))) (.bone (.cmp .eq (.idx (.pl (.it (.sl 0) 0)) (.neg (.con (.int 1)))) (.con (.int 0))))) (.cons (.exp (.pop (.it (.sl 0) 0))) .nil)) (.cons (.iff (.cmp .gt (.bi1 .len (.pl (.it (.sl 0) 0))) (.con (.int 0))) (.cons (.asg (.tgn 2) (.bi1 .int (.pop (.it (.sl 0) 0)))) (.cons (.app (.it (.sl 0) 0) (.bin .fdiv (.pl (.sl 2)) (.pl (.sl 1)))) (.cons (.ret (.bin .mod (.pl (.sl 2)) (.pl (.sl 1)))) .nil))) .nil) (.cons (.seti (.sl 0) (.con (.int 1)) (.bin .mod (.bi1 .int (.bin .add (.bin .mul (.pl (.it (.sl 0) 1)) (.con (.int 48271))) (.con (.int 31)))) (.con (.int 2147483647)))) (.cons (.ret (.bin .mod (.bi1 .int (.bin .fdiv (.pl (.it (.sl 0) 1)) (.con (.int 64)))) (.pl (.sl 1)))) .nil))))
theorem g_any2 (hT : T[i0]? = some ⟨2, 3, [0], bAny2⟩) (k : Nat) {cs : List Int} {m b : Int} (h : DOk cs m) (hb : 0 < b) (hb2 : b < 18446744073709551616) : ∃ r cs' m', DOk cs' m' ∧ In b r ∧ callM T (k + 1) i0 [dl cs m, .int b] = some (.ok (.int r) [dl cs' m', .int b]) := by
  have key := callM_run (T := T) (k := k) (i := i0) (fn := ⟨2, 3, [0], bAny2⟩) (ds := [dl cs m, .int b]) (Q := fun d ds' => ∃ r cs' m', DOk cs' m' ∧ In b r ∧ d = .int r ∧ ds' = [dl cs' m', .int b]) hT rfl ?_
  · obtain ⟨d, ds', e, r, cs', m', h1, h2, rfl, rfl⟩ := key
    exact ⟨r, cs', m', h1, h2, e⟩
  show Run _ [0] bAny2 [some (dl cs m), some (.int b), none] _
  refine run_whl (fun n ρ => ∃ cs, n = cs.length ∧ DOk cs m ∧ ρ = [some (dl cs m), some (.int b), none]) (fun ρ => ∃ cs, DOk cs m ∧ ρ = [some (dl cs m), some (.int b), none]) (n := cs.length) ⟨cs, rfl, h, rfl⟩ ?_ ?_
  · rintro n ρ ⟨cs, rfl, h, rfl⟩
    rcases snoc_cases cs with rfl | ⟨xs, x, rfl⟩
    · exact .inl ⟨[some (dl [] m), some (.int b), none], by simp [dl], [], h, rfl⟩
    · by_cases hx : x = 0
      · refine .inr ⟨[some (dl (xs ++ [x]) m), some (.int b), none], ?_, ?_⟩
        · simp [dl, atI_last, hx]
        · refine run_nx (ρ1 := [some (dl xs m), some (.int b), none]) (by simp [dl]) (run_nil ⟨_, xs.length, rfl, by simp, xs, rfl, ⟨fun c hc => h.c c (List.mem_append_left _ hc), h.m, by have := h.l; simp at this; omega⟩, rfl⟩)
      · refine .inl ⟨[some (dl (xs ++ [x]) m), some (.int b), none], ?_, _, h, rfl⟩
        simp [dl, atI_last, hx]
  · rintro ρ ⟨cs, h, rfl⟩
    rcases snoc_cases cs with rfl | ⟨xs, x, rfl⟩
    · refine run_if (c := false) (ρ1 := [some (dl [] m), some (.int b), none]) (by simp [dl]) (fun z => nomatch z) fun _ => run_nil ?_
      have sm : Sm m := h.m.sm (by decide)
      have s2 : Sm 48271 := sm_of (by decide)
      obtain ⟨m', em⟩ : ∃ m' : Int, m' = (m * 48271 + 31) % 2147483647 := ⟨_, rfl⟩
      have hm' : In 2147483647 m' := by rw [em]; exact ⟨Int.emod_nonneg _ (by decide), Int.emod_lt_of_pos _ (by decide)⟩
      refine run_nx (ρ1 := [some (dl [] m'), some (.int b), none]) (by simp [dl, sm, s2, ixN, Pl.isSl, em]) ?_
      exact run_rt (d := .int (m' / 64 % b)) (ρ1 := [some (dl [] m'), some (.int b), none]) (by simp [dl, hb]) ⟨.int (m' / 64 % b), [dl [] m', .int b], by simp, _, [], m', ⟨fun c hc => (nomatch hc), hm', by simp⟩, ⟨Int.emod_nonneg _ (by omega), Int.emod_lt_of_pos _ hb⟩, rfl, rfl⟩
    · have hx := h.c x (by simp)
      refine run_if (c := true) (ρ1 := [some (dl (xs ++ [x]) m), some (.int b), none]) (by simp [dl]) (fun _ => ?_) fun z => nomatch z
      refine run_nx (ρ1 := [some (dl xs m), some (.int b), some (.int x)]) (by simp [dl]) ?_
      have hd : (x / b).natAbs ≤ x.natAbs := by
        have := Int.ediv_le_self b hx.1
        have := Int.ediv_nonneg hx.1 (Int.le_of_lt hb)
        omega
      have hf : xs.length < sizeLine := by
        have := h.l
        have h2 : sizeLine = 16777216 := rfl
        simp at this; omega
      refine run_nx (ρ1 := [some (dl (xs ++ [x / b]) m), some (.int b), some (.int x)]) (by simp [dl, hb, hb2, Pl.isSl, hf]) ?_
      refine run_rt (d := .int (x % b)) (ρ1 := [some (dl (xs ++ [x / b]) m), some (.int b), some (.int x)]) (by simp [dl, hb]) ⟨.int (x % b), [dl (xs ++ [x / b]) m, .int b], by simp, x % b, xs ++ [x / b], m, ⟨fun c hc => ?_, h.m, by have := h.l; simp at this ⊢; omega⟩, ⟨Int.emod_nonneg _ (by omega), Int.emod_lt_of_pos _ hb⟩, rfl, rfl⟩
      rcases List.mem_append.mp hc with z | z
      · exact h.c c (List.mem_append_left _ z)
      · rw [List.mem_singleton.mp z]
        exact ⟨Int.ediv_nonneg hx.1 (Int.le_of_lt hb), hx.2.le hd⟩
theorem isiK {d : D} {t : String} (b : Bool) (k : kitB (tyD d) t = some b) : isiD d [t] = some b := by
  unfold isiD
  rw [k]
  cases b <;> rfl
theorem isi_tt (ds : List D) : isiD (.tup ds) ["tuple"] = some true := isiK true (by show kitB "tuple" "tuple" = _; decide +kernel)
theorem isi_it (i : Int) : isiD (.int i) ["tuple"] = some false := isiK false (by show kitB "int" "tuple" = _; decide +kernel)
theorem isi_is (i : Int) : isiD (.int i) ["str"] = some false := isiK false (by show kitB "int" "str" = _; decide +kernel)
theorem isi_ii (i : Int) : isiD (.int i) ["int"] = some true := isiK true (by show kitB "int" "int" = _; decide +kernel)
theorem isi_ib (i : Int) : isiD (.int i) ["bool"] = some false := isiK false (by show kitB "int" "bool" = _; decide +kernel)
theorem isi_nt : isiD .non ["tuple"] = some false := isiK false (by show kitB "NoneType" "tuple" = _; decide +kernel)
theorem isi_bt (b : Bool) : isiD (.bl b) ["tuple"] = some false := isiK false (by show kitB "bool" "tuple" = _; decide +kernel)
theorem isi_st (s : Str) : isiD (.str s) ["tuple"] = some false := isiK false (by show kitB "str" "tuple" = _; decide +kernel)
theorem isi_ss (s : Str) : isiD (.str s) ["str"] = some true := isiK true (by show kitB "str" "str" = _; decide +kernel)
def bKind : M := (.cons (.iff (.isN true (.pl (.sl 1))) (.cons (.ret (.isN true (.pl (.sl 0)))) .nil) .nil) (.cons (.iff (.bor (.isB true true (.pl (.sl 1))) (.bone (.isB true false (.pl (.sl 1))))) (.cons (.ret (.ife (.seq (.pl (.sl 1))) (.isB true true (.pl (.sl 0))) (.isB true false (.pl (.sl 0))))) .nil) .nil) (.cons (.iff (.seq (.isi (.pl (.sl 1)) true ["str"])) (.cons (.ret (.band (.isi (.pl (.sl 0)) true ["str"]) (.bone (.cmp .eq (.pl (.sl 0)) (.pl (.sl 1)))))) .nil) .nil) (.cons (.ret (.band (.isi (.pl (.sl 0)) true ["int"]) (.band (.bnot (.isi (.pl (.sl 0)) true ["bool"])) (.bone (.cmp .eq (.pl (.sl 0)) (.pl (.sl 1))))))) .nil))))
/-- a value without parts -/
def Atm : D → Prop
  | .int _ => True | .non => True | .bl _ => True | .str _ => True | _ => False
theorem g_kind (hT : T[i0]? = some ⟨2, 2, [], bKind⟩) (k : Nat) {d : D} (h : Atm d) : callM T (k + 1) i0 [d, d] = some (.ok (.bl true) [d, d]) := by
  refine callM_is (fn := ⟨2, 2, [], bKind⟩) hT rfl ?_
  show Run _ [] bKind [some d, some d] _
  cases d <;> first | exact h.elim | skip
  · refine run_if (c := true) (ρ1 := [some .non, some .non]) (by simp [isNon]) (fun _ => ?_) fun z => nomatch z
    exact run_rt (d := .bl true) (ρ1 := [some .non, some .non]) (by simp [isNon]) (by simp)
  · rename_i b
    refine run_if (c := false) (ρ1 := [some (.bl b), some (.bl b)]) (by simp [isNon]) (fun z => nomatch z) fun _ => run_nil ?_
    refine run_if (c := true) (ρ1 := [some (.bl b), some (.bl b)]) (by cases b <;> simp [isBl]) (fun _ => ?_) fun z => nomatch z
    exact run_rt (d := .bl true) (ρ1 := [some (.bl b), some (.bl b)]) (by cases b <;> simp [isBl, truD]) (by simp)
  · rename_i i
    refine run_if (c := false) (ρ1 := [some (.int i), some (.int i)]) (by simp [isNon]) (fun z => nomatch z) fun _ => run_nil ?_
    refine run_if (c := false) (ρ1 := [some (.int i), some (.int i)]) (by simp [isBl]) (fun z => nomatch z) fun _ => run_nil ?_
    refine run_if (c := false) (ρ1 := [some (.int i), some (.int i)]) (by simp [isi_is, truD]) (fun z => nomatch z) fun _ => run_nil ?_
    exact run_rt (d := .bl true) (ρ1 := [some (.int i), some (.int i)]) (by simp [isi_ii, isi_ib]) (by simp)
  · rename_i s
    refine run_if (c := false) (ρ1 := [some (.str s), some (.str s)]) (by simp [isNon]) (fun z => nomatch z) fun _ => run_nil ?_
    refine run_if (c := false) (ρ1 := [some (.str s), some (.str s)]) (by simp [isBl]) (fun z => nomatch z) fun _ => run_nil ?_
    refine run_if (c := true) (ρ1 := [some (.str s), some (.str s)]) (by simp [isi_ss, truD]) (fun _ => ?_) fun z => nomatch z
    exact run_rt (d := .bl true) (ρ1 := [some (.str s), some (.str s)]) (by simp [isi_ss, cmpD, eqD]) (by simp)
def bSame2 (j : Nat) : M := (.cons (.asg (.tgn 2) (.lst (.cons (.tup (.cons (.pl (.sl 0)) (.cons (.pl (.sl 1)) .nil))) .nil))) (.cons (.whl (.cmp .gt (.bi1 .len (.pl (.sl 2))) (.con (.int 0))) (.cons (.asg (.tgt (.cons (.tgn 3) (.cons (.tgn 4) .nil))) (.pop (.sl 2))) (.cons (.iff (.seq (.isi (.pl (.sl 4)) true ["tuple"])) (.cons (.iff (.bor (.bnot (.seq (.isi (.pl (.sl 3)) true ["tuple"]))) (.bone (.cmp .ne (.bi1 .len (.pl (.sl 3))) (.bi1 .len (.pl (.sl 4)))))) (.cons (.ret (.con (.bl false))) .nil) .nil) (.cons (.for_ (.tgn 5) (.rg1 (.bi1 .len (.pl (.sl 4)))) (.cons (.app (.sl 2) (.tup (.cons (.idx (.pl (.sl 3)) (.pl (.sl 5))) (.cons (.idx (.pl (.sl 4)) (.pl (.sl 5))) .nil)))) .nil)) .nil)) (.cons (.iff (.bor (.seq (.isi (.pl (.sl 3)) false ["tuple", "list", "dict"])) (.bone (.bnot (.seq (.call j (.cons (.pl (.sl 3)) (.cons (.pl (.sl 4)) .nil))))))) (.cons (.ret (.con (.bl false))) .nil) .nil) .nil)) .nil))) (.cons (.ret (.con (.bl true))) .nil)))
mutual
def szD : D → Nat
  | .tup ds => szDs ds + 1
  | _ => 1
def szDs : List D → Nat
  | [] => 0
  | d :: ds => szD d + szDs ds
end
mutual
/-- values made of tuples and values without parts -/
def Pln : D → Prop
  | .tup ds => ds.length ≤ 1000000 ∧ Plns ds
  | .int _ => True | .non => True | .bl _ => True | .str _ => True | _ => False
def Plns : List D → Prop
  | [] => True
  | d :: ds => Pln d ∧ Plns ds
end
theorem Plns.mem : ∀ {ds : List D}, Plns ds → ∀ d ∈ ds, Pln d
  | d :: ds, ⟨h1, h2⟩, x, hx => by
    rcases List.mem_cons.mp hx with z | z
    · rw [z]; exact h1
    · exact Plns.mem h2 x z
theorem szDs_app : ∀ (a b : List D), szDs (a ++ b) = szDs a + szDs b
  | [], b => by simp [szDs]
  | d :: a, b => by rw [List.cons_append, szDs, szDs, szDs_app a b]; omega
theorem Plns.app : ∀ {a b : List D}, Plns a → Plns b → Plns (a ++ b)
  | [], _, _, h => h
  | d :: a, b, ⟨h1, h2⟩, h => ⟨h1, Plns.app h2 h⟩
theorem Plns.left : ∀ {a b : List D}, Plns (a ++ b) → Plns a ∧ Plns b
  | [], _, h => ⟨trivial, h⟩
  | d :: a, b, h => by
    have h : Pln d ∧ Plns (a ++ b) := h
    obtain ⟨k1, k2⟩ := Plns.left h.2
    exact ⟨⟨h.1, k1⟩, k2⟩
theorem Plns.take {ds : List D} (h : Plns ds) (n : Nat) : Plns (ds.take n) := by
  have := h
  rw [← List.take_append_drop n ds] at this
  exact (Plns.left this).1
theorem szD_pos (d : D) : 1 ≤ szD d := by
  cases d <;> simp [szD]
theorem len_sz : ∀ ds : List D, ds.length ≤ szDs ds
  | [] => by simp [szDs]
  | d :: ds => by
    have := len_sz ds
    have := szD_pos d
    simp only [szDs, List.length_cons]; omega
theorem snocD (cs : List D) : cs = [] ∨ ∃ xs x, cs = xs ++ [x] := by
  rcases List.eq_nil_or_concat cs with h | ⟨xs, x, h⟩
  · exact .inl h
  · exact .inr ⟨xs, x, by simpa using h⟩
def pp (x : D) : D := .tup [x, x]
theorem Pln.fz {d : D} (h : Pln d) : PV.fz d = true := by cases d <;> first | rfl | exact h.elim
theorem Pln.frz {d : D} (h : Pln d) : frzD d = some d := by cases d <;> first | rfl | exact h.elim
theorem isi3 {d : D} (h : Atm d) : isiD d ["tuple", "list", "dict"] = some false ∧ isiD d ["tuple"] = some false := by
  have key : ∀ ty : String, ty ∈ ["int", "NoneType", "bool", "str"] → kitB ty "tuple" = some false ∧ kitB ty "list" = some false ∧ kitB ty "dict" = some false := by decide +kernel
  have ht : tyD d ∈ ["int", "NoneType", "bool", "str"] := by cases d <;> first | exact h.elim | simp [tyD]
  obtain ⟨h1, h2, h3⟩ := key _ ht
  refine ⟨?_, isiK false h1⟩
  unfold isiD; rw [h1]
  show isiD d ["list", "dict"] = _
  unfold isiD; rw [h2]
  exact isiK false h3
end
end L2.PV
set_option Elab.async false
set_option linter.all false
set_option autoImplicit false
set_option maxRecDepth 100000
set_option maxHeartbeats 0
/-! What the laws' own helpers do, third part: what is told is what is due. -/
namespace L2.PV
open PySem PySem.Spec PyProof.Rows
section
variable {T : List MFn} {i0 : Nat}
theorem g_same2 {j : Nat} (hT : T[i0]? = some ⟨2, 6, [], bSame2 j⟩) (k : Nat) (kd : ∀ {d : D}, Atm d → callM T k j [d, d] = some (.ok (.bl true) [d, d])) {d : D} (h : Pln d) (hz : szD d ≤ 1000000) : callM T (k + 1) i0 [d, d] = some (.ok (.bl true) [d, d]) := by
  have fd := h.fz
  have rd := h.frz
  refine callM_is (fn := ⟨2, 6, [], bSame2 j⟩) hT rfl ?_
  show Run _ [] (bSame2 j) [some d, some d, none, none, none, none] _
  refine run_nx (ρ1 := [some d, some d, some (.acc ([d].map pp)), none, none, none]) (by simp [fd, pp]) ?_
  refine run_whl (fun n ρ => ∃ (xs : List D) (z3 z4 z5 : Option D), n = szDs xs ∧ Plns xs ∧ szDs xs ≤ 1000000 ∧ ρ = [some d, some d, some (.acc (xs.map pp)), z3, z4, z5]) (fun ρ => ∃ z2 z3 z4 z5 : Option D, ρ = [some d, some d, z2, z3, z4, z5]) (n := szDs [d]) ⟨[d], none, none, none, rfl, ⟨h, trivial⟩, by simp [szDs]; exact hz, rfl⟩ ?_ ?_
  · rintro n ρ ⟨xs, z3, z4, z5, rfl, hp, hs, rfl⟩
    rcases snocD xs with rfl | ⟨ys, x, rfl⟩
    · exact .inl ⟨[some d, some d, some (.acc []), z3, z4, z5], by simp, _, _, _, _, rfl⟩
    · obtain ⟨py, px, _⟩ := Plns.left hp
      have fx := px.fz
      have sx : szDs (ys ++ [x]) = szDs ys + szD x := by rw [szDs_app]; simp [szDs]
      refine .inr ⟨[some d, some d, some (.acc ((ys ++ [x]).map pp)), z3, z4, z5], by simp, ?_⟩
      refine run_nx (ρ1 := [some d, some d, some (.acc (ys.map pp)), some x, some x, z5]) (by simp [pp]) ?_
      have atom : Atm x → Run (callM T k) [] (.cons (.iff (.seq (.isi (.pl (.sl 4)) true ["tuple"])) (.cons (.iff (.bor (.bnot (.seq (.isi (.pl (.sl 3)) true ["tuple"]))) (.bone (.cmp .ne (.bi1 .len (.pl (.sl 3))) (.bi1 .len (.pl (.sl 4)))))) (.cons (.ret (.con (.bl false))) .nil) .nil) (.cons (.for_ (.tgn 5) (.rg1 (.bi1 .len (.pl (.sl 4)))) (.cons (.app (.sl 2) (.tup (.cons (.idx (.pl (.sl 3)) (.pl (.sl 5))) (.cons (.idx (.pl (.sl 4)) (.pl (.sl 5))) .nil)))) .nil)) .nil)) (.cons (.iff (.bor (.seq (.isi (.pl (.sl 3)) false ["tuple", "list", "dict"])) (.bone (.bnot (.seq (.call j (.cons (.pl (.sl 3)) (.cons (.pl (.sl 4)) .nil))))))) (.cons (.ret (.con (.bl false))) .nil) .nil) .nil)) .nil) [some d, some d, some (.acc (ys.map pp)), some x, some x, z5] fun r => ∃ ρ2 m, r = .nx ρ2 ∧ m < szDs (ys ++ [x]) ∧ ∃ (xs : List D) (z3 z4 z5 : Option D), m = szDs xs ∧ Plns xs ∧ szDs xs ≤ 1000000 ∧ ρ2 = [some d, some d, some (.acc (xs.map pp)), z3, z4, z5] := fun ha => by
        obtain ⟨i1, i2⟩ := isi3 ha
        have c := kd ha
        have := szD_pos x
        refine run_if (c := false) (ρ1 := [some d, some d, some (.acc (ys.map pp)), some x, some x, z5]) (by simp [i2, truD]) (fun z => nomatch z) fun _ => ?_
        refine run_if (c := false) (ρ1 := [some d, some d, some (.acc (ys.map pp)), some x, some x, z5]) (by simp [i1, c, fx, truD]) (fun z => nomatch z) fun _ => run_nil (run_nil (run_nil ⟨_, szDs ys, rfl, by omega, ys, _, _, _, rfl, py, by omega, rfl⟩))
      cases x with
      | tup ds =>
        obtain ⟨hl, hds⟩ : ds.length ≤ 1000000 ∧ Plns ds := px
        have sd : szD (.tup ds) = szDs ds + 1 := by rw [szD]
        refine run_if (c := true) (ρ1 := [some d, some d, some (.acc (ys.map pp)), some (.tup ds), some (.tup ds), z5]) (by simp [isi_tt, truD]) (fun _ => ?_) fun z => nomatch z
        refine run_if (c := false) (ρ1 := [some d, some d, some (.acc (ys.map pp)), some (.tup ds), some (.tup ds), z5]) (by simp [isi_tt, truD]) (fun z => nomatch z) fun _ => run_nil ?_
        refine run_for (fun i ρ => ∃ z, ρ = [some d, some d, some (.acc ((ys ++ ds.take i).map pp)), some (.tup ds), some (.tup ds), z]) (ds := rgN ds.length) (ρ1 := [some d, some d, some (.acc (ys.map pp)), some (.tup ds), some (.tup ds), z5]) (by simp [rgD_nat (show ds.length ≤ 16777216 by omega)]) ⟨z5, by simp⟩ ?_ ?_
        · rintro i e ρ he ⟨z, rfl⟩
          obtain ⟨hi, rfl⟩ := rgN_get he
          have e1 : ds[i]? = some ds[i] := by simp [hi]
          have pi := hds.mem ds[i] (List.getElem_mem hi)
          have fi := pi.frz
          have et : ds.take (i + 1) = ds.take i ++ [ds[i]] := by rw [List.take_add_one, e1]; rfl
          have l1 := len_sz ys
          have l2 : (ds.take i).length ≤ ds.length := by simp; omega
          have hle : ys.length + (ds.take i).length < sizeLine := by rw [sz]; omega
          rw [et, ← List.append_assoc]
          generalize ds.take i = A at *
          generalize ds[i] = y at *
          exact ⟨[some d, some d, some (.acc ((ys ++ A).map pp)), some (.tup ds), some (.tup ds), some (.int (i : Int))], by simp, run_nx (ρ1 := [some d, some d, some (.acc ((ys ++ A ++ [y]).map pp)), some (.tup ds), some (.tup ds), some (.int (i : Int))]) (by simp [atI_nn e1, fi, pp, Pl.isSl, hle]) (run_nil ⟨_, rfl, _, rfl⟩)⟩
        · rintro ρ ⟨z, rfl⟩
          rw [rgN_len, List.take_length]
          refine run_nil (run_nil ⟨_, szDs (ys ++ ds), rfl, ?_, ys ++ ds, _, _, _, rfl, Plns.app py hds, ?_, rfl⟩)
          · rw [szDs_app, sx, sd]; omega
          · rw [szDs_app]; rw [sx, sd] at hs; omega
      | int i => exact atom trivial
      | non => exact atom trivial
      | bl b => exact atom trivial
      | str s => exact atom trivial
      | _ => exact px.elim
  · rintro ρ ⟨z2, z3, z4, z5, rfl⟩
    exact run_rt (d := .bl true) (ρ1 := [some d, some d, z2, z3, z4, z5]) (by simp) (by simp [fd])
end
end L2.PV
set_option Elab.async false
set_option linter.all false
set_option autoImplicit false
set_option maxRecDepth 100000
set_option maxHeartbeats 0
/-! Draws as functions; rules in short. -/
namespace L2.PV
open PySem PySem.Spec PyProof.Rows
/-- a deal -/
structure Dl where
  cs : List Int
  m : Int
  ok : DOk cs m
def Dl.d (x : Dl) : D := dl x.cs x.m
@[simp] theorem fz_Dl (x : Dl) : fz x.d = false := (rfl)
/-- noughts at the end fall -/
def strip (cs : List Int) : List Int := (cs.reverse.dropWhile (· == 0)).reverse
theorem strip_nil : strip [] = [] := rfl
theorem strip_0 (xs : List Int) : strip (xs ++ [0]) = strip xs := by simp [strip]
theorem strip_1 (xs : List Int) {x : Int} (h : x ≠ 0) : strip (xs ++ [x]) = xs ++ [x] := by simp [strip, h]
theorem strip_ok {cs : List Int} {m : Int} (h : DOk cs m) : DOk (strip cs) m := by
  have sub : ∀ c ∈ strip cs, c ∈ cs := fun c hc => by
    have := (List.dropWhile_sublist (l := cs.reverse) (fun x => x == 0)).subset (List.mem_reverse.mp hc)
    exact List.mem_reverse.mp this
  refine ⟨fun c hc => h.c c (sub c hc), h.m, ?_⟩
  have := (List.dropWhile_sublist (l := cs.reverse) (fun x => x == 0)).length_le
  have := h.l
  simp [strip] at *; omega
/-- what is drawn, and the deal behind it, as triples -/
def rdT (cs : List Int) (m b : Int) : Int × List Int × Int := match (strip cs).reverse with
  | x :: xs => (x % b, xs.reverse ++ [x / b], m)
  | [] => ((m * 48271 + 31) % 2147483647 / 64 % b, [], (m * 48271 + 31) % 2147483647)
theorem rdT_ok {cs : List Int} {m b : Int} (h : DOk cs m) (hb : 0 < b) : DOk (rdT cs m b).2.1 (rdT cs m b).2.2 := by
  have s := strip_ok h
  unfold rdT
  split
  · rename_i x xs e
    have e2 : strip cs = xs.reverse ++ [x] := by rw [← List.reverse_reverse (strip cs), e]; simp
    rw [e2] at s
    have hx := s.c x (by simp)
    refine ⟨fun c hc => ?_, s.m, by have := s.l; simp at this ⊢; omega⟩
    rcases List.mem_append.mp hc with z | z
    · exact s.c c (List.mem_append_left _ z)
    · rw [List.mem_singleton.mp z]
      have h1 := Int.ediv_le_self b hx.1
      have h2 := Int.ediv_nonneg hx.1 (Int.le_of_lt hb)
      exact ⟨h2, hx.2.le (by omega)⟩
  · exact ⟨fun c hc => (nomatch hc), ⟨Int.emod_nonneg _ (by decide), Int.emod_lt_of_pos _ (by decide)⟩, by simp⟩
def rd (x : Dl) (b : Int) : Int := (rdT x.cs x.m b).1
def nx (x : Dl) (b : Int) : Dl := if h : 0 < b then ⟨_, _, rdT_ok x.ok h⟩ else x
theorem rd_in (x : Dl) {b : Int} (hb : 0 < b) : In b (rd x b) := by
  unfold rd rdT
  split <;> exact ⟨Int.emod_nonneg _ (by omega), Int.emod_lt_of_pos _ hb⟩
section
variable {T : List MFn} {i0 : Nat}
theorem any_end {cf : Nat → List D → Option CR} {cs : List Int} {m b : Int} (h : DOk cs m) (hb : 0 < b) (hb2 : b < 18446744073709551616) (t : M)
    (ht0 : ∀ m : Int, evT cf [0] t [some (dl [] m), some (.int b), none] = some (.ok false [some (dl [] m), some (.int b), none]))
    (ht1 : ∀ (xs : List Int) (x m : Int), evT cf [0] t [some (dl (xs ++ [x]) m), some (.int b), none] = some (.ok true [some (dl (xs ++ [x]) m), some (.int b), none])) :
    Run cf [0] (.cons (.whl (.band t (.bone (.cmp .eq (.idx (.pl (.it (.sl 0) 0)) (.neg (.con (.int 1)))) (.con (.int 0))))) (.cons (.exp (.pop (.it (.sl 0) 0))) .nil)) (.cons (.iff t (.cons (.asg (.tgn 2) (.bi1 .int (.pop (.it (.sl 0) 0)))) (.cons (.app (.it (.sl 0) 0) (.bin .fdiv (.pl (.sl 2)) (.pl (.sl 1)))) (.cons (.ret (.bin .mod (.pl (.sl 2)) (.pl (.sl 1)))) .nil))) .nil) (.cons (.seti (.sl 0) (.con (.int 1)) (.bin .mod (.bi1 .int (.bin .add (.bin .mul (.pl (.it (.sl 0) 1)) (.con (.int 48271))) (.con (.int 31)))) (.con (.int 2147483647)))) (.cons (.ret (.bin .mod (.bi1 .int (.bin .fdiv (.pl (.it (.sl 0) 1)) (.con (.int 64)))) (.pl (.sl 1)))) .nil)))) [some (dl cs m), some (.int b), none] fun r => ∃ z, r = .rt (.int (rdT cs m b).1) [some (dl (rdT cs m b).2.1 (rdT cs m b).2.2), some (.int b), z] := by
  refine run_whl (fun n ρ => ∃ cs', n = cs'.length ∧ DOk cs' m ∧ strip cs' = strip cs ∧ ρ = [some (dl cs' m), some (.int b), none]) (fun ρ => DOk (strip cs) m ∧ ρ = [some (dl (strip cs) m), some (.int b), none]) (n := cs.length) ⟨cs, rfl, h, rfl, rfl⟩ ?_ ?_
  · rintro n ρ ⟨cs', rfl, h, es, rfl⟩
    rcases snoc_cases cs' with rfl | ⟨xs, x, rfl⟩
    · rw [strip_nil] at es
      exact .inl ⟨[some (dl [] m), some (.int b), none], by simp [ht0], by rw [← es]; exact ⟨h, rfl⟩⟩
    · by_cases hx : x = 0
      · subst hx
        rw [strip_0] at es
        refine .inr ⟨[some (dl (xs ++ [0]) m), some (.int b), none], ?_, ?_⟩
        · simp [dl] at ht1
          simp [ht1, dl, atI_last]
        · refine run_nx (ρ1 := [some (dl xs m), some (.int b), none]) (by simp [dl]) (run_nil ⟨_, xs.length, rfl, by simp, xs, rfl, ⟨fun c hc => h.c c (List.mem_append_left _ hc), h.m, by have := h.l; simp at this; omega⟩, es, rfl⟩)
      · rw [strip_1 xs hx] at es
        refine .inl ⟨[some (dl (xs ++ [x]) m), some (.int b), none], ?_, by rw [← es]; exact ⟨h, rfl⟩⟩
        simp [dl] at ht1
        simp [ht1, dl, atI_last, hx]
  · rintro ρ ⟨h, rfl⟩
    generalize es : strip cs = cs' at h
    rcases snoc_cases cs' with rfl | ⟨xs, x, rfl⟩
    · have e1 : rdT cs m b = ((m * 48271 + 31) % 2147483647 / 64 % b, [], (m * 48271 + 31) % 2147483647) := by unfold rdT; rw [es]; rfl
      refine run_if (c := false) (ρ1 := [some (dl [] m), some (.int b), none]) (ht0 m) (fun z => nomatch z) fun _ => run_nil ?_
      have sm : Sm m := h.m.sm (by decide)
      have s2 : Sm 48271 := sm_of (by decide)
      rw [e1]
      generalize em : (m * 48271 + 31) % 2147483647 = m'
      refine run_nx (ρ1 := [some (dl [] m'), some (.int b), none]) (by simp [dl, sm, s2, ixN, Pl.isSl, em]) ?_
      exact run_rt (d := .int (m' / 64 % b)) (ρ1 := [some (dl [] m'), some (.int b), none]) (by simp [dl, hb]) ⟨_, rfl⟩
    · have e1 : rdT cs m b = (x % b, xs ++ [x / b], m) := by unfold rdT; rw [es]; simp
      have hx := h.c x (by simp)
      rw [e1]
      refine run_if (c := true) (ρ1 := [some (dl (xs ++ [x]) m), some (.int b), none]) (ht1 xs x m) (fun _ => ?_) fun z => nomatch z
      refine run_nx (ρ1 := [some (dl xs m), some (.int b), some (.int x)]) (by simp [dl]) ?_
      have hf : xs.length < sizeLine := by
        have := h.l
        have h2 : sizeLine = 16777216 := rfl
        simp at this; omega
      refine run_nx (ρ1 := [some (dl (xs ++ [x / b]) m), some (.int b), some (.int x)]) (by simp [dl, hb, hb2, Pl.isSl, hf]) ?_
      exact run_rt (d := .int (x % b)) (ρ1 := [some (dl (xs ++ [x / b]) m), some (.int b), some (.int x)]) (by simp [dl, hb]) ⟨_, rfl⟩
/-- what a drawing def does -/
def AnyD (T : List MFn) (k j : Nat) : Prop := ∀ (x : Dl) (b : Int), 0 < b → b < 18446744073709551616 → callM T k j [x.d, .int b] = some (.ok (.int (rd x b)) [(nx x b).d, .int b])
theorem nx_d (x : Dl) {b : Int} (hb : 0 < b) : (nx x b).d = dl (rdT x.cs x.m b).2.1 (rdT x.cs x.m b).2.2 := by unfold nx; rw [dif_pos hb]; rfl
theorem g_anyD1 (hT : T[i0]? = some ⟨2, 3, [0], bAny1⟩) (k : Nat) : AnyD T (k + 1) i0 := fun x b hb hb2 => by
  rw [nx_d x hb]
  refine callM_is (fn := ⟨2, 3, [0], bAny1⟩) hT rfl ?_
  refine (any_end (cs := x.cs) (m := x.m) x.ok hb hb2 (.cmp .ne (.pl (.it (.sl 0) 0)) (.lst .nil)) (fun m => by simp [dl]) (fun xs y m => by simp [dl])).imp ?_
  rintro r ⟨z, rfl⟩
  simp [rd]
theorem g_anyD2 (hT : T[i0]? = some ⟨2, 3, [0], bAny2⟩) (k : Nat) : AnyD T (k + 1) i0 := fun x b hb hb2 => by
  rw [nx_d x hb]
  refine callM_is (fn := ⟨2, 3, [0], bAny2⟩) hT rfl ?_
  refine (any_end (cs := x.cs) (m := x.m) x.ok hb hb2 (.cmp .gt (.bi1 .len (.pl (.it (.sl 0) 0))) (.con (.int 0))) (fun m => by simp [dl]) (fun xs y m => by simp [dl] <;> omega)).imp ?_
  rintro r ⟨z, rfl⟩
  simp [rd]
/-- one of a row -/
def pk (x : Dl) (xs : List D) : D := xs.getD (rd x (xs.length : Int)).toNat .non
theorem pk_mem (x : Dl) {xs : List D} (h : xs ≠ []) : pk x xs ∈ xs := by
  have hp : 0 < xs.length := List.length_pos_iff.mpr h
  have r := rd_in x (b := (xs.length : Int)) (by omega)
  have hl : (rd x (xs.length : Int)).toNat < xs.length := by have := r.1; have := r.2; omega
  unfold pk
  rw [List.getD_eq_getElem?_getD, List.getElem?_eq_getElem hl]
  exact List.getElem_mem hl
theorem g_ofD {j : Nat} (hT : T[i0]? = some ⟨2, 2, [0], bOf j⟩) (k : Nat) (any : AnyD T k j) (x : Dl) {s : D} {xs : List D} (fs : fz s = true) (qs : lenD s = some xs.length) (is : ∀ i, idxD s (.int i) = atI xs i) (hx : xs ≠ []) (hl : xs.length < 16777217) :
    callM T (k + 1) i0 [x.d, s] = some (.ok (pk x xs) [(nx x (xs.length : Int)).d, s]) := by
  have hp : 0 < xs.length := List.length_pos_iff.mpr hx
  have c := any x (xs.length : Int) (by omega) (by omega)
  have r := rd_in x (b := (xs.length : Int)) (by omega)
  unfold pk
  generalize rd x (xs.length : Int) = r0 at *
  obtain ⟨n, rfl⟩ := Int.eq_ofNat_of_zero_le r.1
  have hn : n < xs.length := by have := r.2; omega
  have e : xs[n]? = some xs[n] := by simp [hn]
  refine callM_is (fn := ⟨2, 2, [0], bOf j⟩) hT rfl ?_
  show Run _ [0] (bOf j) [some x.d, some s] _
  exact run_rt (d := xs[n]) (ρ1 := [some (nx x (xs.length : Int)).d, some s]) (by simp [bOf, qs, fs, c, is, atI_nn e]) (by simp [fs, e])
/-- numbers beyond what is drawn at once -/
def bWide (j : Nat) : M := (.cons (.iff (.cmp .le (.pl (.sl 1)) (.bin .pow (.con (.int 10)) (.con (.int 6)))) (.cons (.ret (.call j (.cons (.io 0) (.cons (.pl (.sl 1)) .nil)))) .nil) .nil) (.cons (.asg (.tgn 2) (.con (.int 0))) (.cons (.for_ (.tgn 3) (.rg1 (.con (.int 4))) (.cons (.asg (.tgn 2) (.bin .add (.bin .mul (.pl (.sl 2)) (.con (.int 1048573))) (.call j (.cons (.io 0) (.cons (.con (.int 1048573)) .nil))))) .nil)) (.cons (.ret (.bin .mod (.bi1 .int (.pl (.sl 2))) (.pl (.sl 1)))) .nil))))
def wS (x : Dl) : Nat → Int × Dl
  | 0 => (0, x)
  | i + 1 => ((wS x i).1 * 1048573 + rd (wS x i).2 1048573, nx (wS x i).2 1048573)
theorem wS_in (x : Dl) (i : Nat) : 0 ≤ (wS x i).1 ∧ (wS x i).1 < 1048573 ^ i := by
  induction i with
  | zero => simp [wS]
  | succ i ih =>
    have r := rd_in (wS x i).2 (b := 1048573) (by decide)
    have h1 := r.1; have h2 := r.2
    obtain ⟨h3, h4⟩ := ih
    simp only [wS]
    rw [Int.pow_succ]
    omega
/-- what a wide draw is -/
def wd (x : Dl) (b : Int) : Int := if b ≤ 1000000 then rd x b else (wS x 4).1 % b
def nxw (x : Dl) (b : Int) : Dl := if b ≤ 1000000 then nx x b else (wS x 4).2
theorem wd_in (x : Dl) {b : Int} (hb : 0 < b) : In b (wd x b) := by
  unfold wd
  split
  · exact rd_in x hb
  · exact ⟨Int.emod_nonneg _ (by omega), Int.emod_lt_of_pos _ hb⟩
def WideD (T : List MFn) (k j : Nat) : Prop := ∀ (x : Dl) (b : Int), 0 < b → callM T k j [x.d, .int b] = some (.ok (.int (wd x b)) [(nxw x b).d, .int b])
theorem g_wide {j : Nat} (hT : T[i0]? = some ⟨2, 4, [0], bWide j⟩) (k : Nat) (any : AnyD T k j) : WideD T (k + 1) i0 := fun x b hb => by
  have p6 : binD .pow (.int 10) (.int 6) = some (.int 1000000) := by simp only [binD]; rw [if_pos (by decide)]; rfl
  refine callM_is (fn := ⟨2, 4, [0], bWide j⟩) hT rfl ?_
  show Run _ [0] (bWide j) [some x.d, some (.int b), none, none] _
  by_cases h : b ≤ 1000000
  · have c := any x b hb (by omega)
    refine run_if (c := true) (ρ1 := [some x.d, some (.int b), none, none]) (by simp [p6, h]) (fun _ => ?_) fun z => nomatch z
    exact run_rt (d := .int (rd x b)) (ρ1 := [some (nx x b).d, some (.int b), none, none]) (by simp [c]) (by simp [wd, nxw, h])
  · refine run_if (c := false) (ρ1 := [some x.d, some (.int b), none, none]) (by simp [p6]; omega) (fun z => nomatch z) fun _ => run_nil ?_
    refine run_nx (ρ1 := [some x.d, some (.int b), some (.int 0), none]) (by simp) ?_
    refine run_for (fun i ρ => ∃ z, ρ = [some (wS x i).2.d, some (.int b), some (.int (wS x i).1), z]) (ds := rgN 4) (ρ1 := [some x.d, some (.int b), some (.int 0), none]) (by have := rgD_nat (n := 4) (by decide); simp at this; simp [this]) ⟨none, rfl⟩ ?_ ?_
    · rintro i d ρ hd ⟨z, rfl⟩
      obtain ⟨hi, rfl⟩ := rgN_get hd
      have w := wS_in x i
      have b4 : (1048573 : Int) ^ i ≤ 1048573 ^ 4 := by
        have : i = 0 ∨ i = 1 ∨ i = 2 ∨ i = 3 := by omega
        rcases this with rfl | rfl | rfl | rfl <;> decide
      have sm : Sm (wS x i).1 := Nat.lt_of_lt_of_le (show (wS x i).1.natAbs < 2 ^ 100 by
        have h4 : (1048573 : Int) ^ 4 = 1208925819614629174706176 - 13835058055282163712 * 1 + (1048573 ^ 4 - 1208925819614629174706176 + 13835058055282163712) := by omega
        have h5 : (1048573 : Int) ^ 4 < 2 ^ 90 := by decide
        have := w.1; have := w.2; omega) (Nat.pow_le_pow_right (by decide) (by decide))
      have s2 : Sm 1048573 := sm_of (by decide)
      have c := any (wS x i).2 1048573 (by decide) (by decide)
      exact ⟨[some (wS x i).2.d, some (.int b), some (.int (wS x i).1), some (.int i)], by simp, run_nx (ρ1 := [some (wS x (i + 1)).2.d, some (.int b), some (.int (wS x (i + 1)).1), some (.int i)]) (by simp [wS, c, sm, s2]) (run_nil ⟨_, rfl, _, rfl⟩)⟩
    · rintro ρ ⟨z, rfl⟩
      rw [rgN_len]
      exact run_rt (d := .int (wd x b)) (ρ1 := [some (wS x 4).2.d, some (.int b), some (.int (wS x 4).1), z]) (by simp [wd, h, hb]) (by simp [nxw, h])
theorem g_dealD (hT : T[i0]? = some ⟨2, 6, [], bDeal⟩) (k : Nat) {ns : List Int} (hl : ns.length ≤ 63) {salt : Int} (hs : In 1000 salt) : ∃ x : Dl, callM T (k + 1) i0 [scrD ns, .int salt] = some (.ok x.d [scrD ns, .int salt]) := by
  obtain ⟨cs, m, h, c⟩ := g_deal hT k hl hs
  exact ⟨⟨cs, m, h⟩, c⟩
/-- all pairs are of what is told and the same due -/
def bAll (j : Nat) : M := (.cons (.ret (.cmp .eq (.bi1 .len (.lc [1, 2] (.tgt (.cons (.tgn 1) (.cons (.tgn 2) .nil))) (.seq (.pl (.sl 0))) (.cons (.bnot (.seq (.call j (.cons (.pl (.sl 1)) (.cons (.pl (.sl 2)) .nil))))) .nil) (.pl (.sl 1)))) (.con (.int 0)))) .nil)
theorem g_all {j : Nat} (hT : T[i0]? = some ⟨1, 3, [], bAll j⟩) (k : Nat) (ds : List D) (hl : ds.length ≤ 1000000) (h : ∀ d ∈ ds, fz d = true ∧ callM T k j [d, d] = some (.ok (.bl true) [d, d])) :
    callM T (k + 1) i0 [.lst (ds.map pp)] = some (.ok (.bl true) [.lst (ds.map pp)]) := by
  refine callM_is (fn := ⟨1, 3, [], bAll j⟩) hT rfl ?_
  show Run _ [] (bAll j) [some (.lst (ds.map pp)), none, none] _
  obtain ⟨xs, ρ2, e, rfl, rfl⟩ := ev_lc (cf := callM T k) (pins := []) (own := [1, 2]) (tg := .tgt (.cons (.tgn 1) (.cons (.tgn 2) .nil))) (it := .seq (.pl (.sl 0))) (cs := (.cons (.bnot (.seq (.call j (.cons (.pl (.sl 1)) (.cons (.pl (.sl 2)) .nil))))) .nil)) (elt := .pl (.sl 1))
    (ρ := [some (.lst (ds.map pp)), none, none]) (ρ1 := [some (.lst (ds.map pp)), none, none]) (ds := ds.map pp)
    (P := fun i acc ρ => acc = [] ∧ ρ = [some (.lst (ds.map pp)), none, none])
    (by simp) (by rw [sz]; simp; omega) rfl ⟨rfl, rfl⟩ (by
      rintro i d acc ρ hd ⟨rfl, rfl⟩
      rw [List.getElem?_map] at hd
      obtain ⟨x, ex, rfl⟩ := Option.map_eq_some_iff.mp hd
      obtain ⟨f, c⟩ := h x (List.mem_of_getElem? ex)
      refine ⟨[some (.lst (ds.map pp)), some x, some x], [some (.lst (ds.map pp)), some x, some x], false, by simp [pp], by simp [f, c, truD], ?_⟩
      rw [if_neg Bool.false_ne_true]
      exact ⟨rfl, by simp⟩)
  exact run_rt (d := .bl true) (ρ1 := [some (.lst (ds.map pp)), none, none]) (by simp [e]) (by simp)
end
section
variable {cf : Nat → List D → Option CR} {pins : List Nat} {K : SR → Prop} {t tg it b : M} {ρ ρ1 : DEnv} {ds : List D}
/-- a loop that leads a state -/
theorem run_fold {σ : Type} (E : σ → Option D → DEnv) (f : σ → D → σ) (I : Nat → σ → Prop) (s0 : σ) (z0 : Option D) (hi : evI cf pins it ρ = some (.ok ds ρ1)) (h0 : ρ1 = E s0 z0) (i0 : I 0 s0)
    (hs : ∀ i d s z, ds[i]? = some d → I i s → I (i + 1) (f s d) ∧ ∃ ρ2, tgM pins tg d (E s z) = some ρ2 ∧ Run cf pins b ρ2 fun r => ∃ z, r = .nx (E (f s d) z))
    (hk : ∀ z, I ds.length (ds.foldl f s0) → Run cf pins t (E (ds.foldl f s0) z) K) : Run cf pins (.cons (.for_ tg it b) t) ρ K := by
  refine run_for (fun i ρ => I i ((ds.take i).foldl f s0) ∧ ∃ z, ρ = E ((ds.take i).foldl f s0) z) hi ⟨i0, z0, h0⟩ ?_ ?_
  · rintro i d ρ hd ⟨hi, z, rfl⟩
    obtain ⟨h1, ρ2, e, r⟩ := hs i d _ z hd hi
    rw [take_succ_fold f s0 hd]
    exact ⟨ρ2, e, r.imp fun r ⟨z, e⟩ => ⟨_, e, h1, z, rfl⟩⟩
  · rintro ρ ⟨h1, z, rfl⟩
    rw [List.take_length] at *
    exact hk z h1
theorem set_set_back {ρ : DEnv} {v : Nat} {y : Option D} (hv : v < ρ.length) : ((ρ.set v y).set v (ρ[v]?.join)) = ρ := by
  rw [List.set_set]
  apply List.ext_getElem?
  intro i
  rw [List.getElem?_set]
  split
  · rename_i h; subst h; simp [hv]
  · rfl
/-- a comprehension of one name, no tests -/
theorem ev_map {v : Nat} {elt : M} (g : D → D) (hi : evI cf pins it ρ = some (.ok ds ρ1)) (hl : ds.length ≤ sizeLine) (ho : ownFz ρ1 [v] = true) (hv : v < ρ1.length) (hp : v ∉ pins)
    (hs : ∀ d ∈ ds, ∃ x, evE cf pins elt (ρ1.set v (some d)) = some (.ok x (ρ1.set v (some d))) ∧ frzM elt x = some (g d)) :
    evE cf pins (.lc [v] (.tgn v) it .nil elt) ρ = some (.ok (.acc (ds.map g)) ρ1) := by
  obtain ⟨xs, ρ2, e, rfl, rfl⟩ := ev_lc (cf := cf) (pins := pins) (own := [v]) (tg := .tgn v) (it := it) (cs := .nil) (elt := elt) (ρ := ρ) (ρ1 := ρ1) (ds := ds)
    (P := fun i acc ρ => acc = (ds.take i).map g ∧ ρ = ρ1.set v none) hi hl ho ⟨rfl, rfl⟩ (by
      rintro i d acc ρ hd ⟨rfl, rfl⟩
      obtain ⟨x, e1, e2⟩ := hs d (List.mem_of_getElem? hd)
      refine ⟨ρ1.set v (some d), ρ1.set v (some d), true, ?_, by simp, ?_⟩
      · rw [tgM_tgn, asgI_ok hp (by simpa using hv), List.set_set]
      · rw [if_pos rfl]
        exact ⟨x, g d, _, e1, e2, by rw [List.take_add_one, hd]; simp, by simp [List.set_set]⟩)
  rw [e, List.take_length]
  simp only [backD_cons, backD_nil]
  rw [set_set_back hv]
end
end L2.PV
set_option Elab.async false
set_option linter.all false
set_option autoImplicit false
/-! Numbers: primes, inverses, Fermat's little theorem. -/
namespace L2.NT
def Pr (p : Nat) : Prop := 1 < p ∧ ∀ d, d ∣ p → d = 1 ∨ d = p
theorem Pr.cop {p a : Nat} (hp : Pr p) (h : ¬ p ∣ a) : Nat.gcd a p = 1 := by
  rcases hp.2 _ (Nat.gcd_dvd_right a p) with h1 | h1
  · exact h1
  · exact absurd (h1 ▸ Nat.gcd_dvd_left a p) h
/-- Bezout -/
theorem bez : ∀ (b a : Nat), ∃ x y : Int, (a : Int) * x + (b : Int) * y = (Nat.gcd a b : Nat) := by
  intro b
  induction b using Nat.strongRecOn with
  | ind b ih =>
    intro a
    by_cases h : b = 0
    · subst h; exact ⟨1, 0, by simp⟩
    · obtain ⟨x, y, e⟩ := ih (a % b) (Nat.mod_lt _ (by omega)) b
      refine ⟨y, x - ((a / b : Nat) : Int) * y, ?_⟩
      have e2 : Nat.gcd a b = Nat.gcd b (a % b) := by
        rw [Nat.gcd_comm a b, Nat.gcd_rec b a, Nat.gcd_comm]
      rw [e2, ← e]
      have e3 : (a : Int) = (b : Int) * ((a / b : Nat) : Int) + ((a % b : Nat) : Int) := by
        rw [← Int.natCast_mul, ← Int.natCast_add, Nat.div_add_mod]
      generalize ((a / b : Nat) : Int) = q at *
      generalize ((a % b : Nat) : Int) = r at *
      rw [e3]
      simp only [Int.mul_sub, Int.add_mul, Int.mul_assoc, Int.mul_add]
      omega
/-- an inverse below p -/
theorem inv_ex {p a : Nat} (hp : 1 < p) (h : Nat.gcd a p = 1) : ∃ i, i < p ∧ (a * i) % p = 1 := by
  obtain ⟨x, y, e⟩ := bez p a
  rw [h] at e
  have p0 : (p : Int) ≠ 0 := by omega
  have h1 := Int.emod_nonneg x p0
  have h2 := Int.emod_lt_of_pos x (show (0 : Int) < p by omega)
  refine ⟨(x % p).toNat, by omega, ?_⟩
  have key : ((a * (x % p).toNat : Nat) : Int) % (p : Int) = 1 := by
    rw [Int.natCast_mul, Int.toNat_of_nonneg h1, Int.mul_emod, Int.emod_emod_of_dvd _ (Int.dvd_refl _), ← Int.mul_emod]
    have : (a : Int) * x = 1 - (p : Int) * y := by omega
    rw [this, Int.sub_mul_emod_self_left]
    exact Int.emod_eq_of_lt (by decide) (by omega)
  have := key
  rw [← Int.natCast_emod] at this
  omega
theorem Pr.mul {p a b : Nat} (hp : Pr p) (h : p ∣ a * b) : p ∣ a ∨ p ∣ b := by
  by_cases ha : p ∣ a
  · exact .inl ha
  · have := hp.cop ha
    exact .inr (Nat.Coprime.dvd_of_dvd_mul_left (Nat.Coprime.symm this) h)
theorem dvd_of_mod {p x y : Nat} (e : x % p = y % p) : p ∣ y - x := Nat.dvd_of_mod_eq_zero (Nat.sub_mod_eq_zero_of_mod_eq e.symm)
theorem mod_of_dvd {p x y : Nat} (h : x ≤ y) (d : p ∣ y - x) : x % p = y % p := by
  obtain ⟨c, e⟩ := d
  have : y = x + p * c := by omega
  rw [this, Nat.add_mul_mod_self_left]
def pl (l : List Nat) : Nat := l.foldr (· * ·) 1
theorem pl_perm {l m : List Nat} (h : l.Perm m) : pl l = pl m := h.foldr_eq' (fun x _ y _ z => by rw [Nat.mul_left_comm]) 1
theorem pl_map (a p : Nat) : ∀ l : List Nat, pl (l.map fun i => a * i % p) % p = a ^ l.length * pl l % p
  | [] => by simp [pl]
  | i :: l => by
    have ih := pl_map a p l
    show (a * i % p * pl (l.map fun i => a * i % p)) % p = a ^ (l.length + 1) * (i * pl l) % p
    rw [Nat.mul_mod, ih, ← Nat.mul_mod, Nat.mul_mod (a * i % p), Nat.mod_mod, ← Nat.mul_mod]
    congr 1
    rw [Nat.pow_succ]
    simp only [Nat.mul_comm, Nat.mul_left_comm, Nat.mul_assoc]
theorem Pr.pl {p : Nat} (hp : Pr p) : ∀ {l : List Nat}, (∀ i ∈ l, ¬ p ∣ i) → ¬ p ∣ pl l
  | [], _, h => by
    have := hp.1
    have h2 : p ≤ 1 := Nat.le_of_dvd (by decide) h
    omega
  | i :: l, k, h => by
    rcases hp.mul (show p ∣ i * NT.pl l from h) with z | z
    · exact k i (List.mem_cons_self ..) z
    · exact hp.pl (fun j hj => k j (List.mem_cons_of_mem _ hj)) z
/-- Fermat's little theorem -/
theorem fermat {p a : Nat} (hp : Pr p) (ha : ¬ p ∣ a) : a ^ (p - 1) % p = 1 := by
  have p1 := hp.1
  have nd : (List.range' 1 (p - 1)).Nodup := List.nodup_range' 1
  have mem : ∀ i, i ∈ List.range' 1 (p - 1) ↔ 0 < i ∧ i < p := fun i => by
    rw [List.mem_range'_1]; omega
  have inj : ∀ i j, i < p → j < p → a * i % p = a * j % p → i ≤ j → i = j := fun i j hi hj e le => by
    have d : p ∣ a * (j - i) := by
      rw [Nat.mul_sub]
      exact dvd_of_mod e
    rcases hp.mul d with z | z
    · exact absurd z ha
    · by_cases h : j - i = 0
      · omega
      · have := Nat.le_of_dvd (by omega) z; omega
  have nd2 : ((List.range' 1 (p - 1)).map fun i => a * i % p).Nodup := by
    unfold List.Nodup
    rw [List.pairwise_map]
    refine List.Pairwise.imp_of_mem (fun {i j} hi hj ne e => ne ?_) nd
    have h1 := ((mem i).mp hi).2
    have h2 := ((mem j).mp hj).2
    rcases Nat.le_total i j with le | le
    · exact inj i j h1 h2 e le
    · exact (inj j i h2 h1 e.symm le).symm
  have pm : ((List.range' 1 (p - 1)).map fun i => a * i % p).Perm (List.range' 1 (p - 1)) := by
    refine (List.perm_ext_iff_of_nodup nd2 nd).mpr fun j => ?_
    rw [mem, List.mem_map]
    constructor
    · rintro ⟨i, hi, rfl⟩
      have hi := (mem i).mp hi
      refine ⟨Nat.pos_of_ne_zero fun z => ?_, Nat.mod_lt _ (by omega)⟩
      rcases hp.mul (Nat.dvd_of_mod_eq_zero z) with d | d
      · exact ha d
      · have := Nat.le_of_dvd hi.1 d; omega
    · rintro ⟨h1, h2⟩
      obtain ⟨v, _, hv⟩ := inv_ex p1 (hp.cop ha)
      refine ⟨v * j % p, (mem _).mpr ⟨Nat.pos_of_ne_zero fun z => ?_, Nat.mod_lt _ (by omega)⟩, ?_⟩
      · rcases hp.mul (Nat.dvd_of_mod_eq_zero z) with d | d
        · have : a * v % p = 0 := Nat.mod_eq_zero_of_dvd (Nat.dvd_trans d (Nat.dvd_mul_left _ _))
          omega
        · have := Nat.le_of_dvd h1 d; omega
      · show a * (v * j % p) % p = j
        rw [Nat.mul_mod, Nat.mod_mod, ← Nat.mul_mod, ← Nat.mul_assoc, Nat.mul_mod, hv, Nat.one_mul, Nat.mod_mod, Nat.mod_eq_of_lt h2]
  have e1 := pl_map a p (List.range' 1 (p - 1))
  rw [pl_perm pm, List.length_range'] at e1
  have np : ¬ p ∣ NT.pl (List.range' 1 (p - 1)) := hp.pl fun i hi d => by
    have h := (mem i).mp hi
    have := Nat.le_of_dvd h.1 d; omega
  generalize NT.pl (List.range' 1 (p - 1)) = F at *
  have hA : 1 ≤ a ^ (p - 1) := Nat.pos_of_ne_zero fun z => by
    rw [z, Nat.zero_mul, Nat.zero_mod] at e1
    exact np (Nat.dvd_of_mod_eq_zero e1)
  have d : p ∣ (a ^ (p - 1) - 1) * F := by
    rw [Nat.sub_mul, Nat.one_mul]
    exact dvd_of_mod e1
  rcases hp.mul d with z | z
  · have e2 : a ^ (p - 1) % p = 1 % p := (mod_of_dvd hA z).symm
    rw [e2, Nat.mod_eq_of_lt p1]
  · exact absurd z np
end L2.NT
set_option Elab.async false
set_option linter.all false
set_option autoImplicit false
/-! Primes by certificates. -/
namespace L2.NT
theorem least {P : Nat → Prop} (h : ∃ n, P n) : ∃ n, P n ∧ ∀ m, m < n → ¬ P m := by
  obtain ⟨n, hn⟩ := h
  induction n using Nat.strongRecOn with
  | ind n ih =>
    by_cases k : ∃ m, m < n ∧ P m
    · obtain ⟨m, h1, h2⟩ := k
      exact ih m h1 h2
    · exact ⟨n, hn, fun m h1 h2 => k ⟨m, h1, h2⟩⟩
theorem dvd_pow (a : Nat) {k : Nat} (h : k ≠ 0) : a ∣ a ^ k := by
  obtain ⟨j, rfl⟩ := Nat.exists_eq_succ_of_ne_zero h
  rw [Nat.pow_succ]; exact Nat.dvd_mul_left _ _
/-- the least divisor -/
theorem min_div {n : Nat} (h : 1 < n) : ∃ r, Pr r ∧ r ∣ n ∧ ∀ d, 1 < d → d ∣ n → r ≤ d := by
  obtain ⟨r, ⟨r1, r2⟩, r3⟩ := least (P := fun d => 1 < d ∧ d ∣ n) ⟨n, h, Nat.dvd_refl n⟩
  have lo : ∀ d, 1 < d → d ∣ n → r ≤ d := fun d h1 h2 => by
    by_cases k : d < r
    · exact absurd ⟨h1, h2⟩ (r3 d k)
    · omega
  refine ⟨r, ⟨r1, fun d hd => ?_⟩, r2, lo⟩
  by_cases d1 : d = 1
  · exact .inl d1
  · have d0 : 0 < d := Nat.pos_of_dvd_of_pos hd (by omega)
    have := lo d (by omega) (Nat.dvd_trans hd r2)
    have := Nat.le_of_dvd (by omega) hd
    exact .inr (by omega)
theorem pow_mod_one {a r d k : Nat} (hr : 1 < r) (h : a ^ d % r = 1) : a ^ (d * k) % r = 1 := by
  rw [Nat.pow_mul, Nat.pow_mod, h, Nat.one_pow, Nat.mod_eq_of_lt hr]
/-- the order divides -/
theorem ord_dvd {a r d m : Nat} (hr : 1 < r) (d0 : 0 < d) (hd : a ^ d % r = 1) (mn : ∀ e, 0 < e → e < d → a ^ e % r ≠ 1) (h : a ^ m % r = 1) : d ∣ m := by
  have e : m = d * (m / d) + m % d := (Nat.div_add_mod m d).symm
  have h2 : a ^ (m % d) % r = 1 := by
    rw [e, Nat.pow_add, Nat.mul_mod, pow_mod_one hr hd, Nat.one_mul, Nat.mod_mod] at h
    exact h
  by_cases z : m % d = 0
  · exact Nat.dvd_of_mod_eq_zero z
  · exact absurd h2 (mn _ (by omega) (Nat.mod_lt _ d0))
theorem pl_prime {q : Nat} (hq : Pr q) : ∀ {l : List Nat}, q ∣ pl l → (∀ x ∈ l, Pr x) → q ∈ l
  | [], h, _ => by
    have h1 := hq.1
    have h2 : q ≤ 1 := Nat.le_of_dvd (by decide) h
    omega
  | x :: l, h, k => by
    rcases hq.mul (show q ∣ x * pl l from h) with z | z
    · rcases (k x (List.mem_cons_self ..)).2 q z with e | e
      · have := hq.1; omega
      · rw [e]; exact List.mem_cons_self ..
    · exact List.mem_cons_of_mem _ (pl_prime hq z fun y hy => k y (List.mem_cons_of_mem _ hy))
theorem pock {n F a : Nat} (n1 : 1 < n) {l : List Nat} (hl : pl l = F) (hF : F ∣ n - 1) (hb : n < (F + 1) * (F + 1)) (pr : ∀ q ∈ l, Pr q) (ha : a ^ (n - 1) % n = 1) (hg : ∀ q ∈ l, Nat.gcd (a ^ ((n - 1) / q) % n + (n - 1)) n = 1) : Pr n := by
  obtain ⟨r, hr, rn, lo⟩ := min_div n1
  have r1 := hr.1
  obtain ⟨R, hR⟩ := hF
  have F0 : 0 < F := Nat.pos_of_ne_zero fun z => by rw [z, Nat.zero_mul] at hR; omega
  -- modulo r
  have har : a ^ (n - 1) % r = 1 := by
    rw [← Nat.mod_mod_of_dvd _ rn, ha, Nat.mod_eq_of_lt r1]
  have nra : ¬ r ∣ a := fun z => by
    have : a ^ (n - 1) % r = 0 := Nat.mod_eq_zero_of_dvd (Nat.dvd_trans z (dvd_pow a (by omega)))
    omega
  have hbF : (a ^ R) ^ F % r = 1 := by rw [← Nat.pow_mul, Nat.mul_comm, ← hR]; exact har
  obtain ⟨d, ⟨d0, hd⟩, mn⟩ := least (P := fun d => 0 < d ∧ (a ^ R) ^ d % r = 1) ⟨F, F0, hbF⟩
  have mn' : ∀ e, 0 < e → e < d → (a ^ R) ^ e % r ≠ 1 := fun e h1 h2 h3 => mn e h2 ⟨h1, h3⟩
  obtain ⟨c, hc⟩ := ord_dvd r1 d0 hd mn' hbF
  have c1 : c = 1 := by
    by_cases c1 : c = 1
    · exact c1
    · exfalso
      have c0 : 0 < c := Nat.pos_of_ne_zero fun z => by rw [z, Nat.mul_zero] at hc; omega
      obtain ⟨q, hq, qc, _⟩ := min_div (show 1 < c by omega)
      have ql : q ∈ l := pl_prime hq (by rw [hl, hc]; exact Nat.dvd_trans qc (Nat.dvd_mul_left _ _)) pr
      obtain ⟨c', hc'⟩ := qc
      have q0 : 0 < q := by have := hq.1; omega
      have e1 : (n - 1) / q = R * (d * c') := by
        rw [hR, hc, hc']
        rw [show d * (q * c') * R = q * (R * (d * c')) by simp only [Nat.mul_comm, Nat.mul_left_comm, Nat.mul_assoc]]
        exact Nat.mul_div_cancel_left _ q0
      have e2 : a ^ ((n - 1) / q) % r = 1 := by
        rw [e1, Nat.pow_mul]
        exact pow_mod_one r1 hd
      have g := hg q ql
      have d1 : r ∣ a ^ ((n - 1) / q) % n + (n - 1) := by
        have h3 : (a ^ ((n - 1) / q) % n) % r = 1 := by rw [Nat.mod_mod_of_dvd _ rn]; exact e2
        obtain ⟨s, hs⟩ := rn
        refine Nat.dvd_of_mod_eq_zero ?_
        have h4 : (a ^ ((n - 1) / q) % n + (n - 1) + 1) % r = 1 := by
          rw [show a ^ ((n - 1) / q) % n + (n - 1) + 1 = a ^ ((n - 1) / q) % n + r * s by omega, Nat.add_mul_mod_self_left]; exact h3
        generalize a ^ ((n - 1) / q) % n + (n - 1) = w at h4
        have h5 := Nat.mod_lt w (show 0 < r by omega)
        by_cases z : w % r = 0
        · exact z
        · exfalso
          rw [Nat.add_mod, Nat.mod_eq_of_lt r1] at h4
          by_cases y : w % r + 1 < r
          · rw [Nat.mod_eq_of_lt y] at h4; omega
          · rw [show w % r + 1 = r by omega, Nat.mod_self] at h4; omega
      have := Nat.dvd_gcd d1 rn
      rw [g] at this
      have := Nat.le_of_dvd (by decide) this
      omega
  rw [c1, Nat.mul_one] at hc
  -- F divides r - 1
  have nrb : ¬ r ∣ a ^ R := fun z => by
    have : (a ^ R) ^ F % r = 0 := Nat.mod_eq_zero_of_dvd (Nat.dvd_trans z (dvd_pow _ (by omega)))
    omega
  have fr := ord_dvd r1 d0 hd mn' (fermat hr nrb)
  rw [← hc] at fr
  have rF : F + 1 ≤ r := by have := Nat.le_of_dvd (by omega) fr; omega
  obtain ⟨s, hs⟩ := rn
  have s1 : s = 1 := by
    by_cases s1 : s = 1
    · exact s1
    · exfalso
      have s0 : 0 < s := Nat.pos_of_ne_zero fun z => by rw [z, Nat.mul_zero] at hs; omega
      have := lo s (by omega) ⟨r, by rw [hs, Nat.mul_comm]⟩
      have := Nat.mul_le_mul rF (Nat.le_trans rF this)
      omega
  rw [s1, Nat.mul_one] at hs
  rw [hs]; exact hr
/-- powers modulo m -/
def powm (m : Nat) : Nat → Nat → Nat → Nat
  | 0, _, _ => 1 % m
  | f + 1, a, e => if e % 2 = 1 then a * powm m f (a * a % m) (e / 2) % m else powm m f (a * a % m) (e / 2)
theorem powm_eq (m : Nat) : ∀ (f a e : Nat), e < 2 ^ f → powm m f a e = a ^ e % m
  | 0, a, e, h => by
    have : e = 0 := by simpa using h
    subst this; rfl
  | f + 1, a, e, h => by
    have h2 : e / 2 < 2 ^ f := by rw [Nat.pow_succ] at h; omega
    have ih := powm_eq m f (a * a % m) (e / 2) h2
    have key : (a * a % m) ^ (e / 2) % m = a ^ (2 * (e / 2)) % m := by rw [← Nat.pow_mod, Nat.pow_mul, Nat.pow_two]
    unfold powm
    rw [ih, key]
    split
    · rename_i o
      have : e = 2 * (e / 2) + 1 := by omega
      conv => rhs; rw [this, Nat.pow_succ, Nat.mul_comm]
      rw [Nat.mul_mod, Nat.mod_mod, ← Nat.mul_mod]
    · have : e = 2 * (e / 2) := by omega
      conv => rhs; rw [this]
/-- a certificate, looked at by the kernel -/
def cert (n a : Nat) (l : List Nat) : Bool := decide (1 < n) && decide (n < 2 ^ 200) && decide (pl l ∣ n - 1) && decide (n < (pl l + 1) * (pl l + 1)) && decide (powm n 200 a (n - 1) = 1) && l.all fun q => decide (Nat.gcd (powm n 200 a ((n - 1) / q) + (n - 1)) n = 1)
theorem cert_ok {n a : Nat} {l : List Nat} (h : cert n a l = true) (pr : ∀ q ∈ l, Pr q) : Pr n := by
  unfold cert at h
  simp only [Bool.and_eq_true, decide_eq_true_eq, List.all_eq_true] at h
  obtain ⟨⟨⟨⟨⟨h1, h2⟩, h3⟩, h4⟩, h5⟩, h6⟩ := h
  refine pock (a := a) h1 rfl h3 h4 pr ?_ fun q hq => ?_
  · rw [← powm_eq n 200 a (n - 1) (by omega)]; exact h5
  · have := h6 q hq
    rw [powm_eq n 200 a _ (Nat.lt_of_le_of_lt (Nat.div_le_self _ _) (by omega))] at this
    exact this
/-- small ones: no divisor -/
def smallB (n : Nat) : Bool := decide (1 < n) && (List.range n).all fun d => d < 2 || n % d != 0
theorem small_ok {n : Nat} (h : smallB n = true) : Pr n := by
  unfold smallB at h
  simp only [Bool.and_eq_true, decide_eq_true_eq, List.all_eq_true, List.mem_range, Bool.or_eq_true, bne_iff_ne] at h
  refine ⟨h.1, fun d hd => ?_⟩
  have d0 : 0 < d := Nat.pos_of_dvd_of_pos hd (by omega)
  have le := Nat.le_of_dvd (by omega) hd
  by_cases e : d = n
  · exact .inr e
  · rcases h.2 d (by omega) with z | z
    · exact .inl (by omega)
    · exact absurd (Nat.mod_eq_zero_of_dvd hd) z
end L2.NT
set_option Elab.async false
set_option linter.all false
set_option autoImplicit false
namespace L2.NT
theorem pr5 : Pr 5 := small_ok (by decide +kernel)
theorem pr7 : Pr 7 := small_ok (by decide +kernel)
theorem pr11 : Pr 11 := small_ok (by decide +kernel)
theorem pr13 : Pr 13 := small_ok (by decide +kernel)
theorem pr17 : Pr 17 := small_ok (by decide +kernel)
theorem pr97 : Pr 97 := small_ok (by decide +kernel)
theorem pr101 : Pr 101 := small_ok (by decide +kernel)
theorem pr257 : Pr 257 := small_ok (by decide +kernel)
theorem pr41 : Pr 41 := small_ok (by decide +kernel)
theorem pr2 : Pr 2 := small_ok (by decide +kernel)
theorem pr5003 : Pr 5003 := cert_ok (a := 2) (l := [2, 41]) (by decide +kernel) fun q hq => by
  simp only [List.mem_cons, List.not_mem_nil, or_false] at hq
  rcases hq with rfl | rfl
  · exact pr2
  · exact pr41
theorem pr10007 : Pr 10007 := cert_ok (a := 2) (l := [5003]) (by decide +kernel) fun q hq => by
  simp only [List.mem_cons, List.not_mem_nil, or_false] at hq
  rcases hq with rfl
  · exact pr5003
theorem pr65537 : Pr 65537 := cert_ok (a := 3) (l := [2, 2, 2, 2, 2, 2, 2, 2]) (by decide +kernel) fun q hq => by
  simp only [List.mem_cons, List.not_mem_nil, or_false] at hq
  rcases hq with rfl | rfl | rfl | rfl | rfl | rfl | rfl | rfl
  · exact pr2
  · exact pr2
  · exact pr2
  · exact pr2
  · exact pr2
  · exact pr2
  · exact pr2
  · exact pr2
theorem pr499 : Pr 499 := small_ok (by decide +kernel)
theorem pr166667 : Pr 166667 := cert_ok (a := 2) (l := [499]) (by decide +kernel) fun q hq => by
  simp only [List.mem_cons, List.not_mem_nil, or_false] at hq
  rcases hq with rfl
  · exact pr499
theorem pr1000003 : Pr 1000003 := cert_ok (a := 2) (l := [166667]) (by decide +kernel) fun q hq => by
  simp only [List.mem_cons, List.not_mem_nil, or_false] at hq
  rcases hq with rfl
  · exact pr166667
theorem pr998244353 : Pr 998244353 := cert_ok (a := 3) (l := [2, 2, 2, 2, 2, 2, 2, 2, 2, 2, 2, 2, 2, 2, 2]) (by decide +kernel) fun q hq => by
  simp only [List.mem_cons, List.not_mem_nil, or_false] at hq
  rcases hq with rfl | rfl | rfl | rfl | rfl | rfl | rfl | rfl | rfl | rfl | rfl | rfl | rfl | rfl | rfl
  · exact pr2
  · exact pr2
  · exact pr2
  · exact pr2
  · exact pr2
  · exact pr2
  · exact pr2
  · exact pr2
  · exact pr2
  · exact pr2
  · exact pr2
  · exact pr2
  · exact pr2
  · exact pr2
  · exact pr2
theorem pr148721 : Pr 148721 := cert_ok (a := 6) (l := [2, 2, 2, 5, 11]) (by decide +kernel) fun q hq => by
  simp only [List.mem_cons, List.not_mem_nil, or_false] at hq
  rcases hq with rfl | rfl | rfl | rfl | rfl
  · exact pr2
  · exact pr2
  · exact pr2
  · exact pr5
  · exact pr11
theorem pr500000003 : Pr 500000003 := cert_ok (a := 2) (l := [148721]) (by decide +kernel) fun q hq => by
  simp only [List.mem_cons, List.not_mem_nil, or_false] at hq
  rcases hq with rfl
  · exact pr148721
theorem pr1000000007 : Pr 1000000007 := cert_ok (a := 2) (l := [500000003]) (by decide +kernel) fun q hq => by
  simp only [List.mem_cons, List.not_mem_nil, or_false] at hq
  rcases hq with rfl
  · exact pr500000003
theorem pr151 : Pr 151 := small_ok (by decide +kernel)
theorem pr31 : Pr 31 := small_ok (by decide +kernel)
theorem pr2147483647 : Pr 2147483647 := cert_ok (a := 3) (l := [11, 31, 151]) (by decide +kernel) fun q hq => by
  simp only [List.mem_cons, List.not_mem_nil, or_false] at hq
  rcases hq with rfl | rfl | rfl
  · exact pr11
  · exact pr31
  · exact pr151
theorem pr181 : Pr 181 := small_ok (by decide +kernel)
theorem pr23 : Pr 23 := small_ok (by decide +kernel)
theorem pr22605091 : Pr 22605091 := cert_ok (a := 2) (l := [5, 23, 181]) (by decide +kernel) fun q hq => by
  simp only [List.mem_cons, List.not_mem_nil, or_false] at hq
  rcases hq with rfl | rfl | rfl
  · exact pr5
  · exact pr23
  · exact pr181
theorem pr4294967291 : Pr 4294967291 := cert_ok (a := 2) (l := [22605091]) (by decide +kernel) fun q hq => by
  simp only [List.mem_cons, List.not_mem_nil, or_false] at hq
  rcases hq with rfl
  · exact pr22605091
theorem pr3 : Pr 3 := small_ok (by decide +kernel)
theorem pr3907 : Pr 3907 := cert_ok (a := 2) (l := [3, 3, 7]) (by decide +kernel) fun q hq => by
  simp only [List.mem_cons, List.not_mem_nil, or_false] at hq
  rcases hq with rfl | rfl | rfl
  · exact pr3
  · exact pr3
  · exact pr7
theorem pr250049 : Pr 250049 := cert_ok (a := 2) (l := [3907]) (by decide +kernel) fun q hq => by
  simp only [List.mem_cons, List.not_mem_nil, or_false] at hq
  rcases hq with rfl
  · exact pr3907
theorem pr26005097 : Pr 26005097 := cert_ok (a := 2) (l := [250049]) (by decide +kernel) fun q hq => by
  simp only [List.mem_cons, List.not_mem_nil, or_false] at hq
  rcases hq with rfl
  · exact pr250049
theorem pr1000000000039 : Pr 1000000000039 := cert_ok (a := 2) (l := [26005097]) (by decide +kernel) fun q hq => by
  simp only [List.mem_cons, List.not_mem_nil, or_false] at hq
  rcases hq with rfl
  · exact pr26005097
theorem pr61 : Pr 61 := small_ok (by decide +kernel)
theorem pr2305843009213693951 : Pr 2305843009213693951 := cert_ok (a := 3) (l := [5, 5, 7, 11, 13, 31, 41, 61]) (by decide +kernel) fun q hq => by
  simp only [List.mem_cons, List.not_mem_nil, or_false] at hq
  rcases hq with rfl | rfl | rfl | rfl | rfl | rfl | rfl | rfl
  · exact pr5
  · exact pr5
  · exact pr7
  · exact pr11
  · exact pr13
  · exact pr31
  · exact pr41
  · exact pr61
theorem pr43 : Pr 43 := small_ok (by decide +kernel)
theorem pr113 : Pr 113 := small_ok (by decide +kernel)
theorem pr29 : Pr 29 := small_ok (by decide +kernel)
theorem pr127 : Pr 127 := small_ok (by decide +kernel)
theorem pr2305843009213693921 : Pr 2305843009213693921 := cert_ok (a := 2) (l := [5, 17, 29, 43, 113, 127]) (by decide +kernel) fun q hq => by
  simp only [List.mem_cons, List.not_mem_nil, or_false] at hq
  rcases hq with rfl | rfl | rfl | rfl | rfl | rfl
  · exact pr5
  · exact pr17
  · exact pr29
  · exact pr43
  · exact pr113
  · exact pr127
end L2.NT
set_option Elab.async false
set_option linter.all false
set_option autoImplicit false
/-! Differences, polynomials by their differences, Lagrange's sums. -/
namespace L2.NT
/-- the row of differences -/
def df (f : Nat → Int) : Nat → Int := fun n => f (n + 1) - f n
/-- a degree below d -/
def Dg : Nat → (Nat → Int) → Prop
  | 0, f => ∀ n, f n = 0
  | d + 1, f => Dg d (df f)
theorem Dg.succ : ∀ {d : Nat} {f : Nat → Int}, Dg d f → Dg (d + 1) f
  | 0, f, h => fun n => by show f (n + 1) - f n = 0; rw [h, h]; rfl
  | d + 1, f, h => Dg.succ (d := d) (f := df f) h
theorem Dg.mono {d e : Nat} {f : Nat → Int} (h : Dg d f) (k : d ≤ e) : Dg e f := by
  induction e with
  | zero => have : d = 0 := by omega
            subst this; exact h
  | succ e ih =>
    by_cases z : d = e + 1
    · subst z; exact h
    · exact (ih (by omega)).succ
theorem Dg.add : ∀ {d : Nat} {f g : Nat → Int}, Dg d f → Dg d g → Dg d fun n => f n + g n
  | 0, f, g, h, k => fun n => by show f n + g n = 0; rw [h, k]; rfl
  | d + 1, f, g, h, k => by
    have := Dg.add (d := d) (f := df f) (g := df g) h k
    show Dg d (df fun n => f n + g n)
    have e : (df fun n => f n + g n) = fun n => df f n + df g n := by
      funext n; simp only [df]; omega
    rw [e]; exact this
theorem Dg.smul (c : Int) : ∀ {d : Nat} {f : Nat → Int}, Dg d f → Dg d fun n => c * f n
  | 0, f, h => fun n => by show c * f n = 0; rw [h, Int.mul_zero]
  | d + 1, f, h => by
    have := Dg.smul c (d := d) (f := df f) h
    show Dg d (df fun n => c * f n)
    have e : (df fun n => c * f n) = fun n => c * df f n := by
      funext n; simp only [df, Int.mul_sub]
    rw [e]; exact this
theorem Dg.shift : ∀ {d : Nat} {f : Nat → Int}, Dg d f → Dg d fun n => f (n + 1)
  | 0, f, h => fun n => h (n + 1)
  | d + 1, f, h => Dg.shift (d := d) (f := df f) h
theorem Dg.lin (c : Int) : ∀ {d : Nat} {f : Nat → Int}, Dg d f → Dg (d + 1) fun n : Nat => ((n : Int) - c) * f n
  | 0, f, h => fun n => by show _ * f (n + 1) - _ * f n = 0; rw [h, h, Int.mul_zero, Int.mul_zero]; rfl
  | d + 1, f, h => by
    have h1 := Dg.lin c (d := d) (f := df f) h
    have h2 := Dg.shift (d := d + 1) (f := f) h
    have := Dg.add h1 h2
    show Dg (d + 1) (df fun n : Nat => ((n : Int) - c) * f n)
    have e : (df fun n : Nat => ((n : Int) - c) * f n) = fun n : Nat => ((n : Int) - c) * df f n + f (n + 1) := by
      funext n
      simp only [df, Int.mul_sub]
      have : (((n + 1 : Nat) : Int) - c) * f (n + 1) = ((n : Int) - c) * f (n + 1) + f (n + 1) := by
        rw [show ((n + 1 : Nat) : Int) - c = ((n : Int) - c) + 1 by omega, Int.add_mul, Int.one_mul]
      omega
    rw [e]; exact this
theorem Dg.const (c : Int) : Dg 1 fun _ => c := fun _ => Int.sub_self c
/-- nought at the first places: nought everywhere -/
theorem Dg.zero (p : Int) : ∀ {d : Nat} {f : Nat → Int}, Dg d f → (∀ i, i < d → p ∣ f i) → ∀ k, p ∣ f k
  | 0, f, h, _, k => by rw [h k]; exact Int.dvd_zero p
  | d + 1, f, h, z, k => by
    have hd : ∀ k, p ∣ df f k := Dg.zero p (d := d) (f := df f) h fun i hi => Int.dvd_sub (z (i + 1) (by omega)) (z i (by omega))
    induction k with
    | zero => exact z 0 (by omega)
    | succ k ih =>
      have := Int.dvd_add ih (hd k)
      have e : f k + df f k = f (k + 1) := by simp only [df]; omega
      rwa [e] at this
theorem dvd_of_emod {p a b : Int} (h : a % p = b % p) : p ∣ a - b := by
  refine Int.dvd_of_emod_eq_zero ?_
  rw [Int.sub_emod, h, Int.sub_self, Int.zero_emod]
theorem emod_of_dvd {p a b : Int} (h : p ∣ a - b) : a % p = b % p := by
  obtain ⟨c, e⟩ := h
  rw [show a = b + p * c by omega, Int.add_mul_emod_self_left]
/-- two with the same worths at the first places are the same modulo p -/
theorem Dg.same {p : Int} {d : Nat} {f g : Nat → Int} (hf : Dg d f) (hg : Dg d g) (h : ∀ i, i < d → f i % p = g i % p) (k : Nat) : f k % p = g k % p := by
  have hn : Dg d fun n => f n + -1 * g n := hf.add (hg.smul (-1))
  have := Dg.zero p hn (fun i hi => by
    have := dvd_of_emod (h i hi)
    rw [show f i + -1 * g i = f i - g i by omega]; exact this) k
  rw [show f k + -1 * g k = f k - g k by omega] at this
  exact emod_of_dvd this
/-- each row is one of a degree below its length -/
theorem row_of : ∀ (n : Nat) (r : Nat → Int), ∃ f, Dg n f ∧ ∀ i, i < n → f i = r i
  | 0, r => ⟨fun _ => 0, fun _ => rfl, fun i hi => absurd hi (by omega)⟩
  | n + 1, r => by
    obtain ⟨g, h1, h2⟩ := row_of n (df r)
    let f : Nat → Int := fun k => Nat.rec (r 0) (fun m v => v + g m) k
    have e : df f = g := by funext k; show (f k + g k) - f k = g k; omega
    refine ⟨f, by show Dg n (df f); rw [e]; exact h1, fun i hi => ?_⟩
    induction i with
    | zero => rfl
    | succ i ih =>
      show f i + g i = r (i + 1)
      rw [ih (by omega), h2 i (by omega)]
      simp only [df]; omega
/-- differences again and again -/
def dk : Nat → (Nat → Int) → Nat → Int
  | 0, f => f
  | k + 1, f => df (dk k f)
theorem dk_df : ∀ (k : Nat) (f : Nat → Int), dk k (df f) = df (dk k f)
  | 0, f => rfl
  | k + 1, f => by show df (dk k (df f)) = _; rw [dk_df k f]; rfl
theorem Dg.dk : ∀ {d : Nat} {f : Nat → Int}, Dg d f → ∀ n, NT.dk d f n = 0
  | 0, f, h, n => h n
  | d + 1, f, h, n => by
    have := Dg.dk (d := d) (f := df f) h n
    rw [dk_df] at this; exact this
/-! ### sums and products -/
def sm : Nat → (Nat → Int) → Int
  | 0, _ => 0
  | n + 1, g => sm n g + g n
/-- the product of at - o for all o but h -/
def pe (h : Nat) : Nat → Int → Int
  | 0, _ => 1
  | n + 1, x => if n = h then pe h n x else pe h n x * (x - n)
theorem pe_dg (h : Nat) : ∀ n : Nat, Dg (if h < n then n else n + 1) fun k => pe h n k
  | 0 => by rw [if_neg (by omega)]; exact Dg.const 1
  | n + 1 => by
    have ih := pe_dg h n
    by_cases e : n = h
    · subst e
      rw [if_neg (by omega)] at ih
      rw [if_pos (by omega)]
      have : (fun k : Nat => pe n (n + 1) (k : Int)) = fun k : Nat => pe n n (k : Int) := by funext k; simp [pe]
      rw [this]; exact ih
    · have e2 : (fun k : Nat => pe h (n + 1) (k : Int)) = fun k : Nat => ((k : Int) - n) * pe h n (k : Int) := by
        funext k; simp only [pe]; rw [if_neg e, Int.mul_comm]
      rw [e2]
      have := Dg.lin (n : Int) ih
      by_cases l : h < n
      · rw [if_pos l] at this; rw [if_pos (by omega)]; exact this
      · rw [if_neg l] at this; rw [if_neg (by omega)]; exact this
theorem pe_zero (h : Nat) : ∀ (n j : Nat), j < n → j ≠ h → pe h n j = 0
  | 0, j, h1, _ => absurd h1 (by omega)
  | n + 1, j, h1, h2 => by
    simp only [pe]
    by_cases e : j = n
    · subst e; rw [if_neg h2, Int.sub_self, Int.mul_zero]
    · have := pe_zero h n j (by omega) h2
      split
      · exact this
      · rw [this, Int.zero_mul]
theorem Pr.imul {p : Nat} (hp : Pr p) {a b : Int} (h : (p : Int) ∣ a * b) : (p : Int) ∣ a ∨ (p : Int) ∣ b := by
  have h1 : p ∣ a.natAbs * b.natAbs := by
    rw [← Int.natAbs_mul]; exact Int.ofNat_dvd_left.mp h
  rcases hp.mul h1 with z | z
  · exact .inl (Int.ofNat_dvd_left.mpr z)
  · exact .inr (Int.ofNat_dvd_left.mpr z)
theorem ndvd_small {p : Nat} {a : Int} (h0 : a ≠ 0) (h1 : a.natAbs < p) : ¬ (p : Int) ∣ a := fun d => by
  have := Nat.le_of_dvd (by omega) (Int.ofNat_dvd_left.mp d)
  omega
/-- .. that is no multiple of p elsewhere -/
theorem pe_ndvd {p : Nat} (hp : Pr p) (h : Nat) : ∀ (n : Nat) (x : Int), (∀ o : Nat, o < n → o ≠ h → x - o ≠ 0 ∧ (x - o).natAbs < p) → ¬ (p : Int) ∣ pe h n x
  | 0, x, _ => fun d => by
    have h1 := hp.1
    have d : (p : Int) ∣ 1 := d
    have := Nat.le_of_dvd (by decide) (Int.ofNat_dvd_left.mp d)
    have e : (1 : Int).natAbs = 1 := rfl
    omega
  | n + 1, x, k => by
    have ih := pe_ndvd hp h n x fun o h1 h2 => k o (by omega) h2
    simp only [pe]
    split
    · exact ih
    · rename_i e
      intro d
      rcases hp.imul d with z | z
      · exact ih z
      · obtain ⟨h1, h2⟩ := k n (by omega) e
        exact ndvd_small h1 h2 z
/-- Lagrange's sum -/
def lg (r c : Nat → Int) (n : Nat) (x : Int) : Int := sm n fun h => r h * c h * pe h n x
theorem sm_dg {d : Nat} (g : Nat → Nat → Int) : ∀ n : Nat, (∀ h, h < n → Dg d (g h)) → Dg d fun k => sm n fun h => g h k
  | 0, _ => (show Dg 0 fun _ : Nat => (0 : Int) from fun _ => rfl).mono (Nat.zero_le d)
  | n + 1, h => by
    have := (sm_dg g n fun i hi => h i (by omega)).add (h n (by omega))
    exact this
theorem lg_dg (r c : Nat → Int) (n : Nat) : Dg n fun k : Nat => lg r c n k := by
  refine sm_dg (fun h k => r h * c h * pe h n k) n fun h hh => ?_
  have := pe_dg h n
  rw [if_pos hh] at this
  exact this.smul (r h * c h)
theorem sm_cong (p : Int) {g g' : Nat → Int} : ∀ n : Nat, (∀ h, h < n → g h % p = g' h % p) → sm n g % p = sm n g' % p
  | 0, _ => rfl
  | n + 1, h => by
    have ih := sm_cong p n fun i hi => h i (by omega)
    show (sm n g + g n) % p = (sm n g' + g' n) % p
    rw [Int.add_emod, ih, h n (by omega), ← Int.add_emod]
theorem sm_one (j : Nat) (v : Int) : ∀ n : Nat, sm n (fun h => if h = j then v else 0) = if j < n then v else 0
  | 0 => rfl
  | n + 1 => by
    simp only [sm, sm_one j v n]
    by_cases h1 : j < n
    · rw [if_pos h1, if_neg (by omega), if_pos (by omega)]; omega
    · by_cases h2 : n = j
      · rw [if_neg h1, if_pos h2, if_pos (by omega)]; omega
      · rw [if_neg h1, if_neg h2, if_neg (by omega)]; rfl
theorem lg_at {p : Int} {r c : Nat → Int} {n : Nat} (hc : ∀ h : Nat, h < n → c h * pe h n h % p = 1 % p) {j : Nat} (hj : j < n) : lg r c n j % p = r j % p := by
  have : lg r c n j % p = sm n (fun h => if h = j then r j else 0) % p := by
    refine sm_cong p n fun h hh => ?_
    by_cases e : h = j
    · subst e
      rw [if_pos rfl, Int.mul_assoc, Int.mul_emod, hc h hh, ← Int.mul_emod, Int.mul_one]
    · rw [if_neg e, pe_zero h n j hj (fun z => e z.symm), Int.mul_zero]
  rw [this, sm_one, if_pos hj]
/-- products at - r of a row -/
def pr (rs : List Int) (x : Int) : Int := rs.foldl (fun a r => a * (x - r)) 1
theorem pr_snoc (rs : List Int) (r x : Int) : pr (rs ++ [r]) x = pr rs x * (x - r) := by simp [pr]
theorem pr_dg (rs : List Int) : Dg (rs.length + 1) fun k : Nat => pr rs k := by
  have key : ∀ n (l : List Int), l.length = n → Dg (n + 1) fun k : Nat => pr l k := by
    intro n
    induction n with
    | zero => intro l hl; have : l = [] := List.length_eq_zero_iff.mp hl
              subst this; exact Dg.const 1
    | succ n ih =>
      intro l hl
      rcases List.eq_nil_or_concat l with h | ⟨xs, x, h⟩
      · subst h; simp at hl
      · have h : l = xs ++ [x] := by simpa using h
        subst h
        have := Dg.lin x (ih xs (by simp at hl; omega))
        have e : (fun k : Nat => pr (xs ++ [x]) (k : Int)) = fun k : Nat => ((k : Int) - x) * pr xs k := by
          funext k; rw [pr_snoc, Int.mul_comm]
        rw [e]; exact this
  exact key _ rs rfl
theorem pr_dvd {p : Nat} (hp : Pr p) : ∀ (n : Nat) (rs : List Int) (x : Int), rs.length = n → (p : Int) ∣ pr rs x → ∃ r ∈ rs, (p : Int) ∣ x - r
  | 0, rs, x, hl, d => by
    have : rs = [] := List.length_eq_zero_iff.mp hl
    subst this
    have h1 := hp.1
    have d : (p : Int) ∣ 1 := d
    have := Nat.le_of_dvd (by decide) (Int.ofNat_dvd_left.mp d)
    have e : (1 : Int).natAbs = 1 := rfl
    omega
  | n + 1, rs, x, hl, d => by
    rcases List.eq_nil_or_concat rs with h | ⟨xs, y, h⟩
    · subst h; simp at hl
    · have h : rs = xs ++ [y] := by simpa using h
      subst h
      rw [pr_snoc] at d
      rcases hp.imul d with z | z
      · obtain ⟨r, h1, h2⟩ := pr_dvd hp n xs x (by simp at hl; omega) z
        exact ⟨r, by simp [h1], h2⟩
      · exact ⟨y, by simp, z⟩
theorem pr_zero {rs : List Int} {x : Int} (h : x ∈ rs) : pr rs x = 0 := by
  have z : ∀ l : List Int, l.foldl (fun a r => a * (x - r)) 0 = 0 := by
    intro l
    induction l with
    | nil => rfl
    | cons y l ih => rw [List.foldl_cons, Int.zero_mul, ih]
  have key : ∀ (l : List Int) (a : Int), x ∈ l → l.foldl (fun a r => a * (x - r)) a = 0 := by
    intro l
    induction l with
    | nil => intro a h; cases h
    | cons y l ih =>
      intro a h
      rcases List.mem_cons.mp h with e | e
      · rw [List.foldl_cons, ← e, Int.sub_self, Int.mul_zero]; exact z l
      · rw [List.foldl_cons]; exact ih _ e
  exact key rs 1 h
end L2.NT
set_option Elab.async false
set_option linter.all false
set_option autoImplicit false
set_option maxRecDepth 100000
set_option maxHeartbeats 0
/-! Rows told place by place; loops with an end within; what is told is due, by recursion. -/
namespace L2.PV
open PySem PySem.Spec PyProof.Rows
/-- the row of g's worths -/
def sq (g : Nat → D) (n : Nat) : List D := (List.range n).map g
@[simp] theorem sq_len (g : Nat → D) (n : Nat) : (sq g n).length = n := by simp [sq]
theorem sq_get {g : Nat → D} {n i : Nat} (h : i < n) : (sq g n)[i]? = some (g i) := by simp [sq, h]
theorem sq_at {g : Nat → D} {n i : Nat} (h : i < n) : atI (sq g n) (i : Int) = some (g i) := atI_nn (sq_get h)
theorem sq_at1 {g : Nat → D} {n i : Nat} (h : i + 1 < n) : atI (sq g n) ((i : Int) + 1) = some (g (i + 1)) := by
  have := sq_at (g := g) h
  simpa using this
theorem sq_at0 {g : Nat → D} {n : Nat} (h : 0 < n) : atI (sq g n) 0 = some (g 0) := sq_at (g := g) h
theorem sq_snoc (g : Nat → D) (n : Nat) : sq g (n + 1) = sq g n ++ [g n] := by simp [sq, List.range_succ]
theorem sq_congr {g h : Nat → D} {n : Nat} (e : ∀ i, i < n → g i = h i) : sq g n = sq h n := by
  unfold sq
  apply List.map_congr_left
  intro i hi
  exact e i (by simpa using hi)
theorem sq_take (g : Nat → D) {m n : Nat} (h : m ≤ n) : (sq g n).take m = sq g m := by
  unfold sq
  rw [← List.map_take, List.take_range, Nat.min_eq_left h]
theorem list_sq (xs : List D) : xs = sq (fun i => xs.getD i .non) xs.length := by
  apply List.ext_getElem?
  intro i
  by_cases h : i < xs.length
  · rw [sq_get h, List.getD_eq_getElem?_getD, List.getElem?_eq_getElem h]; rfl
  · rw [List.getElem?_eq_none (by omega), List.getElem?_eq_none (by simp; omega)]
theorem rgN_sq (n : Nat) : rgN n = sq (fun i => .int (i : Int)) n := rfl
/-- .. of numbers -/
def sI (f : Nat → Int) (n : Nat) : List D := sq (fun i => .int (f i)) n
@[simp] theorem sI_len (g : Nat → Int) (n : Nat) : (sI g n).length = n := by simp [sI]
theorem sI_map (f : Nat → Int) (n : Nat) : sI f n = ((List.range n).map f).map .int := by simp [sI, sq]
theorem sI_at {g : Nat → Int} {n i : Nat} (h : i < n) : atI (sI g n) (i : Int) = some (.int (g i)) := sq_at h
theorem sI_at1 {g : Nat → Int} {n i : Nat} (h : i + 1 < n) : atI (sI g n) ((i : Int) + 1) = some (.int (g (i + 1))) := sq_at1 (g := fun i => .int (g i)) h
theorem sI_at0 {g : Nat → Int} {n : Nat} (h : 0 < n) : atI (sI g n) 0 = some (.int (g 0)) := sq_at0 (g := fun i => .int (g i)) h
theorem sI_snoc (g : Nat → Int) (n : Nat) : sI g (n + 1) = sI g n ++ [.int (g n)] := sq_snoc _ n
theorem sI_congr {g h : Nat → Int} {n : Nat} (e : ∀ i, i < n → g i = h i) : sI g n = sI h n := sq_congr fun i hi => by rw [e i hi]
theorem ints_sI (ns : List Int) : ns.map D.int = sI (fun i => ns.getD i 0) ns.length := by
  unfold sI
  apply List.ext_getElem?
  intro i
  by_cases h : i < ns.length
  · rw [sq_get h, List.getElem?_map]; simp [h]
  · rw [List.getElem?_eq_none (by simp; omega), List.getElem?_eq_none (by simp; omega)]
theorem sI_inj {f g : Nat → Int} {n : Nat} : (List.range n).map f = (List.range n).map g ↔ ∀ i, i < n → f i = g i := by
  constructor
  · intro h i hi
    have := congrArg (fun l => l[i]?) h
    simpa [hi] using this
  · intro h
    apply List.map_congr_left
    intro i hi
    exact h i (by simpa using hi)
/-! ### equality of rows of numbers, whatever they are -/
theorem eqD_tt (ns ms : List Int) : eqD (.tup (ns.map .int)) (.tup (ms.map .int)) = some (decide (ns = ms)) := by
  rw [eqD_of (toPy_tup ns) (toPy_tup ms) (shaped_t ns) (shaped_t ms) (fun _ h => nomatch h) (fun _ h => nomatch h) (fun _ h => nomatch h), PyData.eqv, eqv_ints]
theorem eqD_al (ns ms : List Int) : eqD (.acc (ns.map .int)) (.lst (ms.map .int)) = some (decide (ns = ms)) := by
  rw [eqD_of (toPy_acc ns) (toPy_lst ms) (shaped_l ns) (shaped_l ms) (fun _ h => nomatch h) (fun _ h => nomatch h) (fun _ h => nomatch h), PyData.eqv, eqv_ints]
theorem eqD_ll (ns ms : List Int) : eqD (.lst (ns.map .int)) (.lst (ms.map .int)) = some (decide (ns = ms)) := by
  rw [eqD_of (toPy_lst ns) (toPy_lst ms) (shaped_l ns) (shaped_l ms) (fun _ h => nomatch h) (fun _ h => nomatch h) (fun _ h => nomatch h), PyData.eqv, eqv_ints]
section
variable {cf : Nat → List D → Option CR} {pins : List Nat} {K : SR → Prop} {t tg it b s rest : M} {ρ ρ1 : DEnv} {ds : List D}
/-- a comprehension over range -/
theorem ev_rg {v n : Nat} {elt : M} (g : Nat → D) (hi : evI cf pins it ρ = some (.ok (rgN n) ρ1)) (hl : n ≤ 16777216) (ho : ownFz ρ1 [v] = true) (hv : v < ρ1.length) (hp : v ∉ pins)
    (hs : ∀ i : Nat, i < n → ∃ x, evE cf pins elt (ρ1.set v (some (.int (i : Int)))) = some (.ok x (ρ1.set v (some (.int (i : Int))))) ∧ frzM elt x = some (g i)) :
    evE cf pins (.lc [v] (.tgn v) it .nil elt) ρ = some (.ok (.acc (sq g n)) ρ1) := by
  have key := ev_map (cf := cf) (pins := pins) (ds := rgN n) (elt := elt) (fun d => match d with | .int i => g i.toNat | _ => .non) hi (by rw [rgN_len, sz]; exact hl) ho hv hp (fun d hd => by
    obtain ⟨i, hi⟩ := List.mem_iff_getElem?.mp hd
    obtain ⟨h, rfl⟩ := rgN_get hi
    exact hs i h)
  rw [key]
  congr 3
  simp [rgN, sq]
/-- .. with a test -/
theorem ev_filter {v : Nat} {cs elt : M} (c : D → Bool) (hi : evI cf pins it ρ = some (.ok ds ρ1)) (hl : ds.length ≤ sizeLine) (ho : ownFz ρ1 [v] = true) (hv : v < ρ1.length) (hp : v ∉ pins)
    (hs : ∀ d ∈ ds, evC cf pins cs (ρ1.set v (some d)) = some (.ok (c d) (ρ1.set v (some d))) ∧ ∃ x, evE cf pins elt (ρ1.set v (some d)) = some (.ok x (ρ1.set v (some d))) ∧ frzM elt x = some d) :
    evE cf pins (.lc [v] (.tgn v) it cs elt) ρ = some (.ok (.acc (ds.filter c)) ρ1) := by
  obtain ⟨xs, ρ2, e, rfl, rfl⟩ := ev_lc (cf := cf) (pins := pins) (own := [v]) (tg := .tgn v) (it := it) (cs := cs) (elt := elt) (ρ := ρ) (ρ1 := ρ1) (ds := ds)
    (P := fun i acc ρ => acc = (ds.take i).filter c ∧ ρ = ρ1.set v none) hi hl ho ⟨rfl, rfl⟩ (by
      rintro i d acc ρ hd ⟨rfl, rfl⟩
      obtain ⟨e0, x, e1, e2⟩ := hs d (List.mem_of_getElem? hd)
      refine ⟨ρ1.set v (some d), ρ1.set v (some d), c d, ?_, e0, ?_⟩
      · rw [tgM_tgn, asgI_ok hp (by simpa using hv), List.set_set]
      · have et : ds.take (i + 1) = ds.take i ++ [d] := by rw [List.take_add_one, hd]; rfl
        split
        · rename_i hc
          exact ⟨x, d, _, e1, e2, by rw [et, List.filter_append]; simp [hc], by simp [List.set_set]⟩
        · rename_i hc
          exact ⟨by rw [et, List.filter_append]; simp [hc], by simp [List.set_set]⟩)
  rw [e, List.take_length]
  simp only [backD_cons, backD_nil]
  rw [set_set_back hv]
/-- a loop that may end the def -/
theorem run_forR (P : Nat → DEnv → Prop) (hi : evI cf pins it ρ = some (.ok ds ρ1)) (h0 : P 0 ρ1)
    (hs : ∀ i d ρ, ds[i]? = some d → P i ρ → ∃ ρ2, tgM pins tg d ρ = some ρ2 ∧ Run cf pins b ρ2 fun r => (∃ ρ', r = .nx ρ' ∧ P (i + 1) ρ') ∨ ∃ d ρ', r = .rt d ρ' ∧ K r) (hk : ∀ ρ', P ds.length ρ' → Run cf pins t ρ' K) : Run cf pins (.cons (.for_ tg it b) t) ρ K := by
  have key : ∀ (es : List D) (i : Nat) (ρ : DEnv), i ≤ ds.length → ds.drop i = es → P i ρ → (∃ ρ', forM (fun d ρ => match tgM pins tg d ρ with | some ρ2 => evS cf pins b ρ2 | none => none) es ρ = some (.nx ρ') ∧ P ds.length ρ') ∨ (∃ d ρ', forM (fun d ρ => match tgM pins tg d ρ with | some ρ2 => evS cf pins b ρ2 | none => none) es ρ = some (.rt d ρ') ∧ K (.rt d ρ')) := by
    intro es
    induction es with
    | nil =>
      intro i ρ hle e p
      have : i = ds.length := by
        have := congrArg List.length e
        simp at this; omega
      subst this; exact .inl ⟨ρ, rfl, p⟩
    | cons d es ih =>
      intro i ρ hle e p
      have hd : ds[i]? = some d := by
        have := congrArg (fun l => l[0]?) e
        simpa using this
      have e2 : ds.drop (i + 1) = es := by
        rw [← List.drop_drop, e]; rfl
      obtain ⟨ρ2, e1, r, e3, k⟩ := hs i d ρ hd p
      rcases k with ⟨ρ', rfl, p'⟩ | ⟨x, ρ', rfl, k⟩
      · rcases ih (i + 1) ρ' (by have := (List.getElem?_eq_some_iff.mp hd).1; omega) e2 p' with ⟨ρ3, e4, p3⟩ | ⟨y, ρ3, e4, k3⟩
        · exact .inl ⟨ρ3, by rw [forM]; simp only [e1, e3]; exact e4, p3⟩
        · exact .inr ⟨y, ρ3, by rw [forM]; simp only [e1, e3]; exact e4, k3⟩
      · exact .inr ⟨x, ρ', by rw [forM]; simp only [e1, e3], k⟩
  rcases key ds 0 ρ1 (Nat.zero_le _) rfl h0 with ⟨ρ', e, p⟩ | ⟨d, ρ', e, k⟩
  · refine run_nx (ρ1 := ρ') ?_ (hk ρ' p)
    rw [evS, hi]; exact e
  · refine run_rt (d := d) (ρ1 := ρ') ?_ k
    rw [evS, hi]; exact e
end
end L2.PV
set_option Elab.async false
set_option linter.all false
set_option autoImplicit false
set_option maxRecDepth 100000
set_option maxHeartbeats 0
/-! What the laws' own helpers do, fourth part. -/
namespace L2.PV
open PySem PySem.Spec PyProof.Rows
theorem frz_fz {d : D} (h : fz d = true) : frzD d = some d := by cases d <;> first | rfl | cases h
mutual
def dpD : D → Nat
  | .tup ds => dpDs ds + 1
  | _ => 0
def dpDs : List D → Nat
  | [] => 0
  | d :: ds => max (dpD d) (dpDs ds)
end
theorem dp_mem : ∀ {ds : List D} {d : D}, d ∈ ds → dpD d ≤ dpDs ds
  | e :: ds, d, h => by
    rw [dpDs]
    rcases List.mem_cons.mp h with z | z
    · rw [z]; exact Nat.le_max_left _ _
    · exact Nat.le_trans (dp_mem z) (Nat.le_max_right _ _)
def bSame1 (j : Nat) : M := (.cons (.iff (.seq (.isi (.pl (.sl 1)) true ["tuple"])) (.cons (.iff (.bor (.bnot (.seq (.isi (.pl (.sl 0)) true ["tuple"]))) (.bone (.cmp .ne (.bi1 .len (.pl (.sl 0))) (.bi1 .len (.pl (.sl 1)))))) (.cons (.ret (.con (.bl false))) .nil) .nil) (.cons (.ret (.cmp .eq (.bi1 .len (.lc [2] (.tgn 2) (.rg1 (.bi1 .len (.pl (.sl 1)))) (.cons (.bnot (.seq (.call j (.cons (.idx (.pl (.sl 0)) (.pl (.sl 2))) (.cons (.idx (.pl (.sl 1)) (.pl (.sl 2))) .nil))))) .nil) (.pl (.sl 2)))) (.con (.int 0)))) .nil)) .nil) (.cons (.iff (.isN true (.pl (.sl 1))) (.cons (.ret (.isN true (.pl (.sl 0)))) .nil) .nil) (.cons (.iff (.bor (.isB true true (.pl (.sl 1))) (.bone (.isB true false (.pl (.sl 1))))) (.cons (.ret (.ife (.seq (.pl (.sl 1))) (.isB true true (.pl (.sl 0))) (.isB true false (.pl (.sl 0))))) .nil) .nil) (.cons (.iff (.seq (.isi (.pl (.sl 1)) true ["str"])) (.cons (.ret (.band (.isi (.pl (.sl 0)) true ["str"]) (.bone (.cmp .eq (.pl (.sl 0)) (.pl (.sl 1)))))) .nil) .nil) (.cons (.ret (.band (.isi (.pl (.sl 0)) true ["int"]) (.band (.bnot (.isi (.pl (.sl 0)) true ["bool"])) (.bone (.cmp .eq (.pl (.sl 0)) (.pl (.sl 1))))))) .nil)))))
section
variable {T : List MFn} {i0 : Nat}
theorem same_atm (hT : T[i0]? = some ⟨2, 3, [], bSame1 i0⟩) (k : Nat) {d : D} (h : Atm d) : callM T (k + 1) i0 [d, d] = some (.ok (.bl true) [d, d]) := by
  refine callM_is (fn := ⟨2, 3, [], bSame1 i0⟩) hT rfl ?_
  show Run _ [] (bSame1 i0) [some d, some d, none] _
  obtain ⟨i1, i2⟩ := isi3 h
  refine run_if (c := false) (ρ1 := [some d, some d, none]) (by simp [i2, truD]) (fun z => nomatch z) fun _ => run_nil ?_
  cases d <;> first | exact h.elim | skip
  · refine run_if (c := true) (ρ1 := [some .non, some .non, none]) (by simp [isNon]) (fun _ => ?_) fun z => nomatch z
    exact run_rt (d := .bl true) (ρ1 := [some .non, some .non, none]) (by simp [isNon]) (by simp)
  · rename_i b
    refine run_if (c := false) (ρ1 := [some (.bl b), some (.bl b), none]) (by simp [isNon]) (fun z => nomatch z) fun _ => run_nil ?_
    refine run_if (c := true) (ρ1 := [some (.bl b), some (.bl b), none]) (by cases b <;> simp [isBl]) (fun _ => ?_) fun z => nomatch z
    exact run_rt (d := .bl true) (ρ1 := [some (.bl b), some (.bl b), none]) (by cases b <;> simp [isBl, truD]) (by simp)
  · rename_i i
    refine run_if (c := false) (ρ1 := [some (.int i), some (.int i), none]) (by simp [isNon]) (fun z => nomatch z) fun _ => run_nil ?_
    refine run_if (c := false) (ρ1 := [some (.int i), some (.int i), none]) (by simp [isBl]) (fun z => nomatch z) fun _ => run_nil ?_
    refine run_if (c := false) (ρ1 := [some (.int i), some (.int i), none]) (by simp [isi_is, truD]) (fun z => nomatch z) fun _ => run_nil ?_
    exact run_rt (d := .bl true) (ρ1 := [some (.int i), some (.int i), none]) (by simp [isi_ii, isi_ib]) (by simp)
  · rename_i s
    refine run_if (c := false) (ρ1 := [some (.str s), some (.str s), none]) (by simp [isNon]) (fun z => nomatch z) fun _ => run_nil ?_
    refine run_if (c := false) (ρ1 := [some (.str s), some (.str s), none]) (by simp [isBl]) (fun z => nomatch z) fun _ => run_nil ?_
    refine run_if (c := true) (ρ1 := [some (.str s), some (.str s), none]) (by simp [isi_ss, truD]) (fun _ => ?_) fun z => nomatch z
    exact run_rt (d := .bl true) (ρ1 := [some (.str s), some (.str s), none]) (by simp [isi_ss, cmpD, eqD]) (by simp)
theorem g_same1 (hT : T[i0]? = some ⟨2, 3, [], bSame1 i0⟩) : ∀ (k : Nat) {d : D}, Pln d → dpD d ≤ k → callM T (k + 1) i0 [d, d] = some (.ok (.bl true) [d, d]) := by
  intro k
  induction k with
  | zero =>
    intro d hp hd
    have ha : Atm d := by cases d <;> first | exact hp.elim | trivial | (rw [dpD] at hd; omega)
    exact same_atm hT 0 ha
  | succ k ih =>
    intro d hp hd
    cases d with
    | tup ds =>
      obtain ⟨hl, hds⟩ : ds.length ≤ 1000000 ∧ Plns ds := hp
      refine callM_is (fn := ⟨2, 3, [], bSame1 i0⟩) hT rfl ?_
      show Run _ [] (bSame1 i0) [some (.tup ds), some (.tup ds), none] _
      refine run_if (c := true) (ρ1 := [some (.tup ds), some (.tup ds), none]) (by simp [isi_tt, truD]) (fun _ => ?_) fun z => nomatch z
      refine run_if (c := false) (ρ1 := [some (.tup ds), some (.tup ds), none]) (by simp [isi_tt, truD]) (fun z => nomatch z) fun _ => run_nil ?_
      have e := ev_filter (cf := callM T (k + 1)) (pins := []) (v := 2) (it := .rg1 (.bi1 .len (.pl (.sl 1)))) (cs := (.cons (.bnot (.seq (.call i0 (.cons (.idx (.pl (.sl 0)) (.pl (.sl 2))) (.cons (.idx (.pl (.sl 1)) (.pl (.sl 2))) .nil))))) .nil)) (elt := .pl (.sl 2))
        (ρ := [some (.tup ds), some (.tup ds), none]) (ρ1 := [some (.tup ds), some (.tup ds), none]) (ds := rgN ds.length) (fun _ => false)
        (by simp [rgD_nat (show ds.length ≤ 16777216 by omega)]) (by rw [rgN_len, sz]; omega) rfl (by simp) (by simp) (fun d hd2 => by
          obtain ⟨i, hd2⟩ := List.mem_iff_getElem?.mp hd2
          obtain ⟨hi, rfl⟩ := rgN_get hd2
          have e1 : ds[i]? = some ds[i] := by simp [hi]
          have pm := hds.mem ds[i] (List.getElem_mem hi)
          have dm := dp_mem (List.getElem_mem hi)
          have c := ih pm (by rw [dpD] at hd; omega)
          have f := pm.fz
          have fr := pm.frz
          generalize ds[i] = x at *
          exact ⟨by simp [atI_nn e1, fr, c, truD], .int i, by simp, by simp⟩)
      rw [show (rgN ds.length).filter (fun _ => false) = [] by simp] at e
      exact run_rt (d := .bl true) (ρ1 := [some (.tup ds), some (.tup ds), none]) (by simp [e]) (by simp)
    | int i => exact same_atm hT _ trivial
    | non => exact same_atm hT _ trivial
    | bl b => exact same_atm hT _ trivial
    | str s => exact same_atm hT _ trivial
    | _ => exact hp.elim
/-- in another order -/
def bMixed (j : Nat) : M := (.cons (.par [2, 3] (.cons (.bi1 .list (.pl (.sl 1))) (.cons (.lst .nil) .nil))) (.cons (.for_ (.tgn 4) (.rg1 (.bi1 .len (.pl (.sl 1)))) (.cons (.app (.sl 3) (.popAt (.sl 2) (.call j (.cons (.io 0) (.cons (.bi1 .len (.pl (.sl 2))) .nil))))) .nil)) (.cons (.ret (.mv 3)) .nil)))
theorem g_mixed {j : Nat} (hT : T[i0]? = some ⟨2, 5, [0], bMixed j⟩) (k : Nat) (any : AnyD T k j) (x : Dl) {s : D} {xs : List D} (fs : fz s = true) (ss : seqD s = some xs) (qs : lenD s = some xs.length) (fe : ∀ d ∈ xs, fz d = true) (hl : xs.length ≤ 1000000) :
    ∃ (ys : List D) (y : Dl), ys.Perm xs ∧ callM T (k + 1) i0 [x.d, s] = some (.ok (.acc ys) [y.d, s]) := by
  have key := callM_run (T := T) (k := k) (i := i0) (fn := ⟨2, 5, [0], bMixed j⟩) (ds := [x.d, s]) (Q := fun d ds' => ∃ (ys : List D) (y : Dl), ys.Perm xs ∧ d = .acc ys ∧ ds' = [y.d, s]) hT rfl ?_
  · obtain ⟨d, ds', e, ys, y, h1, rfl, rfl⟩ := key
    exact ⟨ys, y, h1, e⟩
  show Run _ [0] (bMixed j) [some x.d, some s, none, none, none] _
  refine run_nx (ρ1 := [some x.d, some s, some (.acc xs), some (.acc []), none]) (by simp [ss]) ?_
  refine run_for (fun i ρ => ∃ (left found : List D) (y : Dl) (z : Option D), (found ++ left).Perm xs ∧ left.length + i = xs.length ∧ ρ = [some y.d, some s, some (.acc left), some (.acc found), z]) (ds := rgN xs.length) (ρ1 := [some x.d, some s, some (.acc xs), some (.acc []), none]) (by simp [qs, rgD_nat (show xs.length ≤ 16777216 by omega)]) ⟨xs, [], x, none, by simp, by simp, rfl⟩ ?_ ?_
  · rintro i d ρ hd ⟨left, found, y, z, hp, hn, rfl⟩
    obtain ⟨hi, rfl⟩ := rgN_get hd
    have l0 : 0 < left.length := by omega
    have c := any y (left.length : Int) (by omega) (by omega)
    have r := rd_in y (b := (left.length : Int)) (by omega)
    generalize rd y (left.length : Int) = v at *
    obtain ⟨n, rfl⟩ := Int.eq_ofNat_of_zero_le r.1
    have hnl : n < left.length := by have := r.2; omega
    have e1 : left[n]? = some left[n] := by simp [hnl]
    have mem : left[n] ∈ xs := hp.subset (by simp [List.getElem_mem])
    have f1 := frz_fz (fe _ mem)
    have ix : ixN left.length (n : Int) = some n := by unfold ixN; rw [if_pos (by omega), if_pos (by omega)]; simp
    have pe : (left[n] :: left.eraseIdx n).Perm left := by
      rw [List.eraseIdx_eq_take_drop_succ]
      have e0 : left = left.take n ++ left[n] :: left.drop (n + 1) := by rw [List.getElem_cons_drop hnl, List.take_append_drop]
      conv => rhs; rw [e0]
      exact List.perm_middle.symm
    have fl : found.length < sizeLine := by
      have := hp.length_eq
      simp at this; rw [sz]; omega
    have le : (left.eraseIdx n).length = left.length - 1 := by rw [List.length_eraseIdx]; simp [hnl]
    generalize left[n] = w at *
    refine ⟨[some y.d, some s, some (.acc left), some (.acc found), some (.int i)], by simp, run_nx (ρ1 := [some (nx y (left.length : Int)).d, some s, some (.acc (left.eraseIdx n)), some (.acc (found ++ [w])), some (.int i)]) ?_ (run_nil ⟨_, rfl, left.eraseIdx n, found ++ [w], _, _, ?_, by omega, rfl⟩)⟩
    · have b63 : (n : Int) < 9223372036854775808 := by omega
      simp [c, ix, e1, f1, fl, Pl.isSl, b63]
    · refine List.Perm.trans ?_ hp
      rw [List.append_assoc]
      exact List.Perm.append_left found pe
  · rintro ρ ⟨left, found, y, z, hp, hn, rfl⟩
    rw [rgN_len] at hn
    have : left = [] := List.length_eq_zero_iff.mp (by omega)
    subst this
    rw [List.append_nil] at hp
    exact run_rt (d := .acc found) (ρ1 := [some y.d, some s, some (.acc []), none, z]) (by simp) ⟨.acc found, [y.d, s], by simp [fs], found, y, hp, rfl, rfl⟩
/-- a prime near by -/
def bNear : M := (.cons (.for_ (.tgn 1) (.rg2 (.pl (.sl 0)) (.bin .add (.pl (.sl 0)) (.con (.int 40)))) (.cons (.iff (.cmp .eq (.bi1 .len (.lc [2] (.tgn 2) (.rg2 (.con (.int 2)) (.con (.int 100))) (.cons (.band (.cmp .le (.bin .mul (.pl (.sl 2)) (.pl (.sl 2))) (.pl (.sl 1))) (.bone (.cmp .eq (.bin .mod (.bi1 .int (.pl (.sl 1))) (.pl (.sl 2))) (.con (.int 0))))) .nil) (.pl (.sl 2)))) (.con (.int 0))) (.cons (.ret (.pl (.sl 1))) .nil) .nil) .nil)) (.cons (.ret (.con (.int 101))) .nil))
/-- the primes drawn -/
structure Good5 (p : Nat) : Prop where
  pr : NT.Pr p
  lo : 5 ≤ p
  hi : p < 2 ^ 62
theorem near_ok {n : Nat} (h5 : 5 ≤ n) (h9 : n < 9100) (h : ∀ i : Nat, i < 98 → ¬ ((2 + i) * (2 + i) ≤ n ∧ n % (2 + i) = 0)) : Good5 n := by
  refine ⟨?_, h5, by omega⟩
  obtain ⟨r, hr, hd, lo⟩ := NT.min_div (show 1 < n by omega)
  obtain ⟨s, hs⟩ := hd
  have r1 := hr.1
  by_cases s1 : s = 1
  · rw [hs, s1, Nat.mul_one]; exact hr
  · have s0 : s ≠ 0 := fun z => by rw [z, Nat.mul_zero] at hs; omega
    have l := lo s (by omega) ⟨r, by rw [hs, Nat.mul_comm]⟩
    have sqr : r * r ≤ n := by rw [hs]; exact Nat.mul_le_mul_left r l
    have r99 : r < 100 := Nat.lt_of_not_le fun z => by
      have := Nat.mul_le_mul z z
      omega
    refine absurd ⟨?_, ?_⟩ (h (r - 2) (by omega))
    · rw [show 2 + (r - 2) = r by omega]; exact sqr
    · rw [show 2 + (r - 2) = r by omega]; exact Nat.mod_eq_zero_of_dvd ⟨s, hs⟩
theorem rgD_lh {lo : Int} {n : Nat} (h1 : 0 ≤ lo) (h2 : lo < 2 ^ 60) (h3 : n < 2 ^ 60) : rgD lo (lo + n) = some (sq (fun i => .int (lo + i)) n) := by
  unfold rgD sq
  rw [if_pos (by omega), show (lo + (n : Int) - lo).toNat = n by omega]
theorem g_near (hT : T[i0]? = some ⟨1, 3, [], bNear⟩) (k : Nat) {n : Nat} (h5 : 5 ≤ n) (h9 : n < 9006) : ∃ q : Nat, Good5 q ∧ callM T (k + 1) i0 [.int n] = some (.ok (.int q) [.int n]) := by
  have key := callM_run (T := T) (k := k) (i := i0) (fn := ⟨1, 3, [], bNear⟩) (ds := [.int n]) (Q := fun d ds' => ∃ q : Nat, Good5 q ∧ d = .int q ∧ ds' = [.int n]) hT rfl ?_
  · obtain ⟨d, ds', e, q, h1, rfl, rfl⟩ := key
    exact ⟨q, h1, e⟩
  show Run _ [] bNear [some (.int n), none, none] _
  have r1 := rgD_lh (lo := (n : Int)) (n := 40) (by omega) (by omega) (by omega)
  have r2 := rgD_lh (lo := 2) (n := 98) (by decide) (by decide) (by decide)
  rw [show (2 : Int) + (98 : Nat) = 100 from rfl] at r2
  simp at r1
  refine run_forR (fun i ρ => ∃ z, ρ = [some (.int n), z, none]) (ds := sq (fun i => .int (n + i)) 40) (ρ1 := [some (.int n), none, none]) (by simp [r1]) ⟨none, rfl⟩ ?_ ?_
  · rintro i d ρ hd ⟨z, rfl⟩
    have hi : i < 40 := by have := (List.getElem?_eq_some_iff.mp hd).1; simpa using this
    rw [sq_get hi] at hd
    cases hd
    refine ⟨[some (.int n), some (.int ((n : Int) + i)), none], by simp, ?_⟩
    have em : (n : Int) + i = ((n + i : Nat) : Int) := by omega
    rw [em]
    have hm5 : 5 ≤ n + i := by omega
    have hm9 : n + i < 9100 := by omega
    generalize n + i = m at *
    have e := ev_filter (cf := callM T k) (pins := []) (v := 2) (it := .rg2 (.con (.int 2)) (.con (.int 100))) (cs := (.cons (.band (.cmp .le (.bin .mul (.pl (.sl 2)) (.pl (.sl 2))) (.pl (.sl 1))) (.bone (.cmp .eq (.bin .mod (.bi1 .int (.pl (.sl 1))) (.pl (.sl 2))) (.con (.int 0))))) .nil)) (elt := .pl (.sl 2))
      (ρ := [some (.int n), some (.int m), none]) (ρ1 := [some (.int n), some (.int m), none]) (ds := sq (fun i => .int (2 + i)) 98) (fun d => match d with | .int v => decide (v * v ≤ m) && ((m : Int) % v == 0) | _ => false)
      (by simp [r2]) (by rw [sq_len, sz]; omega) rfl (by simp) (by simp) (fun d hd2 => by
        obtain ⟨j, hd2⟩ := List.mem_iff_getElem?.mp hd2
        have hj : j < 98 := by have := (List.getElem?_eq_some_iff.mp hd2).1; simpa using this
        rw [sq_get hj] at hd2
        cases hd2
        have sj : Sm (2 + (j : Int)) := sm_of (by omega)
        have pj : (0 : Int) < 2 + (j : Int) := by omega
        refine ⟨?_, .int (2 + j), by simp, by simp⟩
        by_cases hc : (2 + (j : Int)) * (2 + (j : Int)) ≤ m
        · simp [sj, pj, hc]
          split <;> simp_all
        · simp [sj, pj, hc])
    generalize hF : (sq (fun i => D.int (2 + i)) 98).filter _ = F at e
    have ln : (F.length : Int) = 0 ↔ F = [] := by rw [← List.length_eq_zero_iff]; omega
    by_cases hf : F = []
    · refine run_if (c := true) (ρ1 := [some (.int n), some (.int m), none]) (by simp [e, hf]) (fun _ => ?_) fun z => nomatch z
      refine run_rt (d := .int m) (ρ1 := [some (.int n), some (.int m), none]) (by simp) (.inr ⟨.int m, _, rfl, .int m, [.int n], by simp, m, near_ok hm5 hm9 fun j hj hc => ?_, rfl, rfl⟩)
      rw [hf] at hF
      have := List.filter_eq_nil_iff.mp hF (.int (2 + j)) (by
        refine List.mem_iff_getElem?.mpr ⟨j, by rw [sq_get hj]⟩)
      refine this ?_
      have c1 : (2 + (j : Int)) * (2 + (j : Int)) ≤ m := by
        have := hc.1
        have h := Int.ofNat_le.mpr this
        simpa using h
      have c2 : (m : Int) % (2 + (j : Int)) = 0 := by
        have := hc.2
        have h : ((m % (2 + j) : Nat) : Int) = 0 := by omega
        simpa using h
      simp [c1, c2]
    · refine run_if (c := false) (ρ1 := [some (.int n), some (.int m), none]) (by simp [e]; exact hf) (fun z => nomatch z) fun _ => run_nil (run_nil (.inl ⟨_, rfl, _, rfl⟩))
  · rintro ρ ⟨z, rfl⟩
    exact run_rt (d := .int 101) (ρ1 := [some (.int n), z, none]) (by simp) ⟨.int 101, [.int n], by simp, 101, ⟨NT.pr101, by decide, by decide⟩, rfl, rfl⟩
end
end L2.PV
set_option Elab.async false
set_option linter.all false
set_option autoImplicit false
namespace L2.NT
theorem pr1945555039024054273 : Pr 1945555039024054273 := cert_ok (a := 5) (l := [2, 2, 2, 2, 2, 2, 2, 2, 2, 2, 2, 2, 2, 2, 2, 2, 2, 2, 2, 2, 2, 2, 2, 2, 2, 2, 2, 2, 2, 2, 2]) (by decide +kernel) fun q hq => by
  simp only [List.mem_cons, List.not_mem_nil, or_false] at hq
  rcases hq with rfl | rfl | rfl | rfl | rfl | rfl | rfl | rfl | rfl | rfl | rfl | rfl | rfl | rfl | rfl | rfl | rfl | rfl | rfl | rfl | rfl | rfl | rfl | rfl | rfl | rfl | rfl | rfl | rfl | rfl | rfl
  · exact pr2
  · exact pr2
  · exact pr2
  · exact pr2
  · exact pr2
  · exact pr2
  · exact pr2
  · exact pr2
  · exact pr2
  · exact pr2
  · exact pr2
  · exact pr2
  · exact pr2
  · exact pr2
  · exact pr2
  · exact pr2
  · exact pr2
  · exact pr2
  · exact pr2
  · exact pr2
  · exact pr2
  · exact pr2
  · exact pr2
  · exact pr2
  · exact pr2
  · exact pr2
  · exact pr2
  · exact pr2
  · exact pr2
  · exact pr2
  · exact pr2
end L2.NT
set_option Elab.async false
set_option linter.all false
set_option autoImplicit false
set_option maxRecDepth 100000
set_option maxHeartbeats 0
/-! What the laws' own helpers do, fifth part: primes, residues, rows. -/
namespace L2.PV
open PySem PySem.Spec PyProof.Rows
section
variable {T : List MFn} {i0 : Nat}
def OfD (T : List MFn) (k o : Nat) : Prop := ∀ (x : Dl) (xs : List D), xs ≠ [] → xs.length < 16777217 → callM T k o [x.d, .lst xs] = some (.ok (pk x xs) [(nx x (xs.length : Int)).d, .lst xs])
theorem g_ofL {j : Nat} (hT : T[i0]? = some ⟨2, 2, [0], bOf j⟩) (k : Nat) (any : AnyD T k j) : OfD T (k + 1) i0 := fun x xs hx hl => g_ofD hT k any x rfl rfl (fun _ => rfl) hx hl
theorem of_nat {k o : Nat} (of : OfD T k o) (x : Dl) (is : List Int) (h1 : is ≠ []) (h2 : is.length < 100) {G : Nat → Prop} (h3 : ∀ i ∈ is, ∃ p : Nat, i = p ∧ G p) : ∃ (p : Nat) (y : Dl), G p ∧ callM T k o [x.d, .lst (is.map .int)] = some (.ok (.int p) [y.d, .lst (is.map .int)]) := by
  have c := of x (is.map .int) (by simpa using h1) (by simp; omega)
  have m := pk_mem x (xs := is.map D.int) (by simpa using h1)
  obtain ⟨i, hi, e⟩ := List.mem_map.mp m
  obtain ⟨p, rfl, g⟩ := h3 i hi
  exact ⟨p, _, g, by rw [c, ← e]⟩
def bPrime5 (a o n : Nat) : M := (.cons (.asg (.tgn 1) (.call a (.cons (.io 0) (.cons (.con (.int 8)) .nil)))) (.cons (.iff (.cmp .lt (.pl (.sl 1)) (.con (.int 2))) (.cons (.ret (.bin .add (.con (.int 5)) (.bin .mul (.con (.int 2)) (.pl (.sl 1))))) .nil) .nil) (.cons (.iff (.cmp .lt (.pl (.sl 1)) (.con (.int 4))) (.cons (.ret (.con (.int 2305843009213693951))) .nil) .nil) (.cons (.iff (.cmp .eq (.pl (.sl 1)) (.con (.int 4))) (.cons (.ret (.call o (.cons (.io 0) (.cons (.lst (.cons (.con (.int 2147483647)) (.cons (.con (.int 4294967291)) (.cons (.con (.int 998244353)) (.cons (.con (.int 1000000007)) (.cons (.con (.int 1945555039024054273)) (.cons (.con (.int 65537)) .nil))))))) .nil)))) .nil) .nil) (.cons (.ret (.call n (.cons (.bin .add (.con (.int 5)) (.call a (.cons (.io 0) (.cons (.con (.int 9000)) .nil)))) .nil))) .nil)))))
theorem g_prime5 {a o n : Nat} (hT : T[i0]? = some ⟨1, 2, [0], bPrime5 a o n⟩) (hN : T[n]? = some ⟨1, 3, [], bNear⟩) (k : Nat) (any : AnyD T (k + 1) a) (of : OfD T (k + 1) o) (x : Dl) : ∃ (p : Nat) (y : Dl), Good5 p ∧ callM T (k + 2) i0 [x.d] = some (.ok (.int p) [y.d]) := by
  have key := callM_run (T := T) (k := k + 1) (i := i0) (fn := ⟨1, 2, [0], bPrime5 a o n⟩) (ds := [x.d]) (Q := fun d ds' => ∃ (p : Nat) (y : Dl), Good5 p ∧ d = .int p ∧ ds' = [y.d]) hT rfl ?_
  · obtain ⟨d, ds', e, p, y, h1, rfl, rfl⟩ := key
    exact ⟨p, y, h1, e⟩
  show Run _ [0] (bPrime5 a o n) [some x.d, none] _
  have hr := rd_in x (b := 8) (by decide)
  refine run_nx (ρ1 := [some (nx x 8).d, some (.int (rd x 8))]) (by simp [any x 8]) ?_
  generalize rd x 8 = r at *
  generalize nx x 8 = x1
  by_cases h0 : r < 2
  · refine run_if (c := true) (ρ1 := [some x1.d, some (.int r)]) (by simp [h0]) (fun _ => ?_) fun z => nomatch z
    have r0 : r = 0 ∨ r = 1 := by have := hr.1; omega
    rcases r0 with rfl | rfl
    · exact run_rt (d := .int 5) (ρ1 := [some x1.d, some (.int 0)]) (by simp [sm_of]) ⟨.int 5, [x1.d], by simp, 5, x1, ⟨NT.pr5, by decide, by decide⟩, rfl, rfl⟩
    · exact run_rt (d := .int 7) (ρ1 := [some x1.d, some (.int 1)]) (by simp [sm_of]) ⟨.int 7, [x1.d], by simp, 7, x1, ⟨NT.pr7, by decide, by decide⟩, rfl, rfl⟩
  refine run_if (c := false) (ρ1 := [some x1.d, some (.int r)]) (by simp; omega) (fun z => nomatch z) fun _ => run_nil ?_
  by_cases h1 : r < 4
  · refine run_if (c := true) (ρ1 := [some x1.d, some (.int r)]) (by simp [h1]) (fun _ => ?_) fun z => nomatch z
    exact run_rt (d := .int 2305843009213693951) (ρ1 := [some x1.d, some (.int r)]) (by simp) ⟨.int 2305843009213693951, [x1.d], by simp, 2305843009213693951, x1, ⟨NT.pr2305843009213693951, by decide, by decide⟩, rfl, rfl⟩
  refine run_if (c := false) (ρ1 := [some x1.d, some (.int r)]) (by simp; omega) (fun z => nomatch z) fun _ => run_nil ?_
  by_cases h2 : r = 4
  · refine run_if (c := true) (ρ1 := [some x1.d, some (.int r)]) (by simp [h2]) (fun _ => ?_) fun z => nomatch z
    obtain ⟨p, y, g, c⟩ := of_nat of x1 [2147483647, 4294967291, 998244353, 1000000007, 1945555039024054273, 65537] (by simp) (by simp) (G := Good5) (by
      simp only [List.mem_cons, List.not_mem_nil, or_false]
      rintro i (rfl | rfl | rfl | rfl | rfl | rfl)
      · exact ⟨2147483647, rfl, NT.pr2147483647, by decide, by decide⟩
      · exact ⟨4294967291, rfl, NT.pr4294967291, by decide, by decide⟩
      · exact ⟨998244353, rfl, NT.pr998244353, by decide, by decide⟩
      · exact ⟨1000000007, rfl, NT.pr1000000007, by decide, by decide⟩
      · exact ⟨1945555039024054273, rfl, NT.pr1945555039024054273, by decide, by decide⟩
      · exact ⟨65537, rfl, NT.pr65537, by decide, by decide⟩)
    simp only [List.map_cons, List.map_nil] at c
    exact run_rt (d := .int p) (ρ1 := [some y.d, some (.int r)]) (by simp [c]) ⟨.int p, [y.d], by simp, p, y, g, rfl, rfl⟩
  refine run_if (c := false) (ρ1 := [some x1.d, some (.int r)]) (by simp [h2]) (fun z => nomatch z) fun _ => run_nil ?_
  have c1 := any x1 9000 (by decide) (by decide)
  have r1 := rd_in x1 (b := 9000) (by decide)
  generalize rd x1 9000 = v at *
  obtain ⟨m, rfl⟩ := Int.eq_ofNat_of_zero_le r1.1
  have hm := r1.2
  obtain ⟨p, g, c2⟩ := g_near hN k (n := 5 + m) (by omega) (by omega)
  rw [Int.natCast_add] at c2
  simp at c2
  exact run_rt (d := .int p) (ρ1 := [some (nx x1 9000).d, some (.int r)]) (by simp [c1, c2]) ⟨.int p, [(nx x1 9000).d], by simp, p, _, g, rfl, rfl⟩
/-- residues -/
def bRes (a : Nat) : M := (.cons (.asg (.tgn 2) (.call a (.cons (.io 0) (.cons (.con (.int 12)) .nil)))) (.cons (.iff (.cmp .lt (.pl (.sl 2)) (.con (.int 3))) (.cons (.ret (.idx (.lst (.cons (.con (.int 0)) (.cons (.con (.int 1)) (.cons (.bin .sub (.pl (.sl 1)) (.con (.int 1))) .nil)))) (.pl (.sl 2)))) .nil) .nil) (.cons (.asg (.tgn 3) (.con (.int 0))) (.cons (.for_ (.tgn 4) (.rg1 (.con (.int 3))) (.cons (.asg (.tgn 3) (.bin .add (.bin .mul (.pl (.sl 3)) (.con (.int 2097152))) (.call a (.cons (.io 0) (.cons (.con (.int 2097152)) .nil))))) .nil)) (.cons (.ret (.bin .mod (.bi1 .int (.pl (.sl 3))) (.pl (.sl 1)))) .nil)))))
def ResD (T : List MFn) (k r : Nat) : Prop := ∀ (x : Dl) (p : Nat), 5 ≤ p → p < 2 ^ 62 → ∃ (v : Nat) (y : Dl), v < p ∧ callM T k r [x.d, .int p] = some (.ok (.int v) [y.d, .int p])
theorem rg3 : rgD 0 3 = some (rgN 3) := rgD_nat (n := 3) (by decide)
theorem g_res {a : Nat} (hT : T[i0]? = some ⟨2, 5, [0], bRes a⟩) (k : Nat) (any : AnyD T k a) : ResD T (k + 1) i0 := fun x p h5 h62 => by
  have key := callM_run (T := T) (k := k) (i := i0) (fn := ⟨2, 5, [0], bRes a⟩) (ds := [x.d, .int p]) (Q := fun d ds' => ∃ (v : Nat) (y : Dl), v < p ∧ d = .int v ∧ ds' = [y.d, .int p]) hT rfl ?_
  · obtain ⟨d, ds', e, p, y, h1, rfl, rfl⟩ := key
    exact ⟨p, y, h1, e⟩
  show Run _ [0] (bRes a) [some x.d, some (.int p), none, none, none] _
  have hr := rd_in x (b := 12) (by decide)
  refine run_nx (ρ1 := [some (nx x 12).d, some (.int p), some (.int (rd x 12)), none, none]) (by simp [any x 12]) ?_
  generalize rd x 12 = r at *
  generalize nx x 12 = x1
  by_cases h0 : r < 3
  · refine run_if (c := true) (ρ1 := [some x1.d, some (.int p), some (.int r), none, none]) (by simp [h0]) (fun _ => ?_) fun z => nomatch z
    have r0 : r = 0 ∨ r = 1 ∨ r = 2 := by have := hr.1; omega
    rcases r0 with rfl | rfl | rfl
    · exact run_rt (d := .int 0) (ρ1 := [some x1.d, some (.int p), some (.int 0), none, none]) (by simp [atI, ixN]) ⟨.int 0, [x1.d, .int p], by simp, 0, x1, by omega, rfl, rfl⟩
    · exact run_rt (d := .int 1) (ρ1 := [some x1.d, some (.int p), some (.int 1), none, none]) (by simp [atI, ixN]) ⟨.int 1, [x1.d, .int p], by simp, 1, x1, by omega, rfl, rfl⟩
    · exact run_rt (d := .int ((p : Int) - 1)) (ρ1 := [some x1.d, some (.int p), some (.int 2), none, none]) (by simp [atI, ixN]) ⟨.int ((p : Int) - 1), [x1.d, .int p], by simp, p - 1, x1, by omega, by congr 1; omega, rfl⟩
  refine run_if (c := false) (ρ1 := [some x1.d, some (.int p), some (.int r), none, none]) (by simp; omega) (fun z => nomatch z) fun _ => run_nil ?_
  refine run_nx (ρ1 := [some x1.d, some (.int p), some (.int r), some (.int 0), none]) (by simp) ?_
  refine run_for (fun i ρ => ∃ (y : Dl) (w : Int) (z : Option D), 0 ≤ w ∧ w < 2097152 ^ i ∧ ρ = [some y.d, some (.int p), some (.int r), some (.int w), z]) (ds := rgN 3) (ρ1 := [some x1.d, some (.int p), some (.int r), some (.int 0), none]) (by simp [rg3]) ⟨x1, 0, none, by decide, by decide, rfl⟩ ?_ ?_
  · rintro i d ρ hd ⟨y, w, z, w0, w1, rfl⟩
    obtain ⟨hi, rfl⟩ := rgN_get hd
    have c := any y 2097152 (by decide) (by decide)
    have hv := rd_in y (b := 2097152) (by decide)
    generalize rd y 2097152 = v at *
    have b4 : (2097152 : Int) ^ i ≤ 2097152 ^ 2 := by
      have : i = 0 ∨ i = 1 ∨ i = 2 := by omega
      rcases this with rfl | rfl | rfl <;> decide
    have sm : Sm w := sm_of (by omega)
    have s2 : Sm 2097152 := sm_of (by decide)
    refine ⟨[some y.d, some (.int p), some (.int r), some (.int w), some (.int i)], by simp, run_nx (ρ1 := [some (nx y 2097152).d, some (.int p), some (.int r), some (.int (w * 2097152 + v)), some (.int i)]) (by simp [c, sm, s2]) (run_nil ⟨_, rfl, _, _, _, by have := hv.1; omega, ?_, rfl⟩)⟩
    rw [Int.pow_succ]
    have := hv.2
    omega
  · rintro ρ ⟨y, w, z, w0, w1, rfl⟩
    have hp : 0 < (p : Int) := by omega
    have h1 := Int.emod_nonneg w (show (p : Int) ≠ 0 by omega)
    have h2 := Int.emod_lt_of_pos w hp
    have em : binD .mod (.int w) (.int p) = some (.int (w % p)) := binD_mod hp
    generalize w % p = v at *
    obtain ⟨n, rfl⟩ := Int.eq_ofNat_of_zero_le h1
    exact run_rt (d := .int n) (ρ1 := [some y.d, some (.int p), some (.int r), some (.int w), z]) (by simp [em]) ⟨.int n, [y.d, .int p], by simp, n, y, by omega, rfl, rfl⟩
/-- rows of residues -/
def bRow (r : Nat) : M := (.cons (.asg (.tgn 3) (.lc [6] (.tgn 6) (.rg1 (.bi2 .min2 (.pl (.sl 2)) (.con (.int 12)))) .nil (.call r (.cons (.io 0) (.cons (.pl (.sl 1)) .nil))))) (.cons (.par [4, 5] (.cons (.call r (.cons (.io 0) (.cons (.pl (.sl 1)) .nil))) (.cons (.call r (.cons (.io 0) (.cons (.pl (.sl 1)) .nil))) .nil))) (.cons (.for_ (.tgn 6) (.rg1 (.bin .sub (.pl (.sl 2)) (.bi1 .len (.pl (.sl 3))))) (.cons (.app (.sl 3) (.bin .mod (.bi1 .int (.bin .add (.bin .add (.bin .mul (.idx (.pl (.sl 3)) (.pl (.sl 6))) (.pl (.sl 4))) (.bin .mul (.pl (.sl 5)) (.pl (.sl 6)))) (.con (.int 1)))) (.pl (.sl 1)))) .nil)) (.cons (.ret (.bi1 .tuple (.pl (.sl 3)))) .nil))))
theorem min2I (i j : Int) : bi2D .min2 (.int i) (.int j) = some (.int (if j < i then j else i)) := (rfl)
theorem g_row {r : Nat} (hT : T[i0]? = some ⟨3, 7, [0], bRow r⟩) (k : Nat) (res : ResD T k r) (x : Dl) {p n : Nat} (h5 : 5 ≤ p) (h62 : p < 2 ^ 62) (hn : n ≤ 100000) :
    ∃ (rs : List Nat) (y : Dl), rs.length = n ∧ (∀ v ∈ rs, v < p) ∧ callM T (k + 1) i0 [x.d, .int p, .int n] = some (.ok (.tup ((rs.map (fun (v : Nat) => (v : Int))).map .int)) [y.d, .int p, .int n]) := by
  have key := callM_run (T := T) (k := k) (i := i0) (fn := ⟨3, 7, [0], bRow r⟩) (ds := [x.d, .int p, .int n]) (Q := fun d ds' => ∃ (rs : List Nat) (y : Dl), rs.length = n ∧ (∀ v ∈ rs, v < p) ∧ d = .tup ((rs.map (fun (v : Nat) => (v : Int))).map .int) ∧ ds' = [y.d, .int p, .int n]) hT rfl ?_
  · obtain ⟨d, ds', e, rs, y, h1, h2, rfl, rfl⟩ := key
    exact ⟨rs, y, h1, h2, e⟩
  show Run _ [0] (bRow r) [some x.d, some (.int p), some (.int n), none, none, none, none] _
  have hp0 : 0 < (p : Int) := by omega
  have mn : bi2D .min2 (.int (n : Int)) (.int 12) = some (.int ((min n 12 : Nat) : Int)) := by
    rw [min2I]; congr 2
    split <;> omega
  have hm : min n 12 ≤ n := Nat.min_le_left _ _
  have hm0 : min n 12 = 0 → n = 0 := by omega
  generalize min n 12 = m at *
  obtain ⟨xs, ρ2, e, rs, y, r1, r2, r3, rfl⟩ := ev_lc (cf := callM T k) (pins := [0]) (own := [6]) (tg := .tgn 6) (it := .rg1 (.bi2 .min2 (.pl (.sl 2)) (.con (.int 12)))) (cs := .nil) (elt := .call r (.cons (.io 0) (.cons (.pl (.sl 1)) .nil)))
    (ρ := [some x.d, some (.int p), some (.int n), none, none, none, none]) (ρ1 := [some x.d, some (.int p), some (.int n), none, none, none, none]) (ds := rgN m)
    (P := fun i acc ρ => ∃ (rs : List Nat) (y : Dl), rs.length = i ∧ acc = (rs.map (fun (v : Nat) => (v : Int))).map .int ∧ (∀ v ∈ rs, v < p) ∧ ρ = [some y.d, some (.int p), some (.int n), none, none, none, none])
    (by simp [mn, rgD_nat (show m ≤ 16777216 by omega)]) (by rw [rgN_len, sz]; omega) rfl ⟨[], x, rfl, by simp, by simp, rfl⟩ (by
      rintro i d acc ρ hd ⟨rs, y, rfl, rfl, hr, rfl⟩
      obtain ⟨_, rfl⟩ := rgN_get hd
      obtain ⟨v, y2, hv, c⟩ := res y p h5 h62
      refine ⟨[some y.d, some (.int p), some (.int n), none, none, none, some (.int (rs.length : Int))], [some y.d, some (.int p), some (.int n), none, none, none, some (.int (rs.length : Int))], true, by simp, by simp, ?_⟩
      rw [if_pos rfl]
      refine ⟨.int v, .int v, [some y2.d, some (.int p), some (.int n), none, none, none, some (.int (rs.length : Int))], by simp [c], by simp, rs ++ [v], y2, by simp, by simp, fun w hw => ?_, by simp⟩
      rcases List.mem_append.mp hw with z | z
      · exact hr w z
      · rw [List.mem_singleton.mp z]; exact hv)
  rw [rgN_len] at r1
  refine run_nx (ρ1 := [some y.d, some (.int p), some (.int n), some (.acc xs), none, none, none]) (by simp [e]) ?_
  obtain ⟨b, y2, hb, c2⟩ := res y p h5 h62
  obtain ⟨ad, y3, had, c3⟩ := res y2 p h5 h62
  refine run_nx (ρ1 := [some y3.d, some (.int p), some (.int n), some (.acc xs), some (.int b), some (.int ad), none]) (by simp [c2, c3]) ?_
  subst r2
  have eN : ((n : Int) - (m : Int)) = ((n - m : Nat) : Int) := by omega
  have rg := rgD_nat (n := n - m) (by omega)
  refine run_for (fun i ρ => ∃ (rs : List Nat) (z : Option D), rs.length = m + i ∧ (∀ v ∈ rs, v < p) ∧ ρ = [some y3.d, some (.int p), some (.int n), some (.acc ((rs.map (fun (v : Nat) => (v : Int))).map .int)), some (.int b), some (.int ad), z]) (ds := rgN (n - m)) (ρ1 := [some y3.d, some (.int p), some (.int n), some (.acc ((rs.map (fun (v : Nat) => (v : Int))).map .int)), some (.int b), some (.int ad), none]) (by simp [r1, eN, rg]) ⟨rs, none, r1, r3, rfl⟩ ?_ ?_
  · rintro i d ρ hd ⟨rs, z, hl, hr, rfl⟩
    obtain ⟨hi, rfl⟩ := rgN_get hd
    have hil : i < rs.length := by omega
    have e1 : rs[i]? = some rs[i] := by simp [hil]
    have hv := hr rs[i] (List.getElem_mem hil)
    have ix : atI ((rs.map (fun (v : Nat) => (v : Int))).map D.int) (i : Int) = some (.int (rs[i] : Int)) := atI_nn (by rw [List.getElem?_map, List.getElem?_map, e1]; rfl)
    generalize rs[i] = v at *
    have sv : Sm (v : Int) := sm_of (by omega)
    have sb : Sm (b : Int) := sm_of (by omega)
    have sa : Sm (ad : Int) := sm_of (by omega)
    have si : Sm (i : Int) := sm_of (by omega)
    have em : binD .mod (.int ((v : Int) * b + (ad : Int) * i + 1)) (.int p) = some (.int (((v * b + ad * i + 1) % p : Nat) : Int)) := by
      rw [binD_mod hp0]; simp
    have hw : (v * b + ad * i + 1) % p < p := Nat.mod_lt _ (by omega)
    generalize (v * b + ad * i + 1) % p = w at *
    have fl : rs.length < sizeLine := by rw [sz]; omega
    refine ⟨[some y3.d, some (.int p), some (.int n), some (.acc ((rs.map (fun (v : Nat) => (v : Int))).map .int)), some (.int b), some (.int ad), some (.int i)], by simp, run_nx (ρ1 := [some y3.d, some (.int p), some (.int n), some (.acc (((rs ++ [w]).map (fun (v : Nat) => (v : Int))).map .int)), some (.int b), some (.int ad), some (.int i)]) ?_ (run_nil ⟨_, rfl, rs ++ [w], _, by simp; omega, ?_, rfl⟩)⟩
    · simp only [List.map_append, List.map_cons, List.map_nil]
      have fl2 : (List.map D.int (List.map (fun (v : Nat) => (v : Int)) rs)).length < sizeLine := by simp; exact fl
      generalize List.map D.int (List.map (fun (v : Nat) => (v : Int)) rs) = A at *
      simp [ix, sv, sb, sa, si, em, fl2, Pl.isSl]
    · intro u hu
      rcases List.mem_append.mp hu with z | z
      · exact hr u z
      · rw [List.mem_singleton.mp z]; exact hw
  · rintro ρ ⟨rs, z, hl, hr, rfl⟩
    rw [rgN_len] at hl
    exact run_rt (d := .tup ((rs.map (fun (v : Nat) => (v : Int))).map .int)) (ρ1 := [some y3.d, some (.int p), some (.int n), some (.acc ((rs.map (fun (v : Nat) => (v : Int))).map .int)), some (.int b), some (.int ad), z]) (by simp) ⟨.tup ((rs.map (fun (v : Nat) => (v : Int))).map .int), [y3.d, .int p, .int n], by simp, rs, y3, by omega, hr, rfl, rfl⟩
end
end L2.PV
set_option Elab.async false
set_option linter.all false
set_option autoImplicit false
set_option maxRecDepth 100000
set_option maxHeartbeats 0
/-! Steps that find the slots behind them by themselves. -/
namespace L2.PV
open PySem PySem.Spec PyProof.Rows
section
variable {cf : Nat → List D → Option CR} {pins : List Nat} {K : SR → Prop} {s t a b rest tg it e : M} {ρ ρ1 : DEnv} {ds : List D}
def RunO (cf : Nat → List D → Option CR) (pins : List Nat) (r : Option SR) (t : M) (K : SR → Prop) : Prop := match r with
  | some (.nx ρ) => Run cf pins t ρ K
  | some r => K r
  | none => False
@[simp] theorem RunO_nx (ρ : DEnv) (t : M) (K : SR → Prop) : RunO cf pins (some (.nx ρ)) t K = Run cf pins t ρ K := (rfl)
@[simp] theorem RunO_rt (d : D) (ρ : DEnv) (t : M) (K : SR → Prop) : RunO cf pins (some (.rt d ρ)) t K = K (.rt d ρ) := (rfl)
@[simp] theorem RunO_br (ρ : DEnv) (t : M) (K : SR → Prop) : RunO cf pins (some (.br ρ)) t K = K (.br ρ) := (rfl)
@[simp] theorem RunO_ct (ρ : DEnv) (t : M) (K : SR → Prop) : RunO cf pins (some (.ct ρ)) t K = K (.ct ρ) := (rfl)
@[simp] theorem RunO_exc (x : Exn) (ρ : DEnv) (t : M) (K : SR → Prop) : RunO cf pins (some (.exc x ρ)) t K = K (.exc x ρ) := (rfl)
@[simp] theorem then_br (t : M) (K : SR → Prop) (ρ : DEnv) : Then cf pins t K (.br ρ) = K (.br ρ) := (rfl)
@[simp] theorem then_ct (t : M) (K : SR → Prop) (ρ : DEnv) : Then cf pins t K (.ct ρ) = K (.ct ρ) := (rfl)
@[simp] theorem then_exc (t : M) (K : SR → Prop) (x : Exn) (ρ : DEnv) : Then cf pins t K (.exc x ρ) = K (.exc x ρ) := (rfl)
theorem run_st (h : RunO cf pins (evS cf pins s ρ) t K) : Run cf pins (.cons s t) ρ K := by
  cases e : evS cf pins s ρ with
  | none => rw [e] at h; exact h.elim
  | some r =>
    rw [e] at h
    cases r with
    | nx ρ1 => exact run_nx e h
    | _ => exact ⟨_, by rw [evS, e], h⟩
@[simp] theorem run_nil_eq (ρ : DEnv) (K : SR → Prop) : Run cf pins .nil ρ K = K (.nx ρ) := propext ⟨fun ⟨r, e, k⟩ => by
  rw [evS] at e
  cases e; exact k, run_nil⟩
def RunB (cf : Nat → List D → Option CR) (pins : List Nat) (r : Option (RS Bool)) (a b t : M) (K : SR → Prop) : Prop := match r with
  | some (.ok true ρ) => Run cf pins a ρ (Then cf pins t K)
  | some (.ok false ρ) => Run cf pins b ρ (Then cf pins t K)
  | _ => False
@[simp] theorem RunB_t (ρ : DEnv) (a b t : M) (K : SR → Prop) : RunB cf pins (some (.ok true ρ)) a b t K = Run cf pins a ρ (Then cf pins t K) := (rfl)
@[simp] theorem RunB_f (ρ : DEnv) (a b t : M) (K : SR → Prop) : RunB cf pins (some (.ok false ρ)) a b t K = Run cf pins b ρ (Then cf pins t K) := (rfl)
theorem run_ifs (h : RunB cf pins (evT cf pins s ρ) a b t K) : Run cf pins (.cons (.iff s a b) t) ρ K := by
  cases e : evT cf pins s ρ with
  | none => rw [e] at h; exact h.elim
  | some r =>
    rw [e] at h
    cases r with
    | ok c ρ1 =>
      cases c with
      | true => exact run_if (c := true) e (fun _ => h) fun z => nomatch z
      | false => exact run_if (c := false) e (fun z => nomatch z) fun _ => h
    | exc x ρ1 => exact h.elim
/-- a def by its body: K is what is asked of its end -/
theorem callM_isK {T : List MFn} {k i : Nat} {fn : MFn} {ds ds' : List D} {d : D} (hT : T[i]? = some fn) (hl : ds.length = fn.ar)
    (h : ∀ K : SR → Prop, (∀ r, finC fn ds (some r) = some (.ok d ds') → K r) → Run (callM T k) fn.io fn.body (ds.map some ++ List.replicate (fn.sl - fn.ar) none) K) : callM T (k + 1) i ds = some (.ok d ds') :=
  callM_is hT hl (h _ fun r z => z)
theorem callM_runK {T : List MFn} {k i : Nat} {fn : MFn} {ds : List D} {Q : D → List D → Prop} (hT : T[i]? = some fn) (hl : ds.length = fn.ar)
    (h : ∀ K : SR → Prop, (∀ r d ds', finC fn ds (some r) = some (.ok d ds') → Q d ds' → K r) → Run (callM T k) fn.io fn.body (ds.map some ++ List.replicate (fn.sl - fn.ar) none) K) : ∃ d ds', callM T (k + 1) i ds = some (.ok d ds') ∧ Q d ds' :=
  callM_run hT hl (h _ fun r d ds' z q => ⟨d, ds', z, q⟩)
/-- a loop -/
theorem run_forK (P : Nat → DEnv → Prop) (J : DEnv → Prop) (hi : evI cf pins it ρ = some (.ok ds ρ1)) (h0 : P 0 ρ1)
    (hs : ∀ i d ρ, ds[i]? = some d → P i ρ → ∃ ρ2, tgM pins tg d ρ = some ρ2 ∧ ∀ K' : SR → Prop, (∀ ρ', P (i + 1) ρ' → K' (.nx ρ')) → (∀ ρ', P (i + 1) ρ' → K' (.ct ρ')) → (∀ ρ', J ρ' → K' (.br ρ')) → (∀ d ρ', K (.rt d ρ') → K' (.rt d ρ')) → Run cf pins b ρ2 K')
    (hk : ∀ ρ', P ds.length ρ' → Run cf pins t ρ' K) (hj : ∀ ρ', J ρ' → Run cf pins t ρ' K) : Run cf pins (.cons (.for_ tg it b) t) ρ K := by
  have key : ∀ (es : List D) (i : Nat) (ρ : DEnv), i ≤ ds.length → ds.drop i = es → P i ρ → (∃ ρ', forM (fun d ρ => match tgM pins tg d ρ with | some ρ2 => evS cf pins b ρ2 | none => none) es ρ = some (.nx ρ') ∧ (P ds.length ρ' ∨ J ρ')) ∨ (∃ d ρ', forM (fun d ρ => match tgM pins tg d ρ with | some ρ2 => evS cf pins b ρ2 | none => none) es ρ = some (.rt d ρ') ∧ K (.rt d ρ')) := by
    intro es
    induction es with
    | nil =>
      intro i ρ hle e p
      have : i = ds.length := by
        have := congrArg List.length e
        simp at this; omega
      subst this; exact .inl ⟨ρ, rfl, .inl p⟩
    | cons d es ih =>
      intro i ρ hle e p
      have hd : ds[i]? = some d := by
        have := congrArg (fun l => l[0]?) e
        simpa using this
      have e2 : ds.drop (i + 1) = es := by
        rw [← List.drop_drop, e]; rfl
      obtain ⟨ρ2, e1, hr⟩ := hs i d ρ hd p
      obtain ⟨r, e3, k⟩ := hr (fun r => (∃ ρ', (r = .nx ρ' ∨ r = .ct ρ') ∧ P (i + 1) ρ') ∨ (∃ ρ', r = .br ρ' ∧ J ρ') ∨ ∃ d ρ', r = .rt d ρ' ∧ K r) (fun ρ' p => .inl ⟨ρ', .inl rfl, p⟩) (fun ρ' p => .inl ⟨ρ', .inr rfl, p⟩) (fun ρ' j => .inr (.inl ⟨ρ', rfl, j⟩)) (fun d ρ' j => .inr (.inr ⟨d, ρ', rfl, j⟩))
      rcases k with ⟨ρ', rfl | rfl, p'⟩ | ⟨ρ', rfl, j⟩ | ⟨x, ρ', rfl, k⟩
      · rcases ih (i + 1) ρ' (by have := (List.getElem?_eq_some_iff.mp hd).1; omega) e2 p' with ⟨ρ3, e4, p3⟩ | ⟨y, ρ3, e4, k3⟩
        · exact .inl ⟨ρ3, by rw [forM]; simp only [e1, e3]; exact e4, p3⟩
        · exact .inr ⟨y, ρ3, by rw [forM]; simp only [e1, e3]; exact e4, k3⟩
      · rcases ih (i + 1) ρ' (by have := (List.getElem?_eq_some_iff.mp hd).1; omega) e2 p' with ⟨ρ3, e4, p3⟩ | ⟨y, ρ3, e4, k3⟩
        · exact .inl ⟨ρ3, by rw [forM]; simp only [e1, e3]; exact e4, p3⟩
        · exact .inr ⟨y, ρ3, by rw [forM]; simp only [e1, e3]; exact e4, k3⟩
      · exact .inl ⟨ρ', by rw [forM]; simp only [e1, e3], .inr j⟩
      · exact .inr ⟨x, ρ', by rw [forM]; simp only [e1, e3], k⟩
  rcases key ds 0 ρ1 (Nat.zero_le _) rfl h0 with ⟨ρ', e, p⟩ | ⟨d, ρ', e, k⟩
  · refine run_nx (ρ1 := ρ') ?_ (p.elim (hk ρ') (hj ρ'))
    rw [evS, hi]; exact e
  · refine run_rt (d := d) (ρ1 := ρ') ?_ k
    rw [evS, hi]; exact e
/-- .. that goes on to its end -/
theorem run_forN (P : Nat → DEnv → Prop) (hi : evI cf pins it ρ = some (.ok ds ρ1)) (h0 : P 0 ρ1)
    (hs : ∀ i d ρ, ds[i]? = some d → P i ρ → ∃ ρ2, tgM pins tg d ρ = some ρ2 ∧ ∀ K' : SR → Prop, (∀ ρ', P (i + 1) ρ' → K' (.nx ρ')) → (∀ d ρ', K (.rt d ρ') → K' (.rt d ρ')) → Run cf pins b ρ2 K')
    (hk : ∀ ρ', P ds.length ρ' → Run cf pins t ρ' K) : Run cf pins (.cons (.for_ tg it b) t) ρ K :=
  run_forK P (fun _ => False) hi h0 (fun i d ρ hd hp => by
    obtain ⟨ρ2, e, h⟩ := hs i d ρ hd hp
    exact ⟨ρ2, e, fun K' k1 _ _ k2 => h K' k1 k2⟩) hk fun _ z => z.elim
/-- a while; the turns that are left go down -/
theorem run_whlN (W : Nat → DEnv → Prop) (J : DEnv → Prop) {n : Nat} (h0 : W n ρ)
    (hs : ∀ n ρ, W n ρ → (∃ ρ1, evT cf pins s ρ = some (.ok false ρ1) ∧ J ρ1) ∨ (∃ ρ1, evT cf pins s ρ = some (.ok true ρ1) ∧ ∀ K' : SR → Prop, (∀ ρ' m, m < n → W m ρ' → K' (.nx ρ')) → (∀ ρ' m, m < n → W m ρ' → K' (.ct ρ')) → (∀ ρ', J ρ' → K' (.br ρ')) → (∀ d ρ', K (.rt d ρ') → K' (.rt d ρ')) → Run cf pins b ρ1 K')) (hk : ∀ ρ', J ρ' → Run cf pins rest ρ' K) : Run cf pins (.cons (.whl s b) rest) ρ K := by
  have key : ∀ n ρ, W n ρ → (∃ ρ', evS cf pins (.whl s b) ρ = some (.nx ρ') ∧ J ρ') ∨ ∃ d ρ', evS cf pins (.whl s b) ρ = some (.rt d ρ') ∧ K (.rt d ρ') := by
    intro n
    induction n using Nat.strongRecOn with
    | ind n ih =>
      intro ρ w
      rcases hs n ρ w with ⟨ρ1, e, j⟩ | ⟨ρ1, e1, hr⟩
      · exact .inl ⟨ρ1, by rw [evS]; exact whM_false e, j⟩
      · obtain ⟨r, e2, k⟩ := hr (fun r => (∃ ρ' m, (r = .nx ρ' ∨ r = .ct ρ') ∧ m < n ∧ W m ρ') ∨ (∃ ρ', r = .br ρ' ∧ J ρ') ∨ ∃ d ρ', r = .rt d ρ' ∧ K r) (fun ρ' m l w => .inl ⟨ρ', m, .inl rfl, l, w⟩) (fun ρ' m l w => .inl ⟨ρ', m, .inr rfl, l, w⟩) (fun ρ' j => .inr (.inl ⟨ρ', rfl, j⟩)) (fun d ρ' j => .inr (.inr ⟨d, ρ', rfl, j⟩))
        rcases k with ⟨ρ2, m, rfl | rfl, lt, w2⟩ | ⟨ρ2, rfl, j⟩ | ⟨d, ρ2, rfl, k⟩
        · rcases ih m lt ρ2 w2 with ⟨ρ', e, j⟩ | ⟨d, ρ', e, j⟩
          · rw [evS] at e
            exact .inl ⟨ρ', by rw [evS]; exact whM_nx e1 e2 e, j⟩
          · rw [evS] at e
            exact .inr ⟨d, ρ', by rw [evS]; exact whM_nx e1 e2 e, j⟩
        · rcases ih m lt ρ2 w2 with ⟨ρ', e, j⟩ | ⟨d, ρ', e, j⟩
          · rw [evS] at e
            exact .inl ⟨ρ', by rw [evS]; exact whM_ct e1 e2 e, j⟩
          · rw [evS] at e
            exact .inr ⟨d, ρ', by rw [evS]; exact whM_ct e1 e2 e, j⟩
        · exact .inl ⟨ρ2, by rw [evS]; exact whM_br e1 e2, j⟩
        · exact .inr ⟨d, ρ2, by rw [evS]; exact whM_rt e1 e2, k⟩
  rcases key n ρ h0 with ⟨ρ', e, j⟩ | ⟨d, ρ', e, j⟩
  · exact run_nx e (hk ρ' j)
  · exact run_rt e j
/-- a comprehension over a row of c x -/
theorem ev_mapA {α : Type} (c g : α → D) {xs : List α} {v : Nat} {elt : M} (hi : evI cf pins it ρ = some (.ok (xs.map c) ρ1)) (hl : xs.length ≤ 16777216) (ho : ownFz ρ1 [v] = true) (hv : v < ρ1.length) (hp : v ∉ pins)
    (hs : ∀ x ∈ xs, ∃ y, evE cf pins elt (ρ1.set v (some (c x))) = some (.ok y (ρ1.set v (some (c x)))) ∧ frzM elt y = some (g x)) :
    evE cf pins (.lc [v] (.tgn v) it .nil elt) ρ = some (.ok (.acc (xs.map g)) ρ1) := by
  obtain ⟨ys, ρ2, e, rfl, rfl⟩ := ev_lc (cf := cf) (pins := pins) (own := [v]) (tg := .tgn v) (it := it) (cs := .nil) (elt := elt) (ρ := ρ) (ρ1 := ρ1) (ds := xs.map c)
    (P := fun i acc ρ => acc = (xs.take i).map g ∧ ρ = ρ1.set v none) hi (by rw [List.length_map, sz]; exact hl) ho ⟨rfl, rfl⟩ (by
      rintro i d acc ρ hd ⟨rfl, rfl⟩
      obtain ⟨x, hx, rfl⟩ := map_get hd
      obtain ⟨y, e1, e2⟩ := hs x (List.mem_of_getElem? hx)
      refine ⟨ρ1.set v (some (c x)), ρ1.set v (some (c x)), true, ?_, by simp, ?_⟩
      · rw [tgM_tgn, asgI_ok hp (by simpa using hv), List.set_set]
      · rw [if_pos rfl]
        exact ⟨y, g x, _, e1, e2, by rw [List.take_add_one, hx]; simp, by simp [List.set_set]⟩)
  rw [e, List.length_map, List.take_length]
  simp only [backD_cons, backD_nil]
  rw [set_set_back hv]
theorem ev_filA {α : Type} (c : α → D) (p : α → Bool) {xs : List α} {v : Nat} {cs elt : M} (hi : evI cf pins it ρ = some (.ok (xs.map c) ρ1)) (hl : xs.length ≤ 16777216) (ho : ownFz ρ1 [v] = true) (hv : v < ρ1.length) (hp : v ∉ pins)
    (hs : ∀ x ∈ xs, evC cf pins cs (ρ1.set v (some (c x))) = some (.ok (p x) (ρ1.set v (some (c x)))) ∧ evE cf pins elt (ρ1.set v (some (c x))) = some (.ok (c x) (ρ1.set v (some (c x)))) ∧ frzM elt (c x) = some (c x)) :
    evE cf pins (.lc [v] (.tgn v) it cs elt) ρ = some (.ok (.acc ((xs.filter p).map c)) ρ1) := by
  obtain ⟨ys, ρ2, e, rfl, rfl⟩ := ev_lc (cf := cf) (pins := pins) (own := [v]) (tg := .tgn v) (it := it) (cs := cs) (elt := elt) (ρ := ρ) (ρ1 := ρ1) (ds := xs.map c)
    (P := fun i acc ρ => acc = ((xs.take i).filter p).map c ∧ ρ = ρ1.set v none) hi (by rw [List.length_map, sz]; exact hl) ho ⟨rfl, rfl⟩ (by
      rintro i d acc ρ hd ⟨rfl, rfl⟩
      obtain ⟨x, hx, rfl⟩ := map_get hd
      obtain ⟨e0, e1, e2⟩ := hs x (List.mem_of_getElem? hx)
      refine ⟨ρ1.set v (some (c x)), ρ1.set v (some (c x)), p x, ?_, e0, ?_⟩
      · rw [tgM_tgn, asgI_ok hp (by simpa using hv), List.set_set]
      · have et : xs.take (i + 1) = xs.take i ++ [x] := by rw [List.take_add_one, hx]; rfl
        split
        · rename_i hc
          exact ⟨c x, c x, _, e1, e2, by rw [et, List.filter_append]; simp [hc], by simp [List.set_set]⟩
        · rename_i hc
          exact ⟨by rw [et, List.filter_append]; simp [hc], by simp [List.set_set]⟩)
  rw [e, List.length_map, List.take_length]
  simp only [backD_cons, backD_nil]
  rw [set_set_back hv]
/-- drawn things in a row -/
theorem ev_lcoA {α : Type} (c : α → D) (p : α → Bool) {xs : List α} {v s : Nat} {cs elt : M} (hi : getP (.sl s) ρ = some (.acc (xs.map c))) (hl : xs.length ≤ 16777216) (ho : ownFz ρ [v] = true) (hv : v < ρ.length) (hp : v ∉ pins) (hn : s ≠ v)
    (hs : ∀ x ∈ xs, evC cf pins cs (ρ.set v (some (c x))) = some (.ok (p x) (ρ.set v (some (c x)))) ∧ evE cf pins elt (ρ.set v (some (c x))) = some (.ok (c x) (ρ.set v (some (c x)))) ∧ frzM elt (c x) = some (c x)) :
    evE cf pins (.lco [v] (.tgn v) s cs elt) ρ = some (.ok (.acc ((xs.filter p).map c)) ρ) := by
  have hk : ρ[s]? = some (some (.acc (xs.map c))) := by
    unfold getP at hi
    split at hi
    · rename_i d hd
      rw [hd]; cases hi; rfl
    · cases hi
  obtain ⟨ys, ρ2, e, rfl, rfl⟩ := lcM_inv (f := fun d ρ => match tgM pins (.tgn v) d ρ with
        | some ρ2 => bnd (evC cf pins cs ρ2) fun c' ρ3 => match c' with
          | true => bnd (evE cf pins elt ρ3) fun x ρ4 => bnd (lft (frzM elt x) ρ4) fun x' ρ5 => keepsD s (.acc (xs.map c)) ρ5 (some (.ok (some x') (wipeD ρ5 [v])))
          | false => keepsD s (.acc (xs.map c)) ρ3 (some (.ok none (wipeD ρ3 [v])))
        | none => none) (ds := xs.map c) (ρ := wipeD ρ [v]) (fun i acc ρ' => acc = ((xs.take i).filter p).map c ∧ ρ' = ρ.set v none) ⟨rfl, rfl⟩ fun i d acc ρ' hd ⟨ha, hr⟩ => by
    subst ha; subst hr
    obtain ⟨x, hx, rfl⟩ := map_get hd
    obtain ⟨h1, h2, h3⟩ := hs x (List.mem_of_getElem? hx)
    have et : tgM pins (.tgn v) (c x) (ρ.set v none) = some (ρ.set v (some (c x))) := by rw [tgM_tgn, asgI_ok hp (by simpa using hv), List.set_set]
    have hk2 : (ρ.set v (some (c x)))[s]? = some (some (.acc (xs.map c))) := by rw [List.getElem?_set_ne hn.symm]; exact hk
    have ew : wipeD (ρ.set v (some (c x))) [v] = ρ.set v none := by unfold wipeD wipeD; rw [List.set_set]
    cases hp2 : p x with
    | true =>
      rw [hp2] at h1
      exact .inl ⟨c x, ρ.set v none, by simp only [et, h1, bnd_ok, h2, h3, lft_some]; rw [keepsD_pos hk2, ew], by rw [List.take_add_one, hx]; simp [hp2], rfl⟩
    | false =>
      rw [hp2] at h1
      exact .inr ⟨ρ.set v none, by simp only [et, h1, bnd_ok]; rw [keepsD_pos hk2, ew], by rw [List.take_add_one, hx]; simp [hp2], rfl⟩
  rw [evE_lco, hi]
  simp only []
  rw [if_pos ⟨by rw [List.length_map, sz]; exact hl, ho⟩]
  generalize hF : lcM _ (xs.map c) [] (wipeD ρ [v]) = q
  have hq := hF.symm.trans e
  rw [hq]
  rw [List.length_map, List.take_length]
  simp only [backD_cons, backD_nil]
  rw [set_set_back hv]
theorem ev_drawA {α : Type} (c : α → D) (hc : ∀ e a, frzM e (c a) = some (c a)) {G : α → Prop} {t : List (Option D)} {j n : Nat} (ht : t[j]? = some none) (hn : n ≤ 1000000) {y : Dl} (hi : evI cf [0] it ρ = some (.ok (rgN n) (some y.d :: t)))
    (he : ∀ (y : Dl) (i : Nat), i < n → ∃ (v : α) (y' : Dl), G v ∧ evE cf [0] e (some y.d :: t.set j (some (.int i))) = some (.ok (c v) (some y'.d :: t.set j (some (.int i))))) :
    ∃ (cs : List α) (y' : Dl), cs.length = n ∧ (∀ v ∈ cs, G v) ∧ evE cf [0] (.lc [j + 1] (.tgn (j + 1)) it .nil e) ρ = some (.ok (.acc (cs.map c)) (some y'.d :: t)) := by
  have jl : j < t.length := (List.getElem?_eq_some_iff.mp ht).1
  have tj : t.set j none = t := by
    apply List.ext_getElem?
    intro i
    rw [List.getElem?_set]
    split
    · rename_i h; subst h; exact ht.symm
    · rfl
  obtain ⟨xs, ρ2, e1, cs, y', r1, r2, r3, rfl⟩ := ev_lc (cf := cf) (pins := [0]) (own := [j + 1]) (tg := .tgn (j + 1)) (it := it) (cs := .nil) (elt := e)
    (ρ := ρ) (ρ1 := some y.d :: t) (ds := rgN n)
    (P := fun i acc ρ => ∃ (cs : List α) (y' : Dl), cs.length = i ∧ acc = cs.map c ∧ (∀ v ∈ cs, G v) ∧ ρ = some y'.d :: t)
    hi (by rw [rgN_len, sz]; omega) (by simp [ownFz, ht]) ⟨[], y, rfl, rfl, by simp, by simp [tj]⟩ (by
      rintro i d acc ρ hd ⟨cs, y', rfl, rfl, hr, rfl⟩
      obtain ⟨hi, rfl⟩ := rgN_get hd
      obtain ⟨v, y2, hv, h⟩ := he y' cs.length hi
      refine ⟨some y'.d :: t.set j (some (.int (cs.length : Int))), some y'.d :: t.set j (some (.int (cs.length : Int))), true, by simp [jl], by simp, ?_⟩
      rw [if_pos rfl]
      refine ⟨c v, c v, some y2.d :: t.set j (some (.int (cs.length : Int))), h, hc _ _, cs ++ [v], y2, by simp, by simp, fun w hw => ?_, by simp [tj]⟩
      rcases List.mem_append.mp hw with z | z
      · exact hr w z
      · rw [List.mem_singleton.mp z]; exact hv)
  rw [rgN_len] at r1
  refine ⟨cs, y', r1, r3, ?_⟩
  rw [e1, r2]
  simp [ht, tj]
theorem frzM_I (e : M) (v : Int) : frzM e (.int v) = some (.int v) := by
  unfold frzM; split <;> rfl
theorem frzM_S (e : M) (v : Str) : frzM e (.str v) = some (.str v) := by
  unfold frzM; split <;> rfl
end
end L2.PV
set_option Elab.async false
set_option linter.all false
set_option autoImplicit false
/-! Telling primes: the strong rule, witnesses for parts, trial. -/
namespace L2.NT
theorem sq_one {p x : Nat} (hp : Pr p) (h : x * x % p = 1) : x % p = 1 ∨ x % p = p - 1 := by
  have p1 := hp.1
  have x0 : 0 < x := Nat.pos_of_ne_zero fun z => by rw [z] at h; simp at h
  obtain ⟨y, rfl⟩ : ∃ y, x = y + 1 := ⟨x - 1, by omega⟩
  have e : (y + 1) * (y + 1) = y * (y + 2) + 1 := by
    have e1 : y * (y + 2) = y * y + y * 2 := Nat.mul_add ..
    have e2 : (y + 1) * (y + 1) = y * (y + 1) + 1 * (y + 1) := Nat.add_mul ..
    have e3 : y * (y + 1) = y * y + y * 1 := Nat.mul_add ..
    omega
  have d : p ∣ y * (y + 2) := by
    rw [e] at h
    refine Nat.dvd_of_mod_eq_zero ?_
    generalize y * (y + 2) = w at *
    have h5 := Nat.mod_lt w (show 0 < p by omega)
    by_cases z : w % p = 0
    · exact z
    · exfalso
      rw [Nat.add_mod, Nat.mod_eq_of_lt p1] at h
      by_cases y : w % p + 1 < p
      · rw [Nat.mod_eq_of_lt y] at h; omega
      · rw [show w % p + 1 = p by omega, Nat.mod_self] at h; omega
  rcases hp.mul d with k | k
  · left
    obtain ⟨c, rfl⟩ := k
    rw [Nat.mul_add_mod, Nat.mod_eq_of_lt p1]
  · right
    obtain ⟨c, hc⟩ := k
    have c0 : 0 < c := Nat.pos_of_ne_zero fun z => by rw [z] at hc; omega
    obtain ⟨c', rfl⟩ : ∃ c', c = c' + 1 := ⟨c - 1, by omega⟩
    have : y + 1 = p * c' + (p - 1) := by rw [Nat.mul_add] at hc; omega
    rw [this, Nat.mul_add_mod, Nat.mod_eq_of_lt (by omega)]
theorem strong {p a d s : Nat} (hp : Pr p) (ha : ¬ p ∣ a) (e : p - 1 = 2 ^ s * d) (h1 : a ^ d % p ≠ 1) (hn : ∀ i, i < s → a ^ (2 ^ i * d) % p ≠ p - 1) : False := by
  have key : ∀ i, i ≤ s → a ^ (2 ^ i * d) % p ≠ 1 := fun i => by
    induction i with
    | zero => intro _; rw [Nat.pow_zero, Nat.one_mul]; exact h1
    | succ i ih =>
      intro hi z
      have e2 : a ^ (2 ^ (i + 1) * d) = a ^ (2 ^ i * d) * a ^ (2 ^ i * d) := by
        rw [← Nat.pow_add]; congr 1; rw [Nat.pow_succ, Nat.mul_comm (2 ^ i) 2, Nat.mul_assoc]; omega
      rw [e2] at z
      rcases sq_one hp z with k | k
      · exact ih (by omega) k
      · exact hn i (by omega) k
  exact key s (Nat.le_refl _) (by rw [← e]; exact fermat hp ha)
theorem pk_one {n r a q e : Nat} (hr : Pr r) (rn : r ∣ n) (hq : Pr q) (n1 : 1 < n) (hqn : q ∣ n - 1) (h1 : (a ^ ((n - 1) / q) % n) ^ q % n = 1) (hg : Nat.gcd (a ^ ((n - 1) / q) % n - 1) n = 1) (he : q ^ e ∣ n - 1) : q ^ e ∣ r - 1 := by
  have r1 := hr.1
  have q0 : 0 < q := by have := hq.1; omega
  obtain ⟨m, hm⟩ := hqn
  have em : (n - 1) / q = m := by rw [hm]; exact Nat.mul_div_cancel_left _ q0
  rw [em] at h1 hg
  have han : a ^ (n - 1) % n = 1 := by
    rw [hm, Nat.mul_comm, Nat.pow_mul, Nat.pow_mod]; exact h1
  have har : a ^ (n - 1) % r = 1 := by rw [← Nat.mod_mod_of_dvd _ rn, han, Nat.mod_eq_of_lt r1]
  have nra : ¬ r ∣ a := fun z => by
    have : a ^ (n - 1) % r = 0 := Nat.mod_eq_zero_of_dvd (Nat.dvd_trans z (dvd_pow a (by omega)))
    omega
  obtain ⟨d, ⟨d0, hd⟩, mn⟩ := least (P := fun d => 0 < d ∧ a ^ d % r = 1) ⟨n - 1, by omega, har⟩
  have mn' : ∀ e, 0 < e → e < d → a ^ e % r ≠ 1 := fun e h1 h2 h3 => mn e h2 ⟨h1, h3⟩
  obtain ⟨c, hc⟩ := ord_dvd r1 d0 hd mn' har
  have nqc : ¬ q ∣ c := fun ⟨c', hc'⟩ => by
    have e1 : m = d * c' := by
      have : q * m = q * (d * c') := by rw [← hm, hc, hc', Nat.mul_left_comm]
      exact Nat.eq_of_mul_eq_mul_left q0 this
    have e2 : a ^ m % r = 1 := by rw [e1]; exact pow_mod_one r1 hd
    have e3 : (a ^ m % n) % r = 1 := by rw [Nat.mod_mod_of_dvd _ rn]; exact e2
    have e4 : r ∣ a ^ m % n - 1 := by
      generalize a ^ m % n = w at e3
      have := Nat.div_add_mod w r
      rw [e3] at this
      exact ⟨w / r, by omega⟩
    have := Nat.dvd_gcd e4 rn
    rw [hg] at this
    have := Nat.le_of_dvd (by decide) this
    omega
  have cop : Nat.Coprime (q ^ e) c := Nat.Coprime.pow_left _ (Nat.Coprime.symm (hq.cop nqc))
  rw [hc] at he
  have hd2 : q ^ e ∣ d := cop.dvd_of_dvd_mul_right he
  exact Nat.dvd_trans hd2 (ord_dvd r1 d0 hd mn' (fermat hr nra))
theorem pk_all {n F : Nat} (n1 : 1 < n) (hF : n < F * F) (h : ∀ r, Pr r → r ∣ n → F ∣ r - 1) : Pr n := by
  obtain ⟨r, hr, rn, lo⟩ := min_div n1
  have r1 := hr.1
  have hle := Nat.le_of_dvd (by omega) (h r hr rn)
  obtain ⟨s, hs⟩ := rn
  by_cases s1 : s = 1
  · rw [s1, Nat.mul_one] at hs; rw [hs]; exact hr
  · exfalso
    have s0 : 0 < s := Nat.pos_of_ne_zero fun z => by rw [z, Nat.mul_zero] at hs; omega
    have := lo s (by omega) ⟨r, by rw [hs, Nat.mul_comm]⟩
    have := Nat.mul_le_mul (show F ≤ r by omega) (show F ≤ s by omega)
    omega
/-- by trial -/
theorem tr_prime {n k : Nat} (n1 : 1 < n) (h : ∀ d, 1 < d → d < k → ¬ d ∣ n) (hk : n < k * k) : Pr n := by
  obtain ⟨r, hr, rn, lo⟩ := min_div n1
  have r1 := hr.1
  have rk : k ≤ r := Classical.byContradiction fun z => h r r1 (by omega) rn
  obtain ⟨s, hs⟩ := rn
  by_cases s1 : s = 1
  · rw [s1, Nat.mul_one] at hs; rw [hs]; exact hr
  · exfalso
    have s0 : 0 < s := Nat.pos_of_ne_zero fun z => by rw [z, Nat.mul_zero] at hs; omega
    have := lo s (by omega) ⟨r, by rw [hs, Nat.mul_comm]⟩
    have := Nat.mul_le_mul rk (show k ≤ s by omega)
    omega
theorem not_pr {n d : Nat} (h1 : 1 < d) (h2 : d < n) (h : d ∣ n) : ¬ Pr n := fun hp => by
  rcases hp.2 d h with z | z <;> omega
theorem not_pr_mul {a b : Nat} (ha : 1 < a) (hb : 1 < b) : ¬ Pr (a * b) := not_pr ha (by
  have := Nat.mul_lt_mul_of_pos_left hb (show 0 < a by omega); rwa [Nat.mul_one] at this) ⟨b, rfl⟩
theorem not_fermat {n a : Nat} (ha : ¬ n ∣ a) (h : a ^ (n - 1) % n ≠ 1) : ¬ Pr n := fun hp => h (fermat hp ha)
/-! ### full parts -/
/-- what has been taken out: rest times part is the number, no taken prime is left, and the part divides all that its primes' powers do -/
structure Ful (N : Nat) (ps : List Nat) (rest full : Nat) : Prop where
  e : rest * full = N
  no : ∀ p ∈ ps, ¬ p ∣ rest
  dv : (∀ p ∈ ps, Pr p) → (∀ s, Pr s → s ∣ full → s ∈ ps) ∧ ∀ m, (∀ p ∈ ps, ∀ e, p ^ e ∣ N → p ^ e ∣ m) → full ∣ m
theorem Ful.nil (N : Nat) : Ful N [] N 1 := ⟨Nat.mul_one _, (fun _ h => nomatch h), fun _ => ⟨fun s hs h => absurd (Nat.le_of_dvd (by decide) h) (by have := hs.1; omega), fun m _ => Nat.one_dvd _⟩⟩
theorem Pr.dvd_pow {p q e : Nat} (hp : Pr p) (hq : Pr q) (h : p ∣ q ^ e) : p = q := by
  induction e with
  | zero => exact absurd (Nat.le_of_dvd (Nat.pow_pos (by have := hq.1; omega)) h) (by have := hp.1; rw [Nat.pow_zero]; omega)
  | succ e ih =>
    rw [Nat.pow_succ] at h
    rcases hp.mul h with k | k
    · exact ih k
    · rcases hq.2 p k with z | z
      · have := hp.1; omega
      · exact z
theorem Ful.snoc {N rest full q e rest' : Nat} {ps : List Nat} (h : Ful N ps rest full) (he : rest = rest' * q ^ e) (hq : ¬ q ∣ rest') : Ful N (ps ++ [q]) rest' (full * q ^ e) := by
  refine ⟨by rw [← h.e, he, Nat.mul_assoc, Nat.mul_comm full], fun p hp => ?_, fun hpr => ?_⟩
  · rcases List.mem_append.mp hp with z | z
    · exact fun d => h.no p z (by rw [he]; exact Nat.dvd_trans d (Nat.dvd_mul_right _ _))
    · rw [List.mem_singleton.mp z]; exact hq
  · have hq1 : Pr q := hpr q (by simp)
    obtain ⟨d1, d2⟩ := h.dv fun p hp => hpr p (by simp [hp])
    refine ⟨fun s hs hd => ?_, fun m hm => ?_⟩
    · rcases hs.mul hd with k | k
      · exact List.mem_append_left _ (d1 s hs k)
      · rw [hs.dvd_pow hq1 k]; simp
    · have h1 := d2 m fun p hp => hm p (by simp [hp])
      have h2 : q ^ e ∣ m := hm q (by simp) e ⟨rest' * full, by rw [← h.e, he]; rw [Nat.mul_comm (q ^ e), Nat.mul_assoc, Nat.mul_assoc, Nat.mul_comm full]⟩
      have cop : Nat.Coprime full (q ^ e) := by
        by_cases z : Nat.gcd full (q ^ e) = 1
        · exact z
        · exfalso
          have g0 : 0 < Nat.gcd full (q ^ e) := Nat.gcd_pos_of_pos_right _ (Nat.pow_pos (by have := hq1.1; omega))
          obtain ⟨s, hs, hsd, _⟩ := min_div (show 1 < Nat.gcd full (q ^ e) by omega)
          have s1 := d1 s hs (Nat.dvd_trans hsd (Nat.gcd_dvd_left _ _))
          exact h.no s s1 (by rw [he]; exact Nat.dvd_trans (Nat.dvd_trans hsd (Nat.gcd_dvd_right _ _)) (Nat.dvd_mul_left _ _))
      exact cop.mul_dvd_of_dvd_of_dvd h1 h2
/-- a witness for a part -/
def Wit (n q : Nat) : Prop := ∃ a, (a ^ ((n - 1) / q) % n) ^ q % n = 1 ∧ Nat.gcd (a ^ ((n - 1) / q) % n - 1) n = 1
theorem pk_ful {n rest full : Nat} {ps : List Nat} (n1 : 1 < n) (h : Ful (n - 1) ps rest full) (hF : n < full * full) (hpr : ∀ p ∈ ps, Pr p) (hd : ∀ p ∈ ps, p ∣ n - 1) (hw : ∀ p ∈ ps, Wit n p) : Pr n :=
  pk_all n1 hF fun r hr rn => (h.dv hpr).2 _ fun p hp e he => by
    obtain ⟨a, w1, w2⟩ := hw p hp
    exact pk_one hr rn (hpr p hp) n1 (hd p hp) w1 w2 he
end L2.NT
set_option Elab.async false
set_option linter.all false
set_option autoImplicit false
set_option maxRecDepth 100000
set_option maxHeartbeats 0
/-! Telling primes: the program's walks, first part. -/
namespace L2.PV
open PySem PySem.Spec PyProof.Rows
open NT (Pr Wit Ful)
theorem band1 (n : Nat) : binD .band (.int n) (.int 1) = some (.int ((n % 2 : Nat) : Int)) := by
  have e : Builtin.bitAnd (n : Int) 1 = ((n % 2 : Nat) : Int) := by
    unfold Builtin.bitAnd
    rw [decide_eq_true (show (0 : Int) ≤ n by omega), decide_eq_true (show (0 : Int) ≤ 1 by decide)]
    show (((n : Int).toNat &&& (1 : Int).toNat : Nat) : Int) = _
    rw [Int.toNat_natCast, show (1 : Int).toNat = 1 from rfl, Nat.and_one_is_mod]
  show some (D.int (Builtin.bitAnd (n : Int) 1)) = _
  rw [e]
theorem smN {n p : Nat} (h : n < p) (hp : p < 2 ^ 64) : Sm (n : Int) := sm_of (by simp; omega)
/-- squaring and multiplying -/
theorem pw_step {p a e f s l : Nat} (h : f * s ^ l % p = a ^ e % p) (o : l % 2 = 1) : (f * s % p) * (s * s % p) ^ (l / 2) % p = a ^ e % p := by
  rw [← h]
  have e1 : l = 2 * (l / 2) + 1 := by omega
  conv => rhs; rw [e1, Nat.pow_succ, Nat.pow_mul, Nat.pow_two]
  rw [Nat.mul_mod, Nat.mod_mod, ← Nat.pow_mod, ← Nat.mul_mod]
  congr 1
  rw [Nat.mul_assoc, Nat.mul_comm s]
theorem pw_even {p a e f s l : Nat} (h : f * s ^ l % p = a ^ e % p) (o : ¬ l % 2 = 1) : f * (s * s % p) ^ (l / 2) % p = a ^ e % p := by
  rw [← h]
  have e1 : l = 2 * (l / 2) := by omega
  conv => rhs; rw [e1, Nat.pow_mul, Nat.pow_two]
  rw [Nat.mul_mod, ← Nat.pow_mod, ← Nat.mul_mod]
noncomputable def prB (n : Nat) : Bool := @decide (Pr n) (Classical.propDecidable _)
theorem prB_t {n : Nat} (h : Pr n) : prB n = true := by unfold prB; exact @decide_eq_true _ (Classical.propDecidable _) h
theorem prB_f {n : Nat} (h : ¬ Pr n) : prB n = false := by unfold prB; exact @decide_eq_false _ (Classical.propDecidable _) h
def gSMALLEND : D := .int 256
def gSMALLSURE : D := .int 66049
def gPARTEND : D := .int 1400
def gPARTSURE : D := .int 1962801
def gMOSTWITNESS : D := .int 400
def gMOSTSTARTS : D := .int 8
def gMOSTBATCHES : D := .int 2400
def gBATCH : D := .int 64
def gBASES : D := .tup [.int 2, .int 3, .int 5, .int 7, .int 11, .int 13, .int 17, .int 19, .int 23]
section
variable {T : List MFn} {i0 : Nat}
def bPm : M := (.cons (.par [3, 4] (.cons (.con (.int 1)) (.cons (.bin .mod (.pl (.sl 1)) (.pl (.sl 0))) .nil))) (.cons (.whl (.cmp .gt (.pl (.sl 2)) (.con (.int 0))) (.cons (.iff (.cmp .eq (.bin .band (.pl (.sl 2)) (.con (.int 1))) (.con (.int 1))) (.cons (.asg (.tgn 3) (.bin .mod (.bin .mul (.pl (.sl 3)) (.pl (.sl 4))) (.pl (.sl 0)))) .nil) .nil) (.cons (.asg (.tgn 4) (.bin .mod (.bin .mul (.pl (.sl 4)) (.pl (.sl 4))) (.pl (.sl 0)))) (.cons (.asg (.tgn 2) (.bin .fdiv (.pl (.sl 2)) (.con (.int 2)))) .nil)))) (.cons (.ret (.pl (.sl 3))) .nil)))
def PmD (T : List MFn) (k t : Nat) : Prop := ∀ p a e : Nat, 1 < p → p < 2 ^ 64 → callM T k t [.int p, .int a, .int e] = some (.ok (.int ((a ^ e % p : Nat) : Int)) [.int p, .int a, .int e])
theorem g_pm (hT : T[i0]? = some ⟨3, 5, [], bPm⟩) (k : Nat) : PmD T (k + 1) i0 := fun p a e hp hp2 => by
  refine callM_is hT rfl ?_
  show Run _ [] bPm [some (.int p), some (.int a), some (.int e), none, none] _
  have p0 : 0 < p := by omega
  refine run_nx (ρ1 := [some (.int p), some (.int a), some (.int e), some (.int 1), some (.int ((a % p : Nat) : Int))]) (by simp [p0]) ?_
  refine run_whl (fun l ρ => ∃ f s : Nat, f < p ∧ s < p ∧ f * s ^ l % p = a ^ e % p ∧ ρ = [some (.int p), some (.int a), some (.int (l : Nat)), some (.int (f : Nat)), some (.int (s : Nat))]) (fun ρ => ∃ f s : Nat, f = a ^ e % p ∧ ρ = [some (.int p), some (.int a), some (.int 0), some (.int (f : Nat)), some (.int (s : Nat))]) (n := e) ⟨1, a % p, hp, Nat.mod_lt _ (by omega), by rw [Nat.one_mul, ← Nat.pow_mod], rfl⟩ ?_ ?_
  · rintro l ρ ⟨f, s, hf, hs, h, rfl⟩
    have sf := smN hf hp2
    have ss := smN hs hp2
    by_cases z : l = 0
    · subst z
      refine .inl ⟨[some (.int p), some (.int a), some (.int 0), some (.int f), some (.int s)], by simp, f, s, ?_, rfl⟩
      rw [Nat.pow_zero, Nat.mul_one, Nat.mod_eq_of_lt hf] at h; exact h
    · refine .inr ⟨[some (.int p), some (.int a), some (.int l), some (.int f), some (.int s)], by simp; omega, ?_⟩
      have b := band1 l
      by_cases o : l % 2 = 1
      · refine run_if (c := true) (ρ1 := [some (.int p), some (.int a), some (.int l), some (.int f), some (.int s)]) (by simp [b, o]) (fun _ => ?_) fun z => nomatch z
        refine run_nx (ρ1 := [some (.int p), some (.int a), some (.int l), some (.int ((f * s % p : Nat) : Int)), some (.int s)]) (by simp [sf, ss, p0]) (run_nil ?_)
        refine run_nx (ρ1 := [some (.int p), some (.int a), some (.int l), some (.int ((f * s % p : Nat) : Int)), some (.int ((s * s % p : Nat) : Int))]) (by simp [ss, p0]) ?_
        refine run_nx (ρ1 := [some (.int p), some (.int a), some (.int ((l / 2 : Nat) : Int)), some (.int ((f * s % p : Nat) : Int)), some (.int ((s * s % p : Nat) : Int))]) (by simp) (run_nil ⟨_, l / 2, rfl, by omega, _, _, Nat.mod_lt _ (by omega), Nat.mod_lt _ (by omega), pw_step h o, rfl⟩)
      · refine run_if (c := false) (ρ1 := [some (.int p), some (.int a), some (.int l), some (.int f), some (.int s)]) (by simp [b]; omega) (fun z => nomatch z) fun _ => run_nil ?_
        refine run_nx (ρ1 := [some (.int p), some (.int a), some (.int l), some (.int f), some (.int ((s * s % p : Nat) : Int))]) (by simp [ss, p0]) ?_
        refine run_nx (ρ1 := [some (.int p), some (.int a), some (.int ((l / 2 : Nat) : Int)), some (.int f), some (.int ((s * s % p : Nat) : Int))]) (by simp) (run_nil ⟨_, l / 2, rfl, by omega, _, _, hf, Nat.mod_lt _ (by omega), pw_even h o, rfl⟩)
  · rintro ρ ⟨f, s, rfl, rfl⟩
    exact run_rt (d := .int ((a ^ e % p : Nat) : Int)) (ρ1 := [some (.int p), some (.int a), some (.int 0), some (.int ((a ^ e % p : Nat) : Int)), some (.int s)]) (by simp) (by simp)
def bCd : M := (.cons (.whl (.cmp .ne (.pl (.sl 1)) (.con (.int 0))) (.cons (.par [0, 1] (.cons (.pl (.sl 1)) (.cons (.bin .mod (.pl (.sl 0)) (.pl (.sl 1))) .nil))) .nil)) (.cons (.ret (.pl (.sl 0))) .nil))
def CdD (T : List MFn) (k t : Nat) : Prop := ∀ a b : Nat, callM T k t [.int (a : Int), .int (b : Int)] = some (.ok (.int ((Nat.gcd a b : Nat) : Int)) [.int (a : Int), .int (b : Int)])
theorem g_cd (hT : T[i0]? = some ⟨2, 2, [], bCd⟩) (k : Nat) : CdD T (k + 1) i0 := fun a b => by
  refine callM_isK hT rfl fun K hK => ?_
  show Run _ [] bCd [some (.int (a : Int)), some (.int (b : Int))] K
  have hK := fun ρ => hK (.rt (.int ((Nat.gcd a b : Nat) : Int)) ρ)
  refine run_whlN (fun n ρ => ∃ x : Nat, Nat.gcd x n = Nat.gcd a b ∧ ρ = [some (.int (x : Int)), some (.int (n : Int))]) (fun ρ => ρ = [some (.int ((Nat.gcd a b : Nat) : Int)), some (.int 0)]) (n := b) ⟨a, rfl, rfl⟩ ?_ ?_
  · clear hK
    rintro n ρ ⟨x, hg, rfl⟩
    by_cases h0 : n = 0
    · subst h0
      rw [Nat.gcd_zero_right] at hg
      exact .inl ⟨[some (.int (x : Int)), some (.int ((0 : Nat) : Int))], by simp, by rw [← hg]; rfl⟩
    · have n0 : 0 < n := by omega
      refine .inr ⟨[some (.int (x : Int)), some (.int (n : Int))], by simp; omega, fun K' k1 _ _ _ => ?_⟩
      have k1 := k1 [some (.int (n : Int)), some (.int ((x % n : Nat) : Int))] (x % n) (Nat.mod_lt _ n0) ⟨n, by rw [← hg, Nat.gcd_comm n (x % n), ← Nat.gcd_rec n x, Nat.gcd_comm], rfl⟩
      rw [Int.natCast_emod] at k1
      refine run_st ?_
      simp [n0]
      exact k1
  · rintro ρ rfl
    generalize ((Nat.gcd a b : Nat) : Int) = g at *
    have hK := hK [some (.int g), some (.int 0)] (by simp)
    refine run_st ?_
    simp
    exact hK
def bSa : M := (.cons (.for_ (.tgn 1) (.rg3 (.con (.int 3)) (.glo "SMALL_END" gSMALLEND) (.con (.int 2))) (.cons (.iff (.cmp .gt (.bin .mul (.pl (.sl 1)) (.pl (.sl 1))) (.pl (.sl 0))) (.cons (.ret (.con (.bl true))) .nil) .nil) (.cons (.iff (.cmp .eq (.bin .mod (.pl (.sl 0)) (.pl (.sl 1))) (.con (.int 0))) (.cons (.ret (.con (.bl false))) .nil) .nil) .nil))) (.cons (.ret (.ife (.cmp .lt (.pl (.sl 0)) (.glo "SMALL_SURE" gSMALLSURE)) (.con (.bl true)) (.con .non))) .nil))
def SaD (T : List MFn) (k t : Nat) : Prop := ∀ n : Nat, 3 < n → n % 2 = 1 → n < 2 ^ 64 → ∃ d : D, ((d = .non ∧ 66049 ≤ n) ∨ d = .bl (prB n)) ∧ callM T k t [.int (n : Int)] = some (.ok d [.int (n : Int)])
theorem g_sa (hT : T[i0]? = some ⟨1, 2, [], bSa⟩) (k : Nat) : SaD T (k + 1) i0 := fun n n3 no n64 => by
  have key := callM_runK (T := T) (k := k) (i := i0) (ds := [.int (n : Int)]) (Q := fun d ds' => ((d = .non ∧ 66049 ≤ n) ∨ d = .bl (prB n)) ∧ ds' = [.int (n : Int)]) hT rfl ?_
  · obtain ⟨d, ds', e, h1, rfl⟩ := key
    exact ⟨d, h1, e⟩
  intro K hK
  show Run _ [] bSa [some (.int (n : Int)), none] K
  have hK := fun d z h => hK (.rt d [some (.int (n : Int)), z]) d [.int (n : Int)] (by simp) ⟨h, rfl⟩
  have rg : rg3D 3 256 2 = some (sq (fun i => D.int (3 + (i : Int) * 2)) 127) := by
    unfold rg3D; rw [if_pos (by decide +kernel)]; rfl
  refine run_forN (fun i ρ => ∃ z : Option D, (∀ d, 1 < d → d < 3 + i * 2 → ¬ d ∣ n) ∧ ρ = [some (.int (n : Int)), z]) (ds := sq (fun i => D.int (3 + (i : Int) * 2)) 127) (ρ1 := [some (.int (n : Int)), none]) (by simp [gSMALLEND, rg]) ⟨none, fun d h1 h2 => (by
    have : d = 2 := by omega
    subst this
    intro z; omega), rfl⟩ ?_ ?_
  · rintro i d ρ hd ⟨z, hz, rfl⟩
    have hi : i < 127 := by have := (List.getElem?_eq_some_iff.mp hd).1; simpa using this
    rw [sq_get hi] at hd
    cases hd
    refine ⟨[some (.int (n : Int)), some (.int (3 + (i : Int) * 2))], by simp, fun K' k1 kr => ?_⟩
    have n1 : 1 < n := by omega
    obtain ⟨lo, hlo⟩ : ∃ lo : Nat, lo = 3 + i * 2 := ⟨_, rfl⟩
    have el : 3 + (i : Int) * 2 = (lo : Int) := by omega
    rw [el]
    rw [← hlo] at hz
    have k1 : (∀ d, 1 < d → d < lo + 2 → ¬ d ∣ n) → K' (.nx [some (.int (n : Int)), some (.int (lo : Int))]) := fun h => k1 _ ⟨_, by rw [show 3 + (i + 1) * 2 = lo + 2 by omega]; exact h, rfl⟩
    have sl : Sm (lo : Int) := sm_of (by omega)
    by_cases hq : n < lo * lo
    · have hq' : (n : Int) < (lo : Int) * (lo : Int) := by rw [← Int.natCast_mul]; omega
      have hp := NT.tr_prime n1 hz hq
      refine run_ifs ?_
      simp [sl, hq']
      refine run_st ?_
      simp
      exact kr _ _ (hK _ _ (.inr (by rw [prB_t hp])))
    · have hq' : ¬ (n : Int) < (lo : Int) * (lo : Int) := by rw [← Int.natCast_mul]; omega
      have l0 : 0 < lo := by omega
      refine run_ifs ?_
      simp [sl, hq']
      by_cases hm : n % lo = 0
      · have hm' : (n : Int) % (lo : Int) = 0 := by rw [← Int.natCast_emod, hm]; rfl
        have hlt : lo < n := by
          have : lo * 2 ≤ lo * lo := Nat.mul_le_mul_left _ (by omega)
          omega
        have hp := NT.not_pr (show 1 < lo by omega) hlt (Nat.dvd_of_mod_eq_zero hm)
        refine run_ifs ?_
        simp [l0, hm']
        refine run_st ?_
        simp
        exact kr _ _ (hK _ _ (.inr (by rw [prB_f hp])))
      · have hm' : (((n : Int) % (lo : Int)) == 0) = false := beq_eq_false_iff_ne.mpr (by rw [← Int.natCast_emod]; omega)
        have hm2 : ¬ (n : Int) % (lo : Int) = 0 := by rw [← Int.natCast_emod]; omega
        refine run_ifs ?_
        simp [l0, hm', hm2]
        refine k1 fun d h1 h2 hd => ?_
        by_cases e1 : d < lo
        · exact hz d h1 e1 hd
        · by_cases e2 : d = lo
          · subst e2; exact hm (Nat.mod_eq_zero_of_dvd hd)
          · have e3 : d = lo + 1 := by omega
            have : 2 ∣ n := Nat.dvd_trans ⟨d / 2, by omega⟩ hd
            omega
  · rintro ρ ⟨z, hz, rfl⟩
    have hz : ∀ d, 1 < d → d < 257 → ¬ d ∣ n := hz
    by_cases hs : n < 66049
    · have hp := NT.tr_prime (by omega) hz (show n < 257 * 257 by omega)
      have hs' : (n : Int) < 66049 := by omega
      refine run_st ?_
      simp [gSMALLSURE, hs']
      exact hK _ _ (.inr (by rw [prB_t hp]))
    · have hs' : ¬ (n : Int) < 66049 := by omega
      refine run_st ?_
      simp [gSMALLSURE, hs']
      exact hK _ _ (.inl ⟨rfl, by omega⟩)
/-! the strong rule -/
def bPs (j : Nat) : M := (.cons (.par [2, 3] (.cons (.bin .sub (.pl (.sl 0)) (.con (.int 1))) (.cons (.con (.int 0)) .nil))) (.cons (.whl (.cmp .eq (.bin .band (.pl (.sl 2)) (.con (.int 1))) (.con (.int 0))) (.cons (.par [2, 3] (.cons (.bin .fdiv (.pl (.sl 2)) (.con (.int 2))) (.cons (.bin .add (.pl (.sl 3)) (.con (.int 1))) .nil))) .nil)) (.cons (.asg (.tgn 4) (.call j (.cons (.pl (.sl 0)) (.cons (.pl (.sl 1)) (.cons (.pl (.sl 2)) .nil))))) (.cons (.iff (.bor (.cmp .eq (.pl (.sl 4)) (.con (.int 1))) (.bone (.cmp .eq (.pl (.sl 4)) (.bin .sub (.pl (.sl 0)) (.con (.int 1)))))) (.cons (.ret (.con (.bl true))) .nil) .nil) (.cons (.for_ (.tgn 5) (.rg1 (.bin .sub (.pl (.sl 3)) (.con (.int 1)))) (.cons (.asg (.tgn 4) (.bin .mod (.bin .mul (.pl (.sl 4)) (.pl (.sl 4))) (.pl (.sl 0)))) (.cons (.iff (.cmp .eq (.pl (.sl 4)) (.bin .sub (.pl (.sl 0)) (.con (.int 1)))) (.cons (.ret (.con (.bl true))) .nil) .nil) .nil))) (.cons (.ret (.con (.bl false))) .nil))))))
def PsD (T : List MFn) (k t : Nat) : Prop := ∀ n a : Nat, 2 ≤ n → n < 2 ^ 64 → ∃ b : Bool, (Pr n → ¬ n ∣ a → n % 2 = 1 → b = true) ∧ callM T k t [.int (n : Int), .int (a : Int)] = some (.ok (.bl b) [.int (n : Int), .int (a : Int)])
theorem g_ps {j : Nat} (hT : T[i0]? = some ⟨2, 6, [], bPs j⟩) (k : Nat) (pm : PmD T k j) : PsD T (k + 1) i0 := fun n a n2 n64 => by
  have key := callM_runK (T := T) (k := k) (i := i0) (ds := [.int (n : Int), .int (a : Int)]) (Q := fun d ds' => ∃ b : Bool, (Pr n → ¬ n ∣ a → n % 2 = 1 → b = true) ∧ d = .bl b ∧ ds' = [.int (n : Int), .int (a : Int)]) hT rfl ?_
  · obtain ⟨d, ds', e, b, h1, rfl, rfl⟩ := key
    exact ⟨b, h1, e⟩
  intro K hK
  show Run _ [] (bPs j) [some (.int (n : Int)), some (.int (a : Int)), none, none, none, none] K
  have hK := fun b ρ h => hK (.rt (.bl b) (some (.int (n : Int)) :: some (.int (a : Int)) :: ρ)) (.bl b) [.int (n : Int), .int (a : Int)] (by simp) ⟨b, h, rfl, rfl⟩
  refine run_st ?_
  simp
  refine run_whlN (fun m ρ => ∃ s : Nat, 0 < m ∧ 2 ^ s * m = n - 1 ∧ ρ = [some (.int (n : Int)), some (.int (a : Int)), some (.int (m : Int)), some (.int (s : Int)), none, none]) (fun ρ => ∃ d s : Nat, 0 < d ∧ d % 2 = 1 ∧ 2 ^ s * d = n - 1 ∧ ρ = [some (.int (n : Int)), some (.int (a : Int)), some (.int (d : Int)), some (.int (s : Int)), none, none]) (n := n - 1)
    ⟨0, by omega, by simp, by rw [show ((n - 1 : Nat) : Int) = (n : Int) - 1 by omega]; rfl⟩ ?_ ?_
  · clear hK
    rintro m ρ ⟨s, m0, hs, rfl⟩
    have b1 := band1 m
    by_cases o : m % 2 = 1
    · rw [o] at b1
      refine .inl ⟨[some (.int (n : Int)), some (.int (a : Int)), some (.int (m : Int)), some (.int (s : Int)), none, none], by simp [b1], m, s, m0, o, hs, rfl⟩
    · have o : m % 2 = 0 := by omega
      rw [o] at b1
      refine .inr ⟨[some (.int (n : Int)), some (.int (a : Int)), some (.int (m : Int)), some (.int (s : Int)), none, none], by simp [b1], fun K' k1 _ _ _ => ?_⟩
      have k1 := k1 [some (.int (n : Int)), some (.int (a : Int)), some (.int ((m / 2 : Nat) : Int)), some (.int ((s + 1 : Nat) : Int)), none, none] (m / 2) (by omega) ⟨s + 1, by omega, by rw [← hs, Nat.pow_succ, Nat.mul_assoc]; congr 1; omega, rfl⟩
      rw [show ((m / 2 : Nat) : Int) = (m : Int) / 2 by omega, show ((s + 1 : Nat) : Int) = (s : Int) + 1 by omega] at k1
      refine run_st ?_
      simp
      exact k1
  rintro ρ ⟨d, s, d0, od, hs, rfl⟩
  have c := pm n a d (by omega) n64
  have hlt : a ^ d % n < n := Nat.mod_lt _ (by omega)
  have en : (n : Int) - 1 = ((n - 1 : Nat) : Int) := by omega
  obtain ⟨x, hx⟩ : ∃ x, x = a ^ d % n := ⟨_, rfl⟩
  rw [← hx] at c hlt
  refine run_st ?_
  simp [c]
  by_cases h1 : x = 1
  · have h1' : (x : Int) = 1 := by omega
    refine run_ifs ?_
    simp [h1, h1']
    refine run_st ?_
    simp
    exact hK true _ fun _ _ _ => rfl
  have h1' : ((x : Int) == 1) = false := beq_eq_false_iff_ne.mpr (by omega)
  have h1i : ¬ x = 1 := h1
  by_cases h2 : x = n - 1
  · have h2' : ((x : Int) == (n : Int) - 1) = true := beq_iff_eq.mpr (by omega)
    have h1j : ¬ (x : Int) = 1 := by omega
    generalize (x : Int) = X at *
    refine run_ifs ?_
    simp [h1', h1j, h2']
    refine run_st ?_
    simp
    exact hK true _ fun _ _ _ => rfl
  have h2' : ((x : Int) == (n : Int) - 1) = false := beq_eq_false_iff_ne.mpr (by omega)
  have h2i : ¬ (x : Int) = (n : Int) - 1 := by omega
  have rgs : rgD 0 ((s : Int) - 1) = some (rgN (s - 1)) := by
    by_cases z : s = 0
    · subst z; rfl
    · rw [show (s : Int) - 1 = ((s - 1 : Nat) : Int) by omega]
      refine rgD_nat ?_
      have : s < 2 ^ s := Nat.lt_two_pow_self
      by_cases q : s ≤ 100
      · omega
      · exfalso
        have h100 : 2 ^ 100 ≤ 2 ^ s := Nat.pow_le_pow_right (by decide) (by omega)
        have : 2 ^ s * 1 ≤ 2 ^ s * d := Nat.mul_le_mul_left _ d0
        omega
  refine run_ifs ?_
  simp [h1', h2', h1i, h2i]
  refine run_forN (fun i ρ => ∃ (y : Nat) (z : Option D), y = a ^ (2 ^ i * d) % n ∧ (∀ i', i' ≤ i → a ^ (2 ^ i' * d) % n ≠ n - 1) ∧ ρ = [some (.int (n : Int)), some (.int (a : Int)), some (.int (d : Int)), some (.int (s : Int)), some (.int (y : Int)), z]) (ds := rgN (s - 1)) (ρ1 := [some (.int (n : Int)), some (.int (a : Int)), some (.int (d : Int)), some (.int (s : Int)), some (.int (x : Int)), none]) (by simp [rgs]) ⟨x, none, by simpa using hx, fun i' hi' => (by
      have : i' = 0 := by omega
      subst this
      rw [Nat.pow_zero, Nat.one_mul, ← hx]; exact h2), rfl⟩ ?_ ?_
  · rintro i d' ρ hd ⟨y, z, hy, hall, rfl⟩
    obtain ⟨hi, rfl⟩ := rgN_get hd
    refine ⟨[some (.int (n : Int)), some (.int (a : Int)), some (.int (d : Int)), some (.int (s : Int)), some (.int (y : Int)), some (.int (i : Int))], by simp, fun K' k1 kr => ?_⟩
    have hyn : y < n := by rw [hy]; exact Nat.mod_lt _ (by omega)
    have hy2 : y * y % n = a ^ (2 ^ (i + 1) * d) % n := by
      rw [hy, ← Nat.mul_mod, ← Nat.pow_add]; congr 2; rw [Nat.pow_succ, Nat.mul_comm (2 ^ i) 2, Nat.mul_assoc]; omega
    have sy : Sm (y : Int) := smN hyn n64
    have n0 : 0 < n := by omega
    obtain ⟨w, hw⟩ : ∃ w, w = y * y % n := ⟨_, rfl⟩
    have ew : (y : Int) * (y : Int) % (n : Int) = (w : Int) := by rw [hw]; simp
    have k1 : (w ≠ n - 1) → K' (.nx [some (.int (n : Int)), some (.int (a : Int)), some (.int (d : Int)), some (.int (s : Int)), some (.int (w : Int)), some (.int (i : Int))]) := fun hne => k1 _ ⟨w, _, by rw [hw, hy2], fun i' hi' => (by
      by_cases e : i' = i + 1
      · rw [e, ← hy2, ← hw]; exact hne
      · exact hall i' (by omega)), rfl⟩
    refine run_st ?_
    simp [sy, n0, ew]
    by_cases q : w = n - 1
    · have q' : ((w : Int) == (n : Int) - 1) = true := beq_iff_eq.mpr (by omega)
      have qi : (w : Int) = (n : Int) - 1 := by omega
      generalize (w : Int) = W at *
      refine run_ifs ?_
      simp [q', qi]
      refine run_st ?_
      simp
      exact kr _ _ (hK true _ fun _ _ _ => rfl)
    · have q' : ((w : Int) == (n : Int) - 1) = false := beq_eq_false_iff_ne.mpr (by omega)
      have qi : ¬ (w : Int) = (n : Int) - 1 := by omega
      have k1 := k1 q
      generalize (w : Int) = W at *
      refine run_ifs ?_
      simp [q', qi]
      exact k1
  · rintro ρ ⟨y, z, hy, hall, rfl⟩
    rw [rgN_len] at hall
    refine run_st ?_
    simp
    exact hK false _ fun hp hna ho => (NT.strong hp hna (s := s) (d := d) hs.symm (by rw [← hx]; exact h1) fun i hi => hall i (by omega)).elim
def bPa (j : Nat) : M := (.cons (.for_ (.tgn 1) (.seq (.glo "BASES" gBASES)) (.cons (.iff (.bnot (.seq (.call j (.cons (.pl (.sl 0)) (.cons (.pl (.sl 1)) .nil))))) (.cons (.ret (.con (.bl false))) .nil) .nil) .nil)) (.cons (.ret (.con (.bl true))) .nil))
def PaD (T : List MFn) (k t : Nat) : Prop := ∀ n : Nat, 2 ≤ n → n < 2 ^ 64 → ∃ b : Bool, (Pr n → 30 < n → b = true) ∧ callM T k t [.int (n : Int)] = some (.ok (.bl b) [.int (n : Int)])
theorem g_pa {j : Nat} (hT : T[i0]? = some ⟨1, 2, [], bPa j⟩) (k : Nat) (ps : PsD T k j) : PaD T (k + 1) i0 := fun n n2 n64 => by
  have key := callM_runK (T := T) (k := k) (i := i0) (ds := [.int (n : Int)]) (Q := fun d ds' => ∃ b : Bool, (Pr n → 30 < n → b = true) ∧ d = .bl b ∧ ds' = [.int (n : Int)]) hT rfl ?_
  · obtain ⟨d, ds', e, b, h1, rfl, rfl⟩ := key
    exact ⟨b, h1, e⟩
  intro K hK
  show Run _ [] (bPa j) [some (.int (n : Int)), none] K
  have hK := fun b z h => hK (.rt (.bl b) [some (.int (n : Int)), z]) (.bl b) [.int (n : Int)] (by simp) ⟨b, h, rfl, rfl⟩
  refine run_forN (fun i ρ => ∃ z : Option D, ρ = [some (.int (n : Int)), z]) (ds := [2, 3, 5, 7, 11, 13, 17, 19, 23].map fun (v : Nat) => D.int (v : Int)) (ρ1 := [some (.int (n : Int)), none]) (by simp [gBASES]) ⟨none, rfl⟩ ?_ ?_
  · rintro i d ρ hd ⟨z, rfl⟩
    obtain ⟨v, hv, rfl⟩ := map_get hd
    have hv := List.mem_of_getElem? hv
    have hv : 0 < v ∧ v < 30 := by
      simp only [List.mem_cons, List.not_mem_nil, or_false] at hv
      omega
    refine ⟨[some (.int (n : Int)), some (.int (v : Int))], by simp, fun K' k1 kr => ?_⟩
    have k1 := fun z => k1 _ ⟨z, rfl⟩
    obtain ⟨b, hb, c⟩ := ps n v n2 n64
    cases b with
    | true =>
      refine run_ifs ?_
      simp [c, truD]
      exact k1 _
    | false =>
      refine run_ifs ?_
      simp [c, truD]
      refine run_st ?_
      simp
      refine kr _ _ (hK false _ fun hp h30 => ?_)
      refine hb hp (fun z => by have := Nat.le_of_dvd hv.1 z; omega) ?_
      by_cases o : n % 2 = 1
      · exact o
      · exfalso
        rcases hp.2 2 (Nat.dvd_of_mod_eq_zero (by omega)) with z | z <;> omega
  · rintro ρ ⟨z, rfl⟩
    refine run_st ?_
    simp
    exact hK true _ fun _ _ => rfl
end
end L2.PV
set_option Elab.async false
set_option linter.all false
set_option autoImplicit false
set_option maxRecDepth 100000
set_option maxHeartbeats 0
/-! Telling primes: the program's walks, second part. -/
namespace L2.PV
open PySem PySem.Spec PyProof.Rows
open NT (Pr Wit Ful)
theorem abs_nat (x y : Nat) : (if (x : Int) - (y : Int) < 0 then -((x : Int) - (y : Int)) else (x : Int) - (y : Int)) = (((x : Int) - (y : Int)).natAbs : Int) := by split <;> omega
def Nsd (n : Nat) : Prop := ∀ d, 1 < d → d ∣ n → d < 1962801 → Pr d
section
variable {T : List MFn} {i0 : Nat}
def bWk : M := (.cons (.ret (.bin .mod (.bin .add (.bin .mul (.pl (.sl 1)) (.pl (.sl 1))) (.pl (.sl 2))) (.pl (.sl 0)))) .nil)
def WkD (T : List MFn) (k t : Nat) : Prop := ∀ n x c : Nat, 0 < n → n < 2 ^ 64 → x < 2 ^ 64 → c < 100 → callM T k t [.int (n : Int), .int (x : Int), .int (c : Int)] = some (.ok (.int (((x * x + c) % n : Nat) : Int)) [.int (n : Int), .int (x : Int), .int (c : Int)])
theorem g_wk (hT : T[i0]? = some ⟨3, 3, [], bWk⟩) (k : Nat) : WkD T (k + 1) i0 := fun n x c n0 n64 hx hc => by
  refine callM_isK hT rfl fun K hK => ?_
  show Run _ [] bWk [some (.int (n : Int)), some (.int (x : Int)), some (.int (c : Int))] K
  have hK := hK (.rt (.int (((x * x + c) % n : Nat) : Int)) [some (.int (n : Int)), some (.int (x : Int)), some (.int (c : Int))]) (by simp)
  have sx : Sm (x : Int) := sm_of (by rw [Int.natAbs_natCast]; exact hx)
  rw [show (((x * x + c) % n : Nat) : Int) = ((x : Int) * (x : Int) + (c : Int)) % (n : Int) by simp] at hK
  refine run_st ?_
  simp [sx, n0]
  exact hK
def bMs (w c : Nat) : M := (.cons (.for_ (.tgn 4) (.rg1 (.glo "BATCH" gBATCH)) (.cons (.asg (.tgn 1) (.call w (.cons (.pl (.sl 0)) (.cons (.pl (.sl 1)) (.cons (.pl (.sl 3)) .nil))))) (.cons (.asg (.tgn 2) (.call w (.cons (.pl (.sl 0)) (.cons (.call w (.cons (.pl (.sl 0)) (.cons (.pl (.sl 2)) (.cons (.pl (.sl 3)) .nil)))) (.cons (.pl (.sl 3)) .nil))))) (.cons (.asg (.tgn 5) (.call c (.cons (.bi1 .abs (.bin .sub (.pl (.sl 1)) (.pl (.sl 2)))) (.cons (.pl (.sl 0)) .nil)))) (.cons (.iff (.cmp .gt (.pl (.sl 5)) (.con (.int 1))) (.cons (.ret (.pl (.sl 5))) .nil) .nil) .nil))))) (.cons (.ret (.con (.int 1))) .nil))
def MsD (T : List MFn) (k t : Nat) : Prop := ∀ n x y c : Nat, 2 < n → n < 2 ^ 64 → x < n → y < n → c < 100 → ∃ g : Nat, 0 < g ∧ g ∣ n ∧ callM T k t [.int (n : Int), .int (x : Int), .int (y : Int), .int (c : Int)] = some (.ok (.int (g : Int)) [.int (n : Int), .int (x : Int), .int (y : Int), .int (c : Int)])
theorem g_ms {w c : Nat} (hT : T[i0]? = some ⟨4, 6, [], bMs w c⟩) (k : Nat) (wk : WkD T k w) (cd : CdD T k c) : MsD T (k + 1) i0 := fun n x y m n2 n64 hx hy hm => by
  have key := callM_runK (T := T) (k := k) (i := i0) (ds := [.int (n : Int), .int (x : Int), .int (y : Int), .int (m : Int)]) (Q := fun d ds' => ∃ g : Nat, 0 < g ∧ g ∣ n ∧ d = .int (g : Int) ∧ ds' = [.int (n : Int), .int (x : Int), .int (y : Int), .int (m : Int)]) hT rfl ?_
  · obtain ⟨d, ds', e, g, h1, h2, rfl, rfl⟩ := key
    exact ⟨g, h1, h2, e⟩
  intro K hK
  show Run _ [] (bMs w c) [some (.int (n : Int)), some (.int (x : Int)), some (.int (y : Int)), some (.int (m : Int)), none, none] K
  have hK := fun (g : Nat) ρ h1 h2 (ho : outs [] 0 ρ [.int (n : Int), .int (x : Int), .int (y : Int), .int (m : Int)] = some [.int (n : Int), .int (x : Int), .int (y : Int), .int (m : Int)]) => hK (.rt (.int (g : Int)) ρ) (.int (g : Int)) [.int (n : Int), .int (x : Int), .int (y : Int), .int (m : Int)] (by simp [finC, ho]) ⟨g, h1, h2, rfl, rfl⟩
  have n0 : 0 < n := by omega
  have rg : rgD 0 64 = some (rgN 64) := rgD_nat (n := 64) (by decide)
  refine run_forN (fun i ρ => ∃ (a b : Nat) (z4 z5 : Option D), a < n ∧ b < n ∧ ρ = [some (.int (n : Int)), some (.int (a : Int)), some (.int (b : Int)), some (.int (m : Int)), z4, z5]) (ds := rgN 64) (ρ1 := [some (.int (n : Int)), some (.int (x : Int)), some (.int (y : Int)), some (.int (m : Int)), none, none]) (by simp [gBATCH, rg]) ⟨x, y, none, none, hx, hy, rfl⟩ ?_ ?_
  · rintro i d ρ hd ⟨a, b, z4, z5, ha, hb, rfl⟩
    obtain ⟨hi, rfl⟩ := rgN_get hd
    refine ⟨[some (.int (n : Int)), some (.int (a : Int)), some (.int (b : Int)), some (.int (m : Int)), some (.int (i : Int)), z5], by simp, fun K' k1 kr => ?_⟩
    have c1 := wk n a m n0 n64 (by omega) hm
    have c2 := wk n b m n0 n64 (by omega) hm
    have h1 : (a * a + m) % n < n := Nat.mod_lt _ n0
    have h2 : (b * b + m) % n < n := Nat.mod_lt _ n0
    generalize (a * a + m) % n = a' at *
    generalize (b * b + m) % n = b' at *
    have c3 := wk n b' m n0 n64 (by omega) hm
    have h3 : (b' * b' + m) % n < n := Nat.mod_lt _ n0
    generalize (b' * b' + m) % n = b2 at *
    have c4 := cd ((a' : Int) - (b2 : Int)).natAbs n
    have gd : Nat.gcd ((a' : Int) - (b2 : Int)).natAbs n ∣ n := Nat.gcd_dvd_right _ _
    have gp : 0 < Nat.gcd ((a' : Int) - (b2 : Int)).natAbs n := Nat.gcd_pos_of_pos_right _ n0
    have ea := abs_nat a' b2
    generalize Nat.gcd ((a' : Int) - (b2 : Int)).natAbs n = g at *
    have k1 := fun z5 => k1 _ ⟨a', b2, some (.int (i : Int)), z5, h1, h3, rfl⟩
    refine run_st ?_
    simp [c1]
    refine run_st ?_
    simp [c2, c3]
    refine run_st ?_
    simp [ea, c4]
    by_cases hg : 1 < g
    · have hg' : (1 : Int) < (g : Int) := by omega
      refine run_ifs ?_
      simp [hg, hg']
      refine run_st ?_
      simp
      exact kr _ _ (hK g _ gp gd (by simp [outs]))
    · have hg' : ¬ (1 : Int) < (g : Int) := by omega
      refine run_ifs ?_
      simp [hg, hg']
      exact k1 _
  · rintro ρ ⟨a, b, z4, z5, ha, hb, rfl⟩
    refine run_st ?_
    simp
    exact hK 1 _ (by decide) (Nat.one_dvd _) (by simp [outs])
end
end L2.PV
set_option Elab.async false
set_option linter.all false
set_option autoImplicit false
set_option maxRecDepth 100000
set_option maxHeartbeats 0
/-! Telling primes: the program's walks, third part. -/
namespace L2.PV
open PySem PySem.Spec PyProof.Rows
open NT (Pr Wit Ful)
section
variable {T : List MFn} {i0 : Nat}
def bMf (w c s : Nat) : M := (.cons (.asgs [2, 3] (.con (.int 2))) (.cons (.for_ (.tgn 4) (.rg1 (.glo "MOST_BATCHES" gMOSTBATCHES)) (.cons (.par [5, 6, 7] (.cons (.pl (.sl 2)) (.cons (.pl (.sl 3)) (.cons (.con (.int 1)) .nil)))) (.cons (.for_ (.tgn 4) (.rg1 (.glo "BATCH" gBATCH)) (.cons (.asg (.tgn 2) (.call w (.cons (.pl (.sl 0)) (.cons (.pl (.sl 2)) (.cons (.pl (.sl 1)) .nil))))) (.cons (.asg (.tgn 3) (.call w (.cons (.pl (.sl 0)) (.cons (.call w (.cons (.pl (.sl 0)) (.cons (.pl (.sl 3)) (.cons (.pl (.sl 1)) .nil)))) (.cons (.pl (.sl 1)) .nil))))) (.cons (.asg (.tgn 7) (.bin .mod (.bin .mul (.pl (.sl 7)) (.bi1 .abs (.bin .sub (.pl (.sl 2)) (.pl (.sl 3))))) (.pl (.sl 0)))) .nil)))) (.cons (.iff (.cmp .gt (.call c (.cons (.pl (.sl 7)) (.cons (.pl (.sl 0)) .nil))) (.con (.int 1))) (.cons (.ret (.call s (.cons (.pl (.sl 0)) (.cons (.pl (.sl 5)) (.cons (.pl (.sl 6)) (.cons (.pl (.sl 1)) .nil)))))) .nil) .nil) .nil)))) (.cons (.ret (.con (.int 1))) .nil)))
def MfD (T : List MFn) (k t : Nat) : Prop := ∀ n c : Nat, 2 < n → n < 2 ^ 64 → c < 100 → ∃ g : Nat, 0 < g ∧ g ∣ n ∧ callM T k t [.int (n : Int), .int (c : Int)] = some (.ok (.int (g : Int)) [.int (n : Int), .int (c : Int)])
theorem g_mf {w c s : Nat} (hT : T[i0]? = some ⟨2, 8, [], bMf w c s⟩) (k : Nat) (wk : WkD T k w) (cd : CdD T k c) (ms : MsD T k s) : MfD T (k + 1) i0 := fun n m n2 n64 hm => by
  have key := callM_runK (T := T) (k := k) (i := i0) (ds := [.int (n : Int), .int (m : Int)]) (Q := fun d ds' => ∃ g : Nat, 0 < g ∧ g ∣ n ∧ d = .int (g : Int) ∧ ds' = [.int (n : Int), .int (m : Int)]) hT rfl ?_
  · obtain ⟨d, ds', e, g, h1, h2, rfl, rfl⟩ := key
    exact ⟨g, h1, h2, e⟩
  intro K hK
  show Run _ [] (bMf w c s) [some (.int (n : Int)), some (.int (m : Int)), none, none, none, none, none, none] K
  have hK := fun (g : Nat) ρ h1 h2 => hK (.rt (.int (g : Int)) (some (.int (n : Int)) :: some (.int (m : Int)) :: ρ)) (.int (g : Int)) [.int (n : Int), .int (m : Int)] (by simp) ⟨g, h1, h2, rfl, rfl⟩
  have n0 : 0 < n := by omega
  have rg : rgD 0 64 = some (rgN 64) := rgD_nat (n := 64) (by decide)
  have rg2 : rgD 0 2400 = some (rgN 2400) := rgD_nat (n := 2400) (by decide)
  have two : (D.int 2) = .int ((2 : Nat) : Int) := rfl
  refine run_st ?_
  simp [asgsD]
  refine run_forN (fun i ρ => ∃ (a b : Nat) (z4 z5 z6 z7 : Option D), a < n ∧ b < n ∧ ρ = [some (.int (n : Int)), some (.int (m : Int)), some (.int (a : Int)), some (.int (b : Int)), z4, z5, z6, z7]) (ds := rgN 2400) (ρ1 := [some (.int (n : Int)), some (.int (m : Int)), some (.int 2), some (.int 2), none, none, none, none]) (by simp [gMOSTBATCHES, rg2]) ⟨2, 2, none, none, none, none, n2, n2, rfl⟩ ?_ ?_
  · rintro i d ρ hd ⟨a0, b0, z4, z5, z6, z7, ha0, hb0, rfl⟩
    obtain ⟨hi, rfl⟩ := rgN_get hd
    refine ⟨[some (.int (n : Int)), some (.int (m : Int)), some (.int (a0 : Int)), some (.int (b0 : Int)), some (.int (i : Int)), z5, z6, z7], by simp, fun K' k1 kr => ?_⟩
    refine run_st ?_
    simp
    refine run_forN (fun j ρ => ∃ (a b pr : Nat) (z4 : Option D), a < n ∧ b < n ∧ pr < n ∧ ρ = [some (.int (n : Int)), some (.int (m : Int)), some (.int (a : Int)), some (.int (b : Int)), z4, some (.int (a0 : Int)), some (.int (b0 : Int)), some (.int (pr : Int))]) (ds := rgN 64) (ρ1 := [some (.int (n : Int)), some (.int (m : Int)), some (.int (a0 : Int)), some (.int (b0 : Int)), some (.int (i : Int)), some (.int (a0 : Int)), some (.int (b0 : Int)), some (.int 1)]) (by simp [gBATCH, rg]) ⟨a0, b0, 1, some (.int (i : Int)), ha0, hb0, by omega, rfl⟩ ?_ ?_
    · clear k1 kr
      rintro j d ρ hd ⟨a, b, pr, z4, ha, hb, hp, rfl⟩
      obtain ⟨hj, rfl⟩ := rgN_get hd
      refine ⟨[some (.int (n : Int)), some (.int (m : Int)), some (.int (a : Int)), some (.int (b : Int)), some (.int (j : Int)), some (.int (a0 : Int)), some (.int (b0 : Int)), some (.int (pr : Int))], by simp, fun K' k1 _ => ?_⟩
      have c1 := wk n a m n0 n64 (by omega) hm
      have c2 := wk n b m n0 n64 (by omega) hm
      have h1 : (a * a + m) % n < n := Nat.mod_lt _ n0
      have h2 : (b * b + m) % n < n := Nat.mod_lt _ n0
      generalize (a * a + m) % n = a' at *
      generalize (b * b + m) % n = b' at *
      have c3 := wk n b' m n0 n64 (by omega) hm
      have h3 : (b' * b' + m) % n < n := Nat.mod_lt _ n0
      generalize (b' * b' + m) % n = b2 at *
      have ea := abs_nat a' b2
      have hab : ((a' : Int) - (b2 : Int)).natAbs < n := by omega
      generalize ((a' : Int) - (b2 : Int)).natAbs = q at *
      have sp : Sm (pr : Int) := smN hp n64
      have sq : Sm (q : Int) := smN hab n64
      have k1 := k1 _ ⟨a', b2, pr * q % n, some (.int (j : Int)), h1, h3, Nat.mod_lt _ n0, rfl⟩
      rw [show ((pr * q % n : Nat) : Int) = (pr : Int) * (q : Int) % (n : Int) by simp] at k1
      refine run_st ?_
      simp [c1]
      refine run_st ?_
      simp [c2, c3]
      refine run_st ?_
      simp [ea, sp, sq, n0]
      exact k1
    · rintro ρ ⟨a, b, pr, z4, ha, hb, hp, rfl⟩
      have c4 := cd pr n
      have k1 := k1 _ ⟨a, b, z4, some (.int (a0 : Int)), some (.int (b0 : Int)), some (.int (pr : Int)), ha, hb, rfl⟩
      generalize Nat.gcd pr n = g at *
      by_cases hg : 1 < g
      · have hg' : (1 : Int) < (g : Int) := by omega
        obtain ⟨g2, h1, h2, c5⟩ := ms n a0 b0 m n2 n64 ha0 hb0 hm
        refine run_ifs ?_
        simp [c4, hg, hg']
        refine run_st ?_
        simp [c5]
        exact kr _ _ (hK g2 _ h1 h2)
      · have hg' : ¬ (1 : Int) < (g : Int) := by omega
        refine run_ifs ?_
        simp [c4, hg, hg']
        exact k1
  · rintro ρ ⟨a, b, z4, z5, z6, z7, ha, hb, rfl⟩
    refine run_st ?_
    simp
    exact hK 1 _ (by decide) (Nat.one_dvd _)
def bDv (m : Nat) : M := (.cons (.for_ (.tgn 1) (.rg2 (.con (.int 1)) (.glo "MOST_STARTS" gMOSTSTARTS)) (.cons (.asg (.tgn 2) (.call m (.cons (.pl (.sl 0)) (.cons (.pl (.sl 1)) .nil)))) (.cons (.iff (.cmp2 .lt .lt (.con (.int 1)) (.pl (.sl 2)) (.pl (.sl 0))) (.cons (.ret (.pl (.sl 2))) .nil) .nil) .nil))) (.cons (.ret (.con (.int 0))) .nil))
def DvD (T : List MFn) (k t : Nat) : Prop := ∀ n : Nat, 2 < n → n < 2 ^ 64 → ∃ g : Nat, (g = 0 ∨ (1 < g ∧ g < n ∧ g ∣ n)) ∧ callM T k t [.int (n : Int)] = some (.ok (.int (g : Int)) [.int (n : Int)])
theorem g_dv {m : Nat} (hT : T[i0]? = some ⟨1, 3, [], bDv m⟩) (k : Nat) (mf : MfD T k m) : DvD T (k + 1) i0 := fun n n2 n64 => by
  have key := callM_runK (T := T) (k := k) (i := i0) (ds := [.int (n : Int)]) (Q := fun d ds' => ∃ g : Nat, (g = 0 ∨ (1 < g ∧ g < n ∧ g ∣ n)) ∧ d = .int (g : Int) ∧ ds' = [.int (n : Int)]) hT rfl ?_
  · obtain ⟨d, ds', e, g, h1, rfl, rfl⟩ := key
    exact ⟨g, h1, e⟩
  intro K hK
  show Run _ [] (bDv m) [some (.int (n : Int)), none, none] K
  have hK := fun (g : Nat) ρ h1 => hK (.rt (.int (g : Int)) (some (.int (n : Int)) :: ρ)) (.int (g : Int)) [.int (n : Int)] (by simp) ⟨g, h1, rfl, rfl⟩
  have rg : rgD 1 8 = some (sq (fun i => .int (1 + (i : Int))) 7) := rfl
  refine run_forN (fun i ρ => ∃ (z1 z2 : Option D), ρ = [some (.int (n : Int)), z1, z2]) (ds := sq (fun i => .int (1 + (i : Int))) 7) (ρ1 := [some (.int (n : Int)), none, none]) (by simp [gMOSTSTARTS, rg]) ⟨none, none, rfl⟩ ?_ ?_
  · rintro i d ρ hd ⟨z1, z2, rfl⟩
    have hi : i < 7 := by have := (List.getElem?_eq_some_iff.mp hd).1; simpa using this
    rw [sq_get hi] at hd
    cases hd
    obtain ⟨c, hc⟩ : ∃ c : Nat, c = 1 + i := ⟨_, rfl⟩
    have ec : 1 + (i : Int) = (c : Int) := by omega
    rw [ec]
    refine ⟨[some (.int (n : Int)), some (.int (c : Int)), z2], by simp, fun K' k1 kr => ?_⟩
    have k1 := fun z2 => k1 _ ⟨some (.int (c : Int)), z2, rfl⟩
    obtain ⟨g, h1, h2, c1⟩ := mf n c n2 n64 (by omega)
    refine run_st ?_
    simp [c1]
    by_cases hg : 1 < g ∧ g < n
    · have hg1 : (1 : Int) < (g : Int) := by omega
      have hg2 : (g : Int) < (n : Int) := by omega
      obtain ⟨hg3, hg4⟩ := id hg
      refine run_ifs ?_
      simp [hg1, hg2, hg3, hg4]
      refine run_st ?_
      simp
      exact kr _ _ (hK g _ (.inr ⟨hg.1, hg.2, h2⟩))
    · by_cases hg1 : 1 < g
      · have hg2 : ¬ g < n := fun z => hg ⟨hg1, z⟩
        have hg3 : (1 : Int) < (g : Int) := by omega
        have hg4 : ¬ (g : Int) < (n : Int) := by omega
        refine run_ifs ?_
        simp [hg1, hg2, hg3, hg4]
        exact k1 _
      · have hg3 : ¬ (1 : Int) < (g : Int) := by omega
        refine run_ifs ?_
        simp [hg1, hg3]
        exact k1 _
  · rintro ρ ⟨z1, z2, rfl⟩
    refine run_st ?_
    simp
    exact hK 0 _ (.inl rfl)
def ntD (L : List Nat) : List D := L.map fun (v : Nat) => D.int (v : Int)
def bSp : M := (.cons (.par [1, 2] (.cons (.lst .nil) (.cons (.pl (.sl 0)) .nil))) (.cons (.for_ (.tgn 3) (.rg2 (.con (.int 2)) (.glo "PART_END" gPARTEND)) (.cons (.iff (.cmp .gt (.bin .mul (.pl (.sl 3)) (.pl (.sl 3))) (.pl (.sl 2))) (.cons .brk .nil) .nil) (.cons (.iff (.cmp .eq (.bin .mod (.pl (.sl 2)) (.pl (.sl 3))) (.con (.int 0))) (.cons (.app (.sl 1) (.pl (.sl 3))) (.cons (.whl (.cmp .eq (.bin .mod (.pl (.sl 2)) (.pl (.sl 3))) (.con (.int 0))) (.cons (.asg (.tgn 2) (.bin .fdiv (.pl (.sl 2)) (.pl (.sl 3)))) .nil)) .nil)) .nil) .nil))) (.cons (.ret (.tup (.cons (.frv 1) (.cons (.pl (.sl 2)) .nil)))) .nil)))
def SpD' (T : List MFn) (k t : Nat) : Prop := ∀ n : Nat, 0 < n → n < 2 ^ 64 → ∃ (ps : List Nat) (l : Nat), (∀ p ∈ ps, Pr p ∧ p ∣ n ∧ p < 1400) ∧ l ∣ n ∧ 0 < l ∧ Nsd l ∧ ps.length ≤ 1400 ∧ callM T k t [.int (n : Int)] = some (.ok (.tup [.lst (ntD ps), .int (l : Int)]) [.int (n : Int)])
theorem g_sp (hT : T[i0]? = some ⟨1, 4, [], bSp⟩) (k : Nat) : SpD' T (k + 1) i0 := fun n n0 n64 => by
  have key := callM_runK (T := T) (k := k) (i := i0) (ds := [.int (n : Int)]) (Q := fun d ds' => ∃ (ps : List Nat) (l : Nat), (∀ p ∈ ps, Pr p ∧ p ∣ n ∧ p < 1400) ∧ l ∣ n ∧ 0 < l ∧ Nsd l ∧ ps.length ≤ 1400 ∧ d = .tup [.lst (ntD ps), .int (l : Int)] ∧ ds' = [.int (n : Int)]) hT rfl ?_
  · obtain ⟨d, ds', e, ps, l, h1, h2, h3, h4, h5, rfl, rfl⟩ := key
    exact ⟨ps, l, h1, h2, h3, h4, h5, e⟩
  intro K hK
  show Run _ [] bSp [some (.int (n : Int)), none, none, none] K
  have hK := fun (ps : List Nat) (l : Nat) ρ h1 h2 h3 h4 h5 => hK (.rt (.tup [.lst (ntD ps), .int (l : Int)]) (some (.int (n : Int)) :: ρ)) _ [.int (n : Int)] (by simp) ⟨ps, l, h1, h2, h3, h4, h5, rfl, rfl⟩
  have rg : rgD 2 1400 = some (sq (fun i => .int (2 + (i : Int))) 1398) := by
    have := rgD_lh (lo := 2) (n := 1398) (by decide) (by decide) (by decide)
    simpa using this
  refine run_st ?_
  simp
  refine run_forK (fun i ρ => ∃ (ps : List Nat) (l : Nat) (z : Option D), ps.length ≤ i ∧ (∀ p ∈ ps, Pr p ∧ p ∣ n ∧ p < 1400) ∧ l ∣ n ∧ 0 < l ∧ (∀ d, 1 < d → d < 2 + i → ¬ d ∣ l) ∧ ρ = [some (.int (n : Int)), some (.acc (ntD ps)), some (.int (l : Int)), z])
    (fun ρ => ∃ (ps : List Nat) (l : Nat) (z : Option D), (∀ p ∈ ps, Pr p ∧ p ∣ n ∧ p < 1400) ∧ l ∣ n ∧ 0 < l ∧ Nsd l ∧ ps.length ≤ 1400 ∧ ρ = [some (.int (n : Int)), some (.acc (ntD ps)), some (.int (l : Int)), z]) (ds := sq (fun i => .int (2 + (i : Int))) 1398) (ρ1 := [some (.int (n : Int)), some (.acc []), some (.int (n : Int)), none]) (by simp [gPARTEND, rg]) ⟨[], n, none, by simp, (fun _ h => nomatch h), Nat.dvd_refl _, n0, fun d h1 h2 => by omega, rfl⟩ ?_ ?_ ?_
  · clear hK
    rintro i d ρ hd ⟨ps, l, z, hpl, hps, hln, l0, hno, rfl⟩
    have hi : i < 1398 := by have := (List.getElem?_eq_some_iff.mp hd).1; simpa using this
    rw [sq_get hi] at hd
    cases hd
    obtain ⟨lo, hlo⟩ : ∃ lo : Nat, lo = 2 + i := ⟨_, rfl⟩
    have el : 2 + (i : Int) = (lo : Int) := by omega
    rw [el]
    rw [← hlo] at hno
    have lo0 : 0 < lo := by omega
    have sl : Sm (lo : Int) := sm_of (by rw [Int.natAbs_natCast]; omega)
    have ll : l ≤ n := Nat.le_of_dvd n0 hln
    refine ⟨[some (.int (n : Int)), some (.acc (ntD ps)), some (.int (l : Int)), some (.int (lo : Int))], by simp, fun K' k1 _ kb _ => ?_⟩
    by_cases hq : l < lo * lo
    · have hq' : (l : Int) < (lo : Int) * (lo : Int) := by rw [← Int.natCast_mul]; omega
      have nsd : Nsd l := fun d h1 h2 _ => by
        by_cases l1 : l = 1
        · subst l1; have := Nat.le_of_dvd (by decide) h2; omega
        · have hp := NT.tr_prime (by omega) hno hq
          rcases hp.2 d h2 with e | e
          · omega
          · rw [e]; exact hp
      have kb := kb _ ⟨ps, l, some (.int (lo : Int)), hps, hln, l0, nsd, by omega, rfl⟩
      generalize ntD ps = PS at *
      refine run_ifs ?_
      simp [sl, hq']
      refine run_st ?_
      simp
      exact kb
    · have hq' : ¬ (l : Int) < (lo : Int) * (lo : Int) := by rw [← Int.natCast_mul]; omega
      refine run_ifs ?_
      simp [sl, hq']
      have k1 : ∀ (ps : List Nat) (l' : Nat), ps.length ≤ i + 1 → (∀ p ∈ ps, Pr p ∧ p ∣ n ∧ p < 1400) → l' ∣ l → 0 < l' → ¬ lo ∣ l' → K' (.nx [some (.int (n : Int)), some (.acc (ntD ps)), some (.int (l' : Int)), some (.int (lo : Int))]) := fun ps l' h0 h1 h2 h3 h4 => k1 _ ⟨ps, l', some (.int (lo : Int)), h0, h1, Nat.dvd_trans h2 hln, h3, fun d h5 h6 h7 => by
        by_cases e : d = lo
        · subst e; exact h4 h7
        · exact hno d h5 (by omega) (Nat.dvd_trans h7 h2), rfl⟩
      by_cases hm : l % lo = 0
      · have hm' : (l : Int) % (lo : Int) = 0 := by rw [← Int.natCast_emod, hm]; rfl
        have hd := Nat.dvd_of_mod_eq_zero hm
        have hp : Pr lo := ⟨by omega, fun d h1 => by
          by_cases e : d = lo
          · exact .inr e
          · left
            have h2 := Nat.le_of_dvd lo0 h1
            have h3 : 0 < d := Nat.pos_of_ne_zero fun z => by subst z; rw [Nat.zero_dvd] at h1; omega
            by_cases e1 : d = 1
            · exact e1
            · exact absurd (Nat.dvd_trans h1 hd) (hno d (by omega) (by omega))⟩
        have lw : (ntD ps).length < sizeLine := by unfold ntD; rw [PV.sz, List.length_map]; omega
        have k1 := fun l' => k1 (ps ++ [lo]) l' (by simp; omega) (fun p hp' => by
          rcases List.mem_append.mp hp' with z | z
          · exact hps p z
          · rw [List.mem_singleton.mp z]; exact ⟨hp, Nat.dvd_trans hd hln, by omega⟩)
        rw [show ntD (ps ++ [lo]) = ntD ps ++ [.int (lo : Int)] from List.map_append ..] at k1
        generalize ntD ps = PS at *
        refine run_ifs ?_
        simp [lo0, hm']
        refine run_st ?_
        simp [lw, Pl.isSl]
        refine run_whlN (fun m ρ => m ∣ l ∧ 0 < m ∧ ρ = [some (.int (n : Int)), some (.acc (PS ++ [.int (lo : Int)])), some (.int (m : Int)), some (.int (lo : Int))]) (fun ρ => ∃ m, m ∣ l ∧ 0 < m ∧ ¬ lo ∣ m ∧ ρ = [some (.int (n : Int)), some (.acc (PS ++ [.int (lo : Int)])), some (.int (m : Int)), some (.int (lo : Int))]) (n := l) ⟨Nat.dvd_refl _, l0, rfl⟩ ?_ ?_
        · clear k1
          rintro m ρ ⟨h1, h2, rfl⟩
          by_cases hm : m % lo = 0
          · have hm' : (m : Int) % (lo : Int) = 0 := by rw [← Int.natCast_emod, hm]; rfl
            refine .inr ⟨[some (.int (n : Int)), some (.acc (PS ++ [.int (lo : Int)])), some (.int (m : Int)), some (.int (lo : Int))], by simp [lo0, hm'], fun K' k1 _ _ _ => ?_⟩
            have hdm := Nat.dvd_of_mod_eq_zero hm
            have k1 := k1 [some (.int (n : Int)), some (.acc (PS ++ [.int (lo : Int)])), some (.int ((m / lo : Nat) : Int)), some (.int (lo : Int))] (m / lo) (Nat.div_lt_self h2 (by omega)) ⟨Nat.dvd_trans (Nat.div_dvd_of_dvd hdm) h1, Nat.div_pos (Nat.le_of_dvd h2 hdm) lo0, rfl⟩
            rw [Int.natCast_ediv] at k1
            have fd := binD_fdiv64 (i := (m : Int)) (j := (lo : Int)) (by omega) (by omega)
            refine run_st ?_
            simp [fd]
            exact k1
          · have hm' : ((m : Int) % (lo : Int) == 0) = false := beq_eq_false_iff_ne.mpr (by rw [← Int.natCast_emod]; omega)
            have hm2 : ¬ (m : Int) % (lo : Int) = 0 := by rw [← Int.natCast_emod]; omega
            exact .inl ⟨[some (.int (n : Int)), some (.acc (PS ++ [.int (lo : Int)])), some (.int (m : Int)), some (.int (lo : Int))], by simp [lo0, hm', hm2], m, h1, h2, fun z => hm (Nat.mod_eq_zero_of_dvd z), rfl⟩
        · rintro ρ ⟨m, h1, h2, h3, rfl⟩
          rw [run_nil_eq]
          exact run_nil (k1 m h1 h2 h3)
      · have hm' : ((l : Int) % (lo : Int) == 0) = false := beq_eq_false_iff_ne.mpr (by rw [← Int.natCast_emod]; omega)
        have hm2 : ¬ (l : Int) % (lo : Int) = 0 := by rw [← Int.natCast_emod]; omega
        have k1 := k1 ps l (by omega) hps (Nat.dvd_refl _) l0 fun z => hm (Nat.mod_eq_zero_of_dvd z)
        generalize ntD ps = PS at *
        refine run_ifs ?_
        simp [lo0, hm', hm2]
        exact k1
  · rintro ρ ⟨ps, l, z, hpl, hps, hln, l0, hno, rfl⟩
    have hno : ∀ d, 1 < d → d < 1400 → ¬ d ∣ l := hno
    have nsd : Nsd l := fun d h1 h2 h3 => NT.tr_prime (k := 1401) h1 (fun e h4 h5 h6 => by
      have h7 := Nat.dvd_trans h6 h2
      by_cases e14 : e = 1400
      · subst e14
        exact hno 2 (by decide) (by decide) (Nat.dvd_trans (by decide) h7)
      · exact hno e h4 (by omega) h7) (by omega)
    have hpl : ps.length ≤ 1398 := by simpa using hpl
    have hK := fun ρ => hK ps l ρ hps hln l0 nsd (by omega)
    generalize ntD ps = PS at *
    refine run_st ?_
    simp
    exact hK _
  · rintro ρ ⟨ps, l, z, hps, hln, l0, nsd, hpl, rfl⟩
    have hK := fun ρ => hK ps l ρ hps hln l0 nsd hpl
    generalize ntD ps = PS at *
    refine run_st ?_
    simp
    exact hK _
end
end L2.PV
set_option Elab.async false
set_option linter.all false
set_option autoImplicit false
set_option maxRecDepth 100000
set_option maxHeartbeats 0
/-! Telling primes: the program's walks, fourth part. -/
namespace L2.PV
open PySem PySem.Spec PyProof.Rows
open NT (Pr Wit Ful pl)
theorem cmp_nilE (ns : List Nat) : cmpD .eq (.acc (ntD ns)) (.acc []) = some (decide (ns.length = 0)) := by
  have e := eqD_acc (ns.map fun (v : Nat) => (v : Int)) []
  simp only [List.map_nil, List.map_map] at e
  have e : eqD (.acc (ntD ns)) (.acc []) = _ := e
  simp only [cmpD, e]
  cases ns <;> simp
theorem cmp_nilN (ns : List Nat) : cmpD .ne (.acc (ntD ns)) (.acc []) = some (!decide (ns.length = 0)) := by
  have e := eqD_acc (ns.map fun (v : Nat) => (v : Int)) []
  simp only [List.map_nil, List.map_map] at e
  have e : eqD (.acc (ntD ns)) (.acc []) = _ := e
  simp only [cmpD, e]
  cases ns <;> simp
theorem eqD_la' (ns ms : List Int) : eqD (.lst (ns.map .int)) (.acc (ms.map .int)) = some (decide (ns = ms)) := by
  rw [eqD_of (toPy_lst ns) (toPy_acc ms) (shaped_l ns) (shaped_l ms) (fun _ h => nomatch h) (fun _ h => nomatch h) (fun _ h => nomatch h), PyData.eqv, eqv_ints]
theorem cmp_nilEl (ns : List Nat) : cmpD .eq (.lst (ntD ns)) (.acc []) = some (decide (ns.length = 0)) := by
  have e := eqD_la' (ns.map fun (v : Nat) => (v : Int)) []
  simp only [List.map_nil, List.map_map] at e
  have e : eqD (.lst (ntD ns)) (.acc []) = _ := e
  simp only [cmpD, e]
  cases ns <;> simp
theorem pow_pl {b : Nat} : ∀ {l : List Nat}, (∀ g ∈ l, b ≤ g) → b ^ l.length ≤ pl l
  | [], _ => by simp [pl]
  | a :: l, h => by
    have e : pl (a :: l) = a * pl l := rfl
    rw [e, List.length_cons, Nat.pow_succ, Nat.mul_comm]
    exact Nat.mul_le_mul (h a (by simp)) (pow_pl fun g hg => h g (by simp [hg]))
theorem pl_app (A B : List Nat) : pl (A ++ B) = pl A * pl B := by
  induction A with
  | nil => simp [pl]
  | cons a A ih =>
    have e1 : pl (a :: A ++ B) = a * pl (A ++ B) := rfl
    have e2 : pl (a :: A) = a * pl A := rfl
    rw [e1, e2, ih, Nat.mul_assoc]
theorem ntD_app (A B : List Nat) : ntD (A ++ B) = ntD A ++ ntD B := List.map_append ..
theorem ntD_len (A : List Nat) : (ntD A).length = A.length := List.length_map ..
theorem pl_snoc (l : List Nat) (x : Nat) : pl (l ++ [x]) = pl l * x := by
  unfold pl
  induction l with
  | nil => simp
  | cons a l ih => simp only [List.cons_append, List.foldr_cons, ih, Nat.mul_assoc]
theorem sum_pl : ∀ {l : List Nat}, (∀ g ∈ l, 1 < g) → l.sum ≤ pl l ∧ 1 ≤ pl l
  | [], _ => ⟨by simp, by simp [pl]⟩
  | a :: l, h => by
    obtain ⟨h1, h2⟩ := sum_pl (l := l) fun g hg => h g (by simp [hg])
    have ha := h a (by simp)
    have e : pl (a :: l) = a * pl l := rfl
    rw [e, List.sum_cons]
    obtain ⟨q, hq⟩ : ∃ q, pl l = q + 1 := ⟨pl l - 1, by omega⟩
    obtain ⟨b, rfl⟩ : ∃ b, a = b + 2 := ⟨a - 2, by omega⟩
    rw [hq] at h1 ⊢
    have e2 : (b + 2) * (q + 1) = b * q + b + 2 * q + 2 := by rw [Nat.add_mul, Nat.mul_add, Nat.mul_add]; omega
    rw [e2]
    by_cases l0 : l = []
    · subst l0; simp [pl] at hq; simp; omega
    · obtain ⟨c, l', rfl⟩ := List.exists_cons_of_ne_nil l0
      have hc := h c (by simp)
      have : q + 1 = c * pl l' := hq.symm
      have h3 : 1 ≤ pl l' := (sum_pl (l := l') fun g hg => h g (by simp [hg])).2
      have : c * 1 ≤ c * pl l' := Nat.mul_le_mul_left _ h3
      omega
section
variable {T : List MFn} {i0 : Nat}
def bGp (a d : Nat) : M := (.cons (.par [1, 2] (.cons (.lst .nil) (.cons (.lst (.cons (.pl (.sl 0)) .nil)) .nil))) (.cons (.for_ (.tgn 3) (.rg1 (.glo "BATCH" gBATCH)) (.cons (.iff (.cmp .eq (.pl (.sl 2)) (.lst .nil)) (.cons .brk .nil) .nil) (.cons (.asg (.tgn 4) (.pop (.sl 2))) (.cons (.iff (.cmp .eq (.pl (.sl 4)) (.con (.int 1))) (.cons .cnt .nil) .nil) (.cons (.iff (.bor (.cmp .lt (.pl (.sl 4)) (.glo "PART_SURE" gPARTSURE)) (.bone (.seq (.call a (.cons (.pl (.sl 4)) .nil))))) (.cons (.app (.sl 1) (.pl (.sl 4))) (.cons .cnt .nil)) .nil) (.cons (.asg (.tgn 5) (.call d (.cons (.pl (.sl 4)) .nil))) (.cons (.iff (.cmp .gt (.pl (.sl 5)) (.con (.int 0))) (.cons (.app (.sl 2) (.pl (.sl 5))) (.cons (.app (.sl 2) (.bin .fdiv (.pl (.sl 4)) (.pl (.sl 5)))) .nil)) .nil) .nil))))))) (.cons (.ret (.mv 1)) .nil)))
def GpD (T : List MFn) (k t : Nat) : Prop := ∀ n : Nat, 1 < n → n < 2 ^ 64 → ∃ gs : List Nat, (∀ g ∈ gs, 1 < g ∧ g ∣ n) ∧ pl gs ≤ n ∧ gs.length ≤ 64 ∧ callM T k t [.int (n : Int)] = some (.ok (.acc (ntD gs)) [.int (n : Int)])
theorem g_gp {a d : Nat} (hT : T[i0]? = some ⟨1, 6, [], bGp a d⟩) (k : Nat) (pa : PaD T k a) (dv : DvD T k d) : GpD T (k + 1) i0 := fun n n1 n64 => by
  have key := callM_runK (T := T) (k := k) (i := i0) (ds := [.int (n : Int)]) (Q := fun d ds' => ∃ gs : List Nat, (∀ g ∈ gs, 1 < g ∧ g ∣ n) ∧ pl gs ≤ n ∧ gs.length ≤ 64 ∧ d = .acc (ntD gs) ∧ ds' = [.int (n : Int)]) hT rfl ?_
  · obtain ⟨d, ds', e, gs, h1, h2, h3, rfl, rfl⟩ := key
    exact ⟨gs, h1, h2, h3, e⟩
  intro K hK
  show Run _ [] (bGp a d) [some (.int (n : Int)), none, none, none, none, none] K
  have hK := fun (gs : List Nat) ρ h1 h2 h3 => hK (.rt (.acc (ntD gs)) (some (.int (n : Int)) :: ρ)) _ [.int (n : Int)] (by simp) ⟨gs, h1, h2, h3, rfl, rfl⟩
  have rg : rgD 0 64 = some (rgN 64) := rgD_nat (n := 64) (by decide)
  refine run_st ?_
  simp
  refine run_forK (fun i ρ => ∃ (gs todo : List Nat) (z3 z4 z5 : Option D), (∀ g ∈ gs, 1 < g ∧ g ∣ n) ∧ (∀ g ∈ todo, 1 < g ∧ g ∣ n) ∧ pl gs * pl todo ≤ n ∧ gs.length ≤ i ∧ todo.length ≤ i + 1 ∧ ρ = [some (.int (n : Int)), some (.acc (ntD gs)), some (.acc (ntD todo)), z3, z4, z5])
    (fun ρ => ∃ (gs : List Nat) (z2 z3 z4 z5 : Option D), (∀ g ∈ gs, 1 < g ∧ g ∣ n) ∧ pl gs ≤ n ∧ gs.length ≤ 64 ∧ ρ = [some (.int (n : Int)), some (.acc (ntD gs)), z2, z3, z4, z5]) (ds := rgN 64) (ρ1 := [some (.int (n : Int)), some (.acc []), some (.acc [.int (n : Int)]), none, none, none]) (by simp [gBATCH, rg])
    ⟨[], [n], none, none, none, (fun _ h => nomatch h), fun g hg => (by rw [List.mem_singleton.mp hg]; exact ⟨n1, Nat.dvd_refl _⟩), by simp [pl], by simp, by simp, rfl⟩ ?_ ?_ ?_
  · clear hK
    rintro i d' ρ hd ⟨gs, todo, z3, z4, z5, hgs, htd, hpl, hgl, htl, rfl⟩
    obtain ⟨hi, rfl⟩ := rgN_get hd
    refine ⟨[some (.int (n : Int)), some (.acc (ntD gs)), some (.acc (ntD todo)), some (.int (i : Int)), z4, z5], by simp, fun K' k1 kc kb _ => ?_⟩
    have cn := cmp_nilE todo
    by_cases ht : todo = []
    · subst ht
      have kb := kb _ ⟨gs, some (.acc (ntD [])), some (.int (i : Int)), z4, z5, hgs, by
        have : pl gs * pl [] = pl gs := by simp [pl]
        omega, by omega, rfl⟩
      have cn : cmpD .eq (.acc (ntD [])) (.acc []) = some true := cn
      generalize ntD [] = TD at *
      generalize ntD gs = GD at *
      refine run_ifs ?_
      simp [cn, bok, pureM]
      refine run_st ?_
      simp
      exact kb
    · obtain ⟨td, one, rfl⟩ : ∃ td one, todo = td ++ [one] := ⟨todo.dropLast, todo.getLast ht, (List.dropLast_concat_getLast ht).symm⟩
      obtain ⟨o1, o2⟩ := htd one (by simp)
      have o64 : one < 2 ^ 64 := Nat.lt_of_le_of_lt (Nat.le_of_dvd (by omega) o2) n64
      rw [show decide ((td ++ [one]).length = 0) = false by simp] at cn
      rw [ntD_app] at cn
      rw [ntD_app]
      have e1 : ntD [one] = [.int (one : Int)] := rfl
      rw [e1] at cn ⊢
      rw [pl_snoc] at hpl
      have gp : (ntD td ++ [D.int (one : Int)])[(ntD td ++ [D.int (one : Int)]).length - 1]? = some (.int (one : Int)) := by simp
      have gd : (ntD td ++ [D.int (one : Int)]).dropLast = ntD td := by simp
      have hne : ¬ one = 1 := by omega
      have hne' : ((one : Int) == 1) = false := beq_eq_false_iff_ne.mpr (by omega)
      have htl : td.length ≤ i := by simp at htl; omega
      have kc2 : ∀ (gs' : List Nat) z5, (∀ g ∈ gs', 1 < g ∧ g ∣ n) → pl gs' * pl td ≤ n → gs'.length ≤ i + 1 → K' (.ct [some (.int (n : Int)), some (.acc (ntD gs')), some (.acc (ntD td)), some (.int (i : Int)), some (.int (one : Int)), z5]) := fun gs' z5 h1 h2 h3 => kc _ ⟨gs', td, _, _, z5, h1, fun g hg => htd g (by simp [hg]), h2, h3, by omega, rfl⟩
      have k2 : ∀ (td' : List Nat) z5, (∀ g ∈ td', 1 < g ∧ g ∣ n) → pl gs * pl td' ≤ n → td'.length ≤ i + 2 → K' (.nx [some (.int (n : Int)), some (.acc (ntD gs)), some (.acc (ntD td')), some (.int (i : Int)), some (.int (one : Int)), z5]) := fun td' z5 h1 h2 h3 => k1 _ ⟨gs, td', _, _, z5, hgs, h1, h2, by omega, h3, rfl⟩
      have lg : (ntD gs).length < sizeLine := by rw [PV.sz, ntD_len]; omega
      have ltd : (ntD td).length < sizeLine := by rw [PV.sz, ntD_len]; omega
      have kadd := kc2 (gs ++ [one]) z5 (fun g hg => by
        rcases List.mem_append.mp hg with z | z
        · exact hgs g z
        · rw [List.mem_singleton.mp z]; exact ⟨o1, o2⟩) (by rw [pl_snoc, Nat.mul_assoc, Nat.mul_comm one]; exact hpl) (by simp; omega)
      rw [ntD_app, e1] at kadd
      have kdrop := fun z5 => k2 td z5 (fun g hg => htd g (by simp [hg])) (by
        have h3 : pl td * 1 ≤ pl td * one := Nat.mul_le_mul_left _ (by omega)
        have : pl gs * (pl td * 1) ≤ pl gs * (pl td * one) := Nat.mul_le_mul_left _ h3
        rw [Nat.mul_one] at this; omega) (by omega)
      refine run_ifs ?_
      simp [cn, bok, pureM]
      refine run_st ?_
      simp [gp, gd]
      refine run_ifs ?_
      simp [hne, hne']
      by_cases hs : one < 1962801
      · have hs' : (one : Int) < 1962801 := by omega
        refine run_ifs ?_
        simp [gPARTSURE, hs, hs']
        refine run_st ?_
        simp [lg, Pl.isSl]
        refine run_st ?_
        simp
        exact kadd
      · have hs' : ¬ (one : Int) < 1962801 := by omega
        obtain ⟨b, _, c1⟩ := pa one (by omega) o64
        cases b with
        | true =>
          refine run_ifs ?_
          simp [gPARTSURE, hs, hs', c1, truD]
          refine run_st ?_
          simp [lg, Pl.isSl]
          refine run_st ?_
          simp
          exact kadd
        | false =>
          obtain ⟨g, hg, c2⟩ := dv one (by omega) o64
          refine run_ifs ?_
          simp [gPARTSURE, hs, hs', c1, truD]
          refine run_st ?_
          simp [c2]
          rcases hg with rfl | ⟨g1, g2, g3⟩
          · refine run_ifs ?_
            simp
            exact kdrop _
          · obtain ⟨q, rfl⟩ := g3
            have hq : 1 < q := by
              by_cases z : q = 0
              · subst z; omega
              · by_cases z1 : q = 1
                · subst z1; omega
                · omega
            have dq : g * q / g = q := Nat.mul_div_cancel_left _ (by omega)
            have k3 := k2 (td ++ [g, q]) (some (.int (g : Int))) (fun x hx => by
              rcases List.mem_append.mp hx with z | z
              · exact htd x (by simp [z])
              · simp only [List.mem_cons, List.not_mem_nil, or_false] at z
                rcases z with rfl | rfl
                · exact ⟨g1, Nat.dvd_trans (Nat.dvd_mul_right _ _) o2⟩
                · exact ⟨hq, Nat.dvd_trans (Nat.dvd_mul_left _ _) o2⟩) (by
              rw [show td ++ [g, q] = (td ++ [g]) ++ [q] by simp, pl_snoc, pl_snoc, Nat.mul_assoc]; exact hpl) (by simp; omega)
            rw [show td ++ [g, q] = (td ++ [g]) ++ [q] by simp, ntD_app, ntD_app, show ntD [g] = [.int (g : Int)] from rfl, show ntD [q] = [.int (q : Int)] from rfl] at k3
            have g0 : 0 < g := by omega
            have g0' : (0 : Int) < (g : Int) := by omega
            have dqi : ((g * q : Nat) : Int) / (g : Int) = (q : Int) := by rw [← Int.natCast_ediv, dq]
            have fd := binD_fdiv64 (i := ((g * q : Nat) : Int)) (j := (g : Int)) g0' (by omega)
            rw [dqi] at fd
            have ltd2 : (ntD td ++ [D.int (g : Int)]).length < sizeLine := by rw [PV.sz, List.length_append, ntD_len]; simp; omega
            generalize ((g * q : Nat) : Int) = ONE at *
            refine run_ifs ?_
            simp [g0, g0']
            refine run_st ?_
            simp [ltd, Pl.isSl]
            generalize ntD td ++ [D.int (g : Int)] = TG at *
            refine run_st ?_
            simp [fd, ltd2, Pl.isSl]
            exact k3
  · rintro ρ ⟨gs, todo, z3, z4, z5, hgs, htd, hpl, hgl, htl, rfl⟩
    rw [rgN_len] at hgl
    have hK := fun ρ => hK gs ρ hgs (by
      have h2 := (sum_pl fun g hg => (htd g hg).1).2
      have : pl gs * 1 ≤ pl gs * pl todo := Nat.mul_le_mul_left _ h2
      omega) hgl
    generalize ntD gs = GD at *
    refine run_st ?_
    simp
    exact hK _
  · rintro ρ ⟨gs, z2, z3, z4, z5, h1, h2, h3, rfl⟩
    have hK := fun ρ => hK gs ρ h1 h2 h3
    generalize ntD gs = GD at *
    refine run_st ?_
    simp
    exact hK _
end
end L2.PV
set_option Elab.async false
set_option linter.all false
set_option autoImplicit false
set_option maxRecDepth 100000
set_option maxHeartbeats 0
/-! Telling primes: the program's walks, fifth part. -/
namespace L2.PV
open PySem PySem.Spec PyProof.Rows
open NT (Pr Wit Ful pl)
section
variable {T : List MFn} {i0 : Nat}
def bFp : M := (.cons (.asg (.tgn 2) (.con (.int 1))) (.cons (.for_ (.tgn 3) (.seq (.pl (.sl 1))) (.cons (.whl (.cmp .eq (.bin .mod (.pl (.sl 0)) (.pl (.sl 3))) (.con (.int 0))) (.cons (.par [0, 2] (.cons (.bin .fdiv (.pl (.sl 0)) (.pl (.sl 3))) (.cons (.bin .mul (.pl (.sl 2)) (.pl (.sl 3))) .nil))) .nil)) .nil)) (.cons (.ret (.pl (.sl 2))) .nil)))
def FpD (T : List MFn) (k t : Nat) : Prop := ∀ (N : Nat) (ps : List Nat), 0 < N → N < 2 ^ 64 → (∀ p ∈ ps, 1 < p ∧ p < 2 ^ 64) → ∃ rest full : Nat, Ful N ps rest full ∧ full < 2 ^ 64 ∧ callM T k t [.int (N : Int), .lst (ntD ps)] = some (.ok (.int (full : Int)) [.int (N : Int), .lst (ntD ps)])
theorem g_fp (hT : T[i0]? = some ⟨2, 4, [], bFp⟩) (k : Nat) : FpD T (k + 1) i0 := fun N ps N0 N64 hps => by
  have key := callM_runK (T := T) (k := k) (i := i0) (ds := [.int (N : Int), .lst (ntD ps)]) (Q := fun d ds' => ∃ rest full : Nat, Ful N ps rest full ∧ full < 2 ^ 64 ∧ d = .int (full : Int) ∧ ds' = [.int (N : Int), .lst (ntD ps)]) hT rfl ?_
  · obtain ⟨d, ds', e, r, f, h1, h2, rfl, rfl⟩ := key
    exact ⟨r, f, h1, h2, e⟩
  intro K hK
  show Run _ [] bFp [some (.int (N : Int)), some (.lst (ntD ps)), none, none] K
  have hK := fun (r f : Nat) z h1 h2 => hK (.rt (.int (f : Int)) [some (.int (r : Int)), some (.lst (ntD ps)), some (.int (f : Int)), z]) (.int (f : Int)) [.int (N : Int), .lst (ntD ps)] (by simp) ⟨r, f, h1, h2, rfl, rfl⟩
  refine run_st ?_
  simp
  refine run_forN (fun i ρ => ∃ (r f : Nat) (z : Option D), 0 < r ∧ Ful N (ps.take i) r f ∧ ρ = [some (.int (r : Int)), some (.lst (ntD ps)), some (.int (f : Int)), z]) (ds := ntD ps) (ρ1 := [some (.int (N : Int)), some (.lst (ntD ps)), some (.int 1), none]) (by simp) ⟨N, 1, none, N0, by rw [List.take_zero]; exact Ful.nil N, rfl⟩ ?_ ?_
  · clear hK
    rintro i d ρ hd ⟨r0, f0, z, hr0, hF, rfl⟩
    obtain ⟨q, hq, rfl⟩ := map_get (c := fun (v : Nat) => D.int (v : Int)) hd
    obtain ⟨q1, q64⟩ := hps q (List.mem_of_getElem? hq)
    have et : ps.take (i + 1) = ps.take i ++ [q] := by rw [List.take_add_one, hq]; rfl
    generalize ntD ps = PS at *
    refine ⟨[some (.int (r0 : Int)), some (.lst PS), some (.int (f0 : Int)), some (.int (q : Int))], by simp, fun K' k1 _ => ?_⟩
    have k1 := fun (r f e : Nat) (h0 : 0 < r) (h1 : r0 = r * q ^ e) (h2 : f = f0 * q ^ e) (h3 : ¬ q ∣ r) => k1 _ ⟨r, f, some (.int (q : Int)), h0, by rw [et, h2]; exact hF.snoc h1 h3, rfl⟩
    have q0 : 0 < q := by omega
    refine run_whlN (fun m ρ => ∃ (f e : Nat), 0 < m ∧ r0 = m * q ^ e ∧ f = f0 * q ^ e ∧ ρ = [some (.int (m : Int)), some (.lst PS), some (.int (f : Int)), some (.int (q : Int))]) (fun ρ => ∃ (m f e : Nat), 0 < m ∧ r0 = m * q ^ e ∧ f = f0 * q ^ e ∧ ¬ q ∣ m ∧ ρ = [some (.int (m : Int)), some (.lst PS), some (.int (f : Int)), some (.int (q : Int))]) (n := r0) ⟨f0, 0, hr0, by simp, by simp, rfl⟩ ?_ ?_
    · clear k1
      rintro m ρ ⟨f, e, m0, h1, h2, rfl⟩
      by_cases hm : m % q = 0
      · have hm' : (m : Int) % (q : Int) = 0 := by rw [← Int.natCast_emod, hm]; rfl
        refine .inr ⟨[some (.int (m : Int)), some (.lst PS), some (.int (f : Int)), some (.int (q : Int))], by simp [q0, hm'], fun K' k1 _ _ _ => ?_⟩
        have hdm := Nat.dvd_of_mod_eq_zero hm
        have em : m = m / q * q := (Nat.div_mul_cancel hdm).symm
        have k1 := k1 [some (.int ((m / q : Nat) : Int)), some (.lst PS), some (.int ((f * q : Nat) : Int)), some (.int (q : Int))] (m / q) (Nat.div_lt_self m0 q1) ⟨f * q, e + 1, Nat.div_pos (Nat.le_of_dvd m0 hdm) q0, by
          rw [h1, Nat.pow_succ, Nat.mul_comm (q ^ e) q, ← Nat.mul_assoc, Nat.div_mul_cancel hdm], by rw [h2, Nat.pow_succ, Nat.mul_assoc], rfl⟩
        have f64 : f < 2 ^ 64 := by
          have h3 : r0 * f0 = N := hF.e
          have h4 : m * f = N := by rw [← h3, h1, h2]; rw [Nat.mul_assoc, Nat.mul_comm f0]
          have : 1 * f ≤ m * f := Nat.mul_le_mul_right f m0
          omega
        rw [Int.natCast_ediv, Int.natCast_mul] at k1
        have fd := binD_fdiv64 (i := (m : Int)) (j := (q : Int)) (by omega) (by omega)
        have sf : Sm (f : Int) := sm_of (by rw [Int.natAbs_natCast]; exact f64)
        have sq : Sm (q : Int) := sm_of (by rw [Int.natAbs_natCast]; exact q64)
        refine run_st ?_
        simp [fd, sf, sq]
        exact k1
      · have hm' : ((m : Int) % (q : Int) == 0) = false := beq_eq_false_iff_ne.mpr (by rw [← Int.natCast_emod]; omega)
        have hm2 : ¬ (m : Int) % (q : Int) = 0 := by rw [← Int.natCast_emod]; omega
        exact .inl ⟨[some (.int (m : Int)), some (.lst PS), some (.int (f : Int)), some (.int (q : Int))], by simp [q0, hm', hm2], m, f, e, m0, h1, h2, fun z => hm (Nat.mod_eq_zero_of_dvd z), rfl⟩
    · rintro ρ ⟨m, f, e, m0, h1, h2, h3, rfl⟩
      rw [run_nil_eq]
      exact k1 m f e m0 h1 h2 h3
  · rintro ρ ⟨r, f, z, hr, hF, rfl⟩
    have hl : (ntD ps).length = ps.length := ntD_len ps
    rw [hl, List.take_length] at hF
    have f64 : f < 2 ^ 64 := by
      have h3 := hF.e
      have : 1 * f ≤ r * f := Nat.mul_le_mul_right f hr
      omega
    have hK := hK r f z hF f64
    generalize ntD ps = PS at *
    refine run_st ?_
    simp
    exact hK
/-- what is told of a number's parts beneath -/
def bigs (ps : List Nat) : List Nat := ps.filter fun p => decide (1962801 ≤ p)
structure PbOk (n : Nat) (ps : List Nat) : Prop where
  f : ∃ rest full, Ful (n - 1) ps rest full ∧ n < full * full
  p : ∀ p ∈ ps, 1 < p ∧ p ∣ n - 1 ∧ (p < 1962801 → Pr p)
  b : pl (bigs ps) ≤ n - 1
  l : ps.length ≤ 10000
theorem bigs_snoc (ps : List Nat) (g : Nat) : bigs (ps ++ [g]) = bigs ps ++ if 1962801 ≤ g then [g] else [] := by
  unfold bigs
  rw [List.filter_append]
  by_cases h : 1962801 ≤ g <;> simp [h]
theorem bigs_small {ps : List Nat} (h : ∀ p ∈ ps, p < 1962801) : bigs ps = [] := by
  unfold bigs
  exact List.filter_eq_nil_iff.mpr fun p hp => by have := h p hp; simp; omega
theorem notin_some (g : Nat) (Q : List Nat) : ∃ b : Bool, cmpD .notin (.int (g : Int)) (.acc (ntD Q)) = some b := by
  have h : (ntD Q).all flatD = true := by
    rw [List.all_eq_true]
    intro d hd
    obtain ⟨v, _, rfl⟩ := List.mem_map.mp hd
    rfl
  refine ⟨!inV (toV (.int (g : Int))) ((ntD Q).map toV), ?_⟩
  show (inD (.int (g : Int)) (.acc (ntD Q))).map not = _
  have e : inD (.int (g : Int)) (.acc (ntD Q)) = some (inV (toV (.int (g : Int))) ((ntD Q).map toV)) := by
    unfold inD
    rw [seqD_acc]
    simp only []
    rw [if_pos (by rw [h]; rfl)]
  rw [e]; rfl
def bPb (s f g : Nat) : M := (.cons (.asg (.tgt (.cons (.tgn 1) (.cons (.tgn 2) .nil))) (.call s (.cons (.bin .sub (.pl (.sl 0)) (.con (.int 1))) .nil))) (.cons (.asg (.tgn 3) (.bin .add (.pl (.sl 1)) (.ife (.cmp2 .lt .lt (.con (.int 1)) (.pl (.sl 2)) (.glo "PART_SURE" gPARTSURE)) (.lst (.cons (.pl (.sl 2)) .nil)) (.lst .nil)))) (.cons (.asg (.tgn 4) (.callb2 f (.bin .sub (.pl (.sl 0)) (.con (.int 1))) 3)) (.cons (.iff (.band (.cmp .le (.bin .mul (.pl (.sl 4)) (.pl (.sl 4))) (.pl (.sl 0))) (.bone (.cmp .ge (.pl (.sl 2)) (.glo "PART_SURE" gPARTSURE)))) (.cons (.for_ (.tgn 5) (.seq (.call g (.cons (.pl (.sl 2)) .nil))) (.cons (.iff (.cmp .notin (.pl (.sl 5)) (.pl (.sl 3))) (.cons (.app (.sl 3) (.pl (.sl 5))) .nil) .nil) .nil)) (.cons (.asg (.tgn 4) (.call f (.cons (.bin .sub (.pl (.sl 0)) (.con (.int 1))) (.cons (.frv 3) .nil)))) .nil)) .nil) (.cons (.ret (.ife (.cmp .gt (.bin .mul (.pl (.sl 4)) (.pl (.sl 4))) (.pl (.sl 0))) (.frv 3) (.lst .nil))) .nil)))))
def PbD (T : List MFn) (k t : Nat) : Prop := ∀ n : Nat, 66000 < n → n < 2 ^ 64 → ∃ ps : List Nat, (ps = [] ∨ PbOk n ps) ∧ (callM T k t [.int (n : Int)] = some (.ok (.lst (ntD ps)) [.int (n : Int)]) ∨ (ps = [] ∧ callM T k t [.int (n : Int)] = some (.ok (.acc []) [.int (n : Int)])))
theorem g_pb {s f g : Nat} (hT : T[i0]? = some ⟨1, 6, [], bPb s f g⟩) (k : Nat) (sp : SpD' T k s) (fp : FpD T k f) (gp : GpD T k g) : PbD T (k + 1) i0 := fun n n2 n64 => by
  have key := callM_runK (T := T) (k := k) (i := i0) (ds := [.int (n : Int)]) (Q := fun d ds' => ∃ ps : List Nat, (ps = [] ∨ PbOk n ps) ∧ (d = .lst (ntD ps) ∨ (ps = [] ∧ d = .acc [])) ∧ ds' = [.int (n : Int)]) hT rfl ?_
  · obtain ⟨d, ds', e, ps, h1, h2, rfl⟩ := key
    refine ⟨ps, h1, ?_⟩
    rcases h2 with rfl | ⟨h2, rfl⟩
    · exact .inl e
    · exact .inr ⟨h2, e⟩
  intro K hK
  show Run _ [] (bPb s f g) [some (.int (n : Int)), none, none, none, none, none] K
  have kno := fun ρ => hK (.rt (.acc []) (some (.int (n : Int)) :: ρ)) (.acc []) [.int (n : Int)] (by simp) ⟨[], .inl rfl, .inr ⟨rfl, rfl⟩, rfl⟩
  have kyes := fun (ps : List Nat) ρ h => hK (.rt (.lst (ntD ps)) (some (.int (n : Int)) :: ρ)) (.lst (ntD ps)) [.int (n : Int)] (by simp) ⟨ps, .inr h, .inl rfl, rfl⟩
  clear hK
  have n1 : 0 < n - 1 := by omega
  have en : (n : Int) - 1 = ((n - 1 : Nat) : Int) := by omega
  obtain ⟨sm_, l, hs, hln, l0, nsd, hsl, c1⟩ := sp (n - 1) n1 (by omega)
  have hll : l ≤ n - 1 := Nat.le_of_dvd n1 hln
  obtain ⟨P0, hP0e⟩ : ∃ P0 : List Nat, P0 = sm_ ++ (if 1 < l ∧ l < 1962801 then [l] else []) := ⟨_, rfl⟩
  have hP0 : ∀ p ∈ P0, 1 < p ∧ p ∣ n - 1 ∧ (p < 1962801 → Pr p) ∧ p < 1962801 := fun p hp => by
    rw [hP0e] at hp
    rcases List.mem_append.mp hp with z | z
    · obtain ⟨h1, h2, h3⟩ := hs p z
      exact ⟨h1.1, h2, fun _ => h1, by omega⟩
    · by_cases h : 1 < l ∧ l < 1962801
      · rw [if_pos h] at z
        rw [List.mem_singleton.mp z]
        exact ⟨h.1, hln, fun h5 => nsd l h.1 (Nat.dvd_refl _) h5, h.2⟩
      · rw [if_neg h] at z; cases z
  have hP0l : P0.length ≤ 1401 := by
    rw [hP0e, List.length_append]
    split <;> simp <;> omega
  rw [← en] at c1
  refine run_st ?_
  simp [c1]
  have hsz : (ntD sm_).length ≤ 1400 := by rw [ntD_len]; exact hsl
  have k2 : Run (callM T k) [] (.cons (.asg (.tgn 4) (.callb2 f (.bin .sub (.pl (.sl 0)) (.con (.int 1))) 3)) (.cons (.iff (.band (.cmp .le (.bin .mul (.pl (.sl 4)) (.pl (.sl 4))) (.pl (.sl 0))) (.bone (.cmp .ge (.pl (.sl 2)) (.glo "PART_SURE" gPARTSURE)))) (.cons (.for_ (.tgn 5) (.seq (.call g (.cons (.pl (.sl 2)) .nil))) (.cons (.iff (.cmp .notin (.pl (.sl 5)) (.pl (.sl 3))) (.cons (.app (.sl 3) (.pl (.sl 5))) .nil) .nil) .nil)) (.cons (.asg (.tgn 4) (.call f (.cons (.bin .sub (.pl (.sl 0)) (.con (.int 1))) (.cons (.frv 3) .nil)))) .nil)) .nil) (.cons (.ret (.ife (.cmp .gt (.bin .mul (.pl (.sl 4)) (.pl (.sl 4))) (.pl (.sl 0))) (.frv 3) (.lst .nil))) .nil))) [some (.int (n : Int)), some (.lst (ntD sm_)), some (.int (l : Int)), some (.acc (ntD P0)), none, none] K := by
    obtain ⟨r1, f1, hF1, f164, c2⟩ := fp (n - 1) P0 n1 (by omega) (fun p hp => ⟨(hP0 p hp).1, by have := (hP0 p hp).2.2.2; omega⟩)
    rw [← en] at c2
    have sf1 : Sm (f1 : Int) := sm_of (by rw [Int.natAbs_natCast]; exact f164)
    have ok1 : n < f1 * f1 → PbOk n P0 := fun h => ⟨⟨r1, f1, hF1, h⟩, fun p hp => ⟨(hP0 p hp).1, (hP0 p hp).2.1, (hP0 p hp).2.2.1⟩, by rw [bigs_small fun p hp => (hP0 p hp).2.2.2]; simp [pl]; omega, by omega⟩
    have fin : ∀ (Q : List Nat) (fu : Nat) z5, fu < 2 ^ 64 → (n < fu * fu → PbOk n Q) → ∀ Z, (Z = D.acc (ntD Q) ∨ Z = D.lst (ntD Q)) → Run (callM T k) [] (.cons (.ret (.ife (.cmp .gt (.bin .mul (.pl (.sl 4)) (.pl (.sl 4))) (.pl (.sl 0))) (.frv 3) (.lst .nil))) .nil) [some (.int (n : Int)), some (.lst (ntD sm_)), some (.int (l : Int)), some Z, some (.int (fu : Int)), z5] K := fun Q fu z5 h64 hok Z hZ => by
      have sf : Sm (fu : Int) := sm_of (by rw [Int.natAbs_natCast]; exact h64)
      have fZ : frzD Z = some (.lst (ntD Q)) := by rcases hZ with rfl | rfl <;> rfl
      by_cases hq : n < fu * fu
      · have hq' : (n : Int) < (fu : Int) * (fu : Int) := by rw [← Int.natCast_mul]; omega
        have kyes := fun ρ => kyes Q ρ (hok hq)
        generalize ntD Q = QD at *
        refine run_st ?_
        simp [sf, hq', fZ]
        exact kyes _
      · have hq' : ¬ (n : Int) < (fu : Int) * (fu : Int) := by rw [← Int.natCast_mul]; omega
        refine run_st ?_
        simp [sf, hq']
        exact kno _
    have fl : ∀ v : Int, flatD (.int v) = true := fun _ => rfl
    refine run_st ?_
    simp [c2, fl]
    by_cases hb : f1 * f1 ≤ n ∧ 1962801 ≤ l
    · have hb1 : (f1 : Int) * (f1 : Int) ≤ (n : Int) := by rw [← Int.natCast_mul]; omega
      have hb2 : (1962801 : Int) ≤ (l : Int) := by omega
      obtain ⟨gs, hgs, hgsum, hgl, c3⟩ := gp l (by omega) (by omega)
      have rgs : frzD (.acc (ntD gs)) = some (.lst (ntD gs)) := rfl
      obtain ⟨hb3, hb4⟩ := id hb
      refine run_ifs ?_
      simp [sf1, hb1, hb2, gPARTSURE]
      refine run_forN (fun i ρ => ∃ (Q : List Nat) (z5 : Option D), (∀ p ∈ Q, 1 < p ∧ p ∣ n - 1 ∧ (p < 1962801 → Pr p)) ∧ pl (bigs Q) ≤ pl (gs.take i) ∧ Q.length ≤ 1401 + i ∧ ρ = [some (.int (n : Int)), some (.lst (ntD sm_)), some (.int (l : Int)), some (.acc (ntD Q)), some (.int (f1 : Int)), z5]) (ds := ntD gs) (ρ1 := [some (.int (n : Int)), some (.lst (ntD sm_)), some (.int (l : Int)), some (.acc (ntD P0)), some (.int (f1 : Int)), none]) (by simp [c3, rgs]) ⟨P0, none, fun p hp => ⟨(hP0 p hp).1, (hP0 p hp).2.1, (hP0 p hp).2.2.1⟩, by rw [bigs_small fun p hp => (hP0 p hp).2.2.2]; simp [pl], by omega, rfl⟩ ?_ ?_
      · clear fin kyes kno
        rintro i d ρ hd ⟨Q, z5, hQ, hB, hQl, rfl⟩
        obtain ⟨g, hg, rfl⟩ := map_get (c := fun (v : Nat) => D.int (v : Int)) hd
        have hi : i < gs.length := (List.getElem?_eq_some_iff.mp hg).1
        obtain ⟨g1, g2⟩ := hgs g (List.mem_of_getElem? hg)
        have et : pl (gs.take (i + 1)) = pl (gs.take i) * g := by rw [List.take_add_one, hg]; exact pl_snoc _ _
        have hle : pl (gs.take i) * 1 ≤ pl (gs.take i) * g := Nat.mul_le_mul_left _ (by omega)
        obtain ⟨b, cb⟩ := notin_some g Q
        refine ⟨[some (.int (n : Int)), some (.lst (ntD sm_)), some (.int (l : Int)), some (.acc (ntD Q)), some (.int (f1 : Int)), some (.int (g : Int))], by simp, fun K' k1 _ => ?_⟩
        have ka := k1 _ ⟨Q, some (.int (g : Int)), hQ, by rw [et]; omega, by omega, rfl⟩
        have kb := k1 _ ⟨Q ++ [g], some (.int (g : Int)), fun p hp => by
          rcases List.mem_append.mp hp with z | z
          · exact hQ p z
          · rw [List.mem_singleton.mp z]; exact ⟨g1, Nat.dvd_trans g2 hln, fun h5 => nsd g g1 g2 h5⟩, (by
            rw [bigs_snoc, et]
            split
            · rw [pl_snoc]; exact Nat.mul_le_mul_right _ hB
            · rw [List.append_nil]; omega), by simp; omega, rfl⟩
        rw [show ntD (Q ++ [g]) = ntD Q ++ [.int (g : Int)] from ntD_app ..] at kb
        have lw : (ntD Q).length < sizeLine := by rw [PV.sz, ntD_len]; omega
        generalize ntD Q = QD at *
        generalize ntD sm_ = SD at *
        cases b with
        | true =>
          refine run_ifs ?_
          simp [cb, bok, pureM]
          refine run_st ?_
          simp [lw, Pl.isSl]
          exact kb
        | false =>
          refine run_ifs ?_
          simp [cb, bok, pureM]
          exact ka
      · rintro ρ ⟨Q, z5, hQ, hB, hQl, rfl⟩
        rw [ntD_len, List.take_length] at hB
        rw [ntD_len] at hQl
        obtain ⟨r2, f2, hF2, f264, c4⟩ := fp (n - 1) Q n1 (by omega) (fun p hp => ⟨(hQ p hp).1, by
          have := Nat.le_of_dvd n1 (hQ p hp).2.1; omega⟩)
        rw [← en] at c4
        have fin := fin Q f2 z5 f264 (fun h => ⟨⟨r2, f2, hF2, h⟩, hQ, by omega, by omega⟩) _ (.inr rfl)
        have rQ : frzD (.acc (ntD Q)) = some (.lst (ntD Q)) := rfl
        generalize ntD Q = QD at *
        generalize ntD sm_ = SD at *
        refine run_st ?_
        simp [c4]
        exact fin
    · have fin := fin P0 f1 none f164 ok1 _ (.inl rfl)
      generalize ntD P0 = PD at *
      generalize ntD sm_ = SD at *
      by_cases hb1 : f1 * f1 ≤ n
      · have hb2 : ¬ 1962801 ≤ l := fun z => hb ⟨hb1, z⟩
        have hb3 : (f1 : Int) * (f1 : Int) ≤ (n : Int) := by rw [← Int.natCast_mul]; omega
        have hb4 : ¬ (1962801 : Int) ≤ (l : Int) := by omega
        refine run_ifs ?_
        simp [sf1, hb3, hb4, gPARTSURE]
        exact fin
      · have hb3 : ¬ (f1 : Int) * (f1 : Int) ≤ (n : Int) := by rw [← Int.natCast_mul]; omega
        refine run_ifs ?_
        simp [sf1, hb3]
        exact fin
  by_cases h : 1 < l ∧ l < 1962801
  · rw [if_pos h] at hP0e
    have h1 : (1 : Int) < (l : Int) := by omega
    have h2 : (l : Int) < 1962801 := by omega
    obtain ⟨h3, h4⟩ := h
    rw [hP0e, ntD_app, show ntD [l] = [.int (l : Int)] from rfl] at k2
    have ad : binD .add (.lst (ntD sm_)) (.acc [.int (l : Int)]) = some (.acc (ntD sm_ ++ [.int (l : Int)])) := by
      simp only [binD]; rw [if_pos (by rw [PV.sz]; simp; omega)]
    generalize ntD sm_ = SD at *
    refine run_st ?_
    simp [gPARTSURE, h1, h2, h3, h4, ad]
    exact k2
  · rw [if_neg h, List.append_nil] at hP0e
    rw [hP0e] at k2
    have ad : binD .add (.lst (ntD sm_)) (.acc []) = some (.acc (ntD sm_)) := by
      simp only [binD]; rw [if_pos (by rw [PV.sz]; simp; omega), List.append_nil]
    generalize ntD sm_ = SD at *
    by_cases h1 : 1 < l
    · have h2 : ¬ (l : Int) < 1962801 := fun z => h ⟨h1, by omega⟩
      have h3 : (1 : Int) < (l : Int) := by omega
      have h4 : ¬ l < 1962801 := fun z => h ⟨h1, z⟩
      refine run_st ?_
      simp [gPARTSURE, h1, h2, h3, h4, ad]
      exact k2
    · have h3 : ¬ (1 : Int) < (l : Int) := by omega
      refine run_st ?_
      simp [gPARTSURE, h1, h3, ad]
      exact k2
end
end L2.PV
set_option Elab.async false
set_option linter.all false
set_option autoImplicit false
set_option maxRecDepth 100000
set_option maxHeartbeats 0
/-! Telling primes: the program's walks, last part. -/
namespace L2.PV
open PySem PySem.Spec PyProof.Rows
open NT (Pr Wit Ful pl)
section
variable {T : List MFn} {i0 : Nat}
def bHw (j c : Nat) : M := (.cons (.for_ (.tgn 2) (.rg2 (.con (.int 2)) (.glo "MOST_WITNESS" gMOSTWITNESS)) (.cons (.asg (.tgn 3) (.call j (.cons (.pl (.sl 0)) (.cons (.pl (.sl 2)) (.cons (.bin .fdiv (.bin .sub (.pl (.sl 0)) (.con (.int 1))) (.pl (.sl 1))) .nil))))) (.cons (.iff (.cmp .ne (.pl (.sl 3)) (.con (.int 1))) (.cons (.iff (.cmp .ne (.call j (.cons (.pl (.sl 0)) (.cons (.pl (.sl 3)) (.cons (.pl (.sl 1)) .nil)))) (.con (.int 1))) (.cons (.ret (.con (.bl false))) .nil) .nil) (.cons (.iff (.cmp .eq (.call c (.cons (.bin .sub (.pl (.sl 3)) (.con (.int 1))) (.cons (.pl (.sl 0)) .nil))) (.con (.int 1))) (.cons (.ret (.con (.bl true))) .nil) .nil) .nil)) .nil) .nil))) (.cons (.ret (.con (.bl false))) .nil))
def HwD (T : List MFn) (k t : Nat) : Prop := ∀ n q : Nat, 1 < n → n < 2 ^ 64 → 0 < q → q < 2 ^ 64 → ∃ b : Bool, (b = true → Wit n q) ∧ callM T k t [.int (n : Int), .int (q : Int)] = some (.ok (.bl b) [.int (n : Int), .int (q : Int)])
theorem g_hw {j c : Nat} (hT : T[i0]? = some ⟨2, 4, [], bHw j c⟩) (k : Nat) (pm : PmD T k j) (cd : CdD T k c) : HwD T (k + 1) i0 := fun n q n1 n64 q0 q64 => by
  have key := callM_runK (T := T) (k := k) (i := i0) (ds := [.int (n : Int), .int (q : Int)]) (Q := fun d ds' => ∃ b : Bool, (b = true → Wit n q) ∧ d = .bl b ∧ ds' = [.int (n : Int), .int (q : Int)]) hT rfl ?_
  · obtain ⟨d, ds', e, b, h1, rfl, rfl⟩ := key
    exact ⟨b, h1, e⟩
  intro K hK
  show Run _ [] (bHw j c) [some (.int (n : Int)), some (.int (q : Int)), none, none] K
  have hK := fun b ρ h => hK (.rt (.bl b) (some (.int (n : Int)) :: some (.int (q : Int)) :: ρ)) (.bl b) [.int (n : Int), .int (q : Int)] (by simp) ⟨b, h, rfl, rfl⟩
  have rg : rgD 2 400 = some (sq (fun i => .int (2 + (i : Int))) 398) := by
    have := rgD_lh (lo := 2) (n := 398) (by decide) (by decide) (by decide)
    simpa using this
  have fd := binD_fdiv64 (i := (n : Int) - 1) (j := (q : Int)) (by omega) (by omega)
  have en : ((n : Int) - 1) / (q : Int) = (((n - 1) / q : Nat) : Int) := by rw [show (n : Int) - 1 = ((n - 1 : Nat) : Int) by omega, Int.natCast_ediv]
  rw [en] at fd
  refine run_forN (fun i ρ => ∃ (z2 z3 : Option D), ρ = [some (.int (n : Int)), some (.int (q : Int)), z2, z3]) (ds := sq (fun i => .int (2 + (i : Int))) 398) (ρ1 := [some (.int (n : Int)), some (.int (q : Int)), none, none]) (by simp [gMOSTWITNESS, rg]) ⟨none, none, rfl⟩ ?_ ?_
  · rintro i d ρ hd ⟨z2, z3, rfl⟩
    have hi : i < 398 := by have := (List.getElem?_eq_some_iff.mp hd).1; simpa using this
    rw [sq_get hi] at hd
    cases hd
    obtain ⟨a, ha⟩ : ∃ a : Nat, a = 2 + i := ⟨_, rfl⟩
    rw [show 2 + (i : Int) = (a : Int) by omega]
    refine ⟨[some (.int (n : Int)), some (.int (q : Int)), some (.int (a : Int)), z3], by simp, fun K' k1 kr => ?_⟩
    have k1 := fun z3 => k1 _ ⟨some (.int (a : Int)), z3, rfl⟩
    have c1 := pm n a ((n - 1) / q) n1 n64
    obtain ⟨w, hw⟩ : ∃ w, w = a ^ ((n - 1) / q) % n := ⟨_, rfl⟩
    rw [← hw] at c1
    have hwn : w < n := by rw [hw]; exact Nat.mod_lt _ (by omega)
    have c2 := pm n w q n1 n64
    generalize (((n - 1) / q : Nat) : Int) = e at *
    refine run_st ?_
    simp [fd, c1]
    by_cases hw1 : w = 1
    · have hw1' : (w : Int) = 1 := by omega
      refine run_ifs ?_
      simp [hw1, hw1']
      rw [← hw1']
      exact k1 _
    · have hw1' : ((w : Int) == 1) = false := beq_eq_false_iff_ne.mpr (by omega)
      have hw1i : ¬ w = 1 := hw1
      refine run_ifs ?_
      simp [hw1', hw1i]
      by_cases hq : w ^ q % n = 1
      · rw [hq] at c2
        have w0 : 0 < w := Nat.pos_of_ne_zero fun z => by
          rw [z, Nat.zero_pow q0, Nat.zero_mod] at hq; omega
        have c3 := cd (w - 1) n
        rw [show ((w - 1 : Nat) : Int) = (w : Int) - 1 by omega] at c3
        refine run_ifs ?_
        simp [c2]
        by_cases hg : Nat.gcd (w - 1) n = 1
        · rw [hg] at c3
          refine run_ifs ?_
          simp [c3]
          refine run_st ?_
          simp
          exact kr _ _ (hK true _ fun _ => ⟨a, by rw [← hw]; exact hq, by rw [← hw]; exact hg⟩)
        · have hg' : (((Nat.gcd (w - 1) n : Nat) : Int) == 1) = false := beq_eq_false_iff_ne.mpr (by omega)
          have hgi : ¬ Nat.gcd (w - 1) n = 1 := hg
          generalize Nat.gcd (w - 1) n = g at *
          refine run_ifs ?_
          simp [c3, hg', hgi]
          exact k1 _
      · have hq' : (((w ^ q % n : Nat) : Int) == 1) = false := beq_eq_false_iff_ne.mpr (by omega)
        generalize w ^ q % n = v at *
        refine run_ifs ?_
        simp [c2, hq', hq]
        refine run_st ?_
        simp
        exact kr _ _ (hK false _ fun z => nomatch z)
  · rintro ρ ⟨z2, z3, rfl⟩
    refine run_st ?_
    simp
    exact hK false _ fun z => nomatch z
def bHr (b w : Nat) : M := (.cons (.asg (.tgn 1) (.lst (.cons (.pl (.sl 0)) .nil))) (.cons (.whl (.cmp .ne (.pl (.sl 1)) (.lst .nil)) (.cons (.asg (.tgn 2) (.pop (.sl 1))) (.cons (.asg (.tgn 3) (.call b (.cons (.pl (.sl 2)) .nil))) (.cons (.iff (.cmp .eq (.pl (.sl 3)) (.lst .nil)) (.cons (.ret (.con (.bl false))) .nil) .nil) (.cons (.for_ (.tgn 4) (.seq (.frv 3)) (.cons (.iff (.bnot (.seq (.call w (.cons (.pl (.sl 2)) (.cons (.pl (.sl 4)) .nil))))) (.cons (.ret (.con (.bl false))) .nil) .nil) (.cons (.iff (.cmp .ge (.pl (.sl 4)) (.glo "PART_SURE" gPARTSURE)) (.cons (.app (.sl 1) (.pl (.sl 4))) .nil) .nil) .nil))) .nil))))) (.cons (.ret (.con (.bl true))) .nil)))
def HrD (T : List MFn) (k t : Nat) : Prop := ∀ n : Nat, 66000 < n → n < 2 ^ 64 → ∃ b : Bool, (b = true → Pr n) ∧ callM T k t [.int (n : Int)] = some (.ok (.bl b) [.int (n : Int)])
theorem g_hr {b w : Nat} (hT : T[i0]? = some ⟨1, 5, [], bHr b w⟩) (k : Nat) (pb : PbD T k b) (hw : HwD T k w) : HrD T (k + 1) i0 := fun n n6 n64 => by
  have key := callM_runK (T := T) (k := k) (i := i0) (ds := [.int (n : Int)]) (Q := fun d ds' => ∃ b : Bool, (b = true → Pr n) ∧ d = .bl b ∧ ds' = [.int (n : Int)]) hT rfl ?_
  · obtain ⟨d, ds', e, b, h1, rfl, rfl⟩ := key
    exact ⟨b, h1, e⟩
  intro K hK
  show Run _ [] (bHr b w) [some (.int (n : Int)), none, none, none, none] K
  have hK := fun b ρ h => hK (.rt (.bl b) (some (.int (n : Int)) :: ρ)) (.bl b) [.int (n : Int)] (by simp) ⟨b, h, rfl, rfl⟩
  refine run_st ?_
  simp
  refine run_whlN (fun m ρ => ∃ (todo : List Nat) (z2 z3 z4 : Option D), pl todo = m ∧ (∀ t ∈ todo, 66000 < t ∧ t < 2 ^ 64) ∧ ((∀ t ∈ todo, Pr t) → Pr n) ∧ pl todo ≤ n ∧ ρ = [some (.int (n : Int)), some (.acc (ntD todo)), z2, z3, z4])
    (fun ρ => ∃ (z1 z2 z3 z4 : Option D), Pr n ∧ ρ = [some (.int (n : Int)), z1, z2, z3, z4]) (n := n)
    ⟨[n], none, none, none, by simp [pl], fun t ht => (by rw [List.mem_singleton.mp ht]; exact ⟨n6, n64⟩), fun h => h n (by simp), by simp [pl], rfl⟩ ?_ ?_
  · rintro m ρ ⟨todo, z2, z3, z4, rfl, htd, himp, hsn, rfl⟩
    have cn := cmp_nilN todo
    by_cases ht : todo = []
    · subst ht
      have cn : cmpD .ne (.acc (ntD [])) (.acc []) = some false := cn
      refine .inl ⟨[some (.int (n : Int)), some (.acc (ntD [])), z2, z3, z4], ?_, some (.acc (ntD [])), z2, z3, z4, himp (fun _ h => nomatch h), rfl⟩
      generalize ntD [] = TD at *
      simp [cn, bok, pureM]
    · obtain ⟨td, one, rfl⟩ : ∃ td one, todo = td ++ [one] := ⟨todo.dropLast, todo.getLast ht, (List.dropLast_concat_getLast ht).symm⟩
      obtain ⟨o1, o2⟩ := htd one (by simp)
      rw [show decide ((td ++ [one]).length = 0) = false by simp] at cn
      rw [ntD_app, show ntD [one] = [.int (one : Int)] from rfl] at cn ⊢
      have gp : (ntD td ++ [D.int (one : Int)])[(ntD td ++ [D.int (one : Int)]).length - 1]? = some (.int (one : Int)) := by simp
      have gd : (ntD td ++ [D.int (one : Int)]).dropLast = ntD td := by simp
      have hsum : pl (td ++ [one]) = pl td * one := pl_snoc _ _
      rw [hsum] at hsn
      have hpt : 1 ≤ pl td := (sum_pl fun g hg => by have := (htd g (by simp [hg])).1; omega).2
      have hlt : td.length ≤ 5 := Classical.byContradiction fun z => by
        have h1 := pow_pl (b := 2 ^ 16) (l := td) fun g hg => by have := (htd g (by simp [hg])).1; omega
        have h2 : (2 ^ 16) ^ 5 ≤ (2 ^ 16) ^ td.length := Nat.pow_le_pow_right (by decide) (by omega)
        have h3 : pl td * 1 ≤ pl td * one := Nat.mul_le_mul_left _ (by omega)
        have h4 : (2 ^ 16) ^ 5 = 2 ^ 80 := by rw [← Nat.pow_mul]
        rw [h4] at h2
        omega
      refine .inr ⟨[some (.int (n : Int)), some (.acc (ntD td ++ [.int (one : Int)])), z2, z3, z4], ?_, fun K' k1 _ _ kr => ?_⟩
      · generalize ntD td ++ [D.int (one : Int)] = TD at *
        simp [cn, bok, pureM]
      · obtain ⟨ps, hps, hc⟩ := pb one o1 o2
        refine run_st ?_
        simp [gp, gd]
        -- what comes behind the parts
        have rest : ∀ Z, frzD Z = some (.lst (ntD ps)) → cmpD .eq Z (.acc []) = some (decide (ps.length = 0)) → Run (callM T k) [] (.cons (.iff (.cmp .eq (.pl (.sl 3)) (.lst .nil)) (.cons (.ret (.con (.bl false))) .nil) .nil) (.cons (.for_ (.tgn 4) (.seq (.frv 3)) (.cons (.iff (.bnot (.seq (.call w (.cons (.pl (.sl 2)) (.cons (.pl (.sl 4)) .nil))))) (.cons (.ret (.con (.bl false))) .nil) .nil) (.cons (.iff (.cmp .ge (.pl (.sl 4)) (.glo "PART_SURE" gPARTSURE)) (.cons (.app (.sl 1) (.pl (.sl 4))) .nil) .nil) .nil))) .nil)) [some (.int (n : Int)), some (.acc (ntD td)), some (.int (one : Int)), some Z, z4] K' := fun Z fZ cZ => by
          by_cases hp0 : ps = []
          · subst hp0
            have cZ : cmpD .eq Z (.acc []) = some true := cZ
            generalize ntD td = TD at *
            refine run_ifs ?_
            simp [cZ, bok, pureM]
            refine run_st ?_
            simp
            exact kr _ _ (hK false _ fun z => nomatch z)
          · have ok : PbOk one ps := hps.resolve_left hp0
            have cZ : cmpD .eq Z (.acc []) = some false := by
              rw [cZ]; congr 1
              cases ps with
              | nil => exact absurd rfl hp0
              | cons a l => simp
            refine run_ifs ?_
            simp [cZ, bok, pureM]
            refine run_forN (fun j ρ => ∃ z4 : Option D, (∀ p ∈ ps.take j, Wit one p) ∧ ρ = [some (.int (n : Int)), some (.acc (ntD (td ++ bigs (ps.take j)))), some (.int (one : Int)), some (.lst (ntD ps)), z4]) (ds := ntD ps) (ρ1 := [some (.int (n : Int)), some (.acc (ntD td)), some (.int (one : Int)), some (.lst (ntD ps)), z4]) (by simp [fZ]) ⟨z4, (fun _ h => nomatch h), by simp [bigs]⟩ ?_ ?_
            · clear k1
              rintro j d ρ hd ⟨z4, hwt, rfl⟩
              obtain ⟨p, hp, rfl⟩ := map_get (c := fun (v : Nat) => D.int (v : Int)) hd
              have hj : j < ps.length := (List.getElem?_eq_some_iff.mp hp).1
              obtain ⟨p1, p2, p3⟩ := ok.p p (List.mem_of_getElem? hp)
              have hp64 := Nat.le_of_dvd (show 0 < one - 1 by omega) p2
              obtain ⟨b, hb, c2⟩ := hw one p (by omega) o2 (by omega) (by omega)
              have et : ps.take (j + 1) = ps.take j ++ [p] := by rw [List.take_add_one, hp]; rfl
              have lw : (ntD (td ++ bigs (ps.take j))).length < sizeLine := by
                rw [PV.sz, ntD_len, List.length_append]
                have h1 : (bigs (ps.take j)).length ≤ (ps.take j).length := List.length_filter_le _ _
                rw [List.length_take] at h1
                have := ok.l
                omega
              refine ⟨[some (.int (n : Int)), some (.acc (ntD (td ++ bigs (ps.take j)))), some (.int (one : Int)), some (.lst (ntD ps)), some (.int (p : Int))], by simp, fun K2 k1 kr2 => ?_⟩
              cases b with
              | false =>
                generalize ntD (td ++ bigs (ps.take j)) = TD at *
                generalize ntD ps = PS at *
                refine run_ifs ?_
                simp [c2, truD]
                refine run_st ?_
                simp
                exact kr2 _ _ (kr _ _ (hK false _ fun z => nomatch z))
              | true =>
                have k1 := k1 _ ⟨some (.int (p : Int)), fun q hq => by
                  rw [et] at hq
                  rcases List.mem_append.mp hq with z | z
                  · exact hwt q z
                  · rw [List.mem_singleton.mp z]; exact hb rfl, rfl⟩
                rw [et, bigs_snoc, ← List.append_assoc, ntD_app] at k1
                generalize ntD (td ++ bigs (ps.take j)) = TD at *
                generalize ntD ps = PS at *
                by_cases hbg : 1962801 ≤ p
                · have hbg' : (1962801 : Int) ≤ (p : Int) := by omega
                  rw [if_pos hbg, show ntD [p] = [.int (p : Int)] from rfl] at k1
                  refine run_ifs ?_
                  simp [c2, truD]
                  refine run_ifs ?_
                  simp [gPARTSURE, hbg, hbg']
                  refine run_st ?_
                  simp [lw, Pl.isSl]
                  exact k1
                · have hbg' : ¬ (1962801 : Int) ≤ (p : Int) := by omega
                  rw [if_neg hbg, show ntD [] = [] from rfl, List.append_nil] at k1
                  refine run_ifs ?_
                  simp [c2, truD]
                  refine run_ifs ?_
                  simp [gPARTSURE, hbg, hbg']
                  exact k1
            · rintro ρ ⟨z4, hwt, rfl⟩
              rw [ntD_len, List.take_length] at hwt
              rw [ntD_len, List.take_length, run_nil_eq]
              have hone : pl (td ++ bigs ps) < pl (td ++ [one]) := by
                rw [pl_app, hsum]
                have h1 : pl td * pl (bigs ps) ≤ pl td * (one - 1) := Nat.mul_le_mul_left _ ok.b
                have h2 : pl td * (one - 1) < pl td * one := Nat.mul_lt_mul_of_pos_left (by omega) (by omega)
                omega
              refine k1 _ (pl (td ++ bigs ps)) hone ⟨td ++ bigs ps, _, _, _, rfl, fun t ht => ?_, fun hall => himp fun t ht => ?_, by rw [hsum] at hone; omega, rfl⟩
              · rcases List.mem_append.mp ht with z | z
                · exact htd t (by simp [z])
                · obtain ⟨h1, h2⟩ := List.mem_filter.mp z
                  have h3 : 1962801 ≤ t := of_decide_eq_true h2
                  have h4 := Nat.le_of_dvd (show 0 < one - 1 by omega) (ok.p t h1).2.1
                  exact ⟨by omega, by omega⟩
              · rcases List.mem_append.mp ht with z | z
                · exact hall t (by simp [z])
                · rw [List.mem_singleton.mp z]
                  obtain ⟨rest, full, hF, hff⟩ := ok.f
                  refine NT.pk_ful (by omega) hF hff (fun p hp => ?_) (fun p hp => (ok.p p hp).2.1) hwt
                  by_cases hbg : p < 1962801
                  · exact (ok.p p hp).2.2 hbg
                  · exact hall p (List.mem_append_right _ (List.mem_filter.mpr ⟨hp, decide_eq_true (by omega)⟩))
        rcases hc with c1 | ⟨hps0, c1⟩
        · have rest := rest (.lst (ntD ps)) rfl (cmp_nilEl ps)
          generalize ntD td = TD at *
          generalize ntD ps = PS at *
          refine run_st ?_
          simp [c1]
          exact rest
        · have rest := rest (.acc []) (by rw [hps0]; rfl) (by rw [hps0]; exact cmp_nilE [])
          generalize ntD td = TD at *
          refine run_st ?_
          simp [c1]
          exact rest
  · rintro ρ ⟨z1, z2, z3, z4, hp, rfl⟩
    refine run_st ?_
    simp
    exact hK true _ fun _ => hp
end
end L2.PV
set_option Elab.async false
set_option linter.all false
set_option autoImplicit false
set_option maxRecDepth 100000
set_option maxHeartbeats 0
/-! Telling primes: whether a number is prime. -/
namespace L2.PV
open PySem PySem.Spec PyProof.Rows
open NT (Pr Wit Ful pl)
section
variable {T : List MFn} {i0 : Nat}
def bNd : M := (.cons (.asg (.tgn 1) (.con (.int 3))) (.cons (.whl (.cmp .le (.bin .mul (.pl (.sl 1)) (.pl (.sl 1))) (.pl (.sl 0))) (.cons (.iff (.cmp .eq (.bin .mod (.pl (.sl 0)) (.pl (.sl 1))) (.con (.int 0))) (.cons (.ret (.con (.bl false))) .nil) .nil) (.cons (.aug 1 .add (.con (.int 2))) .nil))) (.cons (.ret (.con (.bl true))) .nil)))
def NdD (T : List MFn) (k t : Nat) : Prop := ∀ n : Nat, 3 < n → n % 2 = 1 → n < 2 ^ 64 → callM T k t [.int (n : Int)] = some (.ok (.bl (prB n)) [.int (n : Int)])
theorem g_nd (hT : T[i0]? = some ⟨1, 2, [], bNd⟩) (k : Nat) : NdD T (k + 1) i0 := fun n n3 no n64 => by
  refine callM_isK hT rfl fun K hK => ?_
  show Run _ [] bNd [some (.int (n : Int)), none] K
  have hK := fun b z (h : b = prB n) => hK (.rt (.bl b) [some (.int (n : Int)), z]) (by rw [h]; simp)
  refine run_st ?_
  simp
  refine run_whlN (fun m ρ => ∃ lo : Nat, 3 ≤ lo ∧ lo % 2 = 1 ∧ lo + m = n + 3 ∧ (∀ d, 1 < d → d < lo → ¬ d ∣ n) ∧ ρ = [some (.int (n : Int)), some (.int (lo : Int))]) (fun ρ => ∃ z, Pr n ∧ ρ = [some (.int (n : Int)), z]) (n := n) ⟨3, by omega, by omega, by omega, fun d h1 h2 => (by
    have : d = 2 := by omega
    subst this
    intro z; omega), rfl⟩ ?_ ?_
  · rintro m ρ ⟨lo, l3, lo1, hm, hno, rfl⟩
    by_cases hq : n < lo * lo
    · have hq' : ¬ (lo : Int) * (lo : Int) ≤ (n : Int) := by rw [← Int.natCast_mul]; omega
      have sl : Sm (lo : Int) := Nat.lt_of_lt_of_le (show ((lo : Int)).natAbs < 2 ^ 128 by rw [Int.natAbs_natCast]; omega) (Nat.pow_le_pow_right (by decide) (by decide))
      exact .inl ⟨[some (.int (n : Int)), some (.int (lo : Int))], by simp [sl, hq'], some (.int (lo : Int)), NT.tr_prime (by omega) hno hq, rfl⟩
    · have hq' : (lo : Int) * (lo : Int) ≤ (n : Int) := by rw [← Int.natCast_mul]; omega
      have hlt : lo < n := by
        have : lo * 2 ≤ lo * lo := Nat.mul_le_mul_left _ (by omega)
        omega
      have sl : Sm (lo : Int) := sm_of (by rw [Int.natAbs_natCast]; omega)
      have l0 : 0 < lo := by omega
      refine .inr ⟨[some (.int (n : Int)), some (.int (lo : Int))], by simp [sl, hq'], fun K' k1 _ _ kr => ?_⟩
      by_cases hd : n % lo = 0
      · have hd' : (n : Int) % (lo : Int) = 0 := by rw [← Int.natCast_emod, hd]; rfl
        have hp := NT.not_pr (show 1 < lo by omega) hlt (Nat.dvd_of_mod_eq_zero hd)
        refine run_ifs ?_
        simp [l0, hd']
        refine run_st ?_
        simp
        exact kr _ _ (hK false _ (prB_f hp).symm)
      · have hd' : ((n : Int) % (lo : Int) == 0) = false := beq_eq_false_iff_ne.mpr (by rw [← Int.natCast_emod]; omega)
        have hd2 : ¬ (n : Int) % (lo : Int) = 0 := by rw [← Int.natCast_emod]; omega
        have k1 := k1 [some (.int (n : Int)), some (.int ((lo + 2 : Nat) : Int))] (m - 2) (by omega) ⟨lo + 2, by omega, by omega, by omega, fun d h1 h2 h3 => by
          by_cases e1 : d < lo
          · exact hno d h1 e1 h3
          · by_cases e2 : d = lo
            · subst e2; exact hd (Nat.mod_eq_zero_of_dvd h3)
            · have e3 : d = lo + 1 := by omega
              have : 2 ∣ n := Nat.dvd_trans ⟨d / 2, by omega⟩ h3
              omega, rfl⟩
        rw [show ((lo + 2 : Nat) : Int) = (lo : Int) + 2 by omega] at k1
        refine run_ifs ?_
        simp [l0, hd', hd2]
        refine run_st ?_
        simp [augI]
        exact k1
  · rintro ρ ⟨z, hp, rfl⟩
    refine run_st ?_
    simp
    exact hK true _ (prB_t hp).symm
def bPt (s a r d : Nat) : M := (.cons (.iff (.cmp .lt (.pl (.sl 0)) (.con (.int 4))) (.cons (.ret (.cmp .gt (.pl (.sl 0)) (.con (.int 1)))) .nil) .nil) (.cons (.iff (.cmp .eq (.bin .band (.pl (.sl 0)) (.con (.int 1))) (.con (.int 0))) (.cons (.ret (.con (.bl false))) .nil) .nil) (.cons (.asg (.tgn 1) (.call s (.cons (.pl (.sl 0)) .nil))) (.cons (.iff (.isN false (.pl (.sl 1))) (.cons (.ret (.pl (.sl 1))) .nil) .nil) (.cons (.iff (.bnot (.seq (.call a (.cons (.pl (.sl 0)) .nil)))) (.cons (.ret (.con (.bl false))) .nil) .nil) (.cons (.ret (.bor (.call r (.cons (.pl (.sl 0)) .nil)) (.bone (.call d (.cons (.pl (.sl 0)) .nil))))) .nil))))))
def PtlD (T : List MFn) (k t : Nat) : Prop := ∀ n : Nat, n < 2 ^ 64 → callM T k t [.int (n : Int)] = some (.ok (.bl (prB n)) [.int (n : Int)])
theorem pr_le3 {n : Nat} (h : n < 4) : prB n = decide (1 < n) := by
  have : n = 0 ∨ n = 1 ∨ n = 2 ∨ n = 3 := by omega
  rcases this with rfl | rfl | rfl | rfl
  · exact prB_f fun h => by have := h.1; omega
  · exact prB_f fun h => by have := h.1; omega
  · exact prB_t NT.pr2
  · exact prB_t NT.pr3
theorem g_pt {s a r d : Nat} (hT : T[i0]? = some ⟨1, 2, [], bPt s a r d⟩) (k : Nat) (sa : SaD T k s) (pa : PaD T k a) (hr : HrD T k r) (nd : NdD T k d) : PtlD T (k + 1) i0 := fun n n64 => by
  refine callM_isK hT rfl fun K hK => ?_
  show Run _ [] (bPt s a r d) [some (.int (n : Int)), none] K
  have hK := fun b z (h : b = prB n) => hK (.rt (.bl b) [some (.int (n : Int)), z]) (by rw [h]; simp)
  by_cases h4 : n < 4
  · have h4' : (n : Int) < 4 := by omega
    have hp := pr_le3 h4
    have hK := hK (decide ((1 : Int) < (n : Int))) none (by rw [hp]; exact decide_eq_decide.mpr (by omega))
    refine run_ifs ?_
    simp [h4, h4']
    refine run_st ?_
    simp
    exact hK
  have h4' : ¬ (n : Int) < 4 := by omega
  refine run_ifs ?_
  simp [h4, h4']
  have b1 := band1 n
  by_cases ho : n % 2 = 0
  · rw [ho] at b1
    refine run_ifs ?_
    simp [b1]
    refine run_st ?_
    simp
    exact hK false _ (prB_f (NT.not_pr (d := 2) (by decide) (by omega) (Nat.dvd_of_mod_eq_zero ho))).symm
  have ho : n % 2 = 1 := by omega
  rw [ho] at b1
  refine run_ifs ?_
  simp [b1]
  obtain ⟨v, hv, c1⟩ := sa n (by omega) ho n64
  rcases hv with ⟨rfl, h6⟩ | rfl
  · skip
    refine run_st ?_
    simp [c1]
    refine run_ifs ?_
    simp [isNon]
    obtain ⟨b, hb, c2⟩ := pa n (by omega) n64
    cases b with
    | false =>
      refine run_ifs ?_
      simp [c2, truD]
      refine run_st ?_
      simp
      exact hK false _ (prB_f fun hp => by have := hb hp (by omega); cases this).symm
    | true =>
      refine run_ifs ?_
      simp [c2, truD]
      obtain ⟨b2, hb2, c3⟩ := hr n (by omega) n64
      have c4 := nd n (by omega) ho n64
      cases b2 with
      | true =>
        have hp := hb2 rfl
        refine run_st ?_
        simp [c3]
        exact hK true _ (prB_t hp).symm
      | false =>
        generalize prB n = v at *
        refine run_st ?_
        simp [c3, c4]
        exact hK v _ rfl
  · generalize prB n = v at *
    refine run_st ?_
    simp [c1]
    refine run_ifs ?_
    simp [isNon]
    refine run_st ?_
    simp
    exact hK v _ rfl
def bIp (p : Nat) : M := (.cons (.ret (.call p (.cons (.pl (.sl 0)) .nil))) .nil)
theorem g_ip {p : Nat} (hT : T[i0]? = some ⟨1, 1, [], bIp p⟩) (k : Nat) (pt : PtlD T k p) : PtlD T (k + 1) i0 := fun n n64 => by
  refine callM_isK hT rfl fun K hK => ?_
  show Run _ [] (bIp p) [some (.int (n : Int))] K
  have c := pt n n64
  have hK := hK (.rt (.bl (prB n)) [some (.int (n : Int))]) (by simp)
  generalize prB n = v at *
  refine run_st ?_
  simp [c]
  exact hK
end
end L2.PV
set_option Elab.async false
set_option linter.all false
set_option autoImplicit false
set_option maxRecDepth 100000
set_option maxHeartbeats 0
namespace L2.PV.K02
open PySem PySem.Spec PyProof.Rows
abbrev prog : Program := PySem.Challenge.pw_shortpapers_k02_primes_are_told_from_pro
abbrev top (i : Nat) : Stmt := (PySem.Challenge.pw_shortpapers_k02_primes_are_told_from_pro).main.body.getD i (.Pass ⟨0, 0, 0, 0⟩)
def g_BASES : D := (.tup [(.int 2), (.int 3), (.int 5), (.int 7), (.int 11), (.int 13), (.int 17), (.int 19), (.int 23)])
def g_BATCH : D := (.int 64)
def g_MOST_BATCHES : D := (.int 2400)
def g_MOST_STARTS : D := (.int 8)
def g_MOST_WITNESS : D := (.int 400)
def g_PART_END : D := (.int 1400)
def g_PART_SURE : D := (.int 1962801)
def g_SMALL_END : D := (.int 256)
def g_SMALL_SURE : D := (.int 66049)
/-- 0 power_modulo(number, one, often) -/
def b_power_modulo : M := (.cons (.par [3, 4] (.cons (.con (.int 1)) (.cons (.bin .mod (.pl (.sl 1)) (.pl (.sl 0))) .nil))) (.cons (.whl (.cmp .gt (.pl (.sl 2)) (.con (.int 0))) (.cons (.iff (.cmp .eq (.bin .band (.pl (.sl 2)) (.con (.int 1))) (.con (.int 1))) (.cons (.asg (.tgn 3) (.bin .mod (.bin .mul (.pl (.sl 3)) (.pl (.sl 4))) (.pl (.sl 0)))) .nil) .nil) (.cons (.asg (.tgn 4) (.bin .mod (.bin .mul (.pl (.sl 4)) (.pl (.sl 4))) (.pl (.sl 0)))) (.cons (.asg (.tgn 2) (.bin .fdiv (.pl (.sl 2)) (.con (.int 2)))) .nil)))) (.cons (.ret (.pl (.sl 3))) .nil)))
def f_power_modulo : MFn := ⟨3, 5, [], b_power_modulo⟩
def d_power_modulo : Df := ⟨top 10, ["number", "one", "often", "found", "square"], ["number", "one", "often"], f_power_modulo⟩
/-- 1 common_divisor(one, other) -/
def b_common_divisor : M := (.cons (.whl (.cmp .ne (.pl (.sl 1)) (.con (.int 0))) (.cons (.par [0, 1] (.cons (.pl (.sl 1)) (.cons (.bin .mod (.pl (.sl 0)) (.pl (.sl 1))) .nil))) .nil)) (.cons (.ret (.pl (.sl 0))) .nil))
def f_common_divisor : MFn := ⟨2, 2, [], b_common_divisor⟩
def d_common_divisor : Df := ⟨top 11, ["one", "other"], ["one", "other"], f_common_divisor⟩
/-- 2 small_answer(number) -/
def b_small_answer : M := (.cons (.for_ (.tgn 1) (.rg3 (.con (.int 3)) (.glo "SMALL_END" g_SMALL_END) (.con (.int 2))) (.cons (.iff (.cmp .gt (.bin .mul (.pl (.sl 1)) (.pl (.sl 1))) (.pl (.sl 0))) (.cons (.ret (.con (.bl true))) .nil) .nil) (.cons (.iff (.cmp .eq (.bin .mod (.pl (.sl 0)) (.pl (.sl 1))) (.con (.int 0))) (.cons (.ret (.con (.bl false))) .nil) .nil) .nil))) (.cons (.ret (.ife (.cmp .lt (.pl (.sl 0)) (.glo "SMALL_SURE" g_SMALL_SURE)) (.con (.bl true)) (.con .non))) .nil))
def f_small_answer : MFn := ⟨1, 2, [], b_small_answer⟩
def d_small_answer : Df := ⟨top 12, ["number", "low"], ["number"], f_small_answer⟩
/-- 3 passes(number, base) -/
def b_passes : M := (.cons (.par [2, 3] (.cons (.bin .sub (.pl (.sl 0)) (.con (.int 1))) (.cons (.con (.int 0)) .nil))) (.cons (.whl (.cmp .eq (.bin .band (.pl (.sl 2)) (.con (.int 1))) (.con (.int 0))) (.cons (.par [2, 3] (.cons (.bin .fdiv (.pl (.sl 2)) (.con (.int 2))) (.cons (.bin .add (.pl (.sl 3)) (.con (.int 1))) .nil))) .nil)) (.cons (.asg (.tgn 4) (.call 0 (.cons (.pl (.sl 0)) (.cons (.pl (.sl 1)) (.cons (.pl (.sl 2)) .nil))))) (.cons (.iff (.bor (.cmp .eq (.pl (.sl 4)) (.con (.int 1))) (.bone (.cmp .eq (.pl (.sl 4)) (.bin .sub (.pl (.sl 0)) (.con (.int 1)))))) (.cons (.ret (.con (.bl true))) .nil) .nil) (.cons (.for_ (.tgn 5) (.rg1 (.bin .sub (.pl (.sl 3)) (.con (.int 1)))) (.cons (.asg (.tgn 4) (.bin .mod (.bin .mul (.pl (.sl 4)) (.pl (.sl 4))) (.pl (.sl 0)))) (.cons (.iff (.cmp .eq (.pl (.sl 4)) (.bin .sub (.pl (.sl 0)) (.con (.int 1)))) (.cons (.ret (.con (.bl true))) .nil) .nil) .nil))) (.cons (.ret (.con (.bl false))) .nil))))))
def f_passes : MFn := ⟨2, 6, [], b_passes⟩
def d_passes : Df := ⟨top 13, ["number", "base", "odd", "twos", "power", "_"], ["number", "base"], f_passes⟩
/-- 4 passes_all(number) -/
def b_passes_all : M := (.cons (.for_ (.tgn 1) (.seq (.glo "BASES" g_BASES)) (.cons (.iff (.bnot (.seq (.call 3 (.cons (.pl (.sl 0)) (.cons (.pl (.sl 1)) .nil))))) (.cons (.ret (.con (.bl false))) .nil) .nil) .nil)) (.cons (.ret (.con (.bl true))) .nil))
def f_passes_all : MFn := ⟨1, 2, [], b_passes_all⟩
def d_passes_all : Df := ⟨top 14, ["number", "base"], ["number"], f_passes_all⟩
/-- 5 walked(number, place, more) -/
def b_walked : M := (.cons (.ret (.bin .mod (.bin .add (.bin .mul (.pl (.sl 1)) (.pl (.sl 1))) (.pl (.sl 2))) (.pl (.sl 0)))) .nil)
def f_walked : MFn := ⟨3, 3, [], b_walked⟩
def d_walked : Df := ⟨top 15, ["number", "place", "more"], ["number", "place", "more"], f_walked⟩
/-- 6 met_singly(number, slow, fast, more) -/
def b_met_singly : M := (.cons (.for_ (.tgn 4) (.rg1 (.glo "BATCH" g_BATCH)) (.cons (.asg (.tgn 1) (.call 5 (.cons (.pl (.sl 0)) (.cons (.pl (.sl 1)) (.cons (.pl (.sl 3)) .nil))))) (.cons (.asg (.tgn 2) (.call 5 (.cons (.pl (.sl 0)) (.cons (.call 5 (.cons (.pl (.sl 0)) (.cons (.pl (.sl 2)) (.cons (.pl (.sl 3)) .nil)))) (.cons (.pl (.sl 3)) .nil))))) (.cons (.asg (.tgn 5) (.call 1 (.cons (.bi1 .abs (.bin .sub (.pl (.sl 1)) (.pl (.sl 2)))) (.cons (.pl (.sl 0)) .nil)))) (.cons (.iff (.cmp .gt (.pl (.sl 5)) (.con (.int 1))) (.cons (.ret (.pl (.sl 5))) .nil) .nil) .nil))))) (.cons (.ret (.con (.int 1))) .nil))
def f_met_singly : MFn := ⟨4, 6, [], b_met_singly⟩
def d_met_singly : Df := ⟨top 16, ["number", "slow", "fast", "more", "_", "found"], ["number", "slow", "fast", "more"], f_met_singly⟩
/-- 7 met_from(number, more) -/
def b_met_from : M := (.cons (.asgs [2, 3] (.con (.int 2))) (.cons (.for_ (.tgn 4) (.rg1 (.glo "MOST_BATCHES" g_MOST_BATCHES)) (.cons (.par [5, 6, 7] (.cons (.pl (.sl 2)) (.cons (.pl (.sl 3)) (.cons (.con (.int 1)) .nil)))) (.cons (.for_ (.tgn 4) (.rg1 (.glo "BATCH" g_BATCH)) (.cons (.asg (.tgn 2) (.call 5 (.cons (.pl (.sl 0)) (.cons (.pl (.sl 2)) (.cons (.pl (.sl 1)) .nil))))) (.cons (.asg (.tgn 3) (.call 5 (.cons (.pl (.sl 0)) (.cons (.call 5 (.cons (.pl (.sl 0)) (.cons (.pl (.sl 3)) (.cons (.pl (.sl 1)) .nil)))) (.cons (.pl (.sl 1)) .nil))))) (.cons (.asg (.tgn 7) (.bin .mod (.bin .mul (.pl (.sl 7)) (.bi1 .abs (.bin .sub (.pl (.sl 2)) (.pl (.sl 3))))) (.pl (.sl 0)))) .nil)))) (.cons (.iff (.cmp .gt (.call 1 (.cons (.pl (.sl 7)) (.cons (.pl (.sl 0)) .nil))) (.con (.int 1))) (.cons (.ret (.call 6 (.cons (.pl (.sl 0)) (.cons (.pl (.sl 5)) (.cons (.pl (.sl 6)) (.cons (.pl (.sl 1)) .nil)))))) .nil) .nil) .nil)))) (.cons (.ret (.con (.int 1))) .nil)))
def f_met_from : MFn := ⟨2, 8, [], b_met_from⟩
def d_met_from : Df := ⟨top 17, ["number", "more", "slow", "fast", "_", "kept_slow", "kept_fast", "product"], ["number", "more"], f_met_from⟩
/-- 8 divided(number) -/
def b_divided : M := (.cons (.for_ (.tgn 1) (.rg2 (.con (.int 1)) (.glo "MOST_STARTS" g_MOST_STARTS)) (.cons (.asg (.tgn 2) (.call 7 (.cons (.pl (.sl 0)) (.cons (.pl (.sl 1)) .nil)))) (.cons (.iff (.cmp2 .lt .lt (.con (.int 1)) (.pl (.sl 2)) (.pl (.sl 0))) (.cons (.ret (.pl (.sl 2))) .nil) .nil) .nil))) (.cons (.ret (.con (.int 0))) .nil))
def f_divided : MFn := ⟨1, 3, [], b_divided⟩
def d_divided : Df := ⟨top 18, ["number", "more", "found"], ["number"], f_divided⟩
/-- 9 small_parts(number) -/
def b_small_parts : M := (.cons (.par [1, 2] (.cons (.lst .nil) (.cons (.pl (.sl 0)) .nil))) (.cons (.for_ (.tgn 3) (.rg2 (.con (.int 2)) (.glo "PART_END" g_PART_END)) (.cons (.iff (.cmp .gt (.bin .mul (.pl (.sl 3)) (.pl (.sl 3))) (.pl (.sl 2))) (.cons .brk .nil) .nil) (.cons (.iff (.cmp .eq (.bin .mod (.pl (.sl 2)) (.pl (.sl 3))) (.con (.int 0))) (.cons (.app (.sl 1) (.pl (.sl 3))) (.cons (.whl (.cmp .eq (.bin .mod (.pl (.sl 2)) (.pl (.sl 3))) (.con (.int 0))) (.cons (.asg (.tgn 2) (.bin .fdiv (.pl (.sl 2)) (.pl (.sl 3)))) .nil)) .nil)) .nil) .nil))) (.cons (.ret (.tup (.cons (.frv 1) (.cons (.pl (.sl 2)) .nil)))) .nil)))
def f_small_parts : MFn := ⟨1, 4, [], b_small_parts⟩
def d_small_parts : Df := ⟨top 19, ["number", "found", "left", "low"], ["number"], f_small_parts⟩
/-- 10 great_parts(number) -/
def b_great_parts : M := (.cons (.par [1, 2] (.cons (.lst .nil) (.cons (.lst (.cons (.pl (.sl 0)) .nil)) .nil))) (.cons (.for_ (.tgn 3) (.rg1 (.glo "BATCH" g_BATCH)) (.cons (.iff (.cmp .eq (.pl (.sl 2)) (.lst .nil)) (.cons .brk .nil) .nil) (.cons (.asg (.tgn 4) (.pop (.sl 2))) (.cons (.iff (.cmp .eq (.pl (.sl 4)) (.con (.int 1))) (.cons .cnt .nil) .nil) (.cons (.iff (.bor (.cmp .lt (.pl (.sl 4)) (.glo "PART_SURE" g_PART_SURE)) (.bone (.seq (.call 4 (.cons (.pl (.sl 4)) .nil))))) (.cons (.app (.sl 1) (.pl (.sl 4))) (.cons .cnt .nil)) .nil) (.cons (.asg (.tgn 5) (.call 8 (.cons (.pl (.sl 4)) .nil))) (.cons (.iff (.cmp .gt (.pl (.sl 5)) (.con (.int 0))) (.cons (.app (.sl 2) (.pl (.sl 5))) (.cons (.app (.sl 2) (.bin .fdiv (.pl (.sl 4)) (.pl (.sl 5)))) .nil)) .nil) .nil))))))) (.cons (.ret (.mv 1)) .nil)))
def f_great_parts : MFn := ⟨1, 6, [], b_great_parts⟩
def d_great_parts : Df := ⟨top 20, ["number", "found", "todo", "_", "one", "low"], ["number"], f_great_parts⟩
/-- 11 full_part(number, parts) -/
def b_full_part : M := (.cons (.asg (.tgn 2) (.con (.int 1))) (.cons (.for_ (.tgn 3) (.seq (.pl (.sl 1))) (.cons (.whl (.cmp .eq (.bin .mod (.pl (.sl 0)) (.pl (.sl 3))) (.con (.int 0))) (.cons (.par [0, 2] (.cons (.bin .fdiv (.pl (.sl 0)) (.pl (.sl 3))) (.cons (.bin .mul (.pl (.sl 2)) (.pl (.sl 3))) .nil))) .nil)) .nil)) (.cons (.ret (.pl (.sl 2))) .nil)))
def f_full_part : MFn := ⟨2, 4, [], b_full_part⟩
def d_full_part : Df := ⟨top 21, ["number", "parts", "found", "part"], ["number", "parts"], f_full_part⟩
/-- 12 parts_beneath(number) -/
def b_parts_beneath : M := (.cons (.asg (.tgt (.cons (.tgn 1) (.cons (.tgn 2) .nil))) (.call 9 (.cons (.bin .sub (.pl (.sl 0)) (.con (.int 1))) .nil))) (.cons (.asg (.tgn 3) (.bin .add (.pl (.sl 1)) (.ife (.cmp2 .lt .lt (.con (.int 1)) (.pl (.sl 2)) (.glo "PART_SURE" g_PART_SURE)) (.lst (.cons (.pl (.sl 2)) .nil)) (.lst .nil)))) (.cons (.asg (.tgn 4) (.callb2 11 (.bin .sub (.pl (.sl 0)) (.con (.int 1))) 3)) (.cons (.iff (.band (.cmp .le (.bin .mul (.pl (.sl 4)) (.pl (.sl 4))) (.pl (.sl 0))) (.bone (.cmp .ge (.pl (.sl 2)) (.glo "PART_SURE" g_PART_SURE)))) (.cons (.for_ (.tgn 5) (.seq (.call 10 (.cons (.pl (.sl 2)) .nil))) (.cons (.iff (.cmp .notin (.pl (.sl 5)) (.pl (.sl 3))) (.cons (.app (.sl 3) (.pl (.sl 5))) .nil) .nil) .nil)) (.cons (.asg (.tgn 4) (.call 11 (.cons (.bin .sub (.pl (.sl 0)) (.con (.int 1))) (.cons (.frv 3) .nil)))) .nil)) .nil) (.cons (.ret (.ife (.cmp .gt (.bin .mul (.pl (.sl 4)) (.pl (.sl 4))) (.pl (.sl 0))) (.frv 3) (.lst .nil))) .nil)))))
def f_parts_beneath : MFn := ⟨1, 6, [], b_parts_beneath⟩
def d_parts_beneath : Df := ⟨top 22, ["number", "small", "left", "parts", "full", "part"], ["number"], f_parts_beneath⟩
/-- 13 has_witness(number, part) -/
def b_has_witness : M := (.cons (.for_ (.tgn 2) (.rg2 (.con (.int 2)) (.glo "MOST_WITNESS" g_MOST_WITNESS)) (.cons (.asg (.tgn 3) (.call 0 (.cons (.pl (.sl 0)) (.cons (.pl (.sl 2)) (.cons (.bin .fdiv (.bin .sub (.pl (.sl 0)) (.con (.int 1))) (.pl (.sl 1))) .nil))))) (.cons (.iff (.cmp .ne (.pl (.sl 3)) (.con (.int 1))) (.cons (.iff (.cmp .ne (.call 0 (.cons (.pl (.sl 0)) (.cons (.pl (.sl 3)) (.cons (.pl (.sl 1)) .nil)))) (.con (.int 1))) (.cons (.ret (.con (.bl false))) .nil) .nil) (.cons (.iff (.cmp .eq (.call 1 (.cons (.bin .sub (.pl (.sl 3)) (.con (.int 1))) (.cons (.pl (.sl 0)) .nil))) (.con (.int 1))) (.cons (.ret (.con (.bl true))) .nil) .nil) .nil)) .nil) .nil))) (.cons (.ret (.con (.bl false))) .nil))
def f_has_witness : MFn := ⟨2, 4, [], b_has_witness⟩
def d_has_witness : Df := ⟨top 23, ["number", "part", "base", "power"], ["number", "part"], f_has_witness⟩
/-- 14 has_reasons(number) -/
def b_has_reasons : M := (.cons (.asg (.tgn 1) (.lst (.cons (.pl (.sl 0)) .nil))) (.cons (.whl (.cmp .ne (.pl (.sl 1)) (.lst .nil)) (.cons (.asg (.tgn 2) (.pop (.sl 1))) (.cons (.asg (.tgn 3) (.call 12 (.cons (.pl (.sl 2)) .nil))) (.cons (.iff (.cmp .eq (.pl (.sl 3)) (.lst .nil)) (.cons (.ret (.con (.bl false))) .nil) .nil) (.cons (.for_ (.tgn 4) (.seq (.frv 3)) (.cons (.iff (.bnot (.seq (.call 13 (.cons (.pl (.sl 2)) (.cons (.pl (.sl 4)) .nil))))) (.cons (.ret (.con (.bl false))) .nil) .nil) (.cons (.iff (.cmp .ge (.pl (.sl 4)) (.glo "PART_SURE" g_PART_SURE)) (.cons (.app (.sl 1) (.pl (.sl 4))) .nil) .nil) .nil))) .nil))))) (.cons (.ret (.con (.bl true))) .nil)))
def f_has_reasons : MFn := ⟨1, 5, [], b_has_reasons⟩
def d_has_reasons : Df := ⟨top 24, ["number", "todo", "one", "parts", "part"], ["number"], f_has_reasons⟩
/-- 15 no_divisor(number) -/
def b_no_divisor : M := (.cons (.asg (.tgn 1) (.con (.int 3))) (.cons (.whl (.cmp .le (.bin .mul (.pl (.sl 1)) (.pl (.sl 1))) (.pl (.sl 0))) (.cons (.iff (.cmp .eq (.bin .mod (.pl (.sl 0)) (.pl (.sl 1))) (.con (.int 0))) (.cons (.ret (.con (.bl false))) .nil) .nil) (.cons (.aug 1 .add (.con (.int 2))) .nil))) (.cons (.ret (.con (.bl true))) .nil)))
def f_no_divisor : MFn := ⟨1, 2, [], b_no_divisor⟩
def d_no_divisor : Df := ⟨top 25, ["number", "low"], ["number"], f_no_divisor⟩
/-- 16 prime_told(number) -/
def b_prime_told : M := (.cons (.iff (.cmp .lt (.pl (.sl 0)) (.con (.int 4))) (.cons (.ret (.cmp .gt (.pl (.sl 0)) (.con (.int 1)))) .nil) .nil) (.cons (.iff (.cmp .eq (.bin .band (.pl (.sl 0)) (.con (.int 1))) (.con (.int 0))) (.cons (.ret (.con (.bl false))) .nil) .nil) (.cons (.asg (.tgn 1) (.call 2 (.cons (.pl (.sl 0)) .nil))) (.cons (.iff (.isN false (.pl (.sl 1))) (.cons (.ret (.pl (.sl 1))) .nil) .nil) (.cons (.iff (.bnot (.seq (.call 4 (.cons (.pl (.sl 0)) .nil)))) (.cons (.ret (.con (.bl false))) .nil) .nil) (.cons (.ret (.bor (.call 14 (.cons (.pl (.sl 0)) .nil)) (.bone (.call 15 (.cons (.pl (.sl 0)) .nil))))) .nil))))))
def f_prime_told : MFn := ⟨1, 2, [], b_prime_told⟩
def d_prime_told : Df := ⟨top 26, ["number", "answer"], ["number"], f_prime_told⟩
/-- 17 is_prime(number) -/
def b_is_prime : M := (.cons (.ret (.call 16 (.cons (.pl (.sl 0)) .nil))) .nil)
def f_is_prime : MFn := ⟨1, 1, [], b_is_prime⟩
def d_is_prime : Df := ⟨top 28, ["number"], ["number"], f_is_prime⟩
/-- 18 _law_deal(script, salt) -/
def b__law_deal : M := (.cons (.asg (.tgn 2) (.bin .mul (.bin .mul (.bin .mul (.bin .mul (.bin .mul (.bin .pow (.con (.int 10)) (.con (.int 64))) (.bin .pow (.con (.int 10)) (.con (.int 64)))) (.bin .pow (.con (.int 10)) (.con (.int 64)))) (.bin .pow (.con (.int 10)) (.con (.int 64)))) (.bin .pow (.con (.int 10)) (.con (.int 64)))) (.bin .pow (.con (.int 10)) (.con (.int 64))))) (.cons (.asg (.tgn 3) (.lc [5] (.tgn 5) (.seq (.slc (.pl (.sl 0)) .no (.seq (.con (.int 63))))) .nil (.bin .mod (.bi1 .int (.bi1 .abs (.bi1 .int (.pl (.sl 5))))) (.pl (.sl 2))))) (.cons (.asg (.tgn 4) (.bin .add (.con (.int 70001)) (.bin .mul (.con (.int 7919)) (.pl (.sl 1))))) (.cons (.for_ (.tgn 5) (.seq (.frv 3)) (.cons (.asg (.tgn 4) (.bin .mod (.bi1 .int (.bin .add (.bin .add (.bin .mul (.pl (.sl 4)) (.con (.int 69621))) (.bin .mod (.bi1 .int (.pl (.sl 5))) (.con (.int 2147483563)))) (.con (.int 23)))) (.con (.int 2147483647)))) .nil)) (.cons (.ret (.box (.cons (.rvs (.lc [5] (.tgn 5) (.seq (.frv 3)) (.cons (.cmp .ge (.pl (.sl 5)) (.bin .pow (.con (.int 10)) (.con (.int 18)))) .nil) (.pl (.sl 5)))) (.cons (.pl (.sl 4)) .nil)))) .nil)))))
def f__law_deal : MFn := ⟨2, 6, [], b__law_deal⟩
def d__law_deal : Df := ⟨top 30, ["script", "salt", "most", "cells", "mix", "cell"], ["script", "salt"], f__law_deal⟩
/-- 19 _law_any(deal, bound) -/
def b__law_any : M := (.cons (.whl (.band (.cmp .gt (.bi1 .len (.pl (.it (.sl 0) 0))) (.con (.int 0))) (.bone (.cmp .eq (.idx (.pl (.it (.sl 0) 0)) (.neg (.con (.int 1)))) (.con (.int 0))))) (.cons (.exp (.pop (.it (.sl 0) 0))) .nil)) (.cons (.iff (.cmp .gt (.bi1 .len (.pl (.it (.sl 0) 0))) (.con (.int 0))) (.cons (.asg (.tgn 2) (.bi1 .int (.pop (.it (.sl 0) 0)))) (.cons (.app (.it (.sl 0) 0) (.bin .fdiv (.pl (.sl 2)) (.pl (.sl 1)))) (.cons (.ret (.bin .mod (.pl (.sl 2)) (.pl (.sl 1)))) .nil))) .nil) (.cons (.seti (.sl 0) (.con (.int 1)) (.bin .mod (.bi1 .int (.bin .add (.bin .mul (.pl (.it (.sl 0) 1)) (.con (.int 48271))) (.con (.int 31)))) (.con (.int 2147483647)))) (.cons (.ret (.bin .mod (.bi1 .int (.bin .fdiv (.pl (.it (.sl 0) 1)) (.con (.int 64)))) (.pl (.sl 1)))) .nil))))
def f__law_any : MFn := ⟨2, 3, [0], b__law_any⟩
def d__law_any : Df := ⟨top 31, ["deal", "bound", "rest"], ["deal", "bound"], f__law_any⟩
/-- 20 _law_wide(deal, bound) -/
def b__law_wide : M := (.cons (.iff (.cmp .le (.pl (.sl 1)) (.bin .pow (.con (.int 10)) (.con (.int 6)))) (.cons (.ret (.call 19 (.cons (.io 0) (.cons (.pl (.sl 1)) .nil)))) .nil) .nil) (.cons (.asg (.tgn 2) (.con (.int 0))) (.cons (.for_ (.tgn 3) (.rg1 (.con (.int 4))) (.cons (.asg (.tgn 2) (.bin .add (.bin .mul (.pl (.sl 2)) (.con (.int 1048573))) (.call 19 (.cons (.io 0) (.cons (.con (.int 1048573)) .nil))))) .nil)) (.cons (.ret (.bin .mod (.bi1 .int (.pl (.sl 2))) (.pl (.sl 1)))) .nil))))
def f__law_wide : MFn := ⟨2, 4, [0], b__law_wide⟩
def d__law_wide : Df := ⟨top 32, ["deal", "bound", "many", "turn"], ["deal", "bound"], f__law_wide⟩
/-- 21 _law_of(deal, some) -/
def b__law_of : M := (.cons (.ret (.idx (.pl (.sl 1)) (.call 19 (.cons (.io 0) (.cons (.bi1 .len (.pl (.sl 1))) .nil))))) .nil)
def f__law_of : MFn := ⟨2, 2, [0], b__law_of⟩
def d__law_of : Df := ⟨top 33, ["deal", "some"], ["deal", "some"], f__law_of⟩
/-- 22 _law_is_kind(told, due) -/
def b__law_is_kind : M := (.cons (.iff (.isN true (.pl (.sl 1))) (.cons (.ret (.isN true (.pl (.sl 0)))) .nil) .nil) (.cons (.iff (.bor (.isB true true (.pl (.sl 1))) (.bone (.isB true false (.pl (.sl 1))))) (.cons (.ret (.ife (.seq (.pl (.sl 1))) (.isB true true (.pl (.sl 0))) (.isB true false (.pl (.sl 0))))) .nil) .nil) (.cons (.iff (.seq (.isi (.pl (.sl 1)) true ["str"])) (.cons (.ret (.band (.isi (.pl (.sl 0)) true ["str"]) (.bone (.cmp .eq (.pl (.sl 0)) (.pl (.sl 1)))))) .nil) .nil) (.cons (.ret (.band (.isi (.pl (.sl 0)) true ["int"]) (.band (.bnot (.isi (.pl (.sl 0)) true ["bool"])) (.bone (.cmp .eq (.pl (.sl 0)) (.pl (.sl 1))))))) .nil))))
def f__law_is_kind : MFn := ⟨2, 2, [], b__law_is_kind⟩
def d__law_is_kind : Df := ⟨top 34, ["told", "due"], ["told", "due"], f__law_is_kind⟩
/-- 23 _law_same(told, due) -/
def b__law_same : M := (.cons (.asg (.tgn 2) (.lst (.cons (.tup (.cons (.pl (.sl 0)) (.cons (.pl (.sl 1)) .nil))) .nil))) (.cons (.whl (.cmp .gt (.bi1 .len (.pl (.sl 2))) (.con (.int 0))) (.cons (.asg (.tgt (.cons (.tgn 3) (.cons (.tgn 4) .nil))) (.pop (.sl 2))) (.cons (.iff (.seq (.isi (.pl (.sl 4)) true ["tuple"])) (.cons (.iff (.bor (.bnot (.seq (.isi (.pl (.sl 3)) true ["tuple"]))) (.bone (.cmp .ne (.bi1 .len (.pl (.sl 3))) (.bi1 .len (.pl (.sl 4)))))) (.cons (.ret (.con (.bl false))) .nil) .nil) (.cons (.for_ (.tgn 5) (.rg1 (.bi1 .len (.pl (.sl 4)))) (.cons (.app (.sl 2) (.tup (.cons (.idx (.pl (.sl 3)) (.pl (.sl 5))) (.cons (.idx (.pl (.sl 4)) (.pl (.sl 5))) .nil)))) .nil)) .nil)) (.cons (.iff (.bor (.seq (.isi (.pl (.sl 3)) false ["tuple", "list", "dict"])) (.bone (.bnot (.seq (.call 22 (.cons (.pl (.sl 3)) (.cons (.pl (.sl 4)) .nil))))))) (.cons (.ret (.con (.bl false))) .nil) .nil) .nil)) .nil))) (.cons (.ret (.con (.bl true))) .nil)))
def f__law_same : MFn := ⟨2, 6, [], b__law_same⟩
def d__law_same : Df := ⟨top 35, ["told", "due", "todo", "one", "other", "at"], ["told", "due"], f__law_same⟩
/-- 24 _law_all(pairs) -/
def b__law_all : M := (.cons (.ret (.cmp .eq (.bi1 .len (.lc [1, 2] (.tgt (.cons (.tgn 1) (.cons (.tgn 2) .nil))) (.seq (.pl (.sl 0))) (.cons (.bnot (.seq (.call 23 (.cons (.pl (.sl 1)) (.cons (.pl (.sl 2)) .nil))))) .nil) (.pl (.sl 1)))) (.con (.int 0)))) .nil)
def f__law_all : MFn := ⟨1, 3, [], b__law_all⟩
def d__law_all : Df := ⟨top 36, ["pairs", "told", "due"], ["pairs"], f__law_all⟩
/-- 25 _law_power(p, one, often) -/
def b__law_power : M := (.cons (.par [3, 4, 5] (.cons (.con (.int 1)) (.cons (.bin .mod (.bi1 .int (.pl (.sl 1))) (.pl (.sl 0))) (.cons (.bi1 .int (.pl (.sl 2))) .nil)))) (.cons (.whl (.cmp .gt (.pl (.sl 5)) (.con (.int 0))) (.cons (.iff (.cmp .eq (.bin .mod (.pl (.sl 5)) (.con (.int 2))) (.con (.int 1))) (.cons (.asg (.tgn 3) (.bin .mod (.bi1 .int (.bin .mul (.pl (.sl 3)) (.pl (.sl 4)))) (.pl (.sl 0)))) .nil) .nil) (.cons (.asg (.tgn 4) (.bin .mod (.bi1 .int (.bin .mul (.pl (.sl 4)) (.pl (.sl 4)))) (.pl (.sl 0)))) (.cons (.asg (.tgn 5) (.bin .fdiv (.pl (.sl 5)) (.con (.int 2)))) .nil)))) (.cons (.ret (.bin .mod (.bi1 .int (.pl (.sl 3))) (.pl (.sl 0)))) .nil)))
def f__law_power : MFn := ⟨3, 6, [], b__law_power⟩
def d__law_power : Df := ⟨top 37, ["p", "one", "often", "found", "square", "left"], ["p", "one", "often"], f__law_power⟩
/-- 26 _law_gcd(one, other) -/
def b__law_gcd : M := (.cons (.whl (.cmp .ne (.pl (.sl 1)) (.con (.int 0))) (.cons (.par [0, 1] (.cons (.pl (.sl 1)) (.cons (.bin .mod (.bi1 .int (.pl (.sl 0))) (.pl (.sl 1))) .nil))) .nil)) (.cons (.ret (.pl (.sl 0))) .nil))
def f__law_gcd : MFn := ⟨2, 2, [], b__law_gcd⟩
def d__law_gcd : Df := ⟨top 38, ["one", "other"], ["one", "other"], f__law_gcd⟩
/-- 27 _law_no_divisor(number) -/
def b__law_no_divisor : M := (.cons (.asg (.tgn 1) (.con (.int 2))) (.cons (.whl (.cmp .le (.bin .mul (.pl (.sl 1)) (.pl (.sl 1))) (.pl (.sl 0))) (.cons (.iff (.cmp .eq (.bin .mod (.bi1 .int (.pl (.sl 0))) (.pl (.sl 1))) (.con (.int 0))) (.cons (.ret (.con (.bl false))) .nil) .nil) (.cons (.asg (.tgn 1) (.bin .add (.pl (.sl 1)) (.con (.int 1)))) .nil))) (.cons (.ret (.cmp .gt (.pl (.sl 0)) (.con (.int 1)))) .nil)))
def f__law_no_divisor : MFn := ⟨1, 2, [], b__law_no_divisor⟩
def d__law_no_divisor : Df := ⟨top 39, ["number", "low"], ["number"], f__law_no_divisor⟩
/-- 28 _law_first(deal) -/
def b__law_first : M := (.cons (.asg (.tgn 1) (.bin .add (.con (.int 100)) (.call 19 (.cons (.io 0) (.cons (.con (.int 900)) .nil))))) (.cons (.for_ (.tgn 2) (.rg1 (.con (.int 30))) (.cons (.iff (.seq (.call 27 (.cons (.pl (.sl 1)) .nil))) (.cons (.ret (.pl (.sl 1))) .nil) .nil) (.cons (.asg (.tgn 1) (.bin .add (.pl (.sl 1)) (.con (.int 1)))) .nil))) (.cons (.ret (.con (.int 101))) .nil)))
def f__law_first : MFn := ⟨1, 3, [0], b__law_first⟩
def d__law_first : Df := ⟨top 40, ["deal", "number", "step"], ["deal"], f__law_first⟩
/-- 29 _law_rung(deal, prime, most, wide) -/
def b__law_rung : M := (.cons (.par [4, 5] (.cons (.call 21 (.cons (.io 0) (.cons (.lst (.cons (.con (.int 2)) (.cons (.con (.int 3)) (.cons (.con (.int 5)) .nil)))) .nil))) (.cons (.lst .nil) .nil))) (.cons (.asg (.tgn 6) (.bi2 .max2 (.con (.int 1)) (.bi2 .min2 (.bin .fdiv (.pl (.sl 1)) (.con (.int 2))) (.bin .fdiv (.bin .sub (.pl (.sl 2)) (.con (.int 1))) (.bin .mul (.con (.int 2)) (.pl (.sl 1))))))) (.cons (.asg (.tgn 7) (.call 20 (.cons (.io 0) (.cons (.bi2 .max2 (.con (.int 1)) (.bi2 .min2 (.pl (.sl 6)) (.call 21 (.cons (.io 0) (.cons (.lst (.cons (.con (.int 1000)) (.cons (.bin .pow (.con (.int 10)) (.con (.int 6))) (.cons (.ife (.seq (.pl (.sl 3))) (.bin .pow (.con (.int 10)) (.con (.int 18))) (.bin .pow (.con (.int 10)) (.con (.int 5)))) .nil)))) .nil))))) .nil)))) (.cons (.for_ (.tgn 8) (.rg1 (.con (.int 240))) (.cons (.asg (.tgn 9) (.bin .add (.con (.int 1)) (.bin .mod (.bi1 .int (.bin .add (.pl (.sl 7)) (.pl (.sl 8)))) (.pl (.sl 6))))) (.cons (.asg (.tgn 10) (.bin .add (.bin .mul (.bin .mul (.con (.int 2)) (.pl (.sl 9))) (.pl (.sl 1))) (.con (.int 1)))) (.cons (.iff (.cmp .gt (.pl (.sl 10)) (.pl (.sl 2))) (.cons (.ret (.tup (.cons (.pl (.sl 1)) (.cons (.frv 5) .nil)))) .nil) .nil) (.cons (.iff (.cmp .ne (.call 25 (.cons (.pl (.sl 10)) (.cons (.pl (.sl 4)) (.cons (.bin .sub (.pl (.sl 10)) (.con (.int 1))) .nil)))) (.con (.int 1))) (.cons (.asg (.tgn 5) (.bin .add (.pl (.sl 5)) (.ife (.cmp .lt (.bi1 .len (.pl (.sl 5))) (.con (.int 5))) (.lst (.cons (.pl (.sl 10)) .nil)) (.lst .nil)))) .nil) (.cons (.iff (.cmp .eq (.call 26 (.cons (.bin .sub (.call 25 (.cons (.pl (.sl 10)) (.cons (.pl (.sl 4)) (.cons (.bin .mul (.con (.int 2)) (.pl (.sl 9))) .nil)))) (.con (.int 1))) (.cons (.pl (.sl 10)) .nil))) (.con (.int 1))) (.cons (.ret (.tup (.cons (.pl (.sl 10)) (.cons (.frv 5) .nil)))) .nil) .nil) .nil)) .nil))))) (.cons (.ret (.tup (.cons (.pl (.sl 1)) (.cons (.frv 5) .nil)))) .nil)))))
def f__law_rung : MFn := ⟨4, 11, [0], b__law_rung⟩
def d__law_rung : Df := ⟨top 41, ["deal", "prime", "most", "wide", "base", "wrong", "room", "begin", "step", "half", "number"], ["deal", "prime", "most", "wide"], f__law_rung⟩
/-- 30 _law_products(deal, primes) -/
def b__law_products : M := (.cons (.par [2, 3] (.cons (.bin .pow (.con (.int 2)) (.con (.int 61))) (.cons (.lst (.cons (.con (.int 2047)) (.cons (.con (.int 1373653)) (.cons (.con (.int 25326001)) (.cons (.bin .mul (.bin .mul (.con (.int 151)) (.con (.int 751))) (.con (.int 28351))) (.cons (.bin .mul (.bin .mul (.con (.int 6763)) (.con (.int 10627))) (.con (.int 29947))) (.cons (.bin .mul (.bin .mul (.con (.int 1303)) (.con (.int 16927))) (.con (.int 157543))) (.cons (.bin .mul (.con (.int 10670053)) (.con (.int 32010157))) .nil)))))))) .nil))) (.cons (.for_ (.tgn 4) (.rg1 (.con (.int 6))) (.cons (.par [5, 6] (.cons (.call 21 (.cons (.io 0) (.cons (.pl (.sl 1)) .nil))) (.cons (.call 21 (.cons (.io 0) (.cons (.pl (.sl 1)) .nil))) .nil))) (.cons (.iff (.cmp .lt (.bin .mul (.pl (.sl 5)) (.pl (.sl 6))) (.pl (.sl 2))) (.cons (.app (.sl 3) (.bin .mul (.pl (.sl 5)) (.pl (.sl 6)))) .nil) .nil) (.cons (.iff (.cmp .lt (.bin .mul (.pl (.sl 5)) (.pl (.sl 5))) (.pl (.sl 2))) (.cons (.app (.sl 3) (.bin .mul (.pl (.sl 5)) (.pl (.sl 5)))) .nil) .nil) (.cons (.asg (.tgn 7) (.bin .add (.con (.int 2)) (.call 19 (.cons (.io 0) (.cons (.con (.int 900)) .nil))))) (.cons (.iff (.cmp .lt (.bin .mul (.pl (.sl 7)) (.pl (.sl 6))) (.pl (.sl 2))) (.cons (.app (.sl 3) (.bin .mul (.pl (.sl 7)) (.pl (.sl 6)))) .nil) .nil) (.cons (.asg (.tgn 8) (.bin .add (.con (.int 1)) (.call 19 (.cons (.io 0) (.cons (.con (.int 118000)) .nil))))) (.cons (.app (.sl 3) (.bin .mul (.bin .mul (.bin .add (.bin .mul (.con (.int 6)) (.pl (.sl 8))) (.con (.int 1))) (.bin .add (.bin .mul (.con (.int 12)) (.pl (.sl 8))) (.con (.int 1)))) (.bin .add (.bin .mul (.con (.int 18)) (.pl (.sl 8))) (.con (.int 1))))) .nil)))))))) (.cons (.ret (.lc [9] (.tgn 9) (.seq (.frv 3)) (.cons (.cmp .lt (.pl (.sl 9)) (.pl (.sl 2))) .nil) (.pl (.sl 9)))) .nil)))
def f__law_products : MFn := ⟨2, 10, [0], b__law_products⟩
def d__law_products : Df := ⟨top 42, ["deal", "primes", "most", "found", "turn", "one", "other", "low", "part", "number"], ["deal", "primes"], f__law_products⟩
/-- 31 law(script) -/
def b_law : M := (.cons (.asg (.tgn 1) (.call 18 (.cons (.pl (.sl 0)) (.cons (.con (.int 2)) .nil)))) (.cons (.par [2, 3, 4] (.cons (.lst .nil) (.cons (.bin .sub (.bin .pow (.con (.int 2)) (.con (.int 61))) (.con (.int 1))) (.cons (.lst (.cons (.con (.int 101)) (.cons (.con (.int 65537)) (.cons (.con (.int 2147483647)) .nil)))) .nil)))) (.cons (.for_ (.tgn 5) (.rg1 (.con (.int 2))) (.cons (.asg (.tgn 9) (.call 28 (.cons (.io 1) .nil))) (.cons (.app (.sl 2) (.tup (.cons (.call 17 (.cons (.pl (.sl 9)) .nil)) (.cons (.con (.bl true)) .nil)))) (.cons (.for_ (.tgn 10) (.rg1 (.con (.int 4))) (.cons (.asg (.tgt (.cons (.tgn 9) (.cons (.tgn 11) .nil))) (.call 29 (.cons (.io 1) (.cons (.pl (.sl 9)) (.cons (.pl (.sl 3)) (.cons (.cmp .eq (.pl (.sl 5)) (.con (.int 0))) .nil)))))) (.cons (.app (.sl 4) (.pl (.sl 9))) (.cons (.asg (.tgn 2) (.bin .add (.fzE (.bin .add (.frv 2) (.lst (.cons (.tup (.cons (.call 17 (.cons (.pl (.sl 9)) .nil)) (.cons (.con (.bl true)) .nil))) .nil)))) (.lc [7] (.tgn 7) (.seq (.pl (.sl 11))) .nil (.tup (.cons (.call 17 (.cons (.pl (.sl 7)) .nil)) (.cons (.con (.bl false)) .nil)))))) .nil)))) .nil)))) (.cons (.asg (.tgn 2) (.bin .add (.frv 2) (.lc [7] (.tgn 7) (.seq (.call 30 (.cons (.io 1) (.cons (.frv 4) .nil)))) .nil (.tup (.cons (.call 17 (.cons (.pl (.sl 7)) .nil)) (.cons (.con (.bl false)) .nil)))))) (.cons (.asg (.tgn 6) (.call 21 (.cons (.io 1) (.cons (.lst (.cons (.con (.int 0)) (.cons (.con (.int 0)) (.cons (.call 19 (.cons (.io 1) (.cons (.con (.int 3000)) .nil))) (.cons (.bin .add (.con (.int 65400)) (.call 19 (.cons (.io 1) (.cons (.con (.int 700)) .nil)))) (.cons (.bin .add (.con (.int 1962700)) (.call 19 (.cons (.io 1) (.cons (.con (.int 200)) .nil)))) .nil)))))) .nil)))) (.cons (.for_ (.tgn 7) (.rg2 (.pl (.sl 6)) (.bin .add (.pl (.sl 6)) (.con (.int 40)))) (.cons (.app (.sl 2) (.tup (.cons (.call 17 (.cons (.pl (.sl 7)) .nil)) (.cons (.call 27 (.cons (.pl (.sl 7)) .nil)) .nil)))) .nil)) (.cons (.asg (.tgn 8) (.call 21 (.cons (.io 1) (.cons (.lst (.cons (.con (.int 2305843009213693951)) (.cons (.con (.int 2305843009213693921)) (.cons (.con (.int 4294967291)) (.cons (.con (.int 1000000000039)) (.cons (.con (.int 1000000007)) .nil)))))) .nil)))) (.cons (.ret (.call 24 (.cons (.bin .add (.frv 2) (.lst (.cons (.tup (.cons (.callk 17 [0] (.cons (.pl (.sl 8)) .nil)) (.cons (.con (.bl true)) .nil))) (.cons (.tup (.cons (.call 17 (.cons (.con (.int 2)) .nil)) (.cons (.con (.bl true)) .nil))) (.cons (.tup (.cons (.call 17 (.cons (.con (.int 1)) .nil)) (.cons (.con (.bl false)) .nil))) (.cons (.tup (.cons (.call 17 (.cons (.con (.int 0)) .nil)) (.cons (.con (.bl false)) .nil))) (.cons (.tup (.cons (.call 17 (.cons (.bin .sub (.pl (.sl 8)) (.con (.int 1))) .nil)) (.cons (.con (.bl false)) .nil))) .nil))))))) .nil))) .nil))))))))
def f_law : MFn := ⟨1, 12, [], b_law⟩
def d_law : Df := ⟨top 43, ["script", "deal", "pairs", "most", "primes", "ladder", "begin", "number", "known", "prime", "step", "wrong"], ["script"], f_law⟩
def ds : List Df := [d_power_modulo, d_common_divisor, d_small_answer, d_passes, d_passes_all, d_walked, d_met_singly, d_met_from, d_divided, d_small_parts, d_great_parts, d_full_part, d_parts_beneath, d_has_witness, d_has_reasons, d_no_divisor, d_prime_told, d_is_prime, d__law_deal, d__law_any, d__law_wide, d__law_of, d__law_is_kind, d__law_same, d__law_all, d__law_power, d__law_gcd, d__law_no_divisor, d__law_first, d__law_rung, d__law_products, d_law]
def gl : List (Str × D) := [("BASES", g_BASES), ("BATCH", g_BATCH), ("MOST_BATCHES", g_MOST_BATCHES), ("MOST_STARTS", g_MOST_STARTS), ("MOST_WITNESS", g_MOST_WITNESS), ("PART_END", g_PART_END), ("PART_SURE", g_PART_SURE), ("SMALL_END", g_SMALL_END), ("SMALL_SURE", g_SMALL_SURE)]
def kb : List (Nat × List Str × List Nat) := [(17, ["number"], [0])]
def ks : List Kd := []
theorem okc : ∀ k ∈ ks, k.ok := by
  intro k hk
  simp only [ks, List.mem_cons, List.not_mem_nil, or_false] at hk
def tx : Tx := txOf ds gl kb ks
theorem k_power_modulo : chkF tx d_power_modulo.N d_power_modulo.ps (defScope d_power_modulo.st) (defBody d_power_modulo.st) f_power_modulo = true := by kernel_rfl
theorem n_power_modulo : BindS d_power_modulo.st d_power_modulo.ps := fun _ _ _ _ _ _ us hl => match us, hl with | [_, _, _], _ => rfl
theorem k_common_divisor : chkF tx d_common_divisor.N d_common_divisor.ps (defScope d_common_divisor.st) (defBody d_common_divisor.st) f_common_divisor = true := by kernel_rfl
theorem n_common_divisor : BindS d_common_divisor.st d_common_divisor.ps := fun _ _ _ _ _ _ us hl => match us, hl with | [_, _], _ => rfl
theorem k_small_answer : chkF tx d_small_answer.N d_small_answer.ps (defScope d_small_answer.st) (defBody d_small_answer.st) f_small_answer = true := by kernel_rfl
theorem n_small_answer : BindS d_small_answer.st d_small_answer.ps := fun _ _ _ _ _ _ us hl => match us, hl with | [_], _ => rfl
theorem k_passes : chkF tx d_passes.N d_passes.ps (defScope d_passes.st) (defBody d_passes.st) f_passes = true := by kernel_rfl
theorem n_passes : BindS d_passes.st d_passes.ps := fun _ _ _ _ _ _ us hl => match us, hl with | [_, _], _ => rfl
theorem k_passes_all : chkF tx d_passes_all.N d_passes_all.ps (defScope d_passes_all.st) (defBody d_passes_all.st) f_passes_all = true := by kernel_rfl
theorem n_passes_all : BindS d_passes_all.st d_passes_all.ps := fun _ _ _ _ _ _ us hl => match us, hl with | [_], _ => rfl
theorem k_walked : chkF tx d_walked.N d_walked.ps (defScope d_walked.st) (defBody d_walked.st) f_walked = true := by kernel_rfl
theorem n_walked : BindS d_walked.st d_walked.ps := fun _ _ _ _ _ _ us hl => match us, hl with | [_, _, _], _ => rfl
theorem k_met_singly : chkF tx d_met_singly.N d_met_singly.ps (defScope d_met_singly.st) (defBody d_met_singly.st) f_met_singly = true := by kernel_rfl
theorem n_met_singly : BindS d_met_singly.st d_met_singly.ps := fun _ _ _ _ _ _ us hl => match us, hl with | [_, _, _, _], _ => rfl
theorem k_met_from : chkF tx d_met_from.N d_met_from.ps (defScope d_met_from.st) (defBody d_met_from.st) f_met_from = true := by kernel_rfl
theorem n_met_from : BindS d_met_from.st d_met_from.ps := fun _ _ _ _ _ _ us hl => match us, hl with | [_, _], _ => rfl
theorem k_divided : chkF tx d_divided.N d_divided.ps (defScope d_divided.st) (defBody d_divided.st) f_divided = true := by kernel_rfl
theorem n_divided : BindS d_divided.st d_divided.ps := fun _ _ _ _ _ _ us hl => match us, hl with | [_], _ => rfl
theorem k_small_parts : chkF tx d_small_parts.N d_small_parts.ps (defScope d_small_parts.st) (defBody d_small_parts.st) f_small_parts = true := by kernel_rfl
theorem n_small_parts : BindS d_small_parts.st d_small_parts.ps := fun _ _ _ _ _ _ us hl => match us, hl with | [_], _ => rfl
theorem k_great_parts : chkF tx d_great_parts.N d_great_parts.ps (defScope d_great_parts.st) (defBody d_great_parts.st) f_great_parts = true := by kernel_rfl
theorem n_great_parts : BindS d_great_parts.st d_great_parts.ps := fun _ _ _ _ _ _ us hl => match us, hl with | [_], _ => rfl
theorem k_full_part : chkF tx d_full_part.N d_full_part.ps (defScope d_full_part.st) (defBody d_full_part.st) f_full_part = true := by kernel_rfl
theorem n_full_part : BindS d_full_part.st d_full_part.ps := fun _ _ _ _ _ _ us hl => match us, hl with | [_, _], _ => rfl
theorem k_parts_beneath : chkF tx d_parts_beneath.N d_parts_beneath.ps (defScope d_parts_beneath.st) (defBody d_parts_beneath.st) f_parts_beneath = true := by kernel_rfl
theorem n_parts_beneath : BindS d_parts_beneath.st d_parts_beneath.ps := fun _ _ _ _ _ _ us hl => match us, hl with | [_], _ => rfl
theorem k_has_witness : chkF tx d_has_witness.N d_has_witness.ps (defScope d_has_witness.st) (defBody d_has_witness.st) f_has_witness = true := by kernel_rfl
theorem n_has_witness : BindS d_has_witness.st d_has_witness.ps := fun _ _ _ _ _ _ us hl => match us, hl with | [_, _], _ => rfl
theorem k_has_reasons : chkF tx d_has_reasons.N d_has_reasons.ps (defScope d_has_reasons.st) (defBody d_has_reasons.st) f_has_reasons = true := by kernel_rfl
theorem n_has_reasons : BindS d_has_reasons.st d_has_reasons.ps := fun _ _ _ _ _ _ us hl => match us, hl with | [_], _ => rfl
theorem k_no_divisor : chkF tx d_no_divisor.N d_no_divisor.ps (defScope d_no_divisor.st) (defBody d_no_divisor.st) f_no_divisor = true := by kernel_rfl
theorem n_no_divisor : BindS d_no_divisor.st d_no_divisor.ps := fun _ _ _ _ _ _ us hl => match us, hl with | [_], _ => rfl
theorem k_prime_told : chkF tx d_prime_told.N d_prime_told.ps (defScope d_prime_told.st) (defBody d_prime_told.st) f_prime_told = true := by kernel_rfl
theorem n_prime_told : BindS d_prime_told.st d_prime_told.ps := fun _ _ _ _ _ _ us hl => match us, hl with | [_], _ => rfl
theorem k_is_prime : chkF tx d_is_prime.N d_is_prime.ps (defScope d_is_prime.st) (defBody d_is_prime.st) f_is_prime = true := by kernel_rfl
theorem n_is_prime : BindS d_is_prime.st d_is_prime.ps := fun _ _ _ _ _ _ us hl => match us, hl with | [_], _ => rfl
theorem k__law_deal : chkF tx d__law_deal.N d__law_deal.ps (defScope d__law_deal.st) (defBody d__law_deal.st) f__law_deal = true := by kernel_rfl
theorem n__law_deal : BindS d__law_deal.st d__law_deal.ps := fun _ _ _ _ _ _ us hl => match us, hl with | [_, _], _ => rfl
theorem k__law_any : chkF tx d__law_any.N d__law_any.ps (defScope d__law_any.st) (defBody d__law_any.st) f__law_any = true := by kernel_rfl
theorem n__law_any : BindS d__law_any.st d__law_any.ps := fun _ _ _ _ _ _ us hl => match us, hl with | [_, _], _ => rfl
theorem k__law_wide : chkF tx d__law_wide.N d__law_wide.ps (defScope d__law_wide.st) (defBody d__law_wide.st) f__law_wide = true := by kernel_rfl
theorem n__law_wide : BindS d__law_wide.st d__law_wide.ps := fun _ _ _ _ _ _ us hl => match us, hl with | [_, _], _ => rfl
theorem k__law_of : chkF tx d__law_of.N d__law_of.ps (defScope d__law_of.st) (defBody d__law_of.st) f__law_of = true := by kernel_rfl
theorem n__law_of : BindS d__law_of.st d__law_of.ps := fun _ _ _ _ _ _ us hl => match us, hl with | [_, _], _ => rfl
theorem k__law_is_kind : chkF tx d__law_is_kind.N d__law_is_kind.ps (defScope d__law_is_kind.st) (defBody d__law_is_kind.st) f__law_is_kind = true := by kernel_rfl
theorem n__law_is_kind : BindS d__law_is_kind.st d__law_is_kind.ps := fun _ _ _ _ _ _ us hl => match us, hl with | [_, _], _ => rfl
theorem k__law_same : chkF tx d__law_same.N d__law_same.ps (defScope d__law_same.st) (defBody d__law_same.st) f__law_same = true := by kernel_rfl
theorem n__law_same : BindS d__law_same.st d__law_same.ps := fun _ _ _ _ _ _ us hl => match us, hl with | [_, _], _ => rfl
theorem k__law_all : chkF tx d__law_all.N d__law_all.ps (defScope d__law_all.st) (defBody d__law_all.st) f__law_all = true := by kernel_rfl
theorem n__law_all : BindS d__law_all.st d__law_all.ps := fun _ _ _ _ _ _ us hl => match us, hl with | [_], _ => rfl
theorem k__law_power : chkF tx d__law_power.N d__law_power.ps (defScope d__law_power.st) (defBody d__law_power.st) f__law_power = true := by kernel_rfl
theorem n__law_power : BindS d__law_power.st d__law_power.ps := fun _ _ _ _ _ _ us hl => match us, hl with | [_, _, _], _ => rfl
theorem k__law_gcd : chkF tx d__law_gcd.N d__law_gcd.ps (defScope d__law_gcd.st) (defBody d__law_gcd.st) f__law_gcd = true := by kernel_rfl
theorem n__law_gcd : BindS d__law_gcd.st d__law_gcd.ps := fun _ _ _ _ _ _ us hl => match us, hl with | [_, _], _ => rfl
theorem k__law_no_divisor : chkF tx d__law_no_divisor.N d__law_no_divisor.ps (defScope d__law_no_divisor.st) (defBody d__law_no_divisor.st) f__law_no_divisor = true := by kernel_rfl
theorem n__law_no_divisor : BindS d__law_no_divisor.st d__law_no_divisor.ps := fun _ _ _ _ _ _ us hl => match us, hl with | [_], _ => rfl
theorem k__law_first : chkF tx d__law_first.N d__law_first.ps (defScope d__law_first.st) (defBody d__law_first.st) f__law_first = true := by kernel_rfl
theorem n__law_first : BindS d__law_first.st d__law_first.ps := fun _ _ _ _ _ _ us hl => match us, hl with | [_], _ => rfl
theorem k__law_rung : chkF tx d__law_rung.N d__law_rung.ps (defScope d__law_rung.st) (defBody d__law_rung.st) f__law_rung = true := by kernel_rfl
theorem n__law_rung : BindS d__law_rung.st d__law_rung.ps := fun _ _ _ _ _ _ us hl => match us, hl with | [_, _, _, _], _ => rfl
theorem k__law_products : chkF tx d__law_products.N d__law_products.ps (defScope d__law_products.st) (defBody d__law_products.st) f__law_products = true := by kernel_rfl
theorem n__law_products : BindS d__law_products.st d__law_products.ps := fun _ _ _ _ _ _ us hl => match us, hl with | [_, _], _ => rfl
theorem k_law : chkF tx d_law.N d_law.ps (defScope d_law.st) (defBody d_law.st) f_law = true := by kernel_rfl
theorem n_law : BindS d_law.st d_law.ps := fun _ _ _ _ _ _ us hl => match us, hl with | [_], _ => rfl
theorem q_0 : BindK d_is_prime.st d_is_prime.ps ["number"] [0] := fun _ _ _ _ _ _ us hl => match us, hl with | [_], _ => rfl
theorem oks : ∀ d ∈ ds, d.ok tx := by
  intro d hd
  simp only [ds, List.mem_cons, List.not_mem_nil, or_false] at hd
  rcases hd with rfl | rfl | rfl | rfl | rfl | rfl | rfl | rfl | rfl | rfl | rfl | rfl | rfl | rfl | rfl | rfl | rfl | rfl | rfl | rfl | rfl | rfl | rfl | rfl | rfl | rfl | rfl | rfl | rfl | rfl | rfl | rfl
  · exact ⟨k_power_modulo, n_power_modulo⟩
  · exact ⟨k_common_divisor, n_common_divisor⟩
  · exact ⟨k_small_answer, n_small_answer⟩
  · exact ⟨k_passes, n_passes⟩
  · exact ⟨k_passes_all, n_passes_all⟩
  · exact ⟨k_walked, n_walked⟩
  · exact ⟨k_met_singly, n_met_singly⟩
  · exact ⟨k_met_from, n_met_from⟩
  · exact ⟨k_divided, n_divided⟩
  · exact ⟨k_small_parts, n_small_parts⟩
  · exact ⟨k_great_parts, n_great_parts⟩
  · exact ⟨k_full_part, n_full_part⟩
  · exact ⟨k_parts_beneath, n_parts_beneath⟩
  · exact ⟨k_has_witness, n_has_witness⟩
  · exact ⟨k_has_reasons, n_has_reasons⟩
  · exact ⟨k_no_divisor, n_no_divisor⟩
  · exact ⟨k_prime_told, n_prime_told⟩
  · exact ⟨k_is_prime, n_is_prime⟩
  · exact ⟨k__law_deal, n__law_deal⟩
  · exact ⟨k__law_any, n__law_any⟩
  · exact ⟨k__law_wide, n__law_wide⟩
  · exact ⟨k__law_of, n__law_of⟩
  · exact ⟨k__law_is_kind, n__law_is_kind⟩
  · exact ⟨k__law_same, n__law_same⟩
  · exact ⟨k__law_all, n__law_all⟩
  · exact ⟨k__law_power, n__law_power⟩
  · exact ⟨k__law_gcd, n__law_gcd⟩
  · exact ⟨k__law_no_divisor, n__law_no_divisor⟩
  · exact ⟨k__law_first, n__law_first⟩
  · exact ⟨k__law_rung, n__law_rung⟩
  · exact ⟨k__law_products, n__law_products⟩
  · exact ⟨k_law, n_law⟩
theorem okks : ∀ q ∈ kb, ∃ d, ds[q.1]? = some d ∧ BindK d.st d.ps q.2.1 q.2.2 := by
  intro q hq
  simp only [kb, List.mem_cons, List.not_mem_nil, or_false] at hq
  rcases hq with rfl
  · exact ⟨d_is_prime, rfl, q_0⟩
def T : List MFn := ds.map (·.fn)
def loose : List Str := (["BASES", "SMALL_END", "SMALL_SURE", "PART_END", "PART_SURE", "MOST_WITNESS", "MOST_STARTS", "MOST_BATCHES", "BATCH", "power_modulo", "common_divisor", "small_answer", "passes", "passes_all", "walked", "met_singly", "met_from", "divided", "small_parts", "great_parts"] : List Str) ++ (["full_part", "parts_beneath", "has_witness", "has_reasons", "no_divisor", "prime_told", "is_prime", "_law_deal", "_law_any", "_law_wide", "_law_of", "_law_is_kind", "_law_same", "_law_all", "_law_power", "_law_gcd", "_law_no_divisor", "_law_first", "_law_rung", "_law_products"] : List Str)
def lawIx : Nat := 31
def lawTop : Nat := 43
end L2.PV.K02
set_option Elab.async false
set_option linter.all false
set_option autoImplicit false
set_option maxRecDepth 100000
set_option maxHeartbeats 0
namespace L2.PV.K02
open PySem PySem.Spec PyProof.Rows
open NT (Pr)
theorem c_any (k : Nat) : AnyD T (k + 1) 19 := g_anyD2 rfl k
theorem c_wide (k : Nat) : WideD T (k + 2) 20 := g_wide (j := 19) rfl (k + 1) (c_any k)
theorem c_of (k : Nat) (x : Dl) {xs : List D} (hx : xs ≠ []) (hl : xs.length < 16777217) : callM T (k + 2) 21 [x.d, .lst xs] = some (.ok (pk x xs) [(nx x (xs.length : Int)).d, .lst xs]) := g_ofD (j := 19) rfl (k + 1) (c_any k) x rfl rfl (fun _ => rfl) hx hl
theorem c_same (k : Nat) {d : D} (h : Pln d) (hz : szD d ≤ 1000000) : callM T (k + 2) 23 [d, d] = some (.ok (.bl true) [d, d]) := g_same2 (j := 22) rfl (k + 1) (fun ha => g_kind rfl k ha) h hz
theorem c_all (k : Nat) (ds : List D) (hl : ds.length ≤ 1000000) (h : ∀ d ∈ ds, Pln d ∧ szD d ≤ 1000000) : callM T (k + 3) 24 [.lst (ds.map pp)] = some (.ok (.bl true) [.lst (ds.map pp)]) :=
  g_all (j := 23) rfl (k + 2) ds hl fun d hd => ⟨(h d hd).1.fz, c_same k (h d hd).1 (h d hd).2⟩
theorem c_deal (k : Nat) {ns : List Int} (hl : ns.length ≤ 63) : ∃ x : Dl, callM T (k + 1) 18 [scrD ns, .int 2] = some (.ok x.d [scrD ns, .int 2]) := g_dealD (T := T) (i0 := 18) rfl k hl (salt := 2) ⟨by decide, by decide⟩
theorem c_pm (k : Nat) : PmD T (k + 1) 0 := g_pm rfl k
theorem c_cd (k : Nat) : CdD T (k + 1) 1 := g_cd rfl k
theorem c_sa (k : Nat) : SaD T (k + 1) 2 := g_sa rfl k
theorem c_ps (k : Nat) : PsD T (k + 2) 3 := g_ps (j := 0) rfl (k + 1) (c_pm k)
theorem c_pa (k : Nat) : PaD T (k + 3) 4 := g_pa (j := 3) rfl (k + 2) (c_ps k)
theorem c_wk (k : Nat) : WkD T (k + 1) 5 := g_wk rfl k
theorem c_ms (k : Nat) : MsD T (k + 2) 6 := g_ms (w := 5) (c := 1) rfl (k + 1) (c_wk k) (c_cd k)
theorem c_mf (k : Nat) : MfD T (k + 3) 7 := g_mf (w := 5) (c := 1) (s := 6) rfl (k + 2) (c_wk (k + 1)) (c_cd (k + 1)) (c_ms k)
theorem c_dv (k : Nat) : DvD T (k + 4) 8 := g_dv (m := 7) rfl (k + 3) (c_mf k)
theorem c_sp (k : Nat) : SpD' T (k + 1) 9 := g_sp rfl k
theorem c_gp (k : Nat) : GpD T (k + 5) 10 := g_gp (a := 4) (d := 8) rfl (k + 4) (c_pa (k + 1)) (c_dv k)
theorem c_fp (k : Nat) : FpD T (k + 1) 11 := g_fp rfl k
theorem c_pb (k : Nat) : PbD T (k + 6) 12 := g_pb (s := 9) (f := 11) (g := 10) rfl (k + 5) (c_sp (k + 4)) (c_fp (k + 4)) (c_gp k)
theorem c_hw (k : Nat) : HwD T (k + 2) 13 := g_hw (j := 0) (c := 1) rfl (k + 1) (c_pm k) (c_cd k)
theorem c_hr (k : Nat) : HrD T (k + 7) 14 := g_hr (b := 12) (w := 13) rfl (k + 6) (c_pb k) (c_hw (k + 4))
theorem c_nd (k : Nat) : NdD T (k + 1) 15 := g_nd rfl k
theorem c_pt (k : Nat) : PtlD T (k + 8) 16 := g_pt (s := 2) (a := 4) (r := 14) (d := 15) rfl (k + 7) (c_sa (k + 6)) (c_pa (k + 4)) (c_hr k) (c_nd (k + 6))
theorem c_ip (k : Nat) : PtlD T (k + 9) 17 := g_ip (p := 16) rfl (k + 8) (c_pt k)
/-! the law's own -/
theorem c_lpow (k p a e : Nat) (hp : 1 < p) (hp2 : p < 2 ^ 64) : callM T (k + 1) 25 [.int (p : Int), .int (a : Int), .int (e : Int)] = some (.ok (.int ((a ^ e % p : Nat) : Int)) [.int (p : Int), .int (a : Int), .int (e : Int)]) := by
  refine callM_isK (fn := f__law_power) rfl rfl fun K hK => ?_
  show Run _ [] b__law_power [some (.int (p : Int)), some (.int (a : Int)), some (.int (e : Int)), none, none, none] K
  have hK := fun ρ => hK (.rt (.int ((a ^ e % p : Nat) : Int)) (some (.int (p : Int)) :: some (.int (a : Int)) :: some (.int (e : Int)) :: ρ)) (by simp [f__law_power])
  have p0 : 0 < p := by omega
  refine run_st ?_
  simp [p0]
  refine run_whlN (fun l ρ => ∃ f s : Nat, f < p ∧ s < p ∧ f * s ^ l % p = a ^ e % p ∧ ρ = [some (.int (p : Int)), some (.int (a : Int)), some (.int (e : Int)), some (.int (f : Int)), some (.int (s : Int)), some (.int (l : Int))]) (fun ρ => ∃ s : Nat, ρ = [some (.int (p : Int)), some (.int (a : Int)), some (.int (e : Int)), some (.int ((a ^ e % p : Nat) : Int)), some (.int (s : Int)), some (.int 0)]) (n := e)
    ⟨1, a % p, hp, Nat.mod_lt _ p0, by rw [Nat.one_mul, ← Nat.pow_mod], by simp⟩ ?_ ?_
  · clear hK
    rintro l ρ ⟨f, s, hf, hs, h, rfl⟩
    have sf := smN hf hp2
    have ss := smN hs hp2
    by_cases z : l = 0
    · subst z
      rw [Nat.pow_zero, Nat.mul_one, Nat.mod_eq_of_lt hf] at h
      exact .inl ⟨[some (.int (p : Int)), some (.int (a : Int)), some (.int (e : Int)), some (.int (f : Int)), some (.int (s : Int)), some (.int ((0 : Nat) : Int))], by simp, s, by rw [← h]; rfl⟩
    · have l0 : 0 < l := by omega
      refine .inr ⟨[some (.int (p : Int)), some (.int (a : Int)), some (.int (e : Int)), some (.int (f : Int)), some (.int (s : Int)), some (.int (l : Int))], by simp [l0], fun K' k1 _ _ _ => ?_⟩
      by_cases o : l % 2 = 1
      · have o' : (l : Int) % 2 = 1 := by omega
        have k1 := k1 _ (l / 2) (by omega) ⟨f * s % p, s * s % p, Nat.mod_lt _ p0, Nat.mod_lt _ p0, pw_step h o, rfl⟩
        rw [show ((f * s % p : Nat) : Int) = (f : Int) * (s : Int) % (p : Int) by simp, show ((s * s % p : Nat) : Int) = (s : Int) * (s : Int) % (p : Int) by simp, show ((l / 2 : Nat) : Int) = (l : Int) / 2 by omega] at k1
        refine run_ifs ?_
        simp [o, o']
        refine run_st ?_
        simp [sf, ss, p0]
        refine run_st ?_
        simp [ss, p0]
        refine run_st ?_
        simp
        exact k1
      · have o' : ((l : Int) % 2 == 1) = false := beq_eq_false_iff_ne.mpr (by omega)
        have o2 : ¬ (l : Int) % 2 = 1 := by omega
        have k1 := k1 _ (l / 2) (by omega) ⟨f, s * s % p, hf, Nat.mod_lt _ p0, pw_even h o, rfl⟩
        rw [show ((s * s % p : Nat) : Int) = (s : Int) * (s : Int) % (p : Int) by simp, show ((l / 2 : Nat) : Int) = (l : Int) / 2 by omega] at k1
        refine run_ifs ?_
        simp [o, o', o2]
        refine run_st ?_
        simp [ss, p0]
        refine run_st ?_
        simp
        exact k1
  · rintro ρ ⟨s, rfl⟩
    have hm : ((a ^ e % p : Nat) : Int) % (p : Int) = ((a ^ e % p : Nat) : Int) := by rw [← Int.natCast_emod, Nat.mod_mod]
    generalize ((a ^ e % p : Nat) : Int) = v at *
    refine run_st ?_
    simp [p0, hm]
    exact hK _
theorem c_lgcd (k a b : Nat) : callM T (k + 1) 26 [.int (a : Int), .int (b : Int)] = some (.ok (.int ((Nat.gcd a b : Nat) : Int)) [.int (a : Int), .int (b : Int)]) := by
  refine callM_isK (fn := f__law_gcd) rfl rfl fun K hK => ?_
  show Run _ [] b__law_gcd [some (.int (a : Int)), some (.int (b : Int))] K
  have hK := fun ρ => hK (.rt (.int ((Nat.gcd a b : Nat) : Int)) ρ)
  refine run_whlN (fun n ρ => ∃ x : Nat, Nat.gcd x n = Nat.gcd a b ∧ ρ = [some (.int (x : Int)), some (.int (n : Int))]) (fun ρ => ρ = [some (.int ((Nat.gcd a b : Nat) : Int)), some (.int 0)]) (n := b) ⟨a, rfl, rfl⟩ ?_ ?_
  · clear hK
    rintro n ρ ⟨x, hg, rfl⟩
    by_cases h0 : n = 0
    · subst h0
      rw [Nat.gcd_zero_right] at hg
      exact .inl ⟨[some (.int (x : Int)), some (.int ((0 : Nat) : Int))], by simp, by rw [← hg]; rfl⟩
    · have n0 : 0 < n := by omega
      refine .inr ⟨[some (.int (x : Int)), some (.int (n : Int))], by simp; omega, fun K' k1 _ _ _ => ?_⟩
      have k1 := k1 [some (.int (n : Int)), some (.int ((x % n : Nat) : Int))] (x % n) (Nat.mod_lt _ n0) ⟨n, by rw [← hg, Nat.gcd_comm n (x % n), ← Nat.gcd_rec n x, Nat.gcd_comm], rfl⟩
      rw [Int.natCast_emod] at k1
      refine run_st ?_
      simp [n0]
      exact k1
  · rintro ρ rfl
    generalize ((Nat.gcd a b : Nat) : Int) = g at *
    have hK := hK [some (.int g), some (.int 0)] (by simp [f__law_gcd])
    refine run_st ?_
    simp
    exact hK
theorem c_lnd (k n : Nat) (n64 : n < 2 ^ 64) : callM T (k + 1) 27 [.int (n : Int)] = some (.ok (.bl (prB n)) [.int (n : Int)]) := by
  refine callM_isK (fn := f__law_no_divisor) rfl rfl fun K hK => ?_
  show Run _ [] b__law_no_divisor [some (.int (n : Int)), none] K
  have hK := fun b z (h : b = prB n) => hK (.rt (.bl b) [some (.int (n : Int)), z]) (by rw [h]; simp [f__law_no_divisor])
  refine run_st ?_
  simp
  refine run_whlN (fun m ρ => ∃ lo : Nat, 2 ≤ lo ∧ lo + m = n + 3 ∧ (∀ d, 1 < d → d < lo → ¬ d ∣ n) ∧ ρ = [some (.int (n : Int)), some (.int (lo : Int))]) (fun ρ => ∃ lo : Nat, 2 ≤ lo ∧ (∀ d, 1 < d → d < lo → ¬ d ∣ n) ∧ n < lo * lo ∧ ρ = [some (.int (n : Int)), some (.int (lo : Int))]) (n := n + 1) ⟨2, by omega, by omega, fun d h1 h2 => by omega, rfl⟩ ?_ ?_
  · rintro m ρ ⟨lo, l2, hm, hno, rfl⟩
    have sl : Sm (lo : Int) := Nat.lt_of_lt_of_le (show ((lo : Int)).natAbs < 2 ^ 128 by rw [Int.natAbs_natCast]; omega) (Nat.pow_le_pow_right (by decide) (by decide))
    by_cases hq : n < lo * lo
    · have hq' : ¬ (lo : Int) * (lo : Int) ≤ (n : Int) := by rw [← Int.natCast_mul]; omega
      exact .inl ⟨[some (.int (n : Int)), some (.int (lo : Int))], by simp [sl, hq'], lo, l2, hno, hq, rfl⟩
    · have hq' : (lo : Int) * (lo : Int) ≤ (n : Int) := by rw [← Int.natCast_mul]; omega
      have hlt : lo < n := by
        have : lo * 2 ≤ lo * lo := Nat.mul_le_mul_left _ (by omega)
        omega
      have l0 : 0 < lo := by omega
      refine .inr ⟨[some (.int (n : Int)), some (.int (lo : Int))], by simp [sl, hq'], fun K' k1 _ _ kr => ?_⟩
      by_cases hd : n % lo = 0
      · have hd' : (n : Int) % (lo : Int) = 0 := by rw [← Int.natCast_emod, hd]; rfl
        have hp := NT.not_pr (show 1 < lo by omega) hlt (Nat.dvd_of_mod_eq_zero hd)
        refine run_ifs ?_
        simp [l0, hd']
        refine run_st ?_
        simp
        exact kr _ _ (hK false _ (prB_f hp).symm)
      · have hd' : ((n : Int) % (lo : Int) == 0) = false := beq_eq_false_iff_ne.mpr (by rw [← Int.natCast_emod]; omega)
        have hd2 : ¬ (n : Int) % (lo : Int) = 0 := by rw [← Int.natCast_emod]; omega
        have k1 := k1 [some (.int (n : Int)), some (.int ((lo + 1 : Nat) : Int))] (m - 1) (by omega) ⟨lo + 1, by omega, by omega, fun d h1 h2 h3 => by
          by_cases e1 : d < lo
          · exact hno d h1 e1 h3
          · have e2 : d = lo := by omega
            subst e2; exact hd (Nat.mod_eq_zero_of_dvd h3), rfl⟩
        rw [show ((lo + 1 : Nat) : Int) = (lo : Int) + 1 by omega] at k1
        refine run_ifs ?_
        simp [l0, hd', hd2]
        refine run_st ?_
        simp
        exact k1
  · rintro ρ ⟨lo, l2, hno, hq, rfl⟩
    have hb : decide ((1 : Int) < (n : Int)) = prB n := by
      by_cases h1 : 1 < n
      · rw [prB_t (NT.tr_prime h1 hno hq)]; exact decide_eq_true (by omega)
      · rw [prB_f fun hp => h1 hp.1]; exact decide_eq_false (by omega)
    refine run_st ?_
    simp
    exact hK _ _ hb
theorem c_first (k : Nat) (x : Dl) : ∃ (p : Nat) (y : Dl), Pr p ∧ 100 ≤ p ∧ p < 2000 ∧ callM T (k + 2) 28 [x.d] = some (.ok (.int (p : Int)) [y.d]) := by
  have key := callM_runK (T := T) (k := k + 1) (i := 28) (fn := f__law_first) (ds := [x.d]) (Q := fun d ds' => ∃ (p : Nat) (y : Dl), Pr p ∧ 100 ≤ p ∧ p < 2000 ∧ d = .int (p : Int) ∧ ds' = [y.d]) rfl rfl ?_
  · obtain ⟨d, ds', e, p, y, h1, h2, h3, rfl, rfl⟩ := key
    exact ⟨p, y, h1, h2, h3, e⟩
  intro K hK
  show Run _ [0] b__law_first [some x.d, none, none] K
  have hK := fun (p : Nat) (y : Dl) ρ h1 h2 h3 => hK (.rt (.int (p : Int)) (some y.d :: ρ)) _ [y.d] (by simp [f__law_first]) ⟨p, y, h1, h2, h3, rfl, rfl⟩
  have c := c_any k x 900 (by decide) (by decide)
  have g := rd_in x (b := 900) (by decide)
  generalize PV.rd x 900 = v at *
  generalize nx x 900 = x1 at *
  obtain ⟨v, rfl⟩ := Int.eq_ofNat_of_zero_le g.1
  have hv : v < 900 := by have := g.2; omega
  have rg : rgD 0 30 = some (rgN 30) := rgD_nat (n := 30) (by decide)
  refine run_st ?_
  simp [c]
  refine run_forN (fun i ρ => ∃ (n : Nat) (z : Option D), n = 100 + v + i ∧ ρ = [some x1.d, some (.int (n : Int)), z]) (ds := rgN 30) (ρ1 := [some x1.d, some (.int (100 + (v : Int))), none]) (by simp [rg]) ⟨100 + v, none, by omega, by simp⟩ ?_ ?_
  · rintro i d ρ hd ⟨n, z, hn, rfl⟩
    obtain ⟨hi, rfl⟩ := rgN_get hd
    refine ⟨[some x1.d, some (.int (n : Int)), some (.int (i : Int))], by simp, fun K' k1 kr => ?_⟩
    have c2 := c_lnd k n (by omega)
    by_cases hp : Pr n
    · rw [prB_t hp] at c2
      refine run_ifs ?_
      simp [c2, truD]
      refine run_st ?_
      simp
      exact kr _ _ (hK n x1 _ hp (by omega) (by omega))
    · rw [prB_f hp] at c2
      have k1 := k1 _ ⟨n + 1, some (.int (i : Int)), by omega, rfl⟩
      rw [show ((n + 1 : Nat) : Int) = (n : Int) + 1 by omega] at k1
      refine run_ifs ?_
      simp [c2, truD]
      refine run_st ?_
      simp
      exact k1
  · rintro ρ ⟨n, z, hn, rfl⟩
    refine run_st ?_
    simp
    exact hK 101 x1 _ NT.pr101 (by decide) (by decide)
end L2.PV.K02
set_option Elab.async false
set_option linter.all false
set_option autoImplicit false
set_option maxRecDepth 100000
set_option maxHeartbeats 0
namespace L2.PV.K02
open PySem PySem.Spec PyProof.Rows
open NT (Pr)
@[simp] theorem pureM_ife' (t a b : M) : pureM (.ife t a b) = (pureM t && pureM a && pureM b) := (rfl)
@[simp] theorem pureM_cmp' (o : COp) (a b : M) : pureM (.cmp o a b) = (pureM a && pureM b) := (rfl)
theorem mn_ex (a b : Int) : ∃ v, bi2D .min2 (.int a) (.int b) = some (.int v) ∧ v ≤ a ∧ v ≤ b ∧ (v = a ∨ v = b) := ⟨_, rfl, by split <;> omega, by split <;> omega, by split <;> simp⟩
theorem mx_ex (a b : Int) : ∃ v, bi2D .max2 (.int a) (.int b) = some (.int v) ∧ a ≤ v ∧ b ≤ v ∧ (v = a ∨ v = b) := ⟨_, rfl, by split <;> omega, by split <;> omega, by split <;> simp⟩
theorem rung_pr {p h b n : Nat} (hp : Pr p) (p2 : 2 < p) (h0 : 0 < h) (hh : 2 * h ≤ p) (hn : n = 2 * h * p + 1) (hf : b ^ (n - 1) % n = 1) (hg : Nat.gcd (b ^ (2 * h) % n - 1) n = 1) : Pr n := by
  have p0 : 0 < p := by omega
  have ne : 2 * h ≠ p := fun e => by
    rcases hp.2 2 ⟨h, e.symm⟩ with z | z <;> omega
  have hlt : 2 * h ≤ p - 1 := by omega
  have hm : 2 * h * p ≤ (p - 1) * p := Nat.mul_le_mul_right _ hlt
  have hm0 : 1 * p ≤ 2 * h * p := Nat.mul_le_mul_right _ (by omega)
  have hm2 : (p - 1) * p + p = p * p := by
    have := Nat.succ_mul (p - 1) p
    rw [show Nat.succ (p - 1) = p by omega] at this
    omega
  have n1 : 1 < n := by omega
  have hd : n - 1 = 2 * h * p := by omega
  have hq : (n - 1) / p = 2 * h := by rw [hd, Nat.mul_div_cancel _ p0]
  refine NT.pk_all n1 (F := p) (by omega) fun r hr rn => ?_
  have key := NT.pk_one (a := b) (e := 1) hr rn hp n1 ⟨2 * h, by rw [hd, Nat.mul_comm]⟩ (by rw [hq, ← Nat.pow_mod, ← Nat.pow_mul, ← hd]; exact hf) (by rw [hq]; exact hg) ⟨2 * h, by rw [hd, Nat.pow_one, Nat.mul_comm]⟩
  rwa [Nat.pow_one] at key
def iN (n : Nat) : D := .int (n : Int)
/-- numbers that are not prime -/
def Cmp (l : List Nat) : Prop := ∀ n ∈ l, ¬ Pr n ∧ n < 2 ^ 64
theorem Cmp.nil : Cmp [] := fun _ h => (List.not_mem_nil h).elim
theorem Cmp.sn {l : List Nat} {n : Nat} (h : Cmp l) (k : ¬ Pr n ∧ n < 2 ^ 64) : Cmp (l ++ [n]) := fun m hm => (List.mem_append.mp hm).elim (h m) fun z => by
  rw [List.mem_singleton.mp z]; exact k
/-- primes on the ladder -/
def Lad (p : Nat) : Prop := Pr p ∧ 100 ≤ p ∧ p < 2 ^ 61
theorem c_rung (k : Nat) (x : Dl) (p : Nat) (w : Bool) (hp : Lad p) : ∃ (q : Nat) (ms : List Nat) (y : Dl), Lad q ∧ Cmp ms ∧ ms.length ≤ 5 ∧ callM T (k + 3) 29 [x.d, .int (p : Int), .int 2305843009213693951, .bl w] = some (.ok (.tup [.int (q : Int), .lst (ms.map iN)]) [y.d, .int (p : Int), .int 2305843009213693951, .bl w]) := by
  have key := callM_runK (T := T) (k := k + 2) (i := 29) (fn := f__law_rung) (ds := [x.d, .int (p : Int), .int 2305843009213693951, .bl w]) (Q := fun d ds' => ∃ (q : Nat) (ms : List Nat) (y : Dl), Lad q ∧ Cmp ms ∧ ms.length ≤ 5 ∧ d = .tup [.int (q : Int), .lst (ms.map iN)] ∧ ds' = [y.d, .int (p : Int), .int 2305843009213693951, .bl w]) rfl rfl ?_
  · obtain ⟨d, ds', e, q, ms, y, h1, h2, h3, rfl, rfl⟩ := key
    exact ⟨q, ms, y, h1, h2, h3, e⟩
  intro K hK
  show Run _ [0] b__law_rung [some x.d, some (.int (p : Int)), some (.int 2305843009213693951), some (.bl w), none, none, none, none, none, none, none] K
  have hK := fun (q : Nat) (ms : List Nat) (y : Dl) ρ h1 h2 h3 => hK (.rt (.tup [.int (q : Int), .lst (ms.map iN)]) (some y.d :: some (.int (p : Int)) :: some (.int 2305843009213693951) :: some (.bl w) :: ρ)) _ [y.d, .int (p : Int), .int 2305843009213693951, .bl w] (by simp [f__law_rung]) ⟨q, ms, y, h1, h2, h3, rfl, rfl⟩
  obtain ⟨hpr, p100, p61⟩ := hp
  have p0 : (0 : Int) < (p : Int) := by omega
  have sp : Sm (p : Int) := smN p61 (by decide)
  have s2 : Sm 2 := sm_of (by decide)
  -- the base
  obtain ⟨b, hb, e1⟩ : ∃ b : Nat, (b = 2 ∨ b = 3 ∨ b = 5) ∧ pk x [D.int 2, D.int 3, D.int 5] = .int (b : Int) := by
    have := pk_mem x (xs := [D.int 2, D.int 3, D.int 5]) (by simp)
    simp only [List.mem_cons, List.not_mem_nil, or_false] at this
    rcases this with h | h | h <;> rw [h]
    · exact ⟨2, by simp, rfl⟩
    · exact ⟨3, by simp, rfl⟩
    · exact ⟨5, by simp, rfl⟩
  have c1 := c_of k x (xs := [D.int 2, D.int 3, D.int 5]) (by simp) (by simp)
  rw [e1] at c1
  generalize nx x ([D.int 2, D.int 3, D.int 5].length : Int) = x1 at *
  clear e1
  refine run_st ?_
  simp [c1]
  clear c1
  -- room
  obtain ⟨v1, m1, a1, a2, a3⟩ := mn_ex ((p : Int) / 2) (2305843009213693950 / (2 * (p : Int)))
  obtain ⟨v2, m2, b1, b2, b3⟩ := mx_ex 1 v1
  have p2 : (0 : Int) < 2 * (p : Int) := by omega
  have p264 : 2 * (p : Int) < 18446744073709551616 := by omega
  have fd := binD_fdiv64 (i := 2305843009213693950) p2 p264
  refine run_st ?_
  simp [sp, s2, fd, m1, m2]
  clear m1 m2
  obtain ⟨r, rfl⟩ := Int.eq_ofNat_of_zero_le (show 0 ≤ v2 by omega)
  have hr0 : 0 < r := by omega
  have hr : 2 * r ≤ p := by omega
  -- begin
  have q6 : binD .pow (.int 10) (.int 6) = some (.int 1000000) := by simp only [binD]; rw [if_pos (by decide)]; rfl
  have q18 : binD .pow (.int 10) (.int 18) = some (.int 1000000000000000000) := by simp only [binD]; rw [if_pos (by decide)]; rfl
  have q5 : binD .pow (.int 10) (.int 5) = some (.int 100000) := by simp only [binD]; rw [if_pos (by decide)]; rfl
  obtain ⟨L, hL⟩ : ∃ L : Int, L = if w = true then 1000000000000000000 else 100000 := ⟨_, rfl⟩
  obtain ⟨v, e2⟩ : ∃ v : Int, pk x1 [D.int 1000, D.int 1000000, D.int L] = .int v := by
    have := pk_mem x1 (xs := [D.int 1000, D.int 1000000, D.int L]) (by simp)
    simp only [List.mem_cons, List.not_mem_nil, or_false] at this
    rcases this with h | h | h <;> rw [h] <;> exact ⟨_, rfl⟩
  have c2 := c_of k x1 (xs := [D.int 1000, D.int 1000000, D.int L]) (by simp) (by simp)
  rw [e2] at c2
  generalize nx x1 ([D.int 1000, D.int 1000000, D.int L].length : Int) = x2 at *
  clear e2
  obtain ⟨v1, m1, -, -, -⟩ := mn_ex (r : Int) v
  obtain ⟨v2, m2, b1, -, -⟩ := mx_ex 1 v1
  have c3 := c_wide k x2 v2 (by omega)
  have g3 := wd_in x2 (b := v2) (by omega)
  generalize wd x2 v2 = u at *
  generalize nxw x2 v2 = x3 at *
  obtain ⟨u, rfl⟩ := Int.eq_ofNat_of_zero_le g3.1
  clear g3
  have st : ∀ t : M, Run (callM T (k + 2)) [0] t [some x3.d, some (.int (p : Int)), some (.int 2305843009213693951), some (.bl w), some (.int (b : Int)), some (.acc []), some (.int (r : Int)), some (.int (u : Int)), none, none, none] K → Run (callM T (k + 2)) [0] (.cons (.asg (.tgn 7) (.call 20 (.cons (.io 0) (.cons (.bi2 .max2 (.con (.int 1)) (.bi2 .min2 (.pl (.sl 6)) (.call 21 (.cons (.io 0) (.cons (.lst (.cons (.con (.int 1000)) (.cons (.bin .pow (.con (.int 10)) (.con (.int 6))) (.cons (.ife (.seq (.pl (.sl 3))) (.bin .pow (.con (.int 10)) (.con (.int 18))) (.bin .pow (.con (.int 10)) (.con (.int 5)))) .nil)))) .nil))))) .nil)))) t) [some x1.d, some (.int (p : Int)), some (.int 2305843009213693951), some (.bl w), some (.int (b : Int)), some (.acc []), some (.int (r : Int)), none, none, none, none] K := fun t h => by
    cases w
    · rw [if_neg (by simp)] at hL
      subst hL
      refine run_st ?_
      simp [q6, q5, truD, c2, m1, m2, c3]
      exact h
    · rw [if_pos rfl] at hL
      subst hL
      refine run_st ?_
      simp [q6, q18, truD, c2, m1, m2, c3]
      exact h
  refine st _ ?_
  clear st m1 m2 c2 c3 hL
  refine run_forN (fun i ρ => ∃ (ms : List Nat) (z8 z9 z10 : Option D), Cmp ms ∧ ms.length ≤ 5 ∧ ρ = [some x3.d, some (.int (p : Int)), some (.int 2305843009213693951), some (.bl w), some (.int (b : Int)), some (.acc (ms.map iN)), some (.int (r : Int)), some (.int (u : Int)), z8, z9, z10]) (ds := rgN 240) (ρ1 := [some x3.d, some (.int (p : Int)), some (.int 2305843009213693951), some (.bl w), some (.int (b : Int)), some (.acc []), some (.int (r : Int)), some (.int (u : Int)), none, none, none]) (by
      have : rgD 0 240 = some (rgN 240) := rgD_nat (n := 240) (by decide)
      simp [this]) ⟨[], none, none, none, Cmp.nil, by simp, by simp⟩ ?_ ?_
  · rintro i d ρ hd ⟨ms, z8, z9, z10, hms, hl, rfl⟩
    obtain ⟨hi, rfl⟩ := rgN_get hd
    refine ⟨[some x3.d, some (.int (p : Int)), some (.int 2305843009213693951), some (.bl w), some (.int (b : Int)), some (.acc (ms.map iN)), some (.int (r : Int)), some (.int (u : Int)), some (.int (i : Int)), z9, z10], by simp, fun K' k1 kr => ?_⟩
    obtain ⟨h, hh⟩ : ∃ h : Nat, h = 1 + (u + i) % r := ⟨_, rfl⟩
    have hlt := Nat.mod_lt (u + i) hr0
    have h0 : 0 < h := by omega
    have hhr : h ≤ r := by omega
    have hhI : (1 : Int) + ((u : Int) + (i : Int)) % (r : Int) = (h : Int) := by rw [hh]; simp
    have r0 : (0 : Int) < (r : Int) := by omega
    clear hh hlt
    obtain ⟨g, hg⟩ : ∃ g : Nat, g = 2 * h := ⟨_, rfl⟩
    have hgI : (2 : Int) * (h : Int) = (g : Int) := by rw [hg]; simp
    obtain ⟨m, hm⟩ : ∃ m : Nat, m = g * p := ⟨_, rfl⟩
    have hmI : (g : Int) * (p : Int) = (m : Int) := by rw [hm]; simp
    obtain ⟨n, hn⟩ : ∃ n : Nat, n = m + 1 := ⟨_, rfl⟩
    have hnI : (m : Int) + 1 = (n : Int) := by rw [hn]; simp
    have hnm : (n : Int) - 1 = (m : Int) := by rw [hn]; simp
    have sh : Sm (h : Int) := smN (show h < 2 ^ 61 by omega) (by decide)
    have sg : Sm (g : Int) := smN (show g < 2 ^ 62 by omega) (by decide)
    have md := binD_mod (i := (u : Int) + (i : Int)) r0
    refine run_st ?_
    simp [md, hhI]
    refine run_st ?_
    simp [sh, s2, sp, hgI, sg, hmI, hnI]
    by_cases ov : 2305843009213693951 < (n : Int)
    · skip
      refine run_ifs ?_
      simp [ov]
      refine run_st ?_
      simp
      exact kr _ _ (hK p ms x3 _ ⟨hpr, p100, p61⟩ hms hl)
    have n61 : n < 2 ^ 61 := by omega
    have n1 : 1 < n := by
      have : 1 * 1 ≤ g * p := Nat.mul_le_mul (by omega) (by omega)
      omega
    have np : p < n := by
      have : 1 * p ≤ g * p := Nat.mul_le_mul_right _ (by omega)
      omega
    have cp := c_lpow (k + 1) n b m n1 (by omega)
    by_cases hf : b ^ m % n = 1
    · rw [hf] at cp
      have vg0 : b ^ g % n ≠ 0 := fun z => by
        have : b ^ m % n = 0 := by
          rw [hm, Nat.pow_mul, Nat.pow_mod, z, Nat.zero_pow (by omega)]; rfl
        omega
      have cg := c_lpow (k + 1) n b g n1 (by omega)
      obtain ⟨v, hv⟩ : ∃ v, v = b ^ g % n - 1 := ⟨_, rfl⟩
      have hvI : ((b ^ g % n : Nat) : Int) - 1 = (v : Int) := by omega
      have cd := c_lgcd (k + 1) v n
      obtain ⟨d, hd⟩ : ∃ d, d = Nat.gcd v n := ⟨_, rfl⟩
      rw [← hd] at cd
      generalize ((b ^ g % n : Nat) : Int) = vI at *
      by_cases d1 : d = 1
      · have hpn : Pr n := rung_pr (h := h) (b := b) hpr (by omega) h0 (by omega) (by rw [hn, hm, hg]) (by rw [hn, Nat.add_sub_cancel, ← hn]; exact hf) (by rw [← hg, ← hv, ← hd]; exact d1)
        subst d1
        refine run_ifs ?_
        simp [ov]
        refine run_ifs ?_
        simp [hnm, cp]
        refine run_ifs ?_
        simp [s2, sh, hgI, cg, hvI, cd]
        refine run_st ?_
        simp
        exact kr _ _ (hK n ms x3 _ ⟨hpn, by omega, n61⟩ hms hl)
      · have k1 := k1 _ ⟨ms, some (.int (i : Int)), some (.int (h : Int)), some (.int (n : Int)), hms, hl, rfl⟩
        have d1' : ((d : Int) == 1) = false := beq_eq_false_iff_ne.mpr (by omega)
        have d1n : ¬ (d : Int) = 1 := by omega
        refine run_ifs ?_
        simp [ov]
        refine run_ifs ?_
        simp [hnm, cp]
        refine run_ifs ?_
        simp [s2, sh, hgI, cg, hvI, cd, d1', d1n]
        exact k1
    · have hcomp : ¬ Pr n := NT.not_fermat (a := b) (fun z => by
        have := Nat.le_of_dvd (by omega) z
        omega) (by rw [hn, Nat.add_sub_cancel, ← hn]; exact hf)
      obtain ⟨f, hf2⟩ : ∃ f, f = b ^ m % n := ⟨_, rfl⟩
      rw [← hf2] at cp
      have f1 : ((f : Int) == 1) = false := beq_eq_false_iff_ne.mpr (by omega)
      have f1n : ¬ (f : Int) = 1 := by omega
      by_cases h5 : ms.length < 5
      · have k1 := k1 _ ⟨ms ++ [n], some (.int (i : Int)), some (.int (h : Int)), some (.int (n : Int)), hms.sn ⟨hcomp, by omega⟩, by simp; omega, rfl⟩
        have lI : ((ms.length : Nat) : Int) < 5 := by omega
        have ad : binD .add (.acc (ms.map iN)) (.acc [.int (n : Int)]) = some (.acc ((ms ++ [n]).map iN)) := by
          simp only [binD]; rw [if_pos (by rw [sz]; simp; omega), List.map_append]; rfl
        have le : lenD (.acc (ms.map iN)) = some ms.length := by simp
        generalize (ms ++ [n]).map iN = m2 at *
        generalize ms.map iN = m3 at *
        refine run_ifs ?_
        simp [ov]
        refine run_ifs ?_
        simp [hnm, cp, f1, f1n]
        refine run_st ?_
        simp [le, h5, lI, ad]
        exact k1
      · have k1 := k1 _ ⟨ms, some (.int (i : Int)), some (.int (h : Int)), some (.int (n : Int)), hms, hl, rfl⟩
        have lI : ¬ ((ms.length : Nat) : Int) < 5 := by omega
        have ad : binD .add (.acc (ms.map iN)) (.acc []) = some (.acc (ms.map iN)) := by
          simp only [binD]; rw [if_pos (by rw [sz]; simp; omega), List.append_nil]
        have le : lenD (.acc (ms.map iN)) = some ms.length := by simp
        generalize ms.map iN = m3 at *
        refine run_ifs ?_
        simp [ov]
        refine run_ifs ?_
        simp [hnm, cp, f1, f1n]
        refine run_st ?_
        simp [le, h5, lI, ad]
        exact k1
  · rintro ρ ⟨ms, z8, z9, z10, hms, hl, rfl⟩
    refine run_st ?_
    simp
    exact hK p ms x3 _ ⟨hpr, p100, p61⟩ hms hl
end L2.PV.K02
set_option Elab.async false
set_option linter.all false
set_option autoImplicit false
set_option maxRecDepth 100000
set_option maxHeartbeats 0
namespace L2.PV.K02
open PySem PySem.Spec PyProof.Rows
open NT (Pr)
theorem addN (a b : Nat) : (a : Int) + (b : Int) = ((a + b : Nat) : Int) := rfl
/-- something drawn out of numbers -/
theorem pk_iN (x : Dl) {l : List Nat} (h : l ≠ []) : ∃ n ∈ l, pk x (l.map iN) = .int (n : Int) := by
  obtain ⟨n, hn, e⟩ := List.mem_map.mp (pk_mem x (xs := l.map iN) (by simpa using h))
  exact ⟨n, hn, e.symm⟩
def Pr61 (l : List Nat) : Prop := ∀ n ∈ l, 1 < n ∧ n < 2 ^ 61
theorem cmp_mul {a b : Nat} (ha : 1 < a) (hb : 1 < b) (h : a * b < 2 ^ 61) : ¬ Pr (a * b) ∧ a * b < 2 ^ 64 := ⟨NT.not_pr_mul ha hb, by omega⟩
theorem cmp_three {q : Nat} (h : q ≤ 118000) (h0 : 0 < q) : ¬ Pr ((6 * q + 1) * (12 * q + 1) * (18 * q + 1)) ∧ (6 * q + 1) * (12 * q + 1) * (18 * q + 1) < 2 ^ 64 := by
  refine ⟨NT.not_pr (d := 18 * q + 1) (by omega) ?_ ⟨(6 * q + 1) * (12 * q + 1), Nat.mul_comm _ _⟩, ?_⟩
  · have h1 : 1 * 2 ≤ (6 * q + 1) * (12 * q + 1) := Nat.mul_le_mul (by omega) (by omega)
    have h2 := Nat.mul_le_mul_right (18 * q + 1) h1
    omega
  · have h1 : (6 * q + 1) * (12 * q + 1) ≤ 708001 * 1416001 := Nat.mul_le_mul (by omega) (by omega)
    have h2 : (6 * q + 1) * (12 * q + 1) * (18 * q + 1) ≤ 708001 * 1416001 * 2124001 := Nat.mul_le_mul h1 (by omega)
    omega
theorem cmp0 : Cmp [2047, 1373653, 25326001, 3215031751, 2152302898747, 3474749660383, 341550071728321] := by
  intro n hn
  simp only [List.mem_cons, List.not_mem_nil, or_false] at hn
  rcases hn with rfl | rfl | rfl | rfl | rfl | rfl | rfl
  · exact ⟨NT.not_pr (d := 23) (by decide) (by decide) ⟨89, by decide⟩, by decide⟩
  · exact ⟨NT.not_pr (d := 829) (by decide) (by decide) ⟨1657, by decide⟩, by decide⟩
  · exact ⟨NT.not_pr (d := 2251) (by decide) (by decide) ⟨11251, by decide⟩, by decide⟩
  · exact ⟨NT.not_pr (d := 151) (by decide) (by decide) ⟨751 * 28351, by decide⟩, by decide⟩
  · exact ⟨NT.not_pr (d := 6763) (by decide) (by decide) ⟨10627 * 29947, by decide⟩, by decide⟩
  · exact ⟨NT.not_pr (d := 1303) (by decide) (by decide) ⟨16927 * 157543, by decide⟩, by decide⟩
  · exact ⟨NT.not_pr (d := 10670053) (by decide) (by decide) ⟨32010157, by decide⟩, by decide⟩
theorem appN (ms : List Nat) (n : Nat) : ms.map iN ++ [D.int (n : Int)] = (ms ++ [n]).map iN := by rw [List.map_append]; rfl
def lt61 (n : Nat) : Bool := decide ((n : Int) < 2305843009213693952)
theorem c_prod (k : Nat) (x : Dl) (l : List Nat) (hl : l ≠ []) (ll : l.length ≤ 100) (h61 : Pr61 l) : ∃ (ms : List Nat) (y : Dl), Cmp ms ∧ ms.length ≤ 40 ∧ callM T (k + 3) 30 [x.d, .lst (l.map iN)] = some (.ok (.acc (ms.map iN)) [y.d, .lst (l.map iN)]) := by
  have key := callM_runK (T := T) (k := k + 2) (i := 30) (fn := f__law_products) (ds := [x.d, .lst (l.map iN)]) (Q := fun d ds' => ∃ (ms : List Nat) (y : Dl), Cmp ms ∧ ms.length ≤ 40 ∧ d = .acc (ms.map iN) ∧ ds' = [y.d, .lst (l.map iN)]) rfl rfl ?_
  · obtain ⟨d, ds', e, ms, y, h1, h2, rfl, rfl⟩ := key
    exact ⟨ms, y, h1, h2, e⟩
  intro K hK
  show Run _ [0] b__law_products [some x.d, some (.lst (l.map iN)), none, none, none, none, none, none, none, none] K
  obtain ⟨L, hL⟩ : ∃ L, L = D.lst (l.map iN) := ⟨_, rfl⟩
  have fL : fz L = true := by rw [hL]; rfl
  have hK := fun (ms : List Nat) (y : Dl) ρ h1 h2 => hK (.rt (.acc (ms.map iN)) (some y.d :: some L :: ρ)) _ [y.d, L] (by simp [f__law_products, fL]; exact hL.symm) ⟨ms, y, h1, h2, rfl, by rw [hL]⟩
  have cof : ∀ x : Dl, ∃ (n : Nat) (y : Dl), 1 < n ∧ n < 2 ^ 61 ∧ callM T (k + 2) 21 [x.d, L] = some (.ok (.int (n : Int)) [y.d, L]) := fun x => by
    obtain ⟨n, hn, e⟩ := pk_iN x hl
    have c := c_of k x (xs := l.map iN) (by simpa using hl) (by simp; omega)
    rw [e, ← hL] at c
    exact ⟨n, _, (h61 n hn).1, (h61 n hn).2, c⟩
  rw [← hL]
  clear hL
  have q61 : binD .pow (.int 2) (.int 61) = some (.int 2305843009213693952) := by simp only [binD]; rw [if_pos (by decide)]; rfl
  have f1 : binD .mul (.int 151) (.int 751) = some (.int 113401) := by simp only [binD]; rw [if_pos (by decide)]; rfl
  have st : ∀ t : M, Run (callM T (k + 2)) [0] t [some x.d, some L, some (.int 2305843009213693952), some (.acc ([2047, 1373653, 25326001, 3215031751, 2152302898747, 3474749660383, 341550071728321].map iN)), none, none, none, none, none, none] K → Run (callM T (k + 2)) [0] (.cons (.par [2, 3] (.cons (.bin .pow (.con (.int 2)) (.con (.int 61))) (.cons (.lst (.cons (.con (.int 2047)) (.cons (.con (.int 1373653)) (.cons (.con (.int 25326001)) (.cons (.bin .mul (.bin .mul (.con (.int 151)) (.con (.int 751))) (.con (.int 28351))) (.cons (.bin .mul (.bin .mul (.con (.int 6763)) (.con (.int 10627))) (.con (.int 29947))) (.cons (.bin .mul (.bin .mul (.con (.int 1303)) (.con (.int 16927))) (.con (.int 157543))) (.cons (.bin .mul (.con (.int 10670053)) (.con (.int 32010157))) .nil)))))))) .nil))) t) [some x.d, some L, none, none, none, none, none, none, none, none] K := fun t h => by
    have s1 := sm_of (i := 151) (by decide)
    have s2 := sm_of (i := 751) (by decide)
    have s3 := sm_of (i := 28351) (by decide)
    have s4 := sm_of (i := 113401) (by decide)
    have s5 := sm_of (i := 6763) (by decide)
    have s6 := sm_of (i := 10627) (by decide)
    have s7 := sm_of (i := 29947) (by decide)
    have s8 := sm_of (i := 71870401) (by decide)
    have s9 := sm_of (i := 1303) (by decide)
    have s10 := sm_of (i := 16927) (by decide)
    have s11 := sm_of (i := 157543) (by decide)
    have s12 := sm_of (i := 22055881) (by decide)
    have s13 := sm_of (i := 10670053) (by decide)
    have s14 := sm_of (i := 32010157) (by decide)
    refine run_st ?_
    simp [q61, s1, s2, s3, s4, s5, s6, s7, s8, s9, s10, s11, s12, s13, s14]
    exact h
  refine st _ ?_
  clear st q61
  have c0 := cmp0
  have l0 : [2047, 1373653, 25326001, 3215031751, 2152302898747, 3474749660383, 341550071728321].length ≤ 7 := by decide
  generalize [2047, 1373653, 25326001, 3215031751, 2152302898747, 3474749660383, 341550071728321] = m0 at *
  refine run_forN (fun i ρ => ∃ (ms : List Nat) (y : Dl) (z4 z5 z6 z7 z8 : Option D), Cmp ms ∧ ms.length ≤ 7 + 4 * i ∧ ρ = [some y.d, some L, some (.int 2305843009213693952), some (.acc (ms.map iN)), z4, z5, z6, z7, z8, none]) (ds := rgN 6) (ρ1 := [some x.d, some L, some (.int 2305843009213693952), some (.acc (m0.map iN)), none, none, none, none, none, none]) (by
      have : rgD 0 6 = some (rgN 6) := rgD_nat (n := 6) (by decide)
      simp [this]) ⟨m0, x, none, none, none, none, none, c0, by omega, rfl⟩ ?_ ?_
  · rintro i d ρ hd ⟨ms, y, z4, z5, z6, z7, z8, hms, hlen, rfl⟩
    obtain ⟨hi, rfl⟩ := rgN_get hd
    refine ⟨[some y.d, some L, some (.int 2305843009213693952), some (.acc (ms.map iN)), some (.int (i : Int)), z5, z6, z7, z8, none], by simp, fun K' k1 kr => ?_⟩
    clear hK hd
    obtain ⟨a, y1, a1, a2, e1⟩ := cof y
    obtain ⟨b, y2, b1, b2, e2⟩ := cof y1
    have sa : Sm (a : Int) := smN a2 (by decide)
    have sb : Sm (b : Int) := smN b2 (by decide)
    refine run_st ?_
    simp [e1, e2, fL]
    -- a * b
    obtain ⟨w, hw⟩ : ∃ w : Nat, w = a * b := ⟨_, rfl⟩
    have hwI : (a : Int) * (b : Int) = (w : Int) := by rw [hw]; simp
    obtain ⟨ms1, h1, l1, run1⟩ : ∃ ms1, Cmp ms1 ∧ ms1.length ≤ 7 + 4 * i + 1 ∧ ∀ t K', Run (callM T (k + 2)) [0] t [some y2.d, some L, some (.int 2305843009213693952), some (.acc (ms1.map iN)), some (.int (i : Int)), some (.int (a : Int)), some (.int (b : Int)), z7, z8, none] K' → Run (callM T (k + 2)) [0] (.cons (.iff (.cmp .lt (.bin .mul (.pl (.sl 5)) (.pl (.sl 6))) (.pl (.sl 2))) (.cons (.app (.sl 3) (.bin .mul (.pl (.sl 5)) (.pl (.sl 6)))) .nil) .nil) t) [some y2.d, some L, some (.int 2305843009213693952), some (.acc (ms.map iN)), some (.int (i : Int)), some (.int (a : Int)), some (.int (b : Int)), z7, z8, none] K' := by
      by_cases hq : (w : Int) < 2305843009213693952
      · refine ⟨ms ++ [w], hms.sn (by rw [hw]; exact cmp_mul a1 b1 (by rw [← hw]; omega)), by simp; omega, fun t K' h => ?_⟩
        rw [← appN] at h
        have hM : (ms.map iN).length < sizeLine := by rw [sz, List.length_map]; omega
        generalize ms.map iN = M at *
        refine run_ifs ?_
        simp [sa, sb, hwI, hq]
        refine run_st ?_
        simp [sa, sb, hwI, hM]
        exact h
      · refine ⟨ms, hms, by omega, fun t K' h => ?_⟩
        have hM : (ms.map iN).length < sizeLine := by rw [sz, List.length_map]; omega
        generalize ms.map iN = M at *
        refine run_ifs ?_
        simp [sa, sb, hwI, hq]
        exact h
    refine run1 _ _ ?_
    clear run1 hwI hw w
    obtain ⟨w, hw⟩ : ∃ w : Nat, w = a * a := ⟨_, rfl⟩
    have hwI : (a : Int) * (a : Int) = (w : Int) := by rw [hw]; simp
    obtain ⟨ms2, h2, l2, run1⟩ : ∃ ms2, Cmp ms2 ∧ ms2.length ≤ 7 + 4 * i + 2 ∧ ∀ t K', Run (callM T (k + 2)) [0] t [some y2.d, some L, some (.int 2305843009213693952), some (.acc (ms2.map iN)), some (.int (i : Int)), some (.int (a : Int)), some (.int (b : Int)), z7, z8, none] K' → Run (callM T (k + 2)) [0] (.cons (.iff (.cmp .lt (.bin .mul (.pl (.sl 5)) (.pl (.sl 5))) (.pl (.sl 2))) (.cons (.app (.sl 3) (.bin .mul (.pl (.sl 5)) (.pl (.sl 5)))) .nil) .nil) t) [some y2.d, some L, some (.int 2305843009213693952), some (.acc (ms1.map iN)), some (.int (i : Int)), some (.int (a : Int)), some (.int (b : Int)), z7, z8, none] K' := by
      by_cases hq : (w : Int) < 2305843009213693952
      · refine ⟨ms1 ++ [w], h1.sn (by rw [hw]; exact cmp_mul a1 a1 (by rw [← hw]; omega)), by simp; omega, fun t K' h => ?_⟩
        rw [← appN] at h
        have hM : (ms1.map iN).length < sizeLine := by rw [sz, List.length_map]; omega
        generalize ms1.map iN = M at *
        refine run_ifs ?_
        simp [sa, sb, hwI, hq]
        refine run_st ?_
        simp [sa, sb, hwI, hM]
        exact h
      · refine ⟨ms1, h1, by omega, fun t K' h => ?_⟩
        have hM : (ms1.map iN).length < sizeLine := by rw [sz, List.length_map]; omega
        generalize ms1.map iN = M at *
        refine run_ifs ?_
        simp [sa, sb, hwI, hq]
        exact h
    refine run1 _ _ ?_
    clear run1 hwI hw w
    have c3 := c_any (k + 1) y2 900 (by decide) (by decide)
    have g3 := rd_in y2 (b := 900) (by decide)
    generalize PV.rd y2 900 = v at *
    generalize nx y2 900 = y3 at *
    obtain ⟨v, rfl⟩ := Int.eq_ofNat_of_zero_le g3.1
    have hv : v < 900 := by have := g3.2; omega
    obtain ⟨lo, hlo⟩ : ∃ lo : Nat, lo = 2 + v := ⟨_, rfl⟩
    have hloI : (2 : Int) + (v : Int) = (lo : Int) := by rw [hlo]; simp
    have slo : Sm (lo : Int) := smN (show lo < 1000 by omega) (by decide)
    refine run_st ?_
    simp [c3, hloI]
    obtain ⟨w, hw⟩ : ∃ w : Nat, w = lo * b := ⟨_, rfl⟩
    have hwI : (lo : Int) * (b : Int) = (w : Int) := by rw [hw]; simp
    obtain ⟨ms3, h3, l3, run1⟩ : ∃ ms3, Cmp ms3 ∧ ms3.length ≤ 7 + 4 * i + 3 ∧ ∀ t K', Run (callM T (k + 2)) [0] t [some y3.d, some L, some (.int 2305843009213693952), some (.acc (ms3.map iN)), some (.int (i : Int)), some (.int (a : Int)), some (.int (b : Int)), some (.int (lo : Int)), z8, none] K' → Run (callM T (k + 2)) [0] (.cons (.iff (.cmp .lt (.bin .mul (.pl (.sl 7)) (.pl (.sl 6))) (.pl (.sl 2))) (.cons (.app (.sl 3) (.bin .mul (.pl (.sl 7)) (.pl (.sl 6)))) .nil) .nil) t) [some y3.d, some L, some (.int 2305843009213693952), some (.acc (ms2.map iN)), some (.int (i : Int)), some (.int (a : Int)), some (.int (b : Int)), some (.int (lo : Int)), z8, none] K' := by
      by_cases hq : (w : Int) < 2305843009213693952
      · refine ⟨ms2 ++ [w], h2.sn (by rw [hw]; exact cmp_mul (by omega) b1 (by rw [← hw]; omega)), by simp; omega, fun t K' h => ?_⟩
        rw [← appN] at h
        have hM : (ms2.map iN).length < sizeLine := by rw [sz, List.length_map]; omega
        generalize ms2.map iN = M at *
        refine run_ifs ?_
        simp [slo, sb, hwI, hq]
        refine run_st ?_
        simp [slo, sb, hwI, hM]
        exact h
      · refine ⟨ms2, h2, by omega, fun t K' h => ?_⟩
        have hM : (ms2.map iN).length < sizeLine := by rw [sz, List.length_map]; omega
        generalize ms2.map iN = M at *
        refine run_ifs ?_
        simp [slo, sb, hwI, hq]
        exact h
    refine run1 _ _ ?_
    clear run1 hwI hw w
    have c4 := c_any (k + 1) y3 118000 (by decide) (by decide)
    have g4 := rd_in y3 (b := 118000) (by decide)
    generalize PV.rd y3 118000 = v4 at *
    generalize nx y3 118000 = y4 at *
    obtain ⟨v4, rfl⟩ := Int.eq_ofNat_of_zero_le g4.1
    have hv4 : v4 < 118000 := by have := g4.2; omega
    obtain ⟨q, hq⟩ : ∃ q : Nat, q = 1 + v4 := ⟨_, rfl⟩
    have hqI : (1 : Int) + (v4 : Int) = (q : Int) := by rw [hq]; simp
    refine run_st ?_
    simp [c4, hqI]
    obtain ⟨A, hA⟩ : ∃ n : Nat, n = 6 * q + 1 := ⟨_, rfl⟩
    obtain ⟨B, hB⟩ : ∃ n : Nat, n = 12 * q + 1 := ⟨_, rfl⟩
    obtain ⟨C, hC⟩ : ∃ n : Nat, n = 18 * q + 1 := ⟨_, rfl⟩
    have hAI : (6 : Int) * (q : Int) + 1 = (A : Int) := by rw [hA]; simp
    have hBI : (12 : Int) * (q : Int) + 1 = (B : Int) := by rw [hB]; simp
    have hCI : (18 : Int) * (q : Int) + 1 = (C : Int) := by rw [hC]; simp
    have h3w := cmp_three (q := q) (by omega) (by omega)
    rw [← hA, ← hB, ← hC] at h3w
    obtain ⟨E, hE⟩ : ∃ n : Nat, n = A * B := ⟨_, rfl⟩
    obtain ⟨F, hF⟩ : ∃ n : Nat, n = E * C := ⟨_, rfl⟩
    rw [← hE, ← hF] at h3w
    have hEI : (A : Int) * (B : Int) = (E : Int) := by rw [hE]; simp
    have hFI : (E : Int) * (C : Int) = (F : Int) := by rw [hF]; simp
    have sE : Sm (E : Int) := smN (show E < 2 ^ 62 by
      have : A * B ≤ 708001 * 1416001 := Nat.mul_le_mul (by omega) (by omega)
      omega) (by decide)
    have sq : Sm (q : Int) := smN (show q < 2 ^ 61 by omega) (by decide)
    have sA : Sm (A : Int) := smN (show A < 2 ^ 61 by omega) (by decide)
    have sB : Sm (B : Int) := smN (show B < 2 ^ 61 by omega) (by decide)
    have sC : Sm (C : Int) := smN (show C < 2 ^ 61 by omega) (by decide)
    have s6 := sm_of (i := 6) (by decide)
    have s12 := sm_of (i := 12) (by decide)
    have s18 := sm_of (i := 18) (by decide)
    have k1 := k1 _ ⟨ms3 ++ [F], y4, some (.int (i : Int)), some (.int (a : Int)), some (.int (b : Int)), some (.int (lo : Int)), some (.int (q : Int)), h3.sn h3w, by simp; omega, rfl⟩
    rw [← appN] at k1
    have hM : (ms3.map iN).length < sizeLine := by rw [sz, List.length_map]; omega
    generalize ms3.map iN = M at *
    refine run_st ?_
    simp [s6, s12, s18, sq, hAI, hBI, hCI, sA, sB, hEI, sE, sC, hFI, hM]
    exact k1
  · rintro ρ ⟨ms, y, z4, z5, z6, z7, z8, hms, hlen, rfl⟩
    have e := ev_filA (cf := callM T (k + 2)) (pins := [0]) (ρ := [some y.d, some L, some (.int 2305843009213693952), some (.acc (ms.map iN)), z4, z5, z6, z7, z8, none]) (ρ1 := [some y.d, some L, some (.int 2305843009213693952), some (.lst (ms.map iN)), z4, z5, z6, z7, z8, none]) (it := .seq (.frv 3)) (v := 9) (cs := (.cons (.cmp .lt (.pl (.sl 9)) (.pl (.sl 2))) .nil)) (elt := (.pl (.sl 9))) iN lt61 (xs := ms) (by
      generalize ms.map iN = M
      simp) (by rw [rgN_len] at hlen; omega) rfl (by simp) (by simp) (fun n hn => by
      rw [show iN n = D.int (n : Int) from rfl]
      generalize ms.map iN = M
      refine ⟨?_, by simp, frzM_I _ _⟩
      unfold lt61
      by_cases q : (n : Int) < 2305843009213693952 <;> simp [q])
    have hK := hK (ms.filter lt61) y
    have hC : Cmp (ms.filter lt61) := fun n hn => hms n (List.mem_filter.mp hn).1
    have hL2 : (ms.filter lt61).length ≤ 40 := by
      have := List.length_filter_le lt61 ms
      rw [rgN_len] at hlen
      omega
    generalize ms.map iN = M at *
    generalize (ms.filter lt61) = F at *
    refine run_st ?_
    simp [e]
    exact hK _ hC hL2
end L2.PV.K02
set_option Elab.async false
set_option linter.all false
set_option autoImplicit false
set_option maxRecDepth 100000
set_option maxHeartbeats 0
namespace L2.PV.K02
open PySem PySem.Spec PyProof.Rows
open NT (Pr)
def pB (b : Bool) : D := .tup [.bl b, .bl b]
theorem pB_pp (bs : List Bool) : bs.map pB = (bs.map D.bl).map pp := by rw [List.map_map]; rfl
theorem of_nat (k : Nat) (x : Dl) (l : List Nat) (h1 : l ≠ []) (h2 : l.length < 100) {G : Nat → Prop} (h3 : ∀ n ∈ l, G n) : ∃ (n : Nat) (y : Dl), G n ∧ callM T (k + 2) 21 [x.d, .lst (l.map iN)] = some (.ok (.int (n : Int)) [y.d, .lst (l.map iN)]) := by
  obtain ⟨n, hn, e⟩ := pk_iN x h1
  have c := c_of k x (xs := l.map iN) (by simpa using h1) (by simp; omega)
  rw [e] at c
  exact ⟨n, _, h3 n hn, c⟩
theorem is_t (k : Nat) {n : Nat} (h : Pr n) (h2 : n < 2 ^ 64) : callM T (k + 9) 17 [.int (n : Int)] = some (.ok (.bl true) [.int (n : Int)]) := by
  have := c_ip k n h2
  rwa [prB_t h] at this
theorem is_f (k : Nat) {n : Nat} (h : ¬ Pr n) (h2 : n < 2 ^ 64) : callM T (k + 9) 17 [.int (n : Int)] = some (.ok (.bl false) [.int (n : Int)]) := by
  have := c_ip k n h2
  rwa [prB_f h] at this
/-- the answers about some composite numbers -/
theorem ev_cmp (k : Nat) {ms : List Nat} (h : Cmp ms) (hl : ms.length ≤ 100) {pins : List Nat} {it : M} {ρ ρ1 : DEnv} (hi : evI (callM T (k + 9)) pins it ρ = some (.ok (ms.map iN) ρ1)) (h7 : ρ1.length = 12) (ho : ownFz ρ1 [7] = true) (hp : 7 ∉ pins) :
    evE (callM T (k + 9)) pins (.lc [7] (.tgn 7) it .nil (.tup (.cons (.call 17 (.cons (.pl (.sl 7)) .nil)) (.cons (.con (.bl false)) .nil)))) ρ = some (.ok (.acc ((ms.map fun _ => false).map pB)) ρ1) := by
  rw [List.map_map]
  refine ev_mapA (cf := callM T (k + 9)) iN (fun _ => pB false) hi (by omega) ho (by omega) hp fun n hn => ?_
  have hn := h n hn
  have c := is_f k hn.1 hn.2
  have g : (ρ1.set 7 (some (iN n)))[7]? = some (some (D.int (n : Int))) := by
    rw [List.getElem?_set_self (by omega)]; rfl
  refine ⟨pB false, ?_, rfl⟩
  simp [g, c, pB]
def law6 : M := (.cons (.asg (.tgn 6) (.call 21 (.cons (.io 1) (.cons (.lst (.cons (.con (.int 0)) (.cons (.con (.int 0)) (.cons (.call 19 (.cons (.io 1) (.cons (.con (.int 3000)) .nil))) (.cons (.bin .add (.con (.int 65400)) (.call 19 (.cons (.io 1) (.cons (.con (.int 700)) .nil)))) (.cons (.bin .add (.con (.int 1962700)) (.call 19 (.cons (.io 1) (.cons (.con (.int 200)) .nil)))) .nil)))))) .nil)))) (.cons (.for_ (.tgn 7) (.rg2 (.pl (.sl 6)) (.bin .add (.pl (.sl 6)) (.con (.int 40)))) (.cons (.app (.sl 2) (.tup (.cons (.call 17 (.cons (.pl (.sl 7)) .nil)) (.cons (.call 27 (.cons (.pl (.sl 7)) .nil)) .nil)))) .nil)) (.cons (.asg (.tgn 8) (.call 21 (.cons (.io 1) (.cons (.lst (.cons (.con (.int 2305843009213693951)) (.cons (.con (.int 2305843009213693921)) (.cons (.con (.int 4294967291)) (.cons (.con (.int 1000000000039)) (.cons (.con (.int 1000000007)) .nil)))))) .nil)))) (.cons (.ret (.call 24 (.cons (.bin .add (.frv 2) (.lst (.cons (.tup (.cons (.callk 17 [0] (.cons (.pl (.sl 8)) .nil)) (.cons (.con (.bl true)) .nil))) (.cons (.tup (.cons (.call 17 (.cons (.con (.int 2)) .nil)) (.cons (.con (.bl true)) .nil))) (.cons (.tup (.cons (.call 17 (.cons (.con (.int 1)) .nil)) (.cons (.con (.bl false)) .nil))) (.cons (.tup (.cons (.call 17 (.cons (.con (.int 0)) .nil)) (.cons (.con (.bl false)) .nil))) (.cons (.tup (.cons (.call 17 (.cons (.bin .sub (.pl (.sl 8)) (.con (.int 1))) .nil)) (.cons (.con (.bl false)) .nil))) .nil))))))) .nil))) .nil))))
theorem law_end6 (k : Nat) {S : Option D} {x : Dl} {bs : List Bool} {ls : D} {K : SR → Prop} {z5 z9 z10 z11 : Option D} (hl : bs.length ≤ 200) (fin : ∀ ρ : DEnv, K (.rt (.bl true) (S :: ρ))) : Run (callM T (k + 9)) [] law6 [S, some (x.d), some (.acc (bs.map pB)), some (.int 2305843009213693951), some (ls), z5, none, none, none, z9, z10, z11] K := by
  unfold law6
  have c1 := c_any (k + 8) x 3000 (by decide) (by decide)
  have g1 := rd_in x (b := 3000) (by decide)
  generalize PV.rd x 3000 = v1 at *
  generalize nx x 3000 = x1 at *
  obtain ⟨v1, rfl⟩ := Int.eq_ofNat_of_zero_le g1.1
  have c2 := c_any (k + 8) x1 700 (by decide) (by decide)
  have g2 := rd_in x1 (b := 700) (by decide)
  generalize PV.rd x1 700 = v2 at *
  generalize nx x1 700 = x2 at *
  obtain ⟨v2, rfl⟩ := Int.eq_ofNat_of_zero_le g2.1
  have c3 := c_any (k + 8) x2 200 (by decide) (by decide)
  have g3 := rd_in x2 (b := 200) (by decide)
  generalize PV.rd x2 200 = v3 at *
  generalize nx x2 200 = x3 at *
  obtain ⟨v3, rfl⟩ := Int.eq_ofNat_of_zero_le g3.1
  obtain ⟨n, y, hn, c4⟩ := of_nat (k + 7) x3 [0, 0, v1, 65400 + v2, 1962700 + v3] (by simp) (by simp) (G := fun n => n < 2000000) (by
    intro n hn
    simp only [List.mem_cons, List.not_mem_nil, or_false] at hn
    have := g1.2; have := g2.2; have := g3.2
    rcases hn with rfl | rfl | rfl | rfl | rfl <;> omega)
  simp only [List.map_cons, List.map_nil, iN, Int.natCast_add, Int.cast_ofNat_Int] at c4
  refine run_st ?_
  simp [c1, c2, c3, c4]
  clear c1 c2 c3 c4
  have rg := rgD_lh (lo := (n : Int)) (n := 40) (by omega) (by omega) (by decide)
  rw [show (((40 : Nat)) : Int) = 40 from rfl] at rg
  refine run_forN (fun i ρ => ∃ (bs : List Bool) (z7 : Option D), bs.length ≤ 200 + i ∧ ρ = [S, some (y.d), some (.acc (bs.map pB)), some (.int 2305843009213693951), some (ls), z5, some (.int (n : Int)), z7, none, z9, z10, z11]) (ds := sq (fun i => .int ((n : Int) + i)) 40) (ρ1 := [S, some (y.d), some (.acc (bs.map pB)), some (.int 2305843009213693951), some (ls), z5, some (.int (n : Int)), none, none, z9, z10, z11]) (by simp [rg]) ⟨bs, none, by omega, rfl⟩ ?_ ?_
  · rintro i d ρ hd ⟨bs, z7, hb, rfl⟩
    have hi : i < 40 := by
      have := (List.getElem?_eq_some_iff.mp hd).1
      simpa using this
    rw [sq_get hi] at hd
    obtain rfl := Option.some.inj hd
    refine ⟨[S, some (y.d), some (.acc (bs.map pB)), some (.int 2305843009213693951), some (ls), z5, some (.int (n : Int)), some (.int ((n : Int) + (i : Int))), none, z9, z10, z11], by simp, fun K' k1 kr => ?_⟩
    clear fin rg
    obtain ⟨m, hm⟩ : ∃ m : Nat, m = n + i := ⟨_, rfl⟩
    have hmI : (n : Int) + (i : Int) = (m : Int) := by rw [hm]; simp
    have c5 := c_ip k m (by omega)
    have c6 := c_lnd (k + 8) m (by omega)
    rw [hmI]
    have k1 := k1 _ ⟨bs ++ [prB m], some (.int (m : Int)), by simp; omega, rfl⟩
    rw [List.map_append, show [prB m].map pB = [pB (prB m)] from rfl] at k1
    have hM : (bs.map pB).length < sizeLine := by rw [sz, List.length_map]; omega
    generalize bs.map pB = M at *
    unfold pB at k1
    generalize prB m = v at *
    have isl : (Pl.sl 2).isSl = true := rfl
    refine run_st ?_
    simp [c5, c6, hM, isl]
    exact k1
  · rintro ρ ⟨bs, z7, hb, rfl⟩
    rw [sq_len] at hb
    obtain ⟨n2, y2, hn2, c7⟩ := of_nat (k + 7) y [2305843009213693951, 2305843009213693921, 4294967291, 1000000000039, 1000000007] (by simp) (by simp) (G := fun n => Pr n ∧ 3 < n ∧ n % 2 = 1 ∧ n < 2 ^ 61) (by
      intro n hn
      simp only [List.mem_cons, List.not_mem_nil, or_false] at hn
      rcases hn with rfl | rfl | rfl | rfl | rfl
      · exact ⟨NT.pr2305843009213693951, by decide⟩
      · exact ⟨NT.pr2305843009213693921, by decide⟩
      · exact ⟨NT.pr4294967291, by decide⟩
      · exact ⟨NT.pr1000000000039, by decide⟩
      · exact ⟨NT.pr1000000007, by decide⟩)
    simp only [List.map_cons, List.map_nil, iN, Int.cast_ofNat_Int] at c7
    obtain ⟨hp, h3, ho, h61⟩ := hn2
    have d1 := is_t k hp (by omega)
    have d2 := is_t k NT.pr2 (by decide)
    have d3 := is_f k (n := 1) (fun h => by have := h.1; omega) (by decide)
    have d4 := is_f k (n := 0) (fun h => by have := h.1; omega) (by decide)
    obtain ⟨m, hm⟩ : ∃ m : Nat, m = n2 - 1 := ⟨_, rfl⟩
    have hmI : (n2 : Int) - 1 = (m : Int) := by omega
    have d5 := is_f k (n := m) (NT.not_pr (d := 2) (by decide) (by omega) ⟨m / 2, by omega⟩) (by omega)
    rw [show ((2 : Nat) : Int) = 2 from rfl] at d2
    rw [show ((1 : Nat) : Int) = 1 from rfl] at d3
    rw [show ((0 : Nat) : Int) = 0 from rfl] at d4
    have ca := c_all (k + 6) ((bs ++ [true, true, false, false, false]).map D.bl) (by simp; omega) (fun d hd => by
      obtain ⟨b, -, rfl⟩ := List.mem_map.mp hd
      exact ⟨trivial, by simp [szD]⟩)
    rw [← pB_pp, List.map_append] at ca
    have hM : (bs.map pB).length + 5 ≤ 16777216 := by rw [List.length_map]; omega
    have ad : ∀ l : List D, l.length = 5 → binD .add (.lst (bs.map pB)) (.acc l) = some (.acc (bs.map pB ++ l)) := fun l hl => by
      simp only [binD]; rw [if_pos (by rw [sz]; rw [hl]; exact hM)]
    have ad := ad ([true, true, false, false, false].map pB) rfl
    generalize bs.map pB = M at *
    simp only [List.map_cons, List.map_nil, pB] at ca ad
    refine run_st ?_
    simp [c7]
    obtain ⟨A, hA⟩ : ∃ A, A = M ++ [D.tup [.bl true, .bl true], .tup [.bl true, .bl true], .tup [.bl false, .bl false], .tup [.bl false, .bl false], .tup [.bl false, .bl false]] := ⟨_, rfl⟩
    rw [← hA] at ad ca
    refine run_st ?_
    simp [d1, d2, d3, d4, hmI, d5, ad, ca]
    exact fin _
end L2.PV.K02
set_option Elab.async false
set_option linter.all false
set_option autoImplicit false
set_option maxRecDepth 100000
set_option maxHeartbeats 0
namespace L2.PV.K02
open PySem PySem.Spec PyProof.Rows
open NT (Pr)
def Cmps (b : List Bool) (n : Nat) : Prop := b.length ≤ n
theorem Pr61.sn {l : List Nat} {p : Nat} (h : Pr61 l) (hp : Lad p) : Pr61 (l ++ [p]) := fun m hm => (List.mem_append.mp hm).elim (h m) fun z => by
  rw [List.mem_singleton.mp z]; exact ⟨by have := hp.2.1; omega, hp.2.2⟩
theorem addB (xs ys : List Bool) (h : xs.length + ys.length ≤ 10000) : binD .add (.lst (xs.map pB)) (.acc (ys.map pB)) = some (.acc ((xs ++ ys).map pB)) := by
  simp only [binD]; rw [if_pos (by rw [sz]; simp; omega), List.map_append]
def law5 : M := (.cons (.asg (.tgn 2) (.bin .add (.frv 2) (.lc [7] (.tgn 7) (.seq (.call 30 (.cons (.io 1) (.cons (.frv 4) .nil)))) .nil (.tup (.cons (.call 17 (.cons (.pl (.sl 7)) .nil)) (.cons (.con (.bl false)) .nil)))))) (.cons (.asg (.tgn 6) (.call 21 (.cons (.io 1) (.cons (.lst (.cons (.con (.int 0)) (.cons (.con (.int 0)) (.cons (.call 19 (.cons (.io 1) (.cons (.con (.int 3000)) .nil))) (.cons (.bin .add (.con (.int 65400)) (.call 19 (.cons (.io 1) (.cons (.con (.int 700)) .nil)))) (.cons (.bin .add (.con (.int 1962700)) (.call 19 (.cons (.io 1) (.cons (.con (.int 200)) .nil)))) .nil)))))) .nil)))) (.cons (.for_ (.tgn 7) (.rg2 (.pl (.sl 6)) (.bin .add (.pl (.sl 6)) (.con (.int 40)))) (.cons (.app (.sl 2) (.tup (.cons (.call 17 (.cons (.pl (.sl 7)) .nil)) (.cons (.call 27 (.cons (.pl (.sl 7)) .nil)) .nil)))) .nil)) (.cons (.asg (.tgn 8) (.call 21 (.cons (.io 1) (.cons (.lst (.cons (.con (.int 2305843009213693951)) (.cons (.con (.int 2305843009213693921)) (.cons (.con (.int 4294967291)) (.cons (.con (.int 1000000000039)) (.cons (.con (.int 1000000007)) .nil)))))) .nil)))) (.cons (.ret (.call 24 (.cons (.bin .add (.frv 2) (.lst (.cons (.tup (.cons (.callk 17 [0] (.cons (.pl (.sl 8)) .nil)) (.cons (.con (.bl true)) .nil))) (.cons (.tup (.cons (.call 17 (.cons (.con (.int 2)) .nil)) (.cons (.con (.bl true)) .nil))) (.cons (.tup (.cons (.call 17 (.cons (.con (.int 1)) .nil)) (.cons (.con (.bl false)) .nil))) (.cons (.tup (.cons (.call 17 (.cons (.con (.int 0)) .nil)) (.cons (.con (.bl false)) .nil))) (.cons (.tup (.cons (.call 17 (.cons (.bin .sub (.pl (.sl 8)) (.con (.int 1))) .nil)) (.cons (.con (.bl false)) .nil))) .nil))))))) .nil))) .nil)))))
theorem law_end5 (k : Nat) {S : D} {x : Dl} {bs : List Bool} {l : List Nat} {K : SR → Prop} {z5 z9 z10 z11 : Option D} (hl : bs.length ≤ 100) (l0 : l ≠ []) (ll : l.length ≤ 50) (h61 : Pr61 l) (fin : ∀ ρ : DEnv, K (.rt (.bl true) (some S :: ρ))) : Run (callM T (k + 9)) [] law5 [some (S), some (x.d), some (.acc (bs.map pB)), some (.int 2305843009213693951), some (.acc (l.map iN)), z5, none, none, none, z9, z10, z11] K := by
  unfold law5
  obtain ⟨ms, y, hms, hm40, c⟩ := c_prod (k + 6) x l l0 (by omega) h61
  have fL : fz (.lst (l.map iN)) = true := rfl
  have hfr : frzD (.acc (l.map iN)) = some (.lst (l.map iN)) := rfl
  generalize hL : D.lst (l.map iN) = L at *
  have hgo := fun ls z5 => law_end6 k (S := some S) (x := y) (bs := bs ++ ms.map fun _ => false) (ls := ls) (K := K) (z5 := z5) (z9 := z9) (z10 := z10) (z11 := z11) (by simp; omega) fin
  have hi : evI (callM T (k + 9)) [] (.seq (.call 30 (.cons (.io 1) (.cons (.frv 4) .nil)))) [some (S), some (x.d), some (.lst (bs.map pB)), some (.int 2305843009213693951), some (.acc (l.map iN)), z5, none, none, none, z9, z10, z11] = some (.ok (ms.map iN) [some (S), some (y.d), some (.lst (bs.map pB)), some (.int 2305843009213693951), some (L), z5, none, none, none, z9, z10, z11]) := by
    have sq1 : seqD (.acc (ms.map iN)) = some (ms.map iN) := rfl
    generalize ms.map iN = M at *
    generalize D.acc (l.map iN) = LA at *
    have hfr4 : frzD L = some L := by rw [← hL]; rfl
    simp [hfr, hfr4, fL, c]
  have e := ev_cmp k hms (by omega) hi rfl rfl (by simp)
  have ad := addB bs (ms.map fun _ => false) (by simp; omega)
  have hfr2 : frzD (.acc (bs.map pB)) = some (.lst (bs.map pB)) := rfl
  generalize (ms.map fun _ => false) = N at *
  generalize (bs ++ N).map pB = R3 at *
  generalize N.map pB = R2 at *
  generalize D.acc (l.map iN) = LA at *
  generalize hb1 : D.lst (bs.map pB) = R4 at *
  generalize D.acc (bs.map pB) = R5 at *
  have fR4 : fz R4 = true := by rw [← hb1]; rfl
  clear hb1
  refine run_st ?_
  simp [hfr2, fR4, e, ad]
  exact hgo _ _
theorem c_law (k : Nat) {ns : List Int} (hl : ns.length ≤ 63) : ∃ ds', callM T (k + 10) lawIx [scrD ns] = some (.ok (.bl true) ds') := by
  have key := callM_runK (T := T) (k := k + 9) (i := lawIx) (fn := f_law) (ds := [scrD ns]) (Q := fun d ds' => d = .bl true) rfl rfl ?_
  · obtain ⟨d, ds', e, rfl⟩ := key
    exact ⟨ds', e⟩
  intro K hK
  show Run _ [] b_law [some (scrD ns), none, none, none, none, none, none, none, none, none, none, none] K
  obtain ⟨x, c0⟩ := c_deal (k + 8) hl
  have hf : fz (scrD ns) = true := rfl
  have fin : ∀ ρ : DEnv, K (.rt (.bl true) (some (scrD ns) :: ρ)) := fun ρ => hK _ (.bl true) [scrD ns] (by simp [f_law, hf]) rfl
  generalize scrD ns = S at *
  refine run_st ?_
  simp [c0, hf]
  clear c0 hK
  have q61 : binD .pow (.int 2) (.int 61) = some (.int 2305843009213693952) := by simp only [binD]; rw [if_pos (by decide)]; rfl
  refine run_st ?_
  simp [q61]
  clear q61
  have t0 : Pr61 [101, 65537, 2147483647] := by
    intro n hn
    simp only [List.mem_cons, List.not_mem_nil, or_false] at hn
    rcases hn with rfl | rfl | rfl <;> decide
  refine run_forN (fun i ρ => ∃ (y : Dl) (bs : List Bool) (l : List Nat) (z5 z9 z10 z11 : Option D), bs.length ≤ 25 * i ∧ l ≠ [] ∧ l.length ≤ 3 + 4 * i ∧ Pr61 l ∧ ρ = [some (S), some (y.d), some (.acc (bs.map pB)), some (.int 2305843009213693951), some (.acc (l.map iN)), z5, none, none, none, z9, z10, z11]) (ds := rgN 2) (ρ1 := [some (S), some (x.d), some (.acc []), some (.int 2305843009213693951), some (.acc [.int 101, .int 65537, .int 2147483647]), none, none, none, none, none, none, none]) (by
      have : rgD 0 2 = some (rgN 2) := rgD_nat (n := 2) (by decide)
      simp [this]) ⟨x, [], [101, 65537, 2147483647], none, none, none, none, by simp, by simp, by simp, t0, by simp [iN]⟩ ?_ ?_
  · rintro i d ρ hd ⟨y, bs, l, z5, z9, z10, z11, hb, l0, ll, h61, rfl⟩
    obtain ⟨hi, rfl⟩ := rgN_get hd
    refine ⟨[some (S), some (y.d), some (.acc (bs.map pB)), some (.int 2305843009213693951), some (.acc (l.map iN)), some (.int (i : Int)), none, none, none, z9, z10, z11], by simp, fun K' k1 kr => ?_⟩
    clear fin kr t0
    obtain ⟨p, y1, hp, p1, p2, c1⟩ := c_first (k + 7) y
    have d1 := is_t k hp (by omega)
    have hM : (bs.map pB).length < sizeLine := by rw [sz, List.length_map]; omega
    have ap : bs.map pB ++ [D.tup [.bl true, .bl true]] = (bs ++ [true]).map pB := by rw [List.map_append]; rfl
    have isl : (Pl.sl 2).isSl = true := rfl
    have st : ∀ t K', Run (callM T (k + 9)) [] t [some (S), some (y1.d), some (.acc ((bs ++ [true]).map pB)), some (.int 2305843009213693951), some (.acc (l.map iN)), some (.int (i : Int)), none, none, none, some (.int (p : Int)), z10, z11] K' → Run (callM T (k + 9)) [] (.cons (.asg (.tgn 9) (.call 28 (.cons (.io 1) .nil))) (.cons (.app (.sl 2) (.tup (.cons (.call 17 (.cons (.pl (.sl 9)) .nil)) (.cons (.con (.bl true)) .nil)))) t)) [some (S), some (y.d), some (.acc (bs.map pB)), some (.int 2305843009213693951), some (.acc (l.map iN)), some (.int (i : Int)), none, none, none, z9, z10, z11] K' := fun t K' h => by
      rw [← ap] at h
      generalize bs.map pB = M at *
      generalize D.acc (l.map iN) = LA at *
      refine run_st ?_
      simp [c1]
      refine run_st ?_
      simp [d1, isl, hM]
      exact h
    refine st _ _ ?_
    clear st ap hM d1 c1
    refine run_forN (fun j ρ => ∃ (q : Nat) (y2 : Dl) (bs2 : List Bool) (l2 : List Nat) (z10 z11 : Option D), Lad q ∧ bs2.length ≤ 25 * i + 1 + 6 * j ∧ l2 ≠ [] ∧ l2.length ≤ 3 + 4 * i + j ∧ Pr61 l2 ∧ ρ = [some (S), some (y2.d), some (.acc (bs2.map pB)), some (.int 2305843009213693951), some (.acc (l2.map iN)), some (.int (i : Int)), none, none, none, some (.int (q : Int)), z10, z11]) (ds := rgN 4) (ρ1 := [some (S), some (y1.d), some (.acc ((bs ++ [true]).map pB)), some (.int 2305843009213693951), some (.acc (l.map iN)), some (.int (i : Int)), none, none, none, some (.int (p : Int)), z10, z11]) (by
      have : rgD 0 4 = some (rgN 4) := rgD_nat (n := 4) (by decide)
      simp [this]) ⟨p, y1, bs ++ [true], l, z10, z11, ⟨hp, p1, by omega⟩, by simp; omega, l0, by omega, h61, rfl⟩ ?_ ?_
    · rintro j d ρ hd ⟨q, y2, bs2, l2, z10, z11, hq, hb2, l20, l2l, h61, rfl⟩
      obtain ⟨hj, rfl⟩ := rgN_get hd
      refine ⟨[some (S), some (y2.d), some (.acc (bs2.map pB)), some (.int 2305843009213693951), some (.acc (l2.map iN)), some (.int (i : Int)), none, none, none, some (.int (q : Int)), some (.int (j : Int)), z11], by simp, fun K' k1 kr => ?_⟩
      clear kr
      obtain ⟨q2, ms, y3, hq2, hms, m5, c2⟩ := c_rung (k + 6) y2 q (decide ((i : Int) = 0)) hq
      have d2 := is_t k hq2.1 (by have := hq2.2.2; omega)
      have k1 := k1 _ ⟨q2, y3, (bs2 ++ [true]) ++ ms.map (fun _ => false), l2 ++ [q2], some (.int (j : Int)), some (.lst (ms.map iN)), hq2, by simp; omega, by simp, by simp; omega, h61.sn hq2, rfl⟩
      rw [← appN] at k1
      have eqi : ((i : Int) == 0) = decide ((i : Int) = 0) := rfl
      have e := ev_cmp k (pins := []) (it := .seq (.pl (.sl 11))) (ρ := [some (S), some (y3.d), some (.lst (bs2.map pB)), some (.int 2305843009213693951), some (.acc (l2.map iN ++ [.int (q2 : Int)])), some (.int (i : Int)), none, none, none, some (.int (q2 : Int)), some (.int (j : Int)), some (.lst (ms.map iN))]) (ρ1 := [some (S), some (y3.d), some (.lst (bs2.map pB)), some (.int 2305843009213693951), some (.acc (l2.map iN ++ [.int (q2 : Int)])), some (.int (i : Int)), none, none, none, some (.int (q2 : Int)), some (.int (j : Int)), some (.lst (ms.map iN))]) hms (by omega) (by
        generalize bs2.map pB = M2
        generalize D.acc (l2.map iN ++ [.int (q2 : Int)]) = M3
        generalize ms.map iN = M
        simp) rfl rfl (by simp)
      have ad1 := addB bs2 [true] (by simp; omega)
      have ad2 := addB (bs2 ++ [true]) (ms.map fun _ => false) (by simp; omega)
      have hM : (l2.map iN).length < sizeLine := by rw [sz, List.length_map]; omega
      rw [show [true].map pB = [D.tup [.bl true, .bl true]] from rfl] at ad1
      generalize (ms.map fun _ => false) = N at *
      have hfr2 : frzD (.acc (bs2.map pB)) = some (.lst (bs2.map pB)) := rfl
      have hfr3 : frzD (.acc ((bs2 ++ [true]).map pB)) = some (.lst ((bs2 ++ [true]).map pB)) := rfl
      generalize (bs2 ++ [true] ++ N).map pB = R3 at *
      generalize hb3 : D.lst ((bs2 ++ [true]).map pB) = R4 at *
      generalize D.acc ((bs2 ++ [true]).map pB) = R6 at *
      generalize N.map pB = R2 at *
      generalize hb4 : D.lst (bs2.map pB) = R5 at *
      generalize D.acc (bs2.map pB) = R7 at *
      have fR4 : fz R4 = true := by rw [← hb3]; rfl
      have fR5 : fz R5 = true := by rw [← hb4]; rfl
      clear hb3 hb4
      generalize hc : D.lst (ms.map iN) = C at *
      have fC : fz C = true := by rw [← hc]; rfl
      clear hc
      generalize (decide ((i : Int) = 0)) = w at *
      generalize l2.map iN = LL at *
      refine run_st ?_
      simp [eqi, c2, fC]
      have isl : (Pl.sl 4).isSl = true := rfl
      refine run_st ?_
      simp [hM]
      refine run_st ?_
      simp [hfr2, fR5, d2, ad1, hfr3, fR4, e, ad2]
      exact k1
    · rintro ρ ⟨q, y2, bs2, l2, z10, z11, hq, hb2, l20, l2l, h61, rfl⟩
      rw [rgN_len] at hb2 l2l
      rw [run_nil_eq]
      exact k1 _ ⟨y2, bs2, l2, some (.int (i : Int)), some (.int (q : Int)), z10, z11, by omega, l20, by omega, h61, rfl⟩
  · rintro ρ ⟨y, bs, l, z5, z9, z10, z11, hb, l0, ll, h61, rfl⟩
    rw [rgN_len] at hb ll
    exact law_end5 k (by omega) l0 (by omega) h61 fin
theorem says : ∃ k, k ≤ 200 ∧ ∀ ns : List Int, ns.length ≤ 63 → ∃ ds', callM T k lawIx [scrD ns] = some (.ok (.bl true) ds') := ⟨10, by decide, fun _ hl => c_law 0 hl⟩
end L2.PV.K02
set_option Elab.async false
set_option linter.all false
set_option autoImplicit false
set_option maxRecDepth 100000
set_option maxHeartbeats 0
namespace L2.PV.K02
open PySem PySem.Spec PyProof.Rows
abbrev rw_ := PySem.Challenge.rw_shortpapers_k02_primes_are_told_from_pro
abbrev R : PySem.W.OpenRow := PySem.W.OpenLaw.row PySem.Challenge.rw_shortpapers_k02_primes_are_told_from_pro
abbrev hk : PySem.W.Hook := hookP 4 (faOf ds ks) (fnOf' ds ks) gl
def ob (s : PySem.W.SharedT) : AlP := obsPG 4 (faOf ds ks) (fnOf' ds ks) gl (HandSHeadRun.getT s)
theorem ob_eq (s : PySem.W.SharedT) : ob s = hk.obs s.abs := obsPG_eq (HandSHeadRun.getT_eq s)
theorem run (w : World) : HandSHeadRun.RunEq R (PySem.W.view R.prog [lawTop]) hk ob 2000 loose w := by
  intro os
  kernel_rfl
end L2.PV.K02
open PySem PySem.W PySem.Calls PyProof.Rows
theorem L2.PV.K02.holds_of (says : ∃ k, k ≤ 200 ∧ ∀ ns : List Int, ns.length ≤ 63 → ∃ ds', L2.PV.callM L2.PV.K02.T k L2.PV.K02.lawIx [L2.PV.scrD ns] = some (.ok (.bl true) ds')) : PySem.Challenge.rw_shortpapers_k02_primes_are_told_from_pro.Holds := by
  w_on; o_law
  refine HandSHeadRun.head_any (r := OpenLaw.row PySem.Challenge.rw_shortpapers_k02_primes_are_told_from_pro) (q := view (OpenLaw.row PySem.Challenge.rw_shortpapers_k02_primes_are_told_from_pro).prog [L2.PV.K02.lawTop]) (H := L2.PV.K02.hk) (ob := L2.PV.K02.ob) (M := 2000) (loose := L2.PV.K02.loose) (d := HandSHeadRun.topDef (OpenLaw.row PySem.Challenge.rw_shortpapers_k02_primes_are_told_from_pro).prog L2.PV.K02.lawTop) (kwd := []) L2.PV.K02.ob_eq
    (by kernel_rfl) (fun s => by kernel_rfl) L2.PV.K02.run (by kernel_rfl) (by kernel_rfl) (by kernel_rfl) (by rfl) (by first | assumption | decide +kernel) (by decide +kernel) ⟨rfl, rfl, rfl, rfl, rfl, by decide +kernel⟩ ?hw ?hc
  case hw => w_witness2
  case hc =>
    obtain ⟨k, hk, says⟩ := says
    exact L2.PV.law_end (l := PySem.Challenge.rw_shortpapers_k02_primes_are_told_from_pro) (k := k) (li := L2.PV.K02.lawIx) rfl (by kernel_rfl) hk L2.PV.K02.oks L2.PV.K02.okc L2.PV.K02.okks ⟨_, rfl, by kernel_rfl, by kernel_rfl⟩ says
open PySem PySem.W PySem.Calls PyProof.Rows
theorem PySem.Challenge.cw_shortpapers_k02_primes_are_told_from_pro_holds : PySem.Challenge.rw_shortpapers_k02_primes_are_told_from_pro.Holds := by
  exact L2.PV.K02.holds_of L2.PV.K02.says
