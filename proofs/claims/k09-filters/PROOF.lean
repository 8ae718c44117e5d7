import PyProof.Rows.All
import Wide.All
import OpenK.AllK
import Wide.FinOn
import HandS.ForMost
import HandS.ForExc
import HandS.Evl
import KE.DataEq
import HandS.TupAny
import HandS.Wide
import HandS.NoneIn
import HandS.IsInst
import HandS.Strs
import HandS.Sort
import HandS.SortInts
import HandS.More
import HandS.Style
import HandS.Ends
import PyProof.ReprLen
import PyProof.StrLawsRepr
import PySem.Challenge.RW_noguess_k09_filters
set_option Elab.async false
set_option linter.all false
set_option autoImplicit false
set_option maxRecDepth 100000
set_option maxHeartbeats 2000000
/-! A layer of data over the hand layer: what a def computes, told over plain data (D), no heap in sight. -/
namespace DL
open PySem L2

/-! ### data -/
inductive D where
  | non | bl (b : Bool) | int (i : Int) | str (x : Str)
  | tup (ds : List D) | lst (ds : List D) | tpw (ds : List D)
  | lsk (ds : List D)
  | ref (a : Addr) | ty (n : String)

open Evl (Ex)
theorem _root_.Evl.Ex.free {H H' : Hp} (e : Ex H H') {p : Addr} (h : H' p = none) : H p = none := Evl.fresh_back e h
theorem ex_t {K : PySem.W.Frag} {H H' : Hp} {a : Addr} {xs : List V} (e : Ex H H') (h : SqT K H a xs) : SqT K H' a xs := Evl.ex_t e h
/-- a tuple whose object is known to have no dict of its own -/
def TupF (K : PySem.W.Frag) (G : Hp) (a : Addr) (xs : List V) : Prop :=
  (∃ o : Obj, o.dict = none ∧ G a = some (.frz o (.tup xs))) ∨
    ∃ (o : Obj) (its : Array Value) (n : Nat), K.lookup a = some o ∧ o.cls = .type "tuple" ∧ o.dict = none ∧ o.data = .seq its n ∧ its.size ≤ sizeLine ∧ Vals xs its.toList
theorem TupF.sq {K : PySem.W.Frag} {G : Hp} {a : Addr} {xs : List V} (h : TupF K G a xs) : SqT K G a xs := by
  rcases h with ⟨o, _, h⟩ | ⟨o, its, n, h1, h2, _, h3, h4, h5⟩
  · exact .inl (.inr ⟨o, h⟩)
  · exact .inr ⟨o, its, n, h1, h2, h3, h4, h5⟩
theorem TupF.mono {K : PySem.W.Frag} {G G' : Hp} {a : Addr} {xs : List V} (e : Ex G G') (h : TupF K G a xs) : TupF K G' a xs := by
  rcases h with ⟨o, d, h⟩ | h
  · exact .inl ⟨o, d, e _ _ h⟩
  · exact .inr h
mutual
/-- v stands for the data d where G stands still -/
inductive Rep (K : PySem.W.Frag) (G : Hp) : D → V → Prop
  | non : Rep K G .non .non
  | bl (b : Bool) : Rep K G (.bl b) (.bl b)
  | int (i : Int) : Rep K G (.int i) (.int i)
  | str (x : Str) : Rep K G (.str x) (.str x)
  | tup {a : Addr} {xs : List V} {ds : List D} : TupF K G a xs → RepL K G ds xs → Rep K G (.tup ds) (.ref a)
  | tpw {a : Addr} {xs : List V} {ds : List D} : SqT K G a xs → RepL K G ds xs → Rep K G (.tpw ds) (.ref a)
  | lst {a : Addr} {xs : List V} {ds : List D} : G a = some (.lst xs) → RepL K G ds xs → Rep K G (.lst ds) (.ref a)
  | lsk {a : Addr} {xs : List V} {ds : List D} : SqL K G a xs → RepL K G ds xs → Rep K G (.lsk ds) (.ref a)
  | ref (a : Addr) : Rep K G (.ref a) (.ref a)
  | ty (n : String) : Rep K G (.ty n) (.ty n)
inductive RepL (K : PySem.W.Frag) (G : Hp) : List D → List V → Prop
  | nil : RepL K G [] []
  | cons {d : D} {v : V} {ds : List D} {vs : List V} : Rep K G d v → RepL K G ds vs → RepL K G (d :: ds) (v :: vs)
end
section
variable {K : PySem.W.Frag} {G G' : Hp}
mutual
theorem Rep.mono (e : Ex G G') : ∀ {d : D} {v : V}, Rep K G d v → Rep K G' d v
  | _, _, .non => .non
  | _, _, .bl b => .bl b
  | _, _, .int i => .int i
  | _, _, .str x => .str x
  | _, _, .tup h r => .tup (h.mono e) (RepL.mono e r)
  | _, _, .tpw h r => .tpw (ex_t e h) (RepL.mono e r)
  | _, _, .lst h r => .lst (e _ _ h) (RepL.mono e r)
  | _, _, .lsk h r => .lsk (Evl.ex_l e h) (RepL.mono e r)
  | _, _, .ref a => .ref a
  | _, _, .ty n => .ty n
theorem RepL.mono (e : Ex G G') : ∀ {ds : List D} {vs : List V}, RepL K G ds vs → RepL K G' ds vs
  | _, _, .nil => .nil
  | _, _, .cons h r => .cons (Rep.mono e h) (RepL.mono e r)
end
theorem RepL.length : ∀ {ds : List D} {vs : List V}, RepL K G ds vs → ds.length = vs.length
  | _, _, .nil => rfl
  | _, _, .cons _ r => congrArg Nat.succ (RepL.length r)
theorem RepL.get : ∀ {ds : List D} {vs : List V} {i : Nat} {d : D}, RepL K G ds vs → ds[i]? = some d → ∃ v, vs[i]? = some v ∧ Rep K G d v
  | _, _, _, _, .nil, e => by simp at e
  | _, _, 0, _, .cons h _, e => by simp at e; subst e; exact ⟨_, rfl, h⟩
  | _, _, i + 1, _, .cons _ r, e => by
    obtain ⟨v, h1, h2⟩ := RepL.get (i := i) r (by simpa using e)
    exact ⟨v, by simpa using h1, h2⟩
theorem RepL.getV : ∀ {ds : List D} {vs : List V} {i : Nat} {v : V}, RepL K G ds vs → vs[i]? = some v → ∃ d, ds[i]? = some d ∧ Rep K G d v
  | _, _, _, _, .nil, e => by simp at e
  | _, _, 0, _, .cons h _, e => by simp at e; subst e; exact ⟨_, rfl, h⟩
  | _, _, i + 1, _, .cons _ r, e => by
    obtain ⟨d, h1, h2⟩ := RepL.getV (i := i) r (by simpa using e)
    exact ⟨d, by simpa using h1, h2⟩
theorem RepL.append : ∀ {ds es : List D} {vs us : List V}, RepL K G ds vs → RepL K G es us → RepL K G (ds ++ es) (vs ++ us)
  | _, _, _, _, .nil, s => s
  | _, _, _, _, .cons h r, s => .cons h (RepL.append r s)
theorem RepL.take : ∀ {ds : List D} {vs : List V} (n : Nat), RepL K G ds vs → RepL K G (ds.take n) (vs.take n)
  | _, _, 0, _ => .nil
  | _, _, _ + 1, .nil => .nil
  | _, _, n + 1, .cons h r => .cons h (RepL.take n r)
theorem RepL.drop : ∀ {ds : List D} {vs : List V} (n : Nat), RepL K G ds vs → RepL K G (ds.drop n) (vs.drop n)
  | _, _, 0, r => r
  | _, _, _ + 1, .nil => .nil
  | _, _, n + 1, .cons _ r => RepL.drop n r
theorem RepL.eraseIdx : ∀ {ds : List D} {vs : List V} (n : Nat), RepL K G ds vs → RepL K G (ds.eraseIdx n) (vs.eraseIdx n)
  | _, _, _, .nil => .nil
  | _, _, 0, .cons _ r => r
  | _, _, n + 1, .cons h r => .cons h (RepL.eraseIdx n r)
theorem RepL.set : ∀ {ds : List D} {vs : List V} (n : Nat) {d : D} {v : V}, Rep K G d v → RepL K G ds vs → RepL K G (ds.set n d) (vs.set n v)
  | _, _, _, _, _, _, .nil => .nil
  | _, _, 0, _, _, h, .cons _ r => .cons h r
  | _, _, n + 1, _, _, h, .cons h' r => .cons h' (RepL.set n h r)
theorem RepL.reverse : ∀ {ds : List D} {vs : List V}, RepL K G ds vs → RepL K G ds.reverse vs.reverse
  | _, _, .nil => .nil
  | _, _, .cons h r => by
    rw [List.reverse_cons, List.reverse_cons]
    exact (RepL.reverse r).append (.cons h .nil)
theorem RepL.dropLast {ds : List D} {vs : List V} (r : RepL K G ds vs) : RepL K G ds.dropLast vs.dropLast := by
  rw [List.dropLast_eq_take, List.dropLast_eq_take, r.length]
  exact r.take _
theorem RepL.rep {ds : List D} {vs : List V} (r : RepL K G ds vs) : ∀ k : Nat, RepL K G (List.replicate k ds).flatten (List.replicate k vs).flatten
  | 0 => .nil
  | k + 1 => by
    rw [List.replicate_succ, List.replicate_succ, List.flatten_cons, List.flatten_cons]
    exact r.append (RepL.rep r k)
theorem RepL.of_all {ds : List D} {vs : List V} (hl : ds.length = vs.length) (h : ∀ (i : Nat) d v, ds[i]? = some d → vs[i]? = some v → Rep K G d v) : RepL K G ds vs := by
  induction ds generalizing vs with
  | nil => cases vs with
    | nil => exact .nil
    | cons v vs => cases hl
  | cons d ds ih => cases vs with
    | nil => cases hl
    | cons v vs => exact .cons (h 0 d v rfl rfl) (ih (Nat.succ.inj hl) fun i d' v' h1 h2 => h (i + 1) d' v' (by simpa using h1) (by simpa using h2))
end

/-! ### what may change -/
/-- an object that may change, by its data -/
inductive MO where
  | lst (ds : List D)
  | ins (C : Addr) (fs : List (Str × D))
/-- the state over data: the deck of draws (its address, how many draws are left), and the objects that may change -/
structure S where
  dk : Option (Addr × Nat)
  M : Addr → Option MO
def S.put (s : S) (a : Addr) (o : MO) : S := { s with M := fun b => if b = a then some o else s.M b }
def S.del (s : S) (a : Addr) : S := { s with M := fun b => if b = a then none else s.M b }
def S.fuel (s : S) (a : Addr) (n : Nat) : S := { s with dk := some (a, n) }

inductive RepF (K : PySem.W.Frag) (G : Hp) : List (Str × D) → List (Str × V) → Prop
  | nil : RepF K G [] []
  | cons {x : Str} {d : D} {v : V} {ds : List (Str × D)} {vs : List (Str × V)} : Rep K G d v → RepF K G ds vs → RepF K G ((x, d) :: ds) ((x, v) :: vs)
theorem RepF.mono {K : PySem.W.Frag} {G G' : Hp} (e : Ex G G') : ∀ {ds : List (Str × D)} {vs : List (Str × V)}, RepF K G ds vs → RepF K G' ds vs
  | _, _, .nil => .nil
  | _, _, .cons h r => .cons (h.mono e) (RepF.mono e r)

def MRep (K : PySem.W.Frag) (G : Hp) : MO → HO → Prop
  | .lst ds, o => ∃ xs, o = .lst xs ∧ RepL K G ds xs
  | .ins C fs, o => ∃ dx xs, o = .ins C dx xs ∧ RepF K G fs xs
theorem MRep.mono {K : PySem.W.Frag} {G G' : Hp} (e : Ex G G') {m : MO} {o : HO} (h : MRep K G m o) : MRep K G' m o := by
  cases m with
  | lst ds => obtain ⟨xs, e1, r⟩ := h; exact ⟨xs, e1, r.mono e⟩
  | ins C fs => obtain ⟨dx, xs, e1, r⟩ := h; exact ⟨dx, xs, e1, r.mono e⟩

/-- how many draws a deck may serve in all -/
def deckMax : Nat := 2 ^ 60
/-- the deck: its cells' list at a1, the mixed number, the number of draws made -/
structure DeckAt (F : Hp) (s : S) (G H : Hp) (a : Addr) (n : Nat) : Prop where
  ex : ∃ (a1 : Addr) (cells : List Int) (mixed : Int) (k : Nat), a ≠ a1 ∧ (G a = none ∧ F a = none) ∧ (G a1 = none ∧ F a1 = none) ∧ s.M a = none ∧ s.M a1 = none ∧
    H a = some (.lst [.ref a1, .int mixed, .int (k : Int)]) ∧ H a1 = some (.lst (cells.map V.int)) ∧ cells.length ≤ 63 ∧ 0 ≤ mixed ∧ mixed < 2147483587 ∧ k + n ≤ deckMax

/-- H holds what stands still (G), what others own (F), the deck and what may change -/
structure Own (K : PySem.W.Frag) (F : Hp) (s : S) (G H : Hp) : Prop where
  ex : Ex G H
  fr : ∀ p u, F p = some u → H p = some u ∧ G p = none ∧ s.M p = none
  mu : ∀ a m, s.M a = some m → G a = none ∧ ∃ o, H a = some o ∧ MRep K G m o
  dk : ∀ a n, s.dk = some (a, n) → DeckAt F s G H a n
/-- no deck's place -/
def NoDk (s : S) (H : Hp) (p : Addr) : Prop := ∀ a n, s.dk = some (a, n) → ∀ a1 mx k, H a = some (.lst [.ref a1, mx, k]) → p ≠ a ∧ p ≠ a1
section
variable {K : PySem.W.Frag} {F : Hp} {s : S} {G G' H H' : Hp}
/-- a new address is in nothing -/
theorem Own.freeM (o : Own K F s G H) {p : Addr} (h : H p = none) : s.M p = none := by
  cases q : s.M p with
  | none => rfl
  | some m =>
    obtain ⟨_, u, e, _⟩ := o.mu p m q
    rw [e] at h; cases h
theorem Own.freeG (o : Own K F s G H) {p : Addr} (h : H p = none) : G p = none := o.ex.free h
theorem Own.freeF (o : Own K F s G H) {p : Addr} (h : H p = none) : F p = none := by
  cases q : F p with
  | none => rfl
  | some u => rw [(o.fr p u q).1] at h; cases h
/-- a new object that stands still from now on -/
theorem Own.lay (o : Own K F s G H) {p : Addr} {u : HO} (h : H p = none) : Own K F s (upd G p u) (upd H p u) := by
  have hG := o.freeG h
  refine ⟨fun a v e => ?_, fun a v e => ?_, fun a m e => ?_, fun a n e => ?_⟩
  · by_cases ha : a = p
    · subst ha; rw [upd_same] at e ⊢; exact e
    · rw [upd_ne ha] at e ⊢; exact o.ex a v e
  · obtain ⟨h1, h2, h3⟩ := o.fr a v e
    have ha : a ≠ p := ne_of_none h1 h
    exact ⟨by rw [upd_ne ha]; exact h1, by rw [upd_ne ha]; exact h2, h3⟩
  · obtain ⟨g0, v, e1, r⟩ := o.mu a m e
    have ha : a ≠ p := ne_of_none e1 h
    exact ⟨by rw [upd_ne ha]; exact g0, v, by rw [upd_ne ha]; exact e1, r.mono (Ex.new hG)⟩
  · obtain ⟨a1, cells, mixed, k, h1, h2, h3, h4, h5, h6, h7, h8⟩ := (o.dk a n e).ex
    have ha : a ≠ p := ne_of_none h6 h
    have ha1 : a1 ≠ p := ne_of_none h7 h
    exact ⟨a1, cells, mixed, k, h1, by rw [upd_ne ha]; exact h2, by rw [upd_ne ha1]; exact h3, h4, h5, by rw [upd_ne ha]; exact h6, by rw [upd_ne ha1]; exact h7, h8⟩
/-- a new object that nothing knows yet -/
theorem Own.pass (o : Own K F s G H) {p : Addr} {u : HO} (h : H p = none) : Own K F s G (upd H p u) := by
  refine ⟨o.ex.trans (Ex.new h), fun a v e => ?_, fun a m e => ?_, fun a n e => ?_⟩
  · obtain ⟨h1, h2, h3⟩ := o.fr a v e
    exact ⟨by rw [upd_ne (ne_of_none h1 h)]; exact h1, h2, h3⟩
  · obtain ⟨g0, v, e1, r⟩ := o.mu a m e
    exact ⟨g0, v, by rw [upd_ne (ne_of_none e1 h)]; exact e1, r⟩
  · obtain ⟨a1, cells, mixed, k, h1, h2, h3, h4, h5, h6, h7, h8⟩ := (o.dk a n e).ex
    exact ⟨a1, cells, mixed, k, h1, h2, h3, h4, h5, by rw [upd_ne (ne_of_none h6 h)]; exact h6, by rw [upd_ne (ne_of_none h7 h)]; exact h7, h8⟩
/-- an object that nothing knows is another's from here on -/
theorem Own.lend (o : Own K F s G H) {p : Addr} {u : HO} (hp : H p = some u) (hG : G p = none) (hM : s.M p = none) (hd : NoDk s H p) : Own K (upd F p u) s G H := by
  refine ⟨o.ex, fun a v e => ?_, o.mu, fun a n e => ?_⟩
  · by_cases ha : a = p
    · subst ha; rw [upd_same] at e; cases e; exact ⟨hp, hG, hM⟩
    · rw [upd_ne ha] at e; exact o.fr a v e
  · obtain ⟨a1, cells, mixed, k, h1, h2, h3, h4, h5, h6, h7, h8⟩ := (o.dk a n e).ex
    obtain ⟨d1, d2⟩ := hd a n e _ _ _ h6
    exact ⟨a1, cells, mixed, k, h1, ⟨h2.1, by rw [upd_ne (Ne.symm d1)]; exact h2.2⟩, ⟨h3.1, by rw [upd_ne (Ne.symm d2)]; exact h3.2⟩, h4, h5, h6, h7, h8⟩
theorem Own.back (o : Own K F s G H) {F0 : Hp} (e : Ex F0 F) : Own K F0 s G H := by
  refine ⟨o.ex, fun a v q => o.fr a v (e a v q), o.mu, fun a n q => ?_⟩
  obtain ⟨a1, cells, mixed, k, h1, h2, h3, h4, h5, h6, h7, h8⟩ := (o.dk a n q).ex
  exact ⟨a1, cells, mixed, k, h1, ⟨h2.1, e.free h2.2⟩, ⟨h3.1, e.free h3.2⟩, h4, h5, h6, h7, h8⟩
/-- what is another's is no deck's place -/
theorem Own.noDk (o : Own K F s G H) {p : Addr} {u : HO} (hF : F p = some u) : NoDk s H p := fun a n e a1 mx k h => by
  obtain ⟨a1', cells, mixed, k', h1, h2, h3, h4, h5, h6, h7, h8⟩ := (o.dk a n e).ex
  rw [h6] at h; cases h
  exact ⟨(fun z => by rw [z, h2.2] at hF; cases hF), (fun z => by rw [z, h3.2] at hF; cases hF)⟩
/-- an object that nothing knows changes -/
theorem Own.turn (o : Own K F s G H) {p : Addr} {u : HO} (hF : F p = none) (hG : G p = none) (hM : s.M p = none) (hd : NoDk s H p) : Own K F s G (upd H p u) := by
  refine ⟨fun a v e => ?_, fun a v e => ?_, fun a m e => ?_, fun a n e => ?_⟩
  · rw [upd_ne (ne_of_none e hG)]; exact o.ex a v e
  · obtain ⟨h1, h2, h3⟩ := o.fr a v e
    exact ⟨by rw [upd_ne (ne_of_none e hF)]; exact h1, h2, h3⟩
  · obtain ⟨g0, v, e1, r⟩ := o.mu a m e
    refine ⟨g0, v, ?_, r⟩
    rw [upd_ne]
    · exact e1
    · rintro rfl; rw [hM] at e; cases e
  · obtain ⟨a1, cells, mixed, k, h1, h2, h3, h4, h5, h6, h7, h8⟩ := (o.dk a n e).ex
    obtain ⟨d1, d2⟩ := hd a n e _ _ _ h6
    exact ⟨a1, cells, mixed, k, h1, h2, h3, h4, h5, by rw [upd_ne (Ne.symm d1)]; exact h6, by rw [upd_ne (Ne.symm d2)]; exact h7, h8⟩
/-- what stands still grows by an object that nothing else knows -/
theorem Own.frz (o : Own K F s G H) {p : Addr} {u : HO} (hp : H p = some u) (hF : F p = none) (hG : G p = none) (hM : s.M p = none) (hd : NoDk s H p) : Own K F s (upd G p u) H := by
  refine ⟨fun a v e => ?_, fun a v e => ?_, fun a m e => ?_, fun a n e => ?_⟩
  · by_cases ha : a = p
    · subst ha; rw [upd_same] at e; cases e; exact hp
    · rw [upd_ne ha] at e; exact o.ex a v e
  · obtain ⟨h1, h2, h3⟩ := o.fr a v e
    exact ⟨h1, by rw [upd_ne (ne_of_none e hF)]; exact h2, h3⟩
  · obtain ⟨g0, v, e1, r⟩ := o.mu a m e
    refine ⟨?_, v, e1, r.mono (Ex.new hG)⟩
    rw [upd_ne]
    · exact g0
    · rintro rfl; rw [hM] at e; cases e
  · obtain ⟨a1, cells, mixed, k, h1, h2, h3, h4, h5, h6, h7, h8⟩ := (o.dk a n e).ex
    obtain ⟨d1, d2⟩ := hd a n e _ _ _ h6
    exact ⟨a1, cells, mixed, k, h1, by rw [upd_ne (Ne.symm d1)]; exact h2, by rw [upd_ne (Ne.symm d2)]; exact h3, h4, h5, h6, h7, h8⟩
end

/-! ### the slots -/
abbrev Dn := List (Option D)
structure EnvOk (K : PySem.W.Frag) (G : Hp) (δ : Dn) (σ : St) : Prop where
  len : δ.length = σ.length
  at_ : ∀ (i : Nat) (d : D), δ[i]? = some (some d) → ∃ v, σ[i]? = some (some v) ∧ Rep K G d v
section
variable {K : PySem.W.Frag} {G G' : Hp} {δ : Dn} {σ : St}
theorem EnvOk.mono (e : Ex G G') (h : EnvOk K G δ σ) : EnvOk K G' δ σ := ⟨h.len, fun i d q => let ⟨v, a, b⟩ := h.at_ i d q; ⟨v, a, b.mono e⟩⟩
theorem EnvOk.set (h : EnvOk K G δ σ) {i : Nat} {d : D} {v : V} (r : Rep K G d v) : EnvOk K G (δ.set i (some d)) (σ.set i (some v)) := by
  refine ⟨by rw [List.length_set, List.length_set]; exact h.len, fun j e q => ?_⟩
  by_cases hj : i = j
  · subst hj
    by_cases hl : i < δ.length
    · rw [List.getElem?_set_self hl] at q; cases q
      exact ⟨v, List.getElem?_set_self (by rw [← h.len]; exact hl), r⟩
    · rw [List.getElem?_eq_none (by rw [List.length_set]; omega)] at q; cases q
  · rw [List.getElem?_set_ne hj] at q
    obtain ⟨w, a, b⟩ := h.at_ j e q
    exact ⟨w, by rw [List.getElem?_set_ne hj]; exact a, b⟩
def wipeD (δ : Dn) : List Nat → Dn
  | [] => δ
  | v :: vs => (wipeD δ vs).set v none
theorem EnvOk.unset (h : EnvOk K G δ σ) (i : Nat) : EnvOk K G (δ.set i none) (σ.set i none) := by
  refine ⟨by rw [List.length_set, List.length_set]; exact h.len, fun j e q => ?_⟩
  by_cases hj : i = j
  · subst hj
    by_cases hl : i < δ.length
    · rw [List.getElem?_set_self hl] at q; cases q
    · rw [List.getElem?_eq_none (by rw [List.length_set]; omega)] at q; cases q
  · rw [List.getElem?_set_ne hj] at q ⊢
    exact h.at_ j e q
theorem EnvOk.wipe (h : EnvOk K G δ σ) : ∀ vs : List Nat, EnvOk K G (wipeD δ vs) (L2.wipe σ vs)
  | [] => h
  | v :: vs => (EnvOk.wipe h vs).unset v
/-- at a def's entry -/
def startD (N : List Str) (ds : List D) : Dn := ds.map some ++ List.replicate (N.length - ds.length) none
theorem EnvOk.start {N : List Str} {ds : List D} {vs : List V} (r : RepL K G ds vs) : EnvOk K G (startD N ds) (L2.start N vs) := by
  have hl := r.length
  refine ⟨by simp [startD, L2.start, hl], fun i d q => ?_⟩
  unfold startD at q
  unfold L2.start
  by_cases hi : i < ds.length
  · rw [List.getElem?_append_left (by simpa using hi), List.getElem?_map] at q
    cases e : ds[i]? with
    | none => rw [e] at q; cases q
    | some d' =>
      rw [e] at q; cases q
      obtain ⟨v, hv, rv⟩ := r.get e
      exact ⟨v, by rw [List.getElem?_append_left (by simp; omega), List.getElem?_map, hv]; rfl, rv⟩
  · rw [List.getElem?_append_right (by simpa using hi), List.getElem?_replicate] at q
    split at q <;> cases q
end

/-! ### readings over data -/
abbrev DK := D → S → Prop
abbrev WE := Dn → S → DK → Prop
abbrev WT := Dn → S → (Bool → S → Prop) → Prop
abbrev WA := Dn → S → (List D → S → Prop) → Prop
/-- behind an expression -/
def Ret (K : PySem.W.Frag) (F G : Hp) (P : DK) (Q : VK) : Prop := ∀ d s', P d s' → ∀ G' H' v, Ex G G' → Own K F s' G' H' → Rep K G' d v → Q v H'
def RetT (K : PySem.W.Frag) (F G : Hp) (P : Bool → S → Prop) (Q : Bool → Hp → Prop) : Prop := ∀ b s', P b s' → ∀ G' H', Ex G G' → Own K F s' G' H' → Q b H'
def RetA (K : PySem.W.Frag) (n : Nat) (F G : Hp) (P : List D → S → Prop) (Q : List V → Hp → Prop) : Prop := ∀ ds s', P ds s' → ds.length = n → ∀ G' H' vs, Ex G G' → Own K F s' G' H' → RepL K G' ds vs → Q vs H'
/-- behind an expression that made a list of its own -/
def RetL (K : PySem.W.Frag) (F G : Hp) (P : List D → S → Prop) (Q : VK) : Prop := ∀ ds s', P ds s' → ∀ G' H' p xs, Ex G G' → Own K F s' G' H' → H' p = none → RepL K G' ds xs → Q (.ref p) (upd H' p (.lst xs))
section
variable {K : PySem.W.Frag} {F G G' : Hp}
theorem Ret.mono {P : DK} {Q : VK} (e : Ex G G') (h : Ret K F G P Q) : Ret K F G' P Q := fun d s' p G2 H' v e2 => h d s' p G2 H' v (e.trans e2)
theorem RetT.mono {P : Bool → S → Prop} {Q : Bool → Hp → Prop} (e : Ex G G') (h : RetT K F G P Q) : RetT K F G' P Q := fun d s' p G2 H' e2 => h d s' p G2 H' (e.trans e2)
theorem RetA.mono {n : Nat} {P : List D → S → Prop} {Q : List V → Hp → Prop} (e : Ex G G') (h : RetA K n F G P Q) : RetA K n F G' P Q := fun d s' p l G2 H' v e2 => h d s' p l G2 H' v (e.trans e2)
theorem RetL.mono {P : List D → S → Prop} {Q : VK} (e : Ex G G') (h : RetL K F G P Q) : RetL K F G' P Q := fun d s' p G2 H' v xs e2 => h d s' p G2 H' v xs (e.trans e2)
end
def lE (K : PySem.W.Frag) (w : WE) : TE := fun σ H Q => ∃ F G δ s P, EnvOk K G δ σ ∧ Own K F s G H ∧ w δ s P ∧ Ret K F G P Q
def lT (K : PySem.W.Frag) (w : WT) : TT := fun σ H Q => ∃ F G δ s P, EnvOk K G δ σ ∧ Own K F s G H ∧ w δ s P ∧ RetT K F G P Q
def lA (K : PySem.W.Frag) (n : Nat) (w : WA) : TA := fun σ H Q => ∃ F G δ s P, EnvOk K G δ σ ∧ Own K F s G H ∧ w δ s P ∧ RetA K n F G P Q
def lL (K : PySem.W.Frag) (w : WA) : TE := fun σ H Q => ∃ F G δ s P, EnvOk K G δ σ ∧ Own K F s G H ∧ w δ s P ∧ RetL K F G P Q

theorem PE.imp {X : Cx} {e : Expr} {t t' : TE} (h : PE X e t) (i : ∀ σ H Q, t' σ H Q → t σ H Q) : PE X e t' := ⟨fun pins s σ H Q I q => h.run pins s σ H Q I (i σ H Q q)⟩
theorem PT.imp {X : Cx} {e : Expr} {t t' : TT} (h : PT X e t) (i : ∀ σ H Q, t' σ H Q → t σ H Q) : PT X e t' := ⟨fun pins s σ H Q I q => h.run pins s σ H Q I (i σ H Q q)⟩
theorem PA.imp {X : Cx} {e : List Expr} {t t' : TA} (h : PA X e t) (i : ∀ σ H Q, t' σ H Q → t σ H Q) : PA X e t' := ⟨fun pos pins s σ H Q I q => h.run pos pins s σ H Q I (i σ H Q q)⟩
theorem PS.imp {X : Cx} {e : Stmt} {t t' : TS} (h : PS X e t) (i : ∀ D σ H, t' D σ H → t D σ H) : PS X e t' := ⟨fun pins s σ H D I q => h.run pins s σ H D I (i D σ H q)⟩
theorem PSs.imp {X : Cx} {e : List Stmt} {t t' : TS} (h : PSs X e t) (i : ∀ D σ H, t' D σ H → t D σ H) : PSs X e t' := ⟨fun pins s σ H D I q => h.run pins s σ H D I (i D σ H q)⟩

abbrev DE (X : Cx) (e : Expr) (w : WE) : Prop := PE X e (lE X.K w)
abbrev DT (X : Cx) (e : Expr) (w : WT) : Prop := PT X e (lT X.K w)
/-- an argument list of n expressions -/
abbrev DA (X : Cx) (es : List Expr) (n : Nat) (w : WA) : Prop := PA X es (lA X.K n w)
/-- an expression that makes a list of its own -/
abbrev DEL (X : Cx) (e : Expr) (w : WA) : Prop := PE X e (lL X.K w)

/-! ### names, constants -/
section
variable {X : Cx} {e a b : Expr} {pos : Pos}
def wVar (i : Nat) : WE := fun δ s P => match δ[i]? with
  | some (some d) => P d s
  | _ => False
def wC (d : D) : WE := fun _ s P => P d s
theorem dvar (i : Nat) {x : Str} {pos : Pos} (hN : X.N[i]? = some x := by rfl) (hv : Vis X.env.scope x := by first | exact Or.inl rfl | exact Or.inr (Or.inl rfl) | exact Or.inr (Or.inr rfl)) (hd : (x == ("__debug__" : Str)) = false := by decide)
    (hcd : (x == ("__classdict__" : Str)) = false := by decide) : DE X (.Name x pos) (wVar i) := by
  refine PE.imp (pe_var hN hv hd hcd) fun σ H Q ⟨F, G, δ, s, P, e, o, h, q⟩ => ?_
  unfold wVar at h
  split at h
  · rename_i d hd
    obtain ⟨v, hv, r⟩ := e.at_ i d hd
    exact ⟨v, hv, q d s h G H v (Ex.refl G) o r⟩
  · exact h.elim
theorem dcon {v : V} {d : D} (h : PE X e (tC v)) (r : ∀ G, Rep X.K G d v) : DE X e (wC d) :=
  PE.imp h fun _ H _ ⟨F, G, _, s, _, _, o, h, q⟩ => q d s h G H v (Ex.refl G) o (r G)
theorem dint {i j pos} : DE X (.Constant (.int i) j pos) (wC (.int i)) := dcon pe_int fun _ => .int i
theorem dbl {b j pos} : DE X (.Constant (.bool b) j pos) (wC (.bl b)) := dcon pe_bl fun _ => .bl b
theorem dnon {j pos} : DE X (.Constant .none j pos) (wC .non) := dcon pe_non fun _ => .non
theorem dstr {x j pos} : DE X (.Constant (.str x) j pos) (wC (.str x)) := dcon pe_str fun _ => .str x
end
end DL

set_option Elab.async false
set_option linter.all false
set_option autoImplicit false
set_option maxRecDepth 100000
set_option maxHeartbeats 2000000
namespace DL
open PySem L2
open Evl (Ex)

/-! ### data as the library knows it -/
mutual
def D.py : D → PyData
  | .non => .none
  | .bl b => .bool b
  | .int i => .int i
  | .str x => .str x
  | .tup ds => .tuple (D.pys ds)
  | .tpw ds => .tuple (D.pys ds)
  | .lst ds => .list (D.pys ds)
  | .lsk _ => .none
  | .ref _ => .none
  | .ty _ => .none
def D.pys : List D → List PyData
  | [] => []
  | d :: ds => d.py :: D.pys ds
end
mutual
/-- no address within -/
def D.isData : D → Bool
  | .tup ds => D.allData ds
  | .tpw ds => D.allData ds
  | .lst ds => D.allData ds
  | .ref _ => false
  | .ty _ => false
  | .lsk _ => false
  | _ => true
def D.allData : List D → Bool
  | [] => true
  | d :: ds => d.isData && D.allData ds
end
def D.eq (x y : D) : Bool := PyData.eqv x.py y.py
def D.depth (x : D) : Nat := x.py.depth
theorem pys_map (ds : List D) : D.pys ds = ds.map D.py := by
  induction ds with
  | nil => rfl
  | cons d ds ih => rw [D.pys, ih]; rfl
theorem allData_all (ds : List D) : D.allData ds = ds.all D.isData := by
  induction ds with
  | nil => rfl
  | cons d ds ih => rw [D.allData, ih]; rfl
mutual
theorem py_plain : ∀ d : D, d.py.plain = true
  | .non => rfl
  | .bl _ => rfl
  | .int _ => rfl
  | .str _ => rfl
  | .tup ds => by show PyData.plainAll (D.pys ds) = true; exact pys_plain ds
  | .tpw ds => by show PyData.plainAll (D.pys ds) = true; exact pys_plain ds
  | .lst ds => by show PyData.plainAll (D.pys ds) = true; exact pys_plain ds
  | .lsk _ => rfl
  | .ref _ => rfl
  | .ty _ => rfl
theorem pys_plain : ∀ ds : List D, PyData.plainAll (D.pys ds) = true
  | [] => rfl
  | d :: ds => by
    show (d.py.plain && PyData.plainAll (D.pys ds)) = true
    rw [py_plain d, pys_plain ds]; rfl
end
section
variable {K : PySem.W.Frag} {G : Hp}
mutual
theorem Rep.dp : ∀ {d : D} {v : V}, Rep K G d v → d.isData = true → Dp K G v d.py
  | _, _, .non, _ => .non
  | _, _, .bl b, _ => .bl b
  | _, _, .int i, _ => .int i
  | _, _, .str x, _ => .str x
  | _, _, .tup h r, e => .tup h.sq (RepL.dp r e)
  | _, _, .tpw h r, e => .tup h (RepL.dp r e)
  | _, _, .lst h r, e => .lst (.of h) (RepL.dp r e)
  | _, _, .lsk _ _, e => nomatch e
  | _, _, .ref a, e => nomatch e
  | _, _, .ty n, e => nomatch e
theorem RepL.dp : ∀ {ds : List D} {vs : List V}, RepL K G ds vs → D.allData ds = true → DpAll K G vs (D.pys ds)
  | _, _, .nil, _ => .nil
  | _, _, .cons h r, e => by
    have e' : _ ∧ _ := Bool.and_eq_true_iff.mp e
    exact .cons (Rep.dp h e'.1) (RepL.dp r e'.2)
end
end

/-! ### a list that may change, seen as data -/
def view (s : S) (d : D) : D := match d with
  | .ref a => match s.M a with
    | some (.lst ds) => .lst ds
    | _ => .ref a
  | d => d
section
variable {K : PySem.W.Frag} {F : Hp} {s : S} {G G' H : Hp}
theorem Own.seen (o : Own K F s G H) {d : D} {v : V} (r : Rep K G d v) : Rep K H (view s d) v := by
  cases r with
  | ref a =>
    unfold DL.view
    cases q : s.M a with
    | none => simp only [q]; exact .ref a
    | some m => cases m with
      | lst ds =>
        simp only [q]
        obtain ⟨_, u, e, xs, rfl, r⟩ := o.mu a _ q
        exact .lst e (r.mono o.ex)
      | ins C fs => simp only [q]; exact .ref a
  | non => exact .non
  | bl b => exact .bl b
  | int i => exact .int i
  | str x => exact .str x
  | tup h r => exact .tup (h.mono o.ex) (r.mono o.ex)
  | tpw h r => exact .tpw (ex_t o.ex h) (r.mono o.ex)
  | lst h r => exact .lst (o.ex _ _ h) (r.mono o.ex)
  | lsk h r => exact .lsk (Evl.ex_l o.ex h) (r.mono o.ex)
  | ty n => exact .ty n
/-- the items stand still -/
theorem Own.seqL (o : Own K F s G H) {d : D} {v : V} {ds : List D} (r : Rep K G d v) (e : view s d = .lst ds) : ∃ a xs, v = .ref a ∧ H a = some (.lst xs) ∧ RepL K G ds xs := by
  cases r with
  | ref a =>
    unfold DL.view at e
    cases q : s.M a with
    | none => simp only [q] at e; cases e
    | some m => cases m with
      | lst ds' =>
        simp only [q] at e
        cases e
        obtain ⟨_, u, e, xs, rfl, r⟩ := o.mu a _ q
        exact ⟨a, xs, rfl, e, r⟩
      | ins C fs => simp only [q] at e; cases e
  | lst h r => cases e; exact ⟨_, _, rfl, o.ex _ _ h, r⟩
  | _ => cases e
theorem Rep.seqT {d : D} {v : V} {ds : List D} (r : Rep K G d v) (e : d = .tup ds ∨ d = .tpw ds) : ∃ a xs, v = .ref a ∧ SqT K G a xs ∧ RepL K G ds xs := by
  rcases e with rfl | rfl
  · cases r with
    | tup h r => exact ⟨_, _, rfl, h.sq, r⟩
  · cases r with
    | tpw h r => exact ⟨_, _, rfl, h, r⟩
theorem view_tup {d : D} {ds : List D} (e : view s d = .tup ds) : d = .tup ds := by
  cases d with
  | ref a =>
    unfold DL.view at e
    cases q : s.M a with
    | none => simp only [q] at e; cases e
    | some m => cases m with
      | lst _ => simp only [q] at e; cases e
      | ins _ _ => simp only [q] at e; cases e
  | _ => exact e
theorem view_tpw {d : D} {ds : List D} (e : view s d = .tpw ds) : d = .tpw ds := by
  cases d with
  | ref a =>
    unfold DL.view at e
    cases q : s.M a with
    | none => simp only [q] at e; cases e
    | some m => cases m with
      | lst _ => simp only [q] at e; cases e
      | ins _ _ => simp only [q] at e; cases e
  | _ => exact e
/-- a sequence of items that are looked at -/
def seqD (s : S) (d : D) : Option (List D) := match view s d with
  | .lst ds => some ds
  | .tup ds => some ds
  | .tpw ds => some ds
  | _ => none
theorem Own.seq (o : Own K F s G H) {d : D} {v : V} {ds : List D} (r : Rep K G d v) (e : seqD s d = some ds) : ∃ a xs, v = .ref a ∧ (SqL K H a xs ∨ SqT K H a xs) ∧ RepL K G ds xs := by
  unfold seqD at e
  cases q : DL.view s d with
  | lst ds' =>
    simp only [q] at e; cases e
    obtain ⟨a, xs, e1, e2, r'⟩ := o.seqL r q
    exact ⟨a, xs, e1, .inl (.of e2), r'⟩
  | tup ds' =>
    simp only [q] at e; cases e
    obtain ⟨a, xs, e1, e2, r'⟩ := r.seqT (.inl (view_tup q))
    exact ⟨a, xs, e1, .inr (ex_t o.ex e2), r'⟩
  | tpw ds' =>
    simp only [q] at e; cases e
    obtain ⟨a, xs, e1, e2, r'⟩ := r.seqT (.inr (view_tpw q))
    exact ⟨a, xs, e1, .inr (ex_t o.ex e2), r'⟩
  | _ => simp only [q] at e; cases e
end

/-! ### behind: short words -/
section
variable {K : PySem.W.Frag} {F : Hp} {s : S} {G G' H : Hp} {P : DK} {Q : VK}
theorem Ret.val (q : Ret K F G P Q) (o : Own K F s G H) {d : D} {v : V} (h : P d s) (r : Rep K G d v) : Q v H := q d s h G H v (Ex.refl G) o r
theorem Ret.newL (q : Ret K F G P Q) (o : Own K F s G H) {ds : List D} {xs : List V} (h : P (.lst ds) s) (r : RepL K G ds xs) {p : Addr} (hp : H p = none) : Q (.ref p) (upd H p (.lst xs)) := by
  have e := Ex.new (o := .lst xs) (o.freeG hp)
  exact q _ s h _ _ _ e (o.lay hp) (.lst upd_same (r.mono e))
theorem Ret.newT (q : Ret K F G P Q) (o : Own K F s G H) {ds : List D} {xs : List V} (h : P (.tup ds) s) (r : RepL K G ds xs) {p : Addr} {ob : Obj} (hd : ob.dict = none) (hp : H p = none) : Q (.ref p) (upd H p (.frz ob (.tup xs))) := by
  have e := Ex.new (o := .frz ob (.tup xs)) (o.freeG hp)
  exact q _ s h _ _ _ e (o.lay hp) (.tup (.inl ⟨ob, hd, upd_same⟩) (r.mono e))
theorem Ret.newW (q : Ret K F G P Q) (o : Own K F s G H) {ds : List D} {xs : List V} (h : P (.tpw ds) s) (r : RepL K G ds xs) {p : Addr} (hp : H p = none) : Q (.ref p) (upd H p (.tup xs)) := by
  have e := Ex.new (o := .tup xs) (o.freeG hp)
  exact q _ s h _ _ _ e (o.lay hp) (.tpw (.of upd_same) (r.mono e))
end

/-! ### argument lists, displays -/
def wNil : WA := fun _ s P => P [] s
def wCons (w : WE) (r : WA) : WA := fun δ s P => w δ s fun d s1 => r δ s1 fun ds s2 => P (d :: ds) s2
def wTup (w : WA) : WE := fun δ s P => w δ s fun ds s1 => P (.tup ds) s1
/-- a new list as a value that stands still from now on -/
def wFz (w : WA) : WE := fun δ s P => w δ s fun ds s1 => P (.lst ds) s1
section
variable {X : Cx} {e a b : Expr} {es : List Expr} {n : Nat} {pos : Pos} {w wa wb : WE} {wr : WA}
theorem da_nil : DA X [] 0 wNil := PA.imp pa_nil fun _ H _ ⟨F, G, _, s, _, _, o, h, q⟩ => q [] s h rfl G H [] (Ex.refl G) o .nil
theorem da_cons (ha : DE X e w) (hr : DA X es n wr) (hs : starEach (e :: es) X.env = (false, eval e X.env) :: starEach es X.env := by rfl) : DA X (e :: es) (n + 1) (wCons w wr) :=
  PA.imp (pa_cons ha hr hs) fun σ H Q ⟨F, G, δ, s, P, en, o, h, q⟩ => ⟨F, G, δ, s, _, en, o, h, fun d s1 h1 G1 H1 v e1 o1 r1 =>
    ⟨F, G1, δ, s1, _, en.mono e1, o1, h1, fun ds s2 h2 hl G2 H2 vs e2 o2 r2 => q _ s2 h2 (by rw [List.length_cons, hl]) G2 H2 _ (e1.trans e2) o2 (.cons (r1.mono e2) r2)⟩⟩
/-- (a, b): a tuple whose object is known -/
theorem pe_tupF {x1} {t : TA} (h : PA X es t) : PE X (.Tuple es x1 pos) (fun σ H Q => t σ H fun xs H1 => xs.length ≤ sizeLine ∧ ∀ p (o : Obj), H1 p = none → o.dict = none → Q (.ref p) (upd H1 p (.frz o (.tup xs)))) := by
  refine ⟨fun pins s σ H Q I hq => ?_⟩
  refine wpAny_Tuple_spliced (thn (h.run pos pins s σ H _ I hq) fun us s1 ⟨xs, H1, I1, r, z, q⟩ => ⟨by rw [← r.length]; exact z, ?_⟩)
  have hf : H1 s1.heap.objs.size = none := I1.hok.fresh (Nat.le_refl _)
  refine ⟨.ref s1.heap.objs.size, upd H1 s1.heap.objs.size (.frz { cls := .type "tuple", data := .seq us.toArray } (.tup xs)), I1.laid (t' := s1.toks) (fun b u e => Heap.get?_push_of_some _ e) (Nat.le_refl _) ?_, rfl, q _ { cls := .type "tuple", data := .seq us.toArray } hf rfl⟩
  exact ⟨Heap.get?_push_size _ rfl, z, us, r, ⟨_, Heap.get?_push_size _ rfl, rfl, _, rfl⟩⟩
theorem de_tup {x1} (h : DA X es n wr) (hn : n ≤ sizeLine := by decide) : DE X (.Tuple es x1 pos) (wTup wr) :=
  PE.imp (pe_tupF h) fun σ H Q ⟨F, G, δ, s, P, en, o, hw, q⟩ => ⟨F, G, δ, s, _, en, o, hw, fun ds s1 h1 hl G1 H1 vs e1 o1 r1 =>
    ⟨by rw [← r1.length, hl]; exact hn, fun p ob hp hd => (q.mono e1).newT o1 h1 r1 hd hp⟩⟩
theorem del_lst (h : DA X es n wr) (hn : n ≤ sizeLine := by decide) : DEL X (.List es pos) wr :=
  PE.imp (pe_lst h) fun σ H Q ⟨F, G, δ, s, P, en, o, hw, q⟩ => ⟨F, G, δ, s, _, en, o, hw, fun ds s1 h1 hl G1 H1 vs e1 o1 r1 =>
    ⟨by rw [← r1.length, hl]; exact hn, fun p hp => q ds s1 h1 G1 H1 p vs e1 o1 hp r1⟩⟩
theorem de_fz (h : DEL X e wr) : DE X e (wFz wr) :=
  PE.imp h fun σ H Q ⟨F, G, δ, s, P, en, o, hw, q⟩ => ⟨F, G, δ, s, _, en, o, hw, fun ds s1 h1 G1 H1 p xs e1 o1 hp r1 => (q.mono e1).newL o1 h1 r1 hp⟩
end

/-! ### operations on values -/
abbrev R2D := D → D → S → DK → Prop
def lO (K : PySem.W.Frag) (r : R2D) : R2 := fun x y H Q => ∃ F G s d e P, Own K F s G H ∧ Rep K G d x ∧ Rep K G e y ∧ r d e s P ∧ Ret K F G P Q
abbrev OpD (X : Cx) (f : Value → Value → Sem Value) (r : R2D) : Prop := OpR X f (lO X.K r)
def wOp (r : R2D) (wa wb : WE) : WE := fun δ s P => wa δ s fun d s1 => wb δ s1 fun e s2 => r d e s2 P
theorem lE_op {K : PySem.W.Frag} {r : R2D} {wa wb : WE} {σ : St} {H : Hp} {Q : VK} (h : lE K (wOp r wa wb) σ H Q) : tOp (lO K r) (lE K wa) (lE K wb) σ H Q := by
  obtain ⟨F, G, δ, s, P, en, o, hw, q⟩ := h
  exact ⟨F, G, δ, s, _, en, o, hw, fun d s1 h1 G1 H1 v e1 o1 r1 => ⟨F, G1, δ, s1, _, en.mono e1, o1, h1, fun e s2 h2 G2 H2 u e2 o2 r2 =>
    ⟨F, G2, s2, d, e, P, o2, r1.mono e2, r2, h2, q.mono (e1.trans e2)⟩⟩⟩
section
variable {X : Cx} {a b : Expr} {pos : Pos} {wa wb : WE} {r : R2D}
theorem de_op {op : Operator} (ho : OpD X (binaryOp op) r) (ha : DE X a wa) (hb : DE X b wb) : DE X (.BinOp a op b pos) (wOp r wa wb) := PE.imp (pe_op ho ha hb) fun _ _ _ h => lE_op h
theorem de_cmp {op : CmpOp} (ho : OpD X (compareOp op) r) (ha : DE X a wa) (hb : DE X b wb) (hm : behindInMarks op b = false) : DE X (.Compare a [op] [b] pos) (wOp r wa wb) := PE.imp (pe_cmpR ho ha hb hm) fun _ _ _ h => lE_op h
theorem de_ix (ho : IxR X (lO X.K r)) (ha : DE X a wa) (hb : DE X b wb) (hs : PlainIx b) : DE X (.Subscript a b pos) (wOp r wa wb) := PE.imp (pe_ix ho ha hb hs) fun _ _ _ h => lE_op h
end

/-- two ints, under C -/
def roI (C : Int → Int → Prop) (g : Int → Int → D) : R2D := fun x y s P => match x, y with
  | .int i, .int j => C i j ∧ P (g i j) s
  | _, _ => False
section
variable {X : Cx}
theorem OpD.ints {f : Value → Value → Sem Value} {C : Int → Int → Prop} {g : Int → Int → Int} (h : OpR X f (rI C fun i j => .int (g i j))) : OpD X f (roI C fun i j => .int (g i j)) := by
  intro pins s σ H x y v u Q I rx ry ⟨F, G, s', d, e, P, o, rd, re, hw, q⟩
  cases rd <;> cases re <;> first | exact hw.elim | skip
  exact h pins s σ H _ _ v u Q I rx ry ⟨_, _, rfl, rfl, hw.1, q.val o hw.2 (.int _)⟩
theorem OpD.intsB {f : Value → Value → Sem Value} {C : Int → Int → Prop} {g : Int → Int → Bool} (h : OpR X f (rI C fun i j => .bl (g i j))) : OpD X f (roI C fun i j => .bl (g i j)) := by
  intro pins s σ H x y v u Q I rx ry ⟨F, G, s', d, e, P, o, rd, re, hw, q⟩
  cases rd <;> cases re <;> first | exact hw.elim | skip
  exact h pins s σ H _ _ v u Q I rx ry ⟨_, _, rfl, rfl, hw.1, q.val o hw.2 (.bl _)⟩
theorem rI0_of {f : Value → Value → Sem Value} {g : Int → Int → V} (h : OpR X f (rI0 g)) : OpR X f (rI (fun _ _ => True) g) := by
  intro pins s σ H x y v u Q I rx ry ⟨i, j, e1, e2, _, q⟩
  exact h pins s σ H x y v u Q I rx ry ⟨i, j, e1, e2, q⟩
abbrev roSub : R2D := roI (fun _ _ => True) fun i j => .int (i - j)
abbrev roMod : R2D := roI (fun _ j => j ≠ 0) fun i j => .int (i.fmod j)
abbrev roFdiv : R2D := roI CDivN fun i j => .int (i.fdiv j)
abbrev roPow : R2D := roI CPow fun i j => .int (i ^ j.toNat)
theorem od_sub : OpD X (binaryOp .Sub) roSub := OpD.ints (g := fun i j => i - j) (rI0_of op_sub)
theorem od_mod : OpD X (binaryOp .Mod) roMod := OpD.ints (g := fun i j => i.fmod j) op_modN
theorem od_fdiv : OpD X (binaryOp .FloorDiv) roFdiv := OpD.ints (g := fun i j => i.fdiv j) op_fdivN
theorem od_pow : OpD X (binaryOp .Pow) roPow := OpD.ints (g := fun i j => i ^ j.toNat) op_pow
/-- +: ints, texts, lists (a new one), tuples -/
def roAdd : R2D := fun x y s P => match view s x, view s y with
  | .int i, .int j => P (.int (i + j)) s
  | .str i, .str j => i.length + j.length ≤ sizeLine ∧ P (.str (i ++ j)) s
  | .lst xs, .lst ys => xs.length + ys.length ≤ sizeLine ∧ P (.lst (xs ++ ys)) s
  | _, _ => False
theorem od_add : OpD X (binaryOp .Add) roAdd := by
  intro pins s σ H x y v u Q I rx ry ⟨F, G, s', d, e, P, o, rd, re, hw, q⟩
  have vd := o.seen rd
  have ve := o.seen re
  unfold roAdd at hw
  cases qd : view s' d <;> cases qe : view s' e <;> simp only [qd, qe] at hw <;> first | exact hw.elim | skip
  · rw [qd] at vd; rw [qe] at ve
    cases vd; cases ve
    exact op_add pins s σ H _ _ v u Q I rx ry ⟨_, _, rfl, rfl, q.val o hw (.int _)⟩
  · rw [qd] at vd; rw [qe] at ve
    cases vd; cases ve
    exact op_add_str pins s σ H _ _ v u Q I rx ry ⟨_, _, rfl, rfl, hw.1, q.val o hw.2 (.str _)⟩
  · obtain ⟨p, xs, rfl, h1, r1⟩ := o.seqL rd qd
    obtain ⟨p2, ys, rfl, h2, r2⟩ := o.seqL re qe
    exact op_cat pins s σ H _ _ v u Q I rx ry ⟨p, p2, xs, ys, rfl, rfl, h1, h2, by rw [← r1.length, ← r2.length]; exact hw.1, fun a ha => q.newL o hw.2 (r1.append r2) ha⟩
/-- *: ints (one of them below 2^64), a list as often -/
def roMul : R2D := fun x y s P => match view s x, y with
  | .int i, .int j => CMul i j ∧ P (.int (i * j)) s
  | .lst xs, .int k => (-(2 ^ 63) ≤ k ∧ k < 2 ^ 63 ∧ xs.length * k.toNat ≤ sizeLine) ∧ P (.lst (List.replicate k.toNat xs).flatten) s
  | _, _ => False
theorem od_mul : OpD X (binaryOp .Mult) roMul := by
  intro pins s σ H x y v u Q I rx ry ⟨F, G, s', d, e, P, o, rd, re, hw, q⟩
  have vd := o.seen rd
  unfold roMul at hw
  cases qd : view s' d <;> cases re <;> simp only [qd] at hw <;> first | exact hw.elim | skip
  · rw [qd] at vd
    cases vd
    exact op_mul pins s σ H _ _ v u Q I rx ry ⟨_, _, rfl, rfl, hw.1, q.val o hw.2 (.int _)⟩
  · obtain ⟨p, xs, rfl, h1, r1⟩ := o.seqL rd qd
    refine op_rep pins s σ H _ _ v u Q I rx ry ⟨p, _, xs, rfl, rfl, h1, hw.1.1, hw.1.2.1, by rw [← r1.length]; exact hw.1.2.2, fun a ha => q.newL o hw.2 (r1.rep _) ha⟩

/-! ### comparisons -/
def roLt : R2D := fun x y s P => match x, y with
  | .int i, .int j => P (.bl (decide (i < j))) s
  | .str i, .str j => P (.bl (decide (i.cps.toList < j.cps.toList))) s
  | _, _ => False
theorem od_lt : OpD X (compareOp .Lt) roLt := by
  intro pins s σ H x y v u Q I rx ry ⟨F, G, s', d, e, P, o, rd, re, hw, q⟩
  cases rd <;> cases re <;> first | exact hw.elim | skip
  · exact op_lt pins s σ H _ _ v u Q I rx ry ⟨_, _, rfl, rfl, q.val o hw (.bl _)⟩
  · exact op_lt_str pins s σ H _ _ v u Q I rx ry ⟨_, _, rfl, rfl, q.val o hw (.bl _)⟩
def roLe : R2D := fun x y s P => match x, y with
  | .int i, .int j => P (.bl (decide (i ≤ j))) s
  | .str i, .str j => P (.bl (!decide (j.cps.toList < i.cps.toList))) s
  | _, _ => False
abbrev roGt : R2D := roI (fun _ _ => True) fun i j => .bl (decide (j < i))
abbrev roGe : R2D := roI (fun _ _ => True) fun i j => .bl (decide (j ≤ i))
theorem od_gt : OpD X (compareOp .Gt) roGt := OpD.intsB (g := fun i j => decide (j < i)) (rI0_of op_gt)
theorem od_ge : OpD X (compareOp .GtE) roGe := OpD.intsB (g := fun i j => decide (j ≤ i)) (rI0_of op_ge)
/-- x is None -/
def roIs : R2D := fun x y s P => match y with
  | .non => P (.bl (match x with | .non => true | _ => false)) s
  | _ => False
def roIsNot : R2D := fun x y s P => match y with
  | .non => P (.bl (match x with | .non => false | _ => true)) s
  | _ => False
theorem od_is : OpD X (compareOp .Is) roIs := by
  intro pins s σ H x y v u Q I rx ry ⟨F, G, s', d, e, P, o, rd, re, hw, q⟩
  cases re <;> first | exact hw.elim | skip
  refine op_isN pins s σ H _ _ v u Q I rx ry ⟨rfl, ?_⟩
  cases rd <;> exact q.val o hw (.bl _)
theorem od_isnot : OpD X (compareOp .IsNot) roIsNot := by
  intro pins s σ H x y v u Q I rx ry ⟨F, G, s', d, e, P, o, rd, re, hw, q⟩
  cases re <;> first | exact hw.elim | skip
  refine op_notN pins s σ H _ _ v u Q I rx ry ⟨rfl, ?_⟩
  cases rd <;> exact q.val o hw (.bl _)
/-- ==, !=: data without addresses, one of them at most 60 deep -/
def EqOk (x y : D) : Prop := x.isData = true ∧ y.isData = true ∧ min x.depth y.depth ≤ 60
def roEq : R2D := fun x y s P => EqOk (view s x) (view s y) ∧ P (.bl (D.eq (view s x) (view s y))) s
def roNe : R2D := fun x y s P => EqOk (view s x) (view s y) ∧ P (.bl (!D.eq (view s x) (view s y))) s
theorem od_eq (hu : X.A.units + 64 < cLine) : OpD X (compareOp .Eq) roEq := by
  intro pins s σ H x y v u Q I rx ry ⟨F, G, s', d, e, P, o, rd, re, ⟨⟨h1, h2, h3⟩, hw⟩, q⟩
  obtain ⟨as, r1⟩ := Dp.reads I _ _ _ ((o.seen rd).dp h1) rx
  obtain ⟨bs, r2⟩ := Dp.reads I _ _ _ ((o.seen re).dp h2) ry
  exact SeqAt.eq_plain r1 r2 (py_plain _) (py_plain _) (Nat.lt_of_le_of_lt (Nat.add_le_add_left h3 _) (by omega)) ⟨.bl _, H, I, rfl, q.val o hw (.bl _)⟩
theorem od_ne (hu : X.A.units + 64 < cLine) : OpD X (compareOp .NotEq) roNe := by
  intro pins s σ H x y v u Q I rx ry ⟨F, G, s', d, e, P, o, rd, re, ⟨⟨h1, h2, h3⟩, hw⟩, q⟩
  obtain ⟨as, r1⟩ := Dp.reads I _ _ _ ((o.seen rd).dp h1) rx
  obtain ⟨bs, r2⟩ := Dp.reads I _ _ _ ((o.seen re).dp h2) ry
  exact SeqAt.ne_plain r1 r2 (py_plain _) (py_plain _) (Nat.lt_of_le_of_lt (Nat.add_le_add_left h3 _) (by omega)) ⟨.bl _, H, I, rfl, q.val o hw (.bl _)⟩
end
end DL

set_option Elab.async false
set_option linter.all false
set_option autoImplicit false
set_option maxRecDepth 100000
set_option maxHeartbeats 2000000
namespace DL
open PySem L2
open Evl (Ex)

/-! ### tests -/
/-- a truth value told -/
def wTst (w : WE) : WT := fun δ s P => w δ s fun d s1 => match d with
  | .bl b => P b s1
  | _ => False
/-- the truth of any value -/
def wTru (w : WE) : WT := fun δ s P => w δ s fun d s1 => match view s1 d with
  | .bl b => P b s1
  | .non => P false s1
  | .int i => P (i != 0) s1
  | .str x => x.length ≤ sizeLine ∧ P ((x.length : Int) != 0) s1
  | .lst ds => P (!ds.isEmpty) s1
  | .tup ds => P (!ds.isEmpty) s1
  | .tpw ds => P (!ds.isEmpty) s1
  | _ => False
def wAnd (w u : WT) : WT := fun δ s P => w δ s fun b s1 => match b with
  | true => u δ s1 P
  | false => P false s1
def wOr (w u : WT) : WT := fun δ s P => w δ s fun b s1 => match b with
  | true => P true s1
  | false => u δ s1 P
def wNot (w : WT) : WT := fun δ s P => w δ s fun b s1 => P (!b) s1
def wIfE (c : WT) (w u : WE) : WE := fun δ s P => c δ s fun b s1 => match b with
  | true => w δ s1 P
  | false => u δ s1 P
/-- and, or, not as values (all but the last a truth value) -/
def wAndV (w u : WE) : WE := fun δ s P => w δ s fun d s1 => match d with
  | .bl true => u δ s1 P
  | .bl false => P (.bl false) s1
  | _ => False
def wOrV (w u : WE) : WE := fun δ s P => w δ s fun d s1 => match d with
  | .bl true => P (.bl true) s1
  | .bl false => u δ s1 P
  | _ => False
def wNotV (w : WE) : WE := fun δ s P => w δ s fun d s1 => match d with
  | .bl b => P (.bl (!b)) s1
  | _ => False
abbrev DW (X : Cx) (e : Expr) (w : WT) : Prop := PW X e (lT X.K w)
theorem PW.imp {X : Cx} {e : Expr} {t t' : TT} (h : PW X e t) (i : ∀ σ H Q, t' σ H Q → t σ H Q) : PW X e t' := ⟨fun wh pins s σ H Q I q => h.run wh pins s σ H Q I (i σ H Q q)⟩
theorem isEmpty_len {α β : Type} {xs : List α} {ys : List β} (h : xs.length = ys.length) : xs.isEmpty = ys.isEmpty := by
  cases xs <;> cases ys <;> first | rfl | cases h
section
variable {X : Cx} {a b c e : Expr} {pos : Pos} {wa wb : WE} {u v : WT} {r r' : R2D} {rest : List Expr}
theorem lT_tst {K : PySem.W.Frag} {σ : St} {H : Hp} {Q : Bool → Hp → Prop} {w : WE} (h : lT K (wTst w) σ H Q) : lE K w σ H fun x H' => ∃ k, x = .bl k ∧ Q k H' := by
  obtain ⟨F, G, δ, s, P, en, o, hw, q⟩ := h
  refine ⟨F, G, δ, s, _, en, o, hw, fun d s1 h1 G1 H1 x e1 o1 r1 => ?_⟩
  cases r1 <;> first | exact h1.elim | skip
  exact ⟨_, rfl, q _ s1 h1 G1 H1 e1 o1⟩
theorem dt_cmp {op : CmpOp} (ho : OpD X (compareOp op) r) (ha : DE X a wa) (hb : DE X b wb) (hm : behindInMarks op b = false) : DT X (.Compare a [op] [b] pos) (wTst (wOp r wa wb)) :=
  PT.imp (pt_cmpR ho ha hb hm) fun σ H Q h => lE_op (lT_tst h)
theorem dt_truth (ha : DE X a wa) (he : ∀ whole, isTrue a X.env whole = (do let v ← whole; standAt a.pos; holding [v] (truthy v)) := by intro _; rfl) : DT X a (wTru wa) :=
  PT.imp (pt_truth ha he) fun σ H Q ⟨F, G, δ, s, P, en, o, hw, q⟩ => ⟨F, G, δ, s, _, en, o, hw, fun d s1 h1 G1 H1 x e1 o1 r1 => by
    have rv := o1.seen r1
    cases qd : view s1 d <;> simp only [qd] at h1 rv <;> first | exact h1.elim | skip
    · cases rv; exact ⟨false, rfl, q _ s1 h1 G1 H1 e1 o1⟩
    · cases rv; exact ⟨_, rfl, q _ s1 h1 G1 H1 e1 o1⟩
    · cases rv; exact ⟨_, rfl, q _ s1 h1 G1 H1 e1 o1⟩
    · cases rv; exact ⟨_, ⟨h1.1, rfl⟩, q _ s1 h1.2 G1 H1 e1 o1⟩
    · cases rv with
      | tup t r => exact ⟨_, .inr (.inl ⟨_, t.sq, rfl⟩), by rw [← isEmpty_len r.length]; exact q _ s1 h1 G1 H1 e1 o1⟩
    · cases rv with
      | lst t r => exact ⟨_, .inl ⟨_, .of t, rfl⟩, by rw [← isEmpty_len r.length]; exact q _ s1 h1 G1 H1 e1 o1⟩
    · cases rv with
      | tpw t r => exact ⟨_, .inr (.inl ⟨_, t, rfl⟩), by rw [← isEmpty_len r.length]; exact q _ s1 h1 G1 H1 e1 o1⟩⟩
theorem dw_and1 (ha : DT X a u) : DW X (.BoolOp .And [a] pos) u := pw_and1 ha
theorem dw_or1 (ha : DT X a u) : DW X (.BoolOp .Or [a] pos) u := pw_or1 ha
theorem dw_and (ha : DT X a u) (hb : DW X (.BoolOp .And (b :: rest) pos) v) : DW X (.BoolOp .And (a :: b :: rest) pos) (wAnd u v) :=
  PW.imp (pw_and ha hb) fun σ H Q ⟨F, G, δ, s, P, en, o, hw, q⟩ => ⟨F, G, δ, s, _, en, o, hw, fun k s1 h1 G1 H1 e1 o1 => by
    cases k with
    | true => rw [if_pos rfl]; exact ⟨F, G1, δ, s1, P, en.mono e1, o1, h1, q.mono e1⟩
    | false => rw [if_neg Bool.false_ne_true]; exact q _ s1 h1 G1 H1 e1 o1⟩
theorem dw_or (ha : DT X a u) (hb : DW X (.BoolOp .Or (b :: rest) pos) v) : DW X (.BoolOp .Or (a :: b :: rest) pos) (wOr u v) :=
  PW.imp (pw_or ha hb) fun σ H Q ⟨F, G, δ, s, P, en, o, hw, q⟩ => ⟨F, G, δ, s, _, en, o, hw, fun k s1 h1 G1 H1 e1 o1 => by
    cases k with
    | true => rw [if_pos rfl]; exact q _ s1 h1 G1 H1 e1 o1
    | false => rw [if_neg Bool.false_ne_true]; exact ⟨F, G1, δ, s1, P, en.mono e1, o1, h1, q.mono e1⟩⟩
theorem dt_not (ha : DT X a u) : DT X (.UnaryOp .Not a pos) (wNot u) :=
  PT.imp (pt_not ha) fun σ H Q ⟨F, G, δ, s, P, en, o, hw, q⟩ => ⟨F, G, δ, s, _, en, o, hw, fun k s1 h1 G1 H1 e1 o1 => q _ s1 h1 G1 H1 e1 o1⟩
theorem de_if (hc : DT X c u) (ha : DE X a wa) (hb : DE X b wb) : DE X (.IfExp c a b pos) (wIfE u wa wb) :=
  PE.imp (pe_ifExp hc ha hb) fun σ H Q ⟨F, G, δ, s, P, en, o, hw, q⟩ => ⟨F, G, δ, s, _, en, o, hw, fun k s1 h1 G1 H1 e1 o1 => by
    cases k with
    | true => rw [if_pos rfl]; exact ⟨F, G1, δ, s1, P, en.mono e1, o1, h1, q.mono e1⟩
    | false => rw [if_neg Bool.false_ne_true]; exact ⟨F, G1, δ, s1, P, en.mono e1, o1, h1, q.mono e1⟩⟩
theorem de_one {op : PySem.BoolOp} (h : DE X a wa) : DE X (.BoolOp op [a] pos) wa := pe_one h
theorem de_and (ha : DE X a wa) (hb : DE X (.BoolOp .And (b :: rest) pos) wb) : DE X (.BoolOp .And (a :: b :: rest) pos) (wAndV wa wb) :=
  PE.imp (pe_and ha hb) fun σ H Q ⟨F, G, δ, s, P, en, o, hw, q⟩ => ⟨F, G, δ, s, _, en, o, hw, fun d s1 h1 G1 H1 x e1 o1 r1 => by
    cases r1 <;> first | exact h1.elim | skip
    rename_i k
    refine ⟨k, rfl, ?_⟩
    cases k with
    | true => rw [if_pos rfl]; exact ⟨F, G1, δ, s1, P, en.mono e1, o1, h1, q.mono e1⟩
    | false => rw [if_neg Bool.false_ne_true]; exact q _ s1 h1 G1 H1 _ e1 o1 (.bl _)⟩
theorem de_or (ha : DE X a wa) (hb : DE X (.BoolOp .Or (b :: rest) pos) wb) : DE X (.BoolOp .Or (a :: b :: rest) pos) (wOrV wa wb) :=
  PE.imp (pe_or ha hb) fun σ H Q ⟨F, G, δ, s, P, en, o, hw, q⟩ => ⟨F, G, δ, s, _, en, o, hw, fun d s1 h1 G1 H1 x e1 o1 r1 => by
    cases r1 <;> first | exact h1.elim | skip
    rename_i k
    refine ⟨k, rfl, ?_⟩
    cases k with
    | true => rw [if_pos rfl]; exact q _ s1 h1 G1 H1 _ e1 o1 (.bl _)
    | false => rw [if_neg Bool.false_ne_true]; exact ⟨F, G1, δ, s1, P, en.mono e1, o1, h1, q.mono e1⟩⟩
theorem de_not (ha : DE X a wa) : DE X (.UnaryOp .Not a pos) (wNotV wa) :=
  PE.imp (pe_not ha) fun σ H Q ⟨F, G, δ, s, P, en, o, hw, q⟩ => ⟨F, G, δ, s, _, en, o, hw, fun d s1 h1 G1 H1 x e1 o1 r1 => by
    cases r1 <;> first | exact h1.elim | skip
    exact ⟨_, rfl, q _ s1 h1 G1 H1 _ e1 o1 (.bl _)⟩⟩
/-- a < b < c -/
def wChain (r r' : R2D) (wa wb wc : WE) : WE := fun δ s P => wa δ s fun x s1 => wb δ s1 fun y s2 => r x y s2 fun z s3 => match z with
  | .bl true => wc δ s3 fun z' s4 => r' y z' s4 P
  | .bl false => P (.bl false) s3
  | _ => False
theorem lE_chain {K : PySem.W.Frag} {wc : WE} {σ : St} {H : Hp} {Q : VK} (h : lE K (wChain r r' wa wb wc) σ H Q) : tChain (lO K r) (lO K r') (lE K wa) (lE K wb) (lE K wc) σ H Q := by
  obtain ⟨F, G, δ, s, P, en, o, hw, q⟩ := h
  refine ⟨F, G, δ, s, _, en, o, hw, fun d s1 h1 G1 H1 v e1 o1 r1 => ⟨F, G1, δ, s1, _, en.mono e1, o1, h1, fun e s2 h2 G2 H2 u e2 o2 r2 => ⟨F, G2, s2, d, e, _, o2, r1.mono e2, r2, h2, fun z s3 h3 G3 H3 w e3 o3 r3 => ?_⟩⟩⟩
  have e13 := e1.trans (e2.trans e3)
  cases r3 <;> first | exact h3.elim | skip
  rename_i k
  refine ⟨k, rfl, ?_⟩
  cases k with
  | true => rw [if_pos rfl]; exact ⟨F, G3, δ, s3, _, en.mono e13, o3, h3, fun d4 s4 h4 G4 H4 v4 e4 o4 r4 => ⟨F, G4, s4, e, d4, P, o4, r2.mono (e3.trans e4), r4, h4, q.mono (e13.trans e4)⟩⟩
  | false => rw [if_neg Bool.false_ne_true]; exact q _ s3 h3 G3 H3 _ e13 o3 (.bl _)
theorem de_chain {op op' : CmpOp} {wc : WE} (ho : OpD X (compareOp op) r) (ho' : OpD X (compareOp op') r') (ha : DE X a wa) (hb : DE X b wb) (hc : DE X c wc)
    (hm : lastMarks [op, op'] [b, c] = false := by with_unfolding_all rfl) : DE X (.Compare a [op, op'] [b, c] pos) (wChain r r' wa wb wc) := PE.imp (pe_chain ho ho' ha hb hc hm) fun _ _ _ h => lE_chain h
theorem dt_chain {op op' : CmpOp} {wc : WE} (ho : OpD X (compareOp op) r) (ho' : OpD X (compareOp op') r') (ha : DE X a wa) (hb : DE X b wb) (hc : DE X c wc)
    (hm : lastMarks [op, op'] [b, c] = false := by with_unfolding_all rfl) : DT X (.Compare a [op, op'] [b, c] pos) (wTst (wChain r r' wa wb wc)) := PT.imp (pt_chain ho ho' ha hb hc hm) fun _ _ _ h => lE_chain (lT_tst h)
end

/-! ### statements -/
structure DEnds where
  nx : Dn → S → Prop
  rt : DK
  bk : Dn → S → Prop := fun _ _ => False
  ct : Dn → S → Prop := fun _ _ => False
abbrev WS := DEnds → Dn → S → Prop
def RetS (K : PySem.W.Frag) (F G : Hp) (P : Dn → S → Prop) (Q : St → Hp → Prop) : Prop := ∀ δ s', P δ s' → ∀ G' H' σ', Ex G G' → EnvOk K G' δ σ' → Own K F s' G' H' → Q σ' H'
theorem RetS.mono {K : PySem.W.Frag} {F G G' : Hp} {P : Dn → S → Prop} {Q : St → Hp → Prop} (e : Ex G G') (h : RetS K F G P Q) : RetS K F G' P Q := fun δ s' p G2 H' σ' e2 => h δ s' p G2 H' σ' (e.trans e2)
structure REnds (K : PySem.W.Frag) (F G : Hp) (D' : DEnds) (D : Ends) : Prop where
  nx : RetS K F G D'.nx D.nx
  rt : Ret K F G D'.rt D.rt
  bk : RetS K F G D'.bk D.bk
  ct : RetS K F G D'.ct D.ct
theorem REnds.mono {K : PySem.W.Frag} {F G G' : Hp} {D' : DEnds} {D : Ends} (e : Ex G G') (h : REnds K F G D' D) : REnds K F G' D' D := ⟨h.nx.mono e, h.rt.mono e, h.bk.mono e, h.ct.mono e⟩
def lS (K : PySem.W.Frag) (w : WS) : TS := fun D σ H => ∃ F G δ s D', EnvOk K G δ σ ∧ Own K F s G H ∧ w D' δ s ∧ REnds K F G D' D
abbrev DS (X : Cx) (st : Stmt) (w : WS) : Prop := PS X st (lS X.K w)
abbrev DSs (X : Cx) (st : List Stmt) (w : WS) : Prop := PSs X st (lS X.K w)
def wNext : WS := fun D δ s => D.nx δ s
def wSeq (w u : WS) : WS := fun D δ s => w { D with nx := u D } δ s
def wRet (w : WE) : WS := fun D δ s => w δ s D.rt
def wRetN : WS := fun D _ s => D.rt .non s
def wDrop (w : WE) : WS := fun D δ s => w δ s fun _ s1 => D.nx δ s1
def wIf (c : WT) (w u : WS) : WS := fun D δ s => c δ s fun b s1 => match b with
  | true => w D δ s1
  | false => u D δ s1
def wBreak : WS := fun D δ s => D.bk δ s
def wCont : WS := fun D δ s => D.ct δ s
def wNever : WS := fun _ _ _ => False
/-- a list that changed is looked at as a value from here on -/
def wFreeze (i : Nat) (w : WS) : WS := fun D δ s => match δ[i]? with
  | some (some (.ref a)) => match s.M a with
    | some (.lst ds) => (∀ b n, s.dk = some (b, n) → a ≠ b) ∧ w D (δ.set i (some (.lst ds))) (s.del a)
    | _ => False
  | _ => False
section
variable {X : Cx} {st : Stmt} {rest : List Stmt} {e c : Expr} {pos : Pos} {w u : WS} {we : WE} {wt : WT}
theorem dss_nil : DSs X [] wNext := PSs.imp pss_nil fun D σ H ⟨F, G, δ, s, D', en, o, hw, q⟩ => q.nx δ s hw G H σ (Ex.refl G) en o
theorem dss_one (h : DS X st w) : DSs X [st] w := pss_one h
theorem dss_cons (h1 : DS X st w) (h2 : DSs X rest u) : DSs X (st :: rest) (wSeq w u) :=
  PSs.imp (pss_cons h1 h2) fun D σ H ⟨F, G, δ, s, D', en, o, hw, q⟩ => ⟨F, G, δ, s, _, en, o, hw, fun δ1 s1 h1 G1 H1 σ1 e1 en1 o1 => ⟨F, G1, δ1, s1, D', en1, o1, h1, q.mono e1⟩, q.rt, q.bk, q.ct⟩
theorem ds_pass : DS X (.Pass pos) wNext := PS.imp ps_pass fun D σ H ⟨F, G, δ, s, D', en, o, hw, q⟩ => q.nx δ s hw G H σ (Ex.refl G) en o
theorem ds_break : DS X (.Break pos) wBreak := PS.imp ps_break fun D σ H ⟨F, G, δ, s, D', en, o, hw, q⟩ => q.bk δ s hw G H σ (Ex.refl G) en o
theorem ds_continue : DS X (.Continue pos) wCont := PS.imp ps_continue fun D σ H ⟨F, G, δ, s, D', en, o, hw, q⟩ => q.ct δ s hw G H σ (Ex.refl G) en o
theorem ds_ret (h : DE X e we) : DS X (.Return (some e) pos) (wRet we) := PS.imp (ps_ret h) fun D σ H ⟨F, G, δ, s, D', en, o, hw, q⟩ => ⟨F, G, δ, s, _, en, o, hw, q.rt⟩
theorem ds_retN : DS X (.Return none pos) wRetN := PS.imp ps_retN fun D σ H ⟨F, G, δ, s, D', en, o, hw, q⟩ => q.rt _ s hw G H _ (Ex.refl G) o .non
theorem ds_expr (h : DE X e we) (hs : swapsWith e none pos.line X.env = pure false := by rfl) : DS X (.Expr e pos) (wDrop we) :=
  PS.imp (ps_expr h hs) fun D σ H ⟨F, G, δ, s, D', en, o, hw, q⟩ => ⟨F, G, δ, s, _, en, o, hw, fun d s1 h1 G1 H1 v e1 o1 _ => q.nx δ s1 h1 G1 H1 σ e1 (en.mono e1) o1⟩
theorem ds_never : DS X st wNever := PS.imp ps_never fun D σ H ⟨F, G, δ, s, D', en, o, hw, q⟩ => hw
theorem dss_never {sts : List Stmt} : DSs X sts wNever := PSs.imp pss_never fun D σ H ⟨F, G, δ, s, D', en, o, hw, q⟩ => hw
theorem ds_if {a b : List Stmt} (hc : DT X c wt) (ha : DSs X a w) (hb : DSs X b u) : DS X (.If c a b pos) (wIf wt w u) :=
  PS.imp (ps_if hc ha hb) fun D σ H ⟨F, G, δ, s, D', en, o, hw, q⟩ => ⟨F, G, δ, s, _, en, o, hw, fun k s1 h1 G1 H1 e1 o1 => by
    cases k with
    | true => rw [if_pos rfl]; exact ⟨F, G1, δ, s1, D', en.mono e1, o1, h1, q.mono e1⟩
    | false => rw [if_neg Bool.false_ne_true]; exact ⟨F, G1, δ, s1, D', en.mono e1, o1, h1, q.mono e1⟩⟩
theorem S.del_M {s : S} {a b : Addr} {m : MO} (h : (s.del a).M b = some m) : b ≠ a ∧ s.M b = some m := by
  by_cases e : b = a
  · subst e; simp only [S.del, if_pos] at h; cases h
  · simp only [S.del, if_neg e] at h; exact ⟨e, h⟩
theorem Own.del {K : PySem.W.Frag} {F : Hp} {s : S} {G H : Hp} (o : Own K F s G H) (a : Addr) : Own K F (s.del a) G H := by
  refine ⟨o.ex, fun b u h => ⟨(o.fr b u h).1, (o.fr b u h).2.1, ?_⟩, fun b m h => o.mu b m (S.del_M h).2, fun b n h => ?_⟩
  · by_cases e : b = a
    · simp [S.del, e]
    · simp only [S.del, if_neg e]; exact (o.fr b u h).2.2
  obtain ⟨a1, cells, mixed, k, h1, h2, h3, h4, h5, h6⟩ := (o.dk b n h).ex
  refine ⟨a1, cells, mixed, k, h1, h2, h3, ?_, ?_, h6⟩
  · by_cases e : b = a
    · simp [S.del, e]
    · simp only [S.del, if_neg e]; exact h4
  · by_cases e : a1 = a
    · simp [S.del, e]
    · simp only [S.del, if_neg e]; exact h5
theorem dss_freeze {sts : List Stmt} (i : Nat) (h : DSs X sts w) : DSs X sts (wFreeze i w) :=
  PSs.imp h fun D σ H ⟨F, G, δ, s, D', en, o, hw, q⟩ => by
    unfold wFreeze at hw
    split at hw <;> first | exact hw.elim | skip
    rename_i a ha
    split at hw <;> first | exact hw.elim | skip
    rename_i ds hm
    obtain ⟨g0, ob, hp, xs, rfl, r⟩ := o.mu a _ hm
    obtain ⟨v, hv, rv⟩ := en.at_ i _ ha
    cases rv
    have hM : (s.del a).M a = none := by simp [S.del]
    have e1 : Ex G (upd G a (.lst xs)) := Ex.new g0
    refine ⟨F, upd G a (.lst xs), _, s.del a, D', ?_, (o.del a).frz hp (by cases qF : F a with | none => rfl | some u => rw [(o.fr a u qF).2.2] at hm; cases hm) g0 hM (fun b n hd a1 mx k hb => ⟨hw.1 b n hd, ?_⟩), hw.2, q.mono e1⟩
    · have z := (en.mono e1).set (i := i) (d := .lst ds) (v := .ref a) (.lst upd_same (r.mono e1))
      have ez : σ.set i (some (.ref a)) = σ := by
        apply List.ext_getElem?
        intro j
        by_cases hj : i = j
        · subst hj; rw [List.getElem?_set_self (List.getElem?_eq_some_iff.mp hv).1, hv]
        · rw [List.getElem?_set_ne hj]
      rw [ez] at z
      exact z
    · obtain ⟨a1', cells, mixed, k', h1, h2, h3, h4, h5, h6, h7, _⟩ := (o.dk b n hd).ex
      rw [h6] at hb; cases hb
      rintro rfl
      rw [h5] at hm; cases hm
end

/-! ### targets -/
abbrev WG := D → Dn → S → (Dn → S → Prop) → Prop
abbrev WGs := List D → Dn → S → (Dn → S → Prop) → Prop
/-- slots that a target stores; what is behind it agrees elsewhere -/
def RetG (K : PySem.W.Frag) (F G : Hp) (vs : List Nat) (σ : St) (P : Dn → S → Prop) (Q : St → Hp → Prop) : Prop := ∀ δ s', P δ s' → ∀ G' H' (σ' : St), Ex G G' → EnvOk K G' δ σ' → Own K F s' G' H' → σ'.length = σ.length → (∀ j : Nat, j ∉ vs → σ'[j]? = σ[j]?) → Q σ' H'
theorem RetS.toG {K : PySem.W.Frag} {F G : Hp} {vs : List Nat} {σ : St} {P : Dn → S → Prop} {Q : St → Hp → Prop} (h : RetS K F G P Q) : RetG K F G vs σ P Q := fun δ s' p G' H' σ' e en o _ _ => h δ s' p G' H' σ' e en o
def lG (K : PySem.W.Frag) (vs : List Nat) (w : WG) : TG := fun v σ H Q => ∃ F G δ s d P, EnvOk K G δ σ ∧ Own K F s G H ∧ Rep K G d v ∧ w d δ s P ∧ RetG K F G vs σ P Q
def lGs (K : PySem.W.Frag) (is : List Nat) (w : WGs) : TGs := fun vs σ H Q => ∃ F G δ s ds P, EnvOk K G δ σ ∧ Own K F s G H ∧ RepL K G ds vs ∧ w ds δ s P ∧ RetG K F G is σ P Q
theorem PG.imp {X : Cx} {e : Expr} {t t' : TG} (h : PG X e t) (i : ∀ v σ H Q, t' v σ H Q → t v σ H Q) : PG X e t' := ⟨fun pins s σ H v u Q I r q => h.run pins s σ H v u Q I r (i v σ H Q q)⟩
theorem PGs.imp {X : Cx} {e : List Expr} {t t' : TGs} (h : PGs X e t) (i : ∀ v σ H Q, t' v σ H Q → t v σ H Q) : PGs X e t' := ⟨fun pins s σ H v u Q I r q => h.run pins s σ H v u Q I r (i v σ H Q q)⟩
abbrev DG (X : Cx) (e : Expr) (vs : List Nat) (w : WG) : Prop := PG X e (lG X.K vs w)
abbrev DGs (X : Cx) (es : List Expr) (vs : List Nat) (w : WGs) : Prop := PGs X es (lGs X.K vs w)
def wgName (i : Nat) : WG := fun d δ s P => P (δ.set i (some d)) s
def wgNil : WGs := fun ds δ s P => match ds with
  | [] => P δ s
  | _ => False
def wgCons (g : WG) (r : WGs) : WGs := fun ds δ s P => match ds with
  | d :: ds => g d δ s fun δ1 s1 => r ds δ1 s1 P
  | [] => False
def wgTup (n : Nat) (g : WGs) : WG := fun d δ s P => match d with
  | .tup ds => ds.length = n ∧ g ds δ s P
  | .tpw ds => ds.length = n ∧ g ds δ s P
  | _ => False
def wAsg (w : WE) (g : WG) : WS := fun D δ s => w δ s fun d s1 => g d δ s1 D.nx
/-- name = a new list that will change -/
def wSetM (i : Nat) (w : WA) : WS := fun D δ s => w δ s fun ds s1 => ∀ p, s1.M p = none → (∀ a n, s1.dk = some (a, n) → p ≠ a) → D.nx (δ.set i (some (.ref p))) (s1.put p (.lst ds))
theorem Own.put {K : PySem.W.Frag} {F : Hp} {s : S} {G H : Hp} (o : Own K F s G H) {p : Addr} {ds : List D} {xs : List V} (hp : H p = none) (r : RepL K G ds xs) : Own K F (s.put p (.lst ds)) G (upd H p (.lst xs)) := by
  have o1 := o.pass (u := .lst xs) hp
  have hG := o.freeG hp
  refine ⟨o1.ex, fun b u h => ⟨(o1.fr b u h).1, (o1.fr b u h).2.1, ?_⟩, fun b m h => ?_, fun b n h => ?_⟩
  · have e : b ≠ p := ne_of_none (o.fr b u h).1 hp
    simp only [S.put, if_neg e]; exact (o1.fr b u h).2.2
  · by_cases e : b = p
    · subst e
      simp only [S.put, if_pos] at h
      cases h
      exact ⟨hG, _, upd_same, xs, rfl, r⟩
    · simp only [S.put, if_neg e] at h
      exact o1.mu b m h
  · obtain ⟨a1, cells, mixed, k, h1, h2, h3, h4, h5, h6⟩ := (o1.dk b n h).ex
    have hb : b ≠ p := by
      obtain ⟨_, _, _, _, _, _, _, _, _, z, _⟩ := (o.dk b n h).ex
      exact ne_of_none z hp
    have ha : a1 ≠ p := by
      obtain ⟨a2, _, _, _, _, _, _, _, _, z, z2, _⟩ := (o.dk b n h).ex
      obtain ⟨h6, _⟩ := h6
      rw [upd_ne hb, z] at h6
      cases h6
      exact ne_of_none z2 hp
    refine ⟨a1, cells, mixed, k, h1, h2, h3, ?_, ?_, h6⟩
    · simp only [S.put, if_neg hb]; exact h4
    · simp only [S.put, if_neg ha]; exact h5
theorem Own.fresh {K : PySem.W.Frag} {F : Hp} {s : S} {G H : Hp} (o : Own K F s G H) {p : Addr} (hp : H p = none) : s.M p = none ∧ ∀ a n, s.dk = some (a, n) → p ≠ a := by
  refine ⟨o.freeM hp, fun a n h => ?_⟩
  obtain ⟨_, _, _, _, _, _, _, _, _, z, _⟩ := (o.dk a n h).ex
  exact (ne_of_none z hp).symm
section
variable {X : Cx} {e tg : Expr} {es : List Expr} {pos : Pos} {we : WE} {wl : WA} {g : WG} {gs : WGs}
theorem dg_name {i : Nat} {x : Str} (hN : X.N.Nodup) (hi : X.N[i]? = some x) (hx : Loc X.env.scope x) (hf : X.fn x = true ∨ X.env.scope.names.lookup x = some .local := by first | exact .inl rfl | exact .inr rfl | assumption) : DG X (.Name x pos) [i] (wgName i) :=
  PG.imp (pg_name hN hi hx hf) fun v σ H Q ⟨F, G, δ, s, d, P, en, o, r, hw, q⟩ => q _ s hw G H _ (Ex.refl G) (en.set r) o (List.length_set ..) fun j hj => List.getElem?_set_ne (fun z => hj (by rw [z]; exact List.mem_singleton_self _))
theorem dgs_nil : DGs X [] [] wgNil := PGs.imp pgs_nil fun v σ H Q ⟨F, G, δ, s, ds, P, en, o, r, hw, q⟩ => by
  cases r with
  | nil => exact ⟨rfl, q _ s hw G H _ (Ex.refl G) en o rfl fun _ _ => rfl⟩
  | cons _ _ => exact hw.elim
theorem dgs_cons {vs ws : List Nat} (h1 : DG X e vs g) (h2 : DGs X es ws gs) (hs : (assignEach (e :: es) X.env).map (·.2) = assign e X.env :: (assignEach es X.env).map (·.2) := by rfl) : DGs X (e :: es) (vs ++ ws) (wgCons g gs) :=
  PGs.imp (pgs_cons h1 h2 hs) fun v σ H Q ⟨F, G, δ, s, ds, P, en, o, r, hw, q⟩ => by
    cases r with
    | nil => exact hw.elim
    | cons r1 r2 => exact ⟨_, _, rfl, F, G, δ, s, _, _, en, o, r1, hw, fun δ1 s1 h1 G1 H1 σ1 e1 en1 o1 l1 a1 => ⟨F, G1, δ1, s1, _, P, en1, o1, r2.mono e1, h1,
        fun δ2 s2 h2 G2 H2 σ2 e2 en2 o2 l2 a2 => q δ2 s2 h2 G2 H2 σ2 (e1.trans e2) en2 o2 (l2.trans l1) fun j hj => (a2 j fun z => hj (List.mem_append_right _ z)).trans (a1 j fun z => hj (List.mem_append_left _ z))⟩⟩
theorem dg_tup {k n : Nat} {vs : List Nat} (hc : X.calm = true) (h : DGs X es vs gs) (hn : (assignEach es X.env).length = n := by rfl) (hst : (assignEach es X.env).findIdx? (·.1) = none := by rfl) : DG X (.Tuple es k pos) vs (wgTup n gs) :=
  PG.imp (pg_tup hc h hn hst) fun v σ H Q ⟨F, G, δ, s, d, P, en, o, r, hw, q⟩ => by
    cases r with
    | tup t r => exact ⟨_, _, rfl, ex_t o.ex t.sq, by rw [← r.length]; exact hw.1, F, G, δ, s, _, P, en, o, r, hw.2, q⟩
    | tpw t r => exact ⟨_, _, rfl, ex_t o.ex t, by rw [← r.length]; exact hw.1, F, G, δ, s, _, P, en, o, r, hw.2, q⟩
    | _ => exact hw.elim
theorem ds_asg {vs : List Nat} (he : DE X e we) (hg : DG X tg vs g) (hs : swapsWithSole [tg] e pos.line X.env = pure false := by rfl) (hw : swappedStores [tg] e X.env = pure none := by rfl)
    (h1 : (assignEach [tg] X.env).map (·.2) = [assign tg X.env] := by rfl) : DS X (.Assign [tg] e pos) (wAsg we g) :=
  PS.imp (ps_asg he hg hs hw h1) fun D σ H ⟨F, G, δ, s, D', en, o, hw, q⟩ => ⟨F, G, δ, s, _, en, o, hw, fun d s1 h1 G1 H1 v e1 o1 r1 => ⟨F, G1, δ, s1, d, _, en.mono e1, o1, r1, h1, (q.nx.mono e1).toG⟩⟩
theorem ds_set {i : Nat} {x : Str} {pos' : Pos} (hN : X.N.Nodup) (hi : X.N[i]? = some x) (hx : Loc X.env.scope x) (he : DE X e we) (hs : swapsWith e (some (.Name x pos')) pos.line X.env = pure false := by rfl) (hf : X.fn x = true ∨ X.env.scope.names.lookup x = some .local := by first | exact .inl rfl | exact .inr rfl | assumption) :
    DS X (.Assign [.Name x pos'] e pos) (wAsg we (wgName i)) :=
  PS.imp (ps_set hN hi hx he hs hf) fun D σ H ⟨F, G, δ, s, D', en, o, hw, q⟩ => ⟨F, G, δ, s, _, en, o, hw, fun d s1 h1 G1 H1 v e1 o1 r1 => q.nx _ s1 h1 G1 H1 _ e1 ((en.mono e1).set r1) o1⟩
theorem ds_setM {i : Nat} {x : Str} {pos' : Pos} (hN : X.N.Nodup) (hi : X.N[i]? = some x) (hx : Loc X.env.scope x) (he : DEL X e wl) (hs : swapsWith e (some (.Name x pos')) pos.line X.env = pure false := by rfl) (hf : X.fn x = true ∨ X.env.scope.names.lookup x = some .local := by first | exact .inl rfl | exact .inr rfl | assumption) :
    DS X (.Assign [.Name x pos'] e pos) (wSetM i wl) :=
  PS.imp (ps_set hN hi hx he hs hf) fun D σ H ⟨F, G, δ, s, D', en, o, hw, q⟩ => ⟨F, G, δ, s, _, en, o, hw, fun ds s1 h1 G1 H1 p xs e1 o1 hp r1 => by
    obtain ⟨f1, f2⟩ := o1.fresh hp
    exact q.nx _ _ (h1 p f1 f2) G1 _ _ e1 ((en.mono e1).set (.ref p)) (o1.put hp r1)⟩
end

/-! ### loops -/
abbrev WI := Dn → S → (List D → S → Prop) → Prop
/-- the iterator J hands out ds -/
structure JOk (K : PySem.W.Frag) (G : Hp) (ds : List D) (J : It) : Prop where
  go : ∀ i F s G1 H, Ex G G1 → Own K F s G1 H → i < ds.length → J.go i H ∧ ∀ x H', J.yld i H x H' → ∃ d G2, ds[i]? = some d ∧ Ex G1 G2 ∧ Own K F s G2 H' ∧ Rep K G2 d x
  stop : ∀ i F s G1 H, Ex G G1 → Own K F s G1 H → ds.length ≤ i → J.stop i H
theorem JOk.mono {K : PySem.W.Frag} {G G' : Hp} {ds : List D} {J : It} (e : Ex G G') (h : JOk K G ds J) : JOk K G' ds J := ⟨fun i F s G1 H e1 => h.go i F s G1 H (e.trans e1), fun i F s G1 H e1 => h.stop i F s G1 H (e.trans e1)⟩
def lI (K : PySem.W.Frag) (w : WI) : TI := fun σ H R => ∃ F G δ s P, EnvOk K G δ σ ∧ Own K F s G H ∧ w δ s P ∧ ∀ ds s', P ds s' → ∀ G' H' J, Ex G G' → Own K F s' G' H' → JOk K G' ds J → R J H'
abbrev DI (X : Cx) (tg iter : Expr) (w : WI) : Prop := PI X tg iter (lI X.K w)
theorem PI.imp {X : Cx} {tg e : Expr} {t t' : TI} (h : PI X tg e t) (i : ∀ σ H Q, t' σ H Q → t σ H Q) : PI X tg e t' := ⟨fun pins s σ H Q I q => h.run pins s σ H Q I (i σ H Q q)⟩
/-- a list that stands still -/
def wiL (w : WE) : WI := fun δ s P => w δ s fun d s1 => match d with
  | .lst ds => P ds s1
  | _ => False
def wiT (w : WE) : WI := fun δ s P => w δ s fun d s1 => match d with
  | .tup ds => P ds s1
  | .tpw ds => P ds s1
  | _ => False
def rngD (lo : Int) (n : Nat) : List D := (List.range n).map fun (i : Nat) => D.int (lo + (i : Int))
def wiR1 (w : WA) : WI := fun δ s P => w δ s fun ds s1 => match ds with
  | [.int n] => (-(2 ^ 62) ≤ n ∧ n < 2 ^ 62) ∧ P (rngD 0 n.toNat) s1
  | _ => False
def wiR2 (w : WA) : WI := fun δ s P => w δ s fun ds s1 => match ds with
  | [.int lo, .int hi] => (-(2 ^ 62) ≤ lo ∧ lo < 2 ^ 62 ∧ -(2 ^ 62) ≤ hi ∧ hi < 2 ^ 62) ∧ P (rngD lo (hi - lo).toNat) s1
  | _ => False
section
variable {K : PySem.W.Frag} {G : Hp}
theorem jok_list {ds : List D} {xs : List V} {a : Addr} (h : G a = some (.lst xs)) (r : RepL K G ds xs) : JOk K G ds (Itl K a) := by
  have hl := r.length
  refine ⟨fun i F s G1 H e o hi => ?_, fun i F s G1 H e o hi => ⟨xs, .of (o.ex _ _ (e _ _ h)), by omega⟩⟩
  have hx : xs[i]? = some xs[i] := List.getElem?_eq_getElem (by omega)
  have hq : SqL K H a xs := .of (o.ex _ _ (e _ _ h))
  refine ⟨⟨xs, _, hq, hx⟩, fun x H' ⟨e1, y⟩ => ?_⟩
  subst e1
  obtain ⟨d, hd, rd⟩ := r.getV (y xs hq)
  exact ⟨d, G1, hd, Ex.refl _, o, rd.mono e⟩
theorem jok_tup {ds : List D} {xs : List V} {a : Addr} (h : SqT K G a xs) (r : RepL K G ds xs) : JOk K G ds (Itt K a) := by
  have hl := r.length
  refine ⟨fun i F s G1 H e o hi => ?_, fun i F s G1 H e o hi => ⟨xs, ex_t (e.trans o.ex) h, by omega⟩⟩
  have hx : xs[i]? = some xs[i] := List.getElem?_eq_getElem (by omega)
  have hq : SqT K H a xs := ex_t (e.trans o.ex) h
  refine ⟨⟨xs, _, hq, hx⟩, fun x H' ⟨e1, y⟩ => ?_⟩
  subst e1
  obtain ⟨d, hd, rd⟩ := r.getV (y xs hq)
  exact ⟨d, G1, hd, Ex.refl _, o, rd.mono e⟩
theorem rngD_length (lo : Int) (n : Nat) : (rngD lo n).length = n := by simp [rngD]
theorem jok_range (lo : Int) (n : Nat) : JOk K G (rngD lo n) (Itr lo n) := by
  refine ⟨fun i F s G1 H e o hi => ?_, fun i F s G1 H e o hi => by rw [rngD_length] at hi; exact hi⟩
  rw [rngD_length] at hi
  refine ⟨hi, fun x H' ⟨e1, y⟩ => ?_⟩
  subst e1 y
  exact ⟨.int (lo + i), G1, by simp [rngD, hi], Ex.refl _, o, .int _⟩
end
section
variable {X : Cx} {tg l a b : Expr} {p pos : Pos} {we : WE} {wa : WA}
theorem di_list (h : DE X l we) : DI X tg l (wiL we) :=
  PI.imp (pi_list h) fun σ H R ⟨F, G, δ, s, P, en, o, hw, q⟩ => ⟨F, G, δ, s, _, en, o, hw, fun d s1 h1 G1 H1 v e1 o1 r1 => by
    cases r1 <;> first | exact h1.elim | skip
    rename_i xs ds hx r
    exact ⟨_, rfl, ⟨xs, .of (o1.ex _ _ hx)⟩, q _ s1 h1 G1 H1 _ e1 o1 (jok_list hx r)⟩⟩
theorem di_tup (h : DE X l we) : DI X tg l (wiT we) :=
  PI.imp (pi_tup h) fun σ H R ⟨F, G, δ, s, P, en, o, hw, q⟩ => ⟨F, G, δ, s, _, en, o, hw, fun d s1 h1 G1 H1 v e1 o1 r1 => by
    cases r1 <;> first | exact h1.elim | skip
    · rename_i xs ds hx r
      exact ⟨_, rfl, ⟨xs, ex_t o1.ex hx.sq⟩, q _ s1 h1 G1 H1 _ e1 o1 (jok_tup hx.sq r)⟩
    · rename_i xs ds hx r
      exact ⟨_, rfl, ⟨xs, ex_t o1.ex hx⟩, q _ s1 h1 G1 H1 _ e1 o1 (jok_tup hx r)⟩⟩
theorem RepL.one {K : PySem.W.Frag} {G : Hp} {d : D} {vs : List V} (r : RepL K G [d] vs) : ∃ v, vs = [v] ∧ Rep K G d v := by
  cases r with
  | cons h r => cases r; exact ⟨_, rfl, h⟩
theorem RepL.two {K : PySem.W.Frag} {G : Hp} {d e : D} {vs : List V} (r : RepL K G [d, e] vs) : ∃ v u, vs = [v, u] ∧ Rep K G d v ∧ Rep K G e u := by
  cases r with
  | cons h r => obtain ⟨v, rfl, h'⟩ := r.one; exact ⟨_, _, rfl, h, h'⟩
theorem di_range1 (hg : Gl X "range") (hm : X.mg "range" = none) (ha : DA X [a] 1 wa) (hs : starEach [a] X.env = [(false, eval a X.env)] := by rfl) : DI X tg (.Call (.Name "range" p) [a] [] pos) (wiR1 wa) :=
  PI.imp (pi_range1 hg hm ha hs) fun σ H R ⟨F, G, δ, s, P, en, o, hw, q⟩ => ⟨F, G, δ, s, _, en, o, hw, fun ds s1 h1 hl G1 H1 vs e1 o1 r1 => by
    split at h1 <;> first | exact h1.elim | skip
    rename_i n
    obtain ⟨v, rfl, rv⟩ := r1.one
    cases rv
    exact ⟨n, rfl, h1.1.1, h1.1.2, q _ s1 h1.2 G1 H1 _ e1 o1 (jok_range 0 _)⟩⟩
theorem di_range2 (hg : Gl X "range") (hm : X.mg "range" = none) (ha : DA X [a, b] 2 wa) (hs : starEach [a, b] X.env = [(false, eval a X.env), (false, eval b X.env)] := by rfl) (hs2 : starEach [b] X.env = [(false, eval b X.env)] := by rfl) :
    DI X tg (.Call (.Name "range" p) [a, b] [] pos) (wiR2 wa) :=
  PI.imp (pi_range2 hg hm ha hs hs2) fun σ H R ⟨F, G, δ, s, P, en, o, hw, q⟩ => ⟨F, G, δ, s, _, en, o, hw, fun ds s1 h1 hl G1 H1 vs e1 o1 r1 => by
    split at h1 <;> first | exact h1.elim | skip
    rename_i lo hi
    obtain ⟨v, u, rfl, rv, ru⟩ := r1.two
    cases rv; cases ru
    exact ⟨lo, hi, rfl, h1.1, q _ s1 h1.2 G1 H1 _ e1 o1 (jok_range _ _)⟩⟩
end
/-- turn by turn -/
def loopW (g : WG) (b : WS) (E : DEnds) : List D → Dn → S → Prop
  | [], δ, s => E.nx δ s
  | d :: ds, δ, s => g d δ s fun δ1 s1 => b { nx := loopW g b E ds, rt := E.rt, bk := E.nx, ct := loopW g b E ds } δ1 s1
def wFor (wi : WI) (g : WG) (b : WS) : WS := fun D δ s => wi δ s fun ds s1 => loopW g b D ds δ s1
theorem drop_get {α : Type} {l : List α} {i : Nat} {x : α} (h : l[i]? = some x) : l.drop i = x :: l.drop (i + 1) := by
  obtain ⟨hl, e⟩ := List.getElem?_eq_some_iff.mp h
  rw [List.drop_eq_getElem_cons hl, e]
section
variable {X : Cx} {tg iter c : Expr} {body : List Stmt} {pos : Pos} {wi : WI} {g : WG} {b : WS} {wt : WT}
theorem ds_for (hp : PassesOwn (model X.prog X.w) X.A X.env X.xe) (hc : X.calm = true) (hi : DI X tg iter wi) {vs : List Nat} (hg : DG X tg vs g) (hb : DSs X body b)
    (hs : ∀ x, foldedSetIterable iter X.env x = pure x := by intro _; rfl) : DS X (.For tg iter body [] pos) (wFor wi g b) :=
  PS.imp (ps_for hp hc hi hg hb hs) fun D σ H ⟨F, G, δ, s, D', en, o, hw, q⟩ => ⟨F, G, δ, s, _, en, o, hw, fun ds s1 h1 G1 H1 J e1 o1 jk => by
    have q1 := q.mono e1
    refine ⟨fun i m σ H => m = ds.length - i ∧ i ≤ ds.length ∧ ∃ G δ s, Ex G1 G ∧ EnvOk X.K G δ σ ∧ Own X.K F s G H ∧ loopW g b D' (ds.drop i) δ s, ⟨ds.length, by simp, Nat.zero_le _, G1, δ, s1, Ex.refl _, en.mono e1, o1, h1⟩, ?_⟩
    rintro i m σ2 H2 ⟨rfl, hi, G2, δ2, s2, e2, en2, o2, h2⟩
    by_cases hlt : i < ds.length
    · refine .inr ?_
      obtain ⟨go, yl⟩ := jk.go i F s2 G2 H2 e2 o2 hlt
      refine ⟨go, fun σ' H' => ∃ G δ s, Ex G1 G ∧ EnvOk X.K G δ σ' ∧ Own X.K F s G H' ∧ loopW g b D' (ds.drop (i + 1)) δ s, fun σ' H' h => ⟨ds.length - (i + 1), by omega, rfl, hlt, h⟩, fun x H' y => ?_⟩
      obtain ⟨d, G3, hd, e3, o3, r3⟩ := yl x H' y
      rw [drop_get hd] at h2
      refine ⟨F, G3, δ2, s2, d, _, en2.mono e3, o3, r3, h2, fun δ4 s4 h4 G4 H4 σ4 e4 en4 o4 _ _ => ?_⟩
      have e14 := e2.trans (e3.trans e4)
      refine ⟨F, G4, δ4, s4, _, en4, o4, h4, ?_, q1.rt.mono e14, q1.nx.mono e14, ?_⟩
      · exact fun δ5 s5 h5 G5 H5 σ5 e5 en5 o5 => ⟨G5, δ5, s5, e14.trans e5, en5, o5, h5⟩
      · exact fun δ5 s5 h5 G5 H5 σ5 e5 en5 o5 => ⟨G5, δ5, s5, e14.trans e5, en5, o5, h5⟩
    · have e : i = ds.length := by omega
      subst e
      rw [List.drop_length] at h2
      exact .inl ⟨jk.stop _ F s2 G2 H2 e2 o2 (Nat.le_refl _), q1.nx δ2 s2 h2 G2 H2 σ2 e2 en2 o2⟩⟩
/-- at most n turns -/
def whileW (c : WT) (b : WS) (D : DEnds) : Nat → Dn → S → Prop
  | 0, _, _ => False
  | n + 1, δ, s => c δ s fun k s1 => match k with
    | true => b { nx := whileW c b D n, rt := D.rt, bk := D.nx, ct := whileW c b D n } δ s1
    | false => D.nx δ s1
def wWhile (c : WT) (b : WS) : WS := fun D δ s => ∃ n, whileW c b D n δ s
theorem ds_while (hp : PassesOwn (model X.prog X.w) X.A X.env X.xe) (hc : DT X c wt) (hb : DSs X body b) : DS X (.While c body [] pos) (wWhile wt b) :=
  PS.imp (ps_while hp hc hb) fun D σ H ⟨F, G, δ, s, D', en, o, ⟨n, hw⟩, q⟩ => by
    refine ⟨fun m σ H => ∃ G1 δ s, Ex G G1 ∧ EnvOk X.K G1 δ σ ∧ Own X.K F s G1 H ∧ whileW wt b D' m δ s, ⟨n, G, δ, s, Ex.refl _, en, o, hw⟩, ?_⟩
    rintro m σ1 H1 ⟨G1, δ1, s1, e1, en1, o1, h1⟩
    cases m with
    | zero => exact h1.elim
    | succ m =>
      refine ⟨F, G1, δ1, s1, _, en1, o1, h1, fun k s2 h2 G2 H2 e2 o2 => ?_⟩
      cases k with
      | true =>
        rw [if_pos rfl]
        have e12 := e1.trans e2
        refine ⟨fun σ' H' => ∃ G1 δ s, Ex G G1 ∧ EnvOk X.K G1 δ σ' ∧ Own X.K F s G1 H' ∧ whileW wt b D' m δ s, fun σ' H' h => ⟨m, Nat.lt_succ_self m, h⟩, F, G2, δ1, s2, _, en1.mono e2, o2, h2, ?_, q.rt.mono e12, q.nx.mono e12, ?_⟩
        · exact fun δ5 s5 h5 G5 H5 σ5 e5 en5 o5 => ⟨G5, δ5, s5, e12.trans e5, en5, o5, h5⟩
        · exact fun δ5 s5 h5 G5 H5 σ5 e5 en5 o5 => ⟨G5, δ5, s5, e12.trans e5, en5, o5, h5⟩
      | false =>
        rw [if_neg Bool.false_ne_true]
        exact q.nx δ1 s2 h2 G2 H2 σ1 (e1.trans e2) (en1.mono e2) o2
end

/-! ### comprehensions -/
def lcW (vs : List Nat) (g : WG) (t : WT) (w : WE) (δ : Dn) : List D → S → (List D → S → Prop) → Prop
  | [], s, P => P [] s
  | d :: ds, s, P => g d (wipeD δ vs) s fun δ1 s1 => t δ1 s1 fun k s2 => match k with
    | true => w δ1 s2 fun y s3 => lcW vs g t w δ ds s3 fun ys s4 => P (y :: ys) s4
    | false => lcW vs g t w δ ds s2 P
def wLc (vs : List Nat) (wi : WI) (g : WG) (t : WT) (w : WE) : WA := fun δ s P => wi δ s fun ds s1 => ds.length ≤ sizeLine ∧ lcW vs g t w δ ds s1 P
def wYes : WT := fun _ s P => P true s
abbrev DTs (X : Cx) (ifs : List Expr) (w : WT) : Prop := PTs X ifs (lT X.K w)
theorem dts_nil {X : Cx} : DTs X [] wYes := ⟨fun pins s σ H Q I ⟨F, G, δ, s', P, en, o, h, q⟩ => pts_nil.run pins s σ H Q I (q true s' h G H (Ex.refl G) o)⟩
theorem dts_one {X : Cx} {c : Expr} {w : WT} (h : DT X c w) : DTs X [c] w := pts_one h
theorem wipe_get (σ : St) : ∀ (vs : List Nat) (j : Nat), (L2.wipe σ vs)[j]? = if j ∈ vs ∧ j < σ.length then some none else σ[j]?
  | [], j => by simp [L2.wipe]
  | v :: vs, j => by
    unfold L2.wipe
    by_cases h : v = j
    · subst h
      by_cases hl : v < σ.length
      · rw [List.getElem?_set_self (by rw [wipe_length]; exact hl)]; simp [hl]
      · rw [List.getElem?_eq_none (by rw [List.length_set, wipe_length]; omega), if_neg (by simp [hl]), List.getElem?_eq_none (by omega)]
    · rw [List.getElem?_set_ne h, wipe_get σ vs j]
      have h' : ¬ j = v := fun z => h z.symm
      simp [h']
theorem wipe_same {σ σ2 : St} {vs us : List Nat} (hl : σ2.length = (L2.wipe σ vs).length) (ha : ∀ j : Nat, j ∉ us → σ2[j]? = (L2.wipe σ vs)[j]?) (hs : ∀ j ∈ us, j ∈ vs) : L2.wipe σ2 vs = L2.wipe σ vs := by
  rw [wipe_length] at hl
  apply List.ext_getElem?
  intro j
  rw [wipe_get, hl]
  by_cases hj : j ∈ vs
  · rw [wipe_get]
    by_cases h2 : j < σ.length
    · rw [if_pos ⟨hj, h2⟩, if_pos ⟨hj, h2⟩]
    · rw [if_neg (fun z => h2 z.2), if_neg (fun z => h2 z.2), List.getElem?_eq_none (by omega), List.getElem?_eq_none (by omega)]
  · rw [if_neg (fun z => hj z.1)]
    exact ha j fun z => hj (hs j z)
theorem Own.drop {K : PySem.W.Frag} {F F0 : Hp} {s : S} {G H : Hp} (o : Own K F s G H) {p : Addr} {u : HO} (h : F p = some u) (e : Ex F0 F) (h0 : F0 p = none) : Own K F0 s G (fun b => if b = p then none else H b) := by
  obtain ⟨h1, h2, h3⟩ := o.fr p u h
  have nd := o.noDk h
  have o0 := o.back e
  refine ⟨fun a v q => ?_, fun a v q => ?_, fun a m q => ?_, fun a n q => ?_⟩
  · have ha : a ≠ p := ne_of_none q h2
    simp only [if_neg ha]; exact o0.ex a v q
  · have ha : a ≠ p := ne_of_none q h0
    simp only [if_neg ha]; exact o0.fr a v q
  · have ha : a ≠ p := fun z => by rw [z, h3] at q; cases q
    simp only [if_neg ha]; exact o0.mu a m q
  · obtain ⟨a1, cells, mixed, k, g1, g2, g3, g4, g5, g6, g7, g8⟩ := (o0.dk a n q).ex
    obtain ⟨d1, d2⟩ := nd a n q _ _ _ g6
    exact ⟨a1, cells, mixed, k, g1, g2, g3, g4, g5, by simp only [if_neg d1.symm]; exact g6, by simp only [if_neg d2.symm]; exact g7, g8⟩
/-- the rows of W, as pe_lc asks -/
theorem lc_rows {K : PySem.W.Frag} {F G : Hp} {δ : Dn} {σ : St} {H1 : Hp} {s1 : S} {vs us : List Nat} {g : WG} {t : WT} {w : WE} {ds : List D} {J : It} {P : List D → S → Prop} {Q : VK} (hsz : ds.length ≤ sizeLine)
    (en : EnvOk K G δ σ) (o1 : Own K F s1 G H1) (jk : JOk K G ds J) (h1 : lcW vs g t w δ ds s1 P) (q : RetL K F G P Q) (hs : ∀ j ∈ us, j ∈ vs) (D : Addr) (hD : H1 D = none) :
    ∃ W : Nat → Nat → Hp → Prop, (∃ m, W 0 m (upd H1 D (.lst []))) ∧ ∀ i m H, W i m H →
      (J.stop i H ∧ Q (.ref D) H) ∨ (J.go i H ∧ ∃ Nx : Hp → Prop, (∀ H', Nx H' → ∃ m', m' < m ∧ W (i + 1) m' H') ∧ ∀ x H', J.yld i H x H' → lG K us g x (L2.wipe σ vs) H' fun σ2 H2 => L2.wipe σ2 vs = L2.wipe σ vs ∧ lT K t σ2 H2 fun b H3 =>
        if b = true then lE K w σ2 H3 fun y H4 => ∃ acc, H4 D = some (.lst acc) ∧ acc.length < sizeLine ∧ Nx (upd H4 D (.lst (acc ++ [y]))) else Nx H3) := by
  have fD := o1.freeF hD
  -- the word: what is made so far (acc stands for ys), what is left
  let Wd : Nat → Hp → Prop := fun i H => ∃ G2 s2 ys acc, Ex G G2 ∧ Own K (upd F D (.lst acc)) s2 G2 H ∧ RepL K G2 ys acc ∧ acc.length ≤ i ∧ lcW vs g t w δ (ds.drop i) s2 fun zs s' => P (ys ++ zs) s'
  have start : Wd 0 (upd H1 D (.lst [])) := by
    refine ⟨G, s1, [], [], Ex.refl _, ?_, .nil, Nat.le_refl _, h1⟩
    have op := o1.pass (u := .lst []) hD
    refine op.lend upd_same (o1.freeG hD) (o1.freeM hD) fun a n e a1 mx k h => ?_
    obtain ⟨a1', cells, mixed, k', _, _, _, _, _, h6, h7, _⟩ := (o1.dk a n e).ex
    have n1 : a ≠ D := ne_of_none h6 hD
    have n2 : a1' ≠ D := ne_of_none h7 hD
    rw [upd_ne n1, h6] at h
    cases h
    exact ⟨n1.symm, n2.symm⟩
  refine ⟨fun i m H => m = ds.length - i ∧ i ≤ ds.length ∧ Wd i H, ⟨ds.length, by simp, Nat.zero_le _, start⟩, ?_⟩
  rintro i m H ⟨rfl, hi, G2, s2, ys, acc, e2, o2, r2, hl2, h2⟩
  have exF : ∀ u, Ex F (upd F D u) := fun u => Ex.new fD
  by_cases hlt : i < ds.length
  · refine .inr ?_
    obtain ⟨go, yl⟩ := jk.go i _ s2 G2 H e2 o2 hlt
    refine ⟨go, fun H' => Wd (i + 1) H', fun H' h => ⟨ds.length - (i + 1), by omega, rfl, hlt, h⟩, fun x H' y => ?_⟩
    obtain ⟨d, G3, hd, e3, o3, r3⟩ := yl x H' y
    rw [drop_get hd] at h2
    have en3 := ((en.mono e2).mono e3).wipe vs
    refine ⟨_, G3, wipeD δ vs, s2, d, _, en3, o3, r3, h2, fun δ4 s4 h4 G4 H4 σ4 e4 en4 o4 l4 a4 => ⟨wipe_same l4 a4 hs, _, G4, δ4, s4, _, en4, o4, h4, fun k s5 h5 G5 H5 e5 o5 => ?_⟩⟩
    have e25 := e3.trans (e4.trans e5)
    cases k with
    | false =>
      dsimp only
      rw [if_neg Bool.false_ne_true]
      exact ⟨G5, s5, ys, acc, e2.trans e25, o5, r2.mono e25, by omega, h5⟩
    | true =>
      dsimp only
      rw [if_pos rfl]
      refine ⟨_, G5, δ4, s5, _, en4.mono e5, o5, h5, fun y s6 h6 G6 H6 v6 e6 o6 r6 => ?_⟩
      have e26 := e25.trans e6
      obtain ⟨f1, f2, f3⟩ := o6.fr D _ upd_same
      refine ⟨acc, f1, by omega, G6, s6, ys ++ [y], acc ++ [v6], e2.trans e26, ?_, (r2.mono e26).append (.cons r6 .nil), by rw [List.length_append]; simp; omega, ?_⟩
      · have nd := o6.noDk (p := D) upd_same
        have ot := (o6.back (exF _)).turn (u := .lst (acc ++ [v6])) fD f2 f3 nd
        refine ot.lend upd_same f2 f3 fun a n e a1 mx k h => ?_
        obtain ⟨a1', cells, mixed, k', _, g2, g3, _, _, g6, g7, _⟩ := (o6.dk a n e).ex
        have n1 : a ≠ D := fun z => by rw [z, upd_same] at g2; cases g2.2
        have n2 : a1' ≠ D := fun z => by rw [z, upd_same] at g3; cases g3.2
        rw [upd_ne n1, g6] at h
        cases h
        exact ⟨n1.symm, n2.symm⟩
      · have ea : ∀ zs : List DL.D, (ys ++ [y]) ++ zs = ys ++ (y :: zs) := fun zs => by simp
        simp only [ea]
        exact h6
  · have e : i = ds.length := by omega
    subst e
    rw [List.drop_length] at h2
    obtain ⟨f1, f2, f3⟩ := o2.fr D _ upd_same
    have h2' : P ys s2 := by have z : P (ys ++ []) s2 := h2; rw [List.append_nil] at z; exact z
    refine .inl ⟨jk.stop _ _ s2 G2 H e2 o2 (Nat.le_refl _), ?_⟩
    have od := o2.drop (p := D) upd_same (exF _) fD
    have z := q ys s2 h2' G2 _ D acc e2 od (by simp) r2
    have eH : upd (fun b => if b = D then none else H b) D (.lst acc) = H := by
      funext b
      by_cases hb : b = D
      · subst hb; rw [upd_same]; exact f1.symm
      · rw [upd_ne hb]; simp [hb]
    rw [eH] at z
    exact z
section
variable {X : Cx} {elt tg iter : Expr} {ifs : List Expr} {scope : Scope} {own : List (Str × Nat)} {pos : Pos} {wi : WI} {g : WG} {t : WT} {w : WE} {us : List Nat}
/-- [elt for tg in iter if ..], one for -/
theorem del_lc (own : List (Str × Nat)) (hc : X.calm = true) (hN : X.N.Nodup) (hi : DI X tg iter wi) (ok : BlkOk X.N X.env.scope scope own)
    (hg : ∀ (s : Shared) (H : Hp) (C : Addr) (cl : List (Str × Addr)) (fp : List Addr), DG (X.blk s H scope (compEnvC scope cl C X.env) fp) tg us g)
    (ht : ∀ (s : Shared) (H : Hp) (C : Addr) (cl : List (Str × Addr)) (fp : List Addr), DTs (X.blk s H scope (compEnvC scope cl C X.env) fp) ifs t)
    (he : ∀ (s : Shared) (H : Hp) (C : Addr) (cl : List (Str × Addr)) (fp : List Addr), DE (X.blk s H scope (compEnvC scope cl C X.env) fp) elt w)
    (hu : ∀ j ∈ us, j ∈ own.map (·.2) := by decide) (hs : ∀ x, foldedSetIterable iter X.env x = pure x := by intro _; rfl) :
    DEL X (.ListComp elt [⟨tg, iter, ifs, 0⟩] scope pos) (wLc (own.map (·.2)) wi g t w) :=
  PE.imp (pe_lc (own := own) hc hN hi ok hg ht he hs) fun σ H Q ⟨F, G, δ, s, P, en, o, hw, q⟩ => ⟨F, G, δ, s, _, en, o, hw, fun ds s1 h1 G1 H1 J e1 o1 jk D hD =>
    lc_rows h1.1 (en.mono e1) o1 jk h1.2 (q.mono e1) hu D hD⟩
/-- name = [..] -/
theorem ds_setLc {i : Nat} {y : Str} {py spos : Pos} (own : List (Str × Nat)) (hc : X.calm = true) (hN : X.N.Nodup) (hy : X.N[i]? = some y) (hyl : X.env.scope.names.lookup y = some .local)
    (hsw : swapsWith (.ListComp elt [⟨tg, iter, ifs, 0⟩] scope pos) (some (.Name y py)) spos.line X.env = pure true) (hi : DI X tg iter wi) (ok : BlkOk X.N X.env.scope scope own)
    (hg : ∀ (s : Shared) (H : Hp) (C : Addr) (cl : List (Str × Addr)) (fp : List Addr), DG (X.blk s H scope (compEnvC scope cl C X.env) fp) tg us g)
    (ht : ∀ (s : Shared) (H : Hp) (C : Addr) (cl : List (Str × Addr)) (fp : List Addr), DTs (X.blk s H scope (compEnvC scope cl C X.env) fp) ifs t)
    (he : ∀ (s : Shared) (H : Hp) (C : Addr) (cl : List (Str × Addr)) (fp : List Addr), DE (X.blk s H scope (compEnvC scope cl C X.env) fp) elt w)
    (hu : ∀ j ∈ us, j ∈ own.map (·.2) := by decide) (hs : ∀ x, foldedSetIterable iter X.env x = pure x := by intro _; rfl) :
    DS X (.Assign [.Name y py] (.ListComp elt [⟨tg, iter, ifs, 0⟩] scope pos) spos) (wAsg (wFz (wLc (own.map (·.2)) wi g t w)) (wgName i)) :=
  PS.imp (ps_setLc (own := own) hc hN hy hyl hsw hi ok hg ht he hs) fun D σ H ⟨F, G, δ, s, D', en, o, hw, q⟩ => ⟨F, G, δ, s, _, en, o, hw, fun ds s1 h1 G1 H1 J e1 o1 jk L hL =>
    lc_rows (Q := fun x H1 => gName i x σ H1 D.nx) h1.1 (en.mono e1) o1 jk h1.2 (fun ds2 s2 h2 G2 H2 p xs e2 o2 hp r2 => by
      have e3 := Ex.new (o := .lst xs) (o2.freeG hp)
      exact q.nx _ s2 h2 _ _ _ (e1.trans (e2.trans e3)) (((en.mono e1).mono (e2.trans e3)).set (.lst upd_same (r2.mono e3))) (o2.lay hp)) hu L hL⟩
/-- the same, a list that will change -/
theorem ds_setLcM {i : Nat} {y : Str} {py spos : Pos} (own : List (Str × Nat)) (hc : X.calm = true) (hN : X.N.Nodup) (hy : X.N[i]? = some y) (hyl : X.env.scope.names.lookup y = some .local)
    (hsw : swapsWith (.ListComp elt [⟨tg, iter, ifs, 0⟩] scope pos) (some (.Name y py)) spos.line X.env = pure true) (hi : DI X tg iter wi) (ok : BlkOk X.N X.env.scope scope own)
    (hg : ∀ (s : Shared) (H : Hp) (C : Addr) (cl : List (Str × Addr)) (fp : List Addr), DG (X.blk s H scope (compEnvC scope cl C X.env) fp) tg us g)
    (ht : ∀ (s : Shared) (H : Hp) (C : Addr) (cl : List (Str × Addr)) (fp : List Addr), DTs (X.blk s H scope (compEnvC scope cl C X.env) fp) ifs t)
    (he : ∀ (s : Shared) (H : Hp) (C : Addr) (cl : List (Str × Addr)) (fp : List Addr), DE (X.blk s H scope (compEnvC scope cl C X.env) fp) elt w)
    (hu : ∀ j ∈ us, j ∈ own.map (·.2) := by decide) (hs : ∀ x, foldedSetIterable iter X.env x = pure x := by intro _; rfl) :
    DS X (.Assign [.Name y py] (.ListComp elt [⟨tg, iter, ifs, 0⟩] scope pos) spos) (wSetM i (wLc (own.map (·.2)) wi g t w)) :=
  PS.imp (ps_setLc (own := own) hc hN hy hyl hsw hi ok hg ht he hs) fun D σ H ⟨F, G, δ, s, D', en, o, hw, q⟩ => ⟨F, G, δ, s, _, en, o, hw, fun ds s1 h1 G1 H1 J e1 o1 jk L hL =>
    lc_rows (Q := fun x H1 => gName i x σ H1 D.nx) h1.1 (en.mono e1) o1 jk h1.2 (fun ds2 s2 h2 G2 H2 p xs e2 o2 hp r2 => by
      obtain ⟨f1, f2⟩ := o2.fresh hp
      exact q.nx _ _ (h2 p f1 f2) G2 _ _ (e1.trans e2) (((en.mono e1).mono e2).set (.ref p)) (o2.put hp r2)) hu L hL⟩
end
end DL

set_option Elab.async false
set_option linter.all false
set_option autoImplicit false
set_option maxRecDepth 100000
set_option maxHeartbeats 2000000
namespace DL
open PySem PySem.Spec PyProof.Rows L2
open Evl (Ex)

/-! ### a def's promise, where no repr runs around it -/
structure RoomG (k : Nat) (A : Around) : Prop where
  rm : Room k A
  gd : A.guards = some []
theorem RoomG.mono {j k : Nat} {A : Around} (r : RoomG k A) (h : j ≤ k) : RoomG j A := ⟨r.rm.mono h, r.gd⟩
theorem RoomG.deeper {k : Nat} {A : Around} (r : RoomG (k + 1) A) (env : Env) : RoomG k (A.deeper env) := ⟨r.rm.deeper env, r.gd⟩

/-- the function at f: at every entry with room its end is as sp tells -/
structure FnG (P : Program) (w : World) (K : PySem.W.Frag) (mg : Str → Option Value) (base : Heap) (CX : CXT) (k : Nat) (f : Addr) (fd : FuncData) (ps : List Str) (sp : Sp) : Prop where
  len : ∀ vs H Q E, sp vs H Q E → vs.length = ps.length
  run : ∀ (A : Around) (outer : List Env) (s : Shared) (H : Hp) (args : Args) (us : List Value) (vs : List V) (Q : VK) (E : XK), RoomG k A → Env0 P w K mg base A outer s H →
    BindsTo s fd args (ps.zip us) → Vals vs us → sp vs H Q E → codeAny (model P w) A (.call (.ref f) args) (CR CX outer P w H s Q E) s
section
variable {P : Program} {w : World} {K : PySem.W.Frag} {mg : Str → Option Value} {base : Heap} {CX : CXT} {k : Nat} {f : Addr} {fd : FuncData} {ps : List Str} {sp : Sp}
theorem FnG.mono {j : Nat} (F : FnG P w K mg base CX j f fd ps sp) (h : j ≤ k) : FnG P w K mg base CX k f fd ps sp :=
  ⟨F.len, fun A outer s H args us vs Q E hr => F.run A outer s H args us vs Q E (hr.mono h)⟩
theorem FnG.imp {sp' : Sp} (F : FnG P w K mg base CX k f fd ps sp) (h : ∀ vs H Q E, sp' vs H Q E → sp vs H Q E) : FnG P w K mg base CX k f fd ps sp' :=
  ⟨fun vs H Q E q => F.len vs H Q E (h _ _ _ _ q), fun A outer s H args us vs Q E hr e0 hb hv q => F.run A outer s H args us vs Q E hr e0 hb hv (h _ _ _ _ q)⟩
/-- a def by its body -/
theorem fnG_of {x qual : Str} {st : Stmt} {N : List Str} (Fu : Fun K x qual st f fd) (S : FnScope N ps (defScope st)) (len : ∀ vs H Q E, sp vs H Q E → vs.length = ps.length)
    (hbody : ∀ (cdv : Value) (A : Around) (outer : List Env) (s : Shared) (H : Hp) (vs : List V) (Q : VK) (E : XK), RoomG k (A.deeper (envOfC qual (defScope st) s.heap.objs.size f cdv)) → sp vs H Q E →
      ∃ t, PSs (cxOf CX P w K mg base N qual (defScope st) f cdv A outer s H E) (defBody st) t ∧ t { nx := fun _ H' => Q .non H', rt := Q } (start N vs) H) : FnG P w K mg base CX (k + 1) f fd ps sp := by
  obtain ⟨oc, od, kV, doc, pm, an, cdv, ct, osl, rfl, lk, hcd⟩ := Fu.ex
  refine ⟨len, fun A outer s H args us vs Q E hr e0 hb r hsp => ?_⟩
  have kp : ∀ b o, base.get? b = some o → s.heap.get? b = some o := fun b o e => (e0.bs b o e).1
  have hk : ∀ y ∈ ps.zip us, (defScope st).names.lookup y.1 = some .local ∨ ((defScope st).names.lookup y.1 = some .cell ∧ ((cellsFrom (s.heap.objs.size + 1) (defScope st).names []).lookup y.1).isSome = true) := by
    rintro ⟨n, v⟩ hy
    rcases S.par n (List.of_mem_zip hy).1 with q | q
    · exact Or.inl q
    · exact Or.inr ⟨q, PySem.W.cellsFrom_some _ _ _ (Or.inl q)⟩
  have KX : K.In s.heap := e0.mod.kin.keeps kp
  refine codeAny_call_function hr.rm.depth (KX _ _ lk) rfl S.co S.gen rfl (PySem.W.codeRec_of KX hcd) (hb _ _ _ _ (wpAny_newFunctionEnv_cells S.kind hk fun env he s1 x => ?_))
  subst he
  refine ⟨(e0.mod.nolimit.keeps kp).keeps x.toInCall.keep, codeAny_func ?_⟩
  obtain ⟨t, ht, hq⟩ := hbody cdv A outer s H vs Q E (hr.deeper _) hsp
  refine wpAny_mono (ht.run [] s1 (start N vs) H _ (inv_start S hr.rm.hd e0 (len _ _ _ _ hsp) r x) hq) (fun fl s' hs => ?_) fun _ _ z => z
  cases fl with
  | ret u => obtain ⟨v, _, H', J, rv, q⟩ := hs; exact ⟨v, H', J.os, J.bare, J.base, J.hok, rv, q⟩
  | next => obtain ⟨_, H', J, q⟩ := hs; exact ⟨.non, H', J.os, J.bare, J.base, J.hok, rfl, q⟩
  | brk => obtain ⟨_, _, _, q⟩ := hs; exact q.elim
  | cont => obtain ⟨_, _, _, q⟩ := hs; exact q.elim
end
section
variable {X : Cx} {CX : CXT} {k : Nat} {f : Addr} {fd : FuncData} {ps ks : List Str} {sp : Sp} {dvs : List V} {ds : List Value} {E : XK} {x : Str} {p pos : Pos} {e : Expr} {es : List Expr} {kws : List Keyword} {t tk : TA}
/-- the call runs; what it leaves -/
theorem runG {pins : List (Addr × Obj)} {σ : L2.St} {H : Hp} {s : Shared} {Q : VK} {args : Args} {us : List Value} {vs : List V} (F : FnG X.prog X.w X.K X.mg X.base CX k f fd ps sp) (hr : RoomG k X.A) (hx : Passes CX X E)
    (I : Inv X pins σ H s) (hb : us.length = ps.length → BindsTo s fd args (ps.zip us)) (r : Vals vs us) (h : sp vs H Q E) : wpAny (model X.prog X.w) X.A (call (.ref f) args.pos args.kw) (EP X pins σ Q) X.xe s := by
  have hl : us.length = ps.length := r.length.symm.trans (F.len _ _ _ _ h)
  refine wpAny_call (codeAny_mono (F.run X.A X.stack s H args us vs Q E hr I.env0 (hb hl) r h) fun res s' hq => ?_)
  match res, hq with
  | .error e, hq => exact hx pins σ H s e s' I hq
  | .ok (.ret u), hq => exact I.after hq
  | .ok .next, hq => exact False.elim hq
  | .ok .brk, hq => exact False.elim hq
  | .ok .cont, hq => exact False.elim hq
theorem pe_callG (F : FnG X.prog X.w X.K X.mg X.base CX k f fd ps sp) (hr : RoomG k X.A) (hg : Gl X x) (hm : X.mg x = some (.ref f)) (hk : PySem.W.keepIn X.K (.ref f) = true) (hb : Binds X.K fd ps ds) (hd : Vals dvs ds) (hx : Passes CX X E)
    (ha : PA X (e :: es) t) (hdb : (x == ("__debug__" : Str)) = false := by decide) (he : starEach (e :: es) X.env = (false, eval e X.env) :: starEach es X.env := by rfl)
    (hpl : (backTo pos (starEach es X.env)).any (·.1) = false := by rfl) : PE X (.Call (.Name x p) (e :: es) [] pos) (fun σ H Q => t σ H fun vs H1 => sp (vs ++ dvs) H1 Q E) :=
  ⟨fun pins s σ H Q I h => wpAny_Call_Name_kw (ld_glob I hg hm (PySem.W.callWith_K (h₀ := X.base) I.ok.mod.kin hk (thn (ha.run pos pins s σ H _ I h) fun us s1 ⟨vs, H1, I1, r, q⟩ =>
    ⟨I1.kIn, runG (args := ⟨us, []⟩) F hr hx I1 (fun hl => hb s1 us I1.kIn hl) (r.append hd) q⟩) he hpl) hdb)⟩
theorem pe_callG0 (F : FnG X.prog X.w X.K X.mg X.base CX k f fd ps sp) (hr : RoomG k X.A) (hg : Gl X x) (hm : X.mg x = some (.ref f)) (hk : PySem.W.keepIn X.K (.ref f) = true) (hb : Binds X.K fd ps ds) (hd : Vals dvs ds) (hx : Passes CX X E)
    (hdb : (x == ("__debug__" : Str)) = false := by decide) : PE X (.Call (.Name x p) [] [] pos) (fun σ H Q => sp dvs H Q E) :=
  ⟨fun pins s σ H Q I h => wpAny_Call_Name_kw (ld_glob I hg hm (PySem.W.callWith_K0 I.kIn hk (runG (args := ⟨[], []⟩) (us := ds) F hr hx I (fun hl => hb s [] I.kIn hl) hd h)) hdb)⟩
variable {g : List Value → List Value → List Value} {gV : List V → List V → List V}
theorem pe_callGK (F : FnG X.prog X.w X.K X.mg X.base CX k f fd ps sp) (hr : RoomG k X.A) (hg : Gl X x) (hm : X.mg x = some (.ref f)) (hk : PySem.W.keepIn X.K (.ref f) = true) (hb : KBinds X.K fd ps ks g gV) (hx : Passes CX X E)
    (ha : PA X (e :: es) t) (hkw : PK X kws tk) (hall : (backToKw pos (keywordEach kws X.env)).all (·.1.isSome) = true := by rfl) (hks : (backToKw pos (keywordEach kws X.env)).filterMap (·.1) = ks := by rfl)
    (hdb : (x == ("__debug__" : Str)) = false := by decide) (he : starEach (e :: es) X.env = (false, eval e X.env) :: starEach es X.env := by rfl)
    (hpl : ((backTo pos (starEach (e :: es) X.env)).any (·.1) || (backToKw pos (keywordEach kws X.env)).any (·.1.isNone)) = false := by rfl) :
    PE X (.Call (.Name x p) (e :: es) kws pos) (fun σ H Q => t σ H fun vs H1 => tk σ H1 fun zs H2 => sp (gV vs zs) H2 Q E) := by
  refine ⟨fun pins s σ H Q I h => wpAny_Call_Name_kw (ld_glob I hg hm ?_ hdb)⟩
  refine PySem.W.callWith_KW (h₀ := X.base) I.ok.mod.kin hk hall (thn (ha.run pos pins s σ H _ I h) fun us s1 ⟨vs, H1, I1, r, q⟩ => thn (hkw.run pos pins s1 σ H1 _ I1 q) fun ws s2 ⟨zs, H2, I2, rz, q2⟩ => ⟨I2.kIn, ?_⟩) hpl he
  rw [hks]
  exact runG (args := ⟨us, ks.zip ws⟩) F hr hx I2 (fun hl => hb.to s2 us ws I2.kIn hl) (hb.rel r rz) q2
theorem pe_callGK0 (F : FnG X.prog X.w X.K X.mg X.base CX k f fd ps sp) (hr : RoomG k X.A) (hg : Gl X x) (hm : X.mg x = some (.ref f)) (hk : PySem.W.keepIn X.K (.ref f) = true) (hb : KBinds X.K fd ps ks g gV) (hx : Passes CX X E)
    (hkw : PK X kws tk) (hall : (backToKw pos (keywordEach kws X.env)).all (·.1.isSome) = true := by rfl) (hks : (backToKw pos (keywordEach kws X.env)).filterMap (·.1) = ks := by rfl)
    (hdb : (x == ("__debug__" : Str)) = false := by decide)
    (hpl : ((backTo pos (starEach [] X.env)).any (·.1) || (backToKw pos (keywordEach kws X.env)).any (·.1.isNone)) = false := by rfl) :
    PE X (.Call (.Name x p) [] kws pos) (fun σ H Q => tk σ H fun zs H2 => sp (gV [] zs) H2 Q E) := by
  refine ⟨fun pins s σ H Q I h => wpAny_Call_Name_kw (ld_glob I hg hm ?_ hdb)⟩
  refine PySem.W.callWith_KW0 (h₀ := X.base) I.ok.mod.kin hk hall (thn (hkw.run pos pins s σ H _ I h) fun ws s2 ⟨zs, H2, I2, rz, q2⟩ => ⟨I2.kIn, ?_⟩) hpl
  rw [hks]
  exact runG (args := ⟨[], ks.zip ws⟩) F hr hx I2 (fun hl => hb.to s2 [] ws I2.kIn hl) (hb.rel .nil rz) q2
end

/-! ### promises over data -/
abbrev SpD := List D → S → DK → Prop
def lSp (K : PySem.W.Frag) (sp : SpD) : Sp := fun vs H Q _ => ∃ F G ds s P, Own K F s G H ∧ RepL K G ds vs ∧ sp ds s P ∧ Ret K F G P Q
abbrev FnD (P : Program) (w : World) (K : PySem.W.Frag) (mg : Str → Option Value) (base : Heap) (k : Nat) (f : Addr) (fd : FuncData) (ps : List Str) (sp : SpD) : Prop := FnG P w K mg base CX0 k f fd ps (lSp K sp)
theorem FnD.imp {P : Program} {w : World} {K : PySem.W.Frag} {mg : Str → Option Value} {base : Heap} {k : Nat} {f : Addr} {fd : FuncData} {ps : List Str} {sp sp' : SpD} (F : FnD P w K mg base k f fd ps sp) (h : ∀ ds s P, sp' ds s P → sp ds s P) : FnD P w K mg base k f fd ps sp' :=
  FnG.imp F fun vs H Q E ⟨Fr, G, ds, s, Pd, o, r, hs, q⟩ => ⟨Fr, G, ds, s, Pd, o, r, h ds s Pd hs, q⟩
/-- a def by its body over data -/
theorem fnD_of {P : Program} {w : World} {K : PySem.W.Frag} {mg : Str → Option Value} {base : Heap} {k : Nat} {f : Addr} {fd : FuncData} {N ps : List Str} {x qual : Str} {st : Stmt} {sp : SpD} {wb : WS} (Fu : Fun K x qual st f fd) (S : FnScope N ps (defScope st))
    (len : ∀ ds s Pd, sp ds s Pd → ds.length = ps.length)
    (hbody : ∀ (cdv : Value) (A : Around) (outer : List Env) (s : Shared) (H : Hp) (E : XK), RoomG k (A.deeper (envOfC qual (defScope st) s.heap.objs.size f cdv)) →
      DSs (cxOf CX0 P w K mg base N qual (defScope st) f cdv A outer s H E).nox (defBody st) wb)
    (hw : ∀ ds s Pd, sp ds s Pd → wb { nx := fun _ s' => Pd .non s', rt := Pd } (startD N ds) s) : FnD P w K mg base (k + 1) f fd ps sp := by
  refine fnG_of Fu S (fun vs H Q E ⟨F, G, ds, s, Pd, o, r, hs, q⟩ => r.length.symm.trans (len ds s Pd hs)) fun cdv A outer s H vs Q E hr ⟨F, G, ds, s', Pd, o, r, hs, q⟩ => ?_
  refine ⟨_, (hbody cdv A outer s H E hr).nox, F, G, startD N ds, s', _, EnvOk.start r, o, hw ds s' Pd hs, ?_⟩
  exact ⟨fun δ s1 h1 G1 H1 σ1 e1 en1 o1 => q .non s1 h1 G1 H1 .non e1 o1 .non, q, fun _ _ h => h.elim, fun _ _ h => h.elim⟩

def wCall (sp : SpD) (wr : WA) : WE := fun δ s P => wr δ s fun ds s1 => sp ds s1 P
/-- positional, then keywords' values, put in the parameters' order by g -/
def wCallK (sp : SpD) (g : List D → List D → List D) (wr wk : WA) : WE := fun δ s P => wr δ s fun ds s1 => wk δ s1 fun es s2 => sp (g ds es) s2 P
abbrev DKw (X : Cx) (kws : List Keyword) (n : Nat) (w : WA) : Prop := PK X kws (lA X.K n w)
theorem PK.imp {X : Cx} {e : List Keyword} {t t' : TA} (h : PK X e t) (i : ∀ σ H Q, t' σ H Q → t σ H Q) : PK X e t' := ⟨fun pos pins s σ H Q I q => h.run pos pins s σ H Q I (i σ H Q q)⟩
section
variable {X : Cx} {k n m : Nat} {f : Addr} {fd : FuncData} {ps ks : List Str} {sp : SpD} {x : Str} {p pos kpos : Pos} {nm : Option Str} {e : Expr} {es : List Expr} {kws : List Keyword} {wr wk : WA} {w : WE}
theorem dk_nil : DKw X [] 0 wNil := PK.imp pk_nil fun _ H _ ⟨F, G, _, s, _, _, o, h, q⟩ => q [] s h rfl G H [] (Ex.refl G) o .nil
theorem dk_cons (ha : DE X e w) (hr : DKw X kws n wr) : DKw X (⟨nm, e, kpos⟩ :: kws) (n + 1) (wCons w wr) :=
  PK.imp (pk_cons ha hr) fun σ H Q ⟨F, G, δ, s, P, en, o, h, q⟩ => ⟨F, G, δ, s, _, en, o, h, fun d s1 h1 G1 H1 v e1 o1 r1 =>
    ⟨F, G1, δ, s1, _, en.mono e1, o1, h1, fun ds s2 h2 hl G2 H2 vs e2 o2 r2 => q _ s2 h2 (by rw [List.length_cons, hl]) G2 H2 _ (e1.trans e2) o2 (.cons (r1.mono e2) r2)⟩⟩
theorem de_call (F : FnD X.prog X.w X.K X.mg X.base k f fd ps sp) (hr : RoomG k X.A) (hg : Gl X x) (hm : X.mg x = some (.ref f)) (hk : PySem.W.keepIn X.K (.ref f) = true) (hb : Binds X.K fd ps []) (ha : DA X (e :: es) n wr)
    (hdb : (x == ("__debug__" : Str)) = false := by decide) (he : starEach (e :: es) X.env = (false, eval e X.env) :: starEach es X.env := by rfl) (hpl : (backTo pos (starEach es X.env)).any (·.1) = false := by rfl) :
    DE X (.Call (.Name x p) (e :: es) [] pos) (wCall sp wr) :=
  PE.imp (pe_callG F hr hg hm hk hb .nil pass0 ha hdb he hpl) fun σ H Q ⟨F, G, δ, s, P, en, o, h, q⟩ => ⟨F, G, δ, s, _, en, o, h, fun ds s1 h1 hl G1 H1 vs e1 o1 r1 =>
    ⟨F, G1, ds, s1, P, o1, by rw [List.append_nil]; exact r1, h1, q.mono e1⟩⟩
theorem de_call0 (F : FnD X.prog X.w X.K X.mg X.base k f fd ps sp) (hr : RoomG k X.A) (hg : Gl X x) (hm : X.mg x = some (.ref f)) (hk : PySem.W.keepIn X.K (.ref f) = true) (hb : Binds X.K fd ps [])
    (hdb : (x == ("__debug__" : Str)) = false := by decide) : DE X (.Call (.Name x p) [] [] pos) (wCall sp wNil) :=
  PE.imp (pe_callG0 F hr hg hm hk hb .nil pass0 hdb) fun σ H Q ⟨F, G, δ, s, P, en, o, h, q⟩ => ⟨F, G, [], s, P, o, .nil, h, q⟩
/-- keywords: gD the same order over data -/
theorem de_callK {g : List Value → List Value → List Value} {gV : List V → List V → List V} {gD : List D → List D → List D} (F : FnD X.prog X.w X.K X.mg X.base k f fd ps sp) (hr : RoomG k X.A) (hg : Gl X x) (hm : X.mg x = some (.ref f)) (hk : PySem.W.keepIn X.K (.ref f) = true)
    (hb : KBinds X.K fd ps ks g gV) (hgD : ∀ {K : PySem.W.Frag} {G : Hp} {ds es : List D} {vs us : List V}, ds.length = n → es.length = m → RepL K G ds vs → RepL K G es us → RepL K G (gD ds es) (gV vs us))
    (ha : DA X (e :: es) n wr) (hkw : DKw X kws m wk) (hall : (backToKw pos (keywordEach kws X.env)).all (·.1.isSome) = true := by rfl) (hks : (backToKw pos (keywordEach kws X.env)).filterMap (·.1) = ks := by rfl)
    (hdb : (x == ("__debug__" : Str)) = false := by decide) (he : starEach (e :: es) X.env = (false, eval e X.env) :: starEach es X.env := by rfl)
    (hpl : ((backTo pos (starEach (e :: es) X.env)).any (·.1) || (backToKw pos (keywordEach kws X.env)).any (·.1.isNone)) = false := by rfl) :
    DE X (.Call (.Name x p) (e :: es) kws pos) (wCallK sp gD wr wk) :=
  PE.imp (pe_callGK F hr hg hm hk hb pass0 ha hkw hall hks hdb he hpl) fun σ H Q ⟨F, G, δ, s, P, en, o, h, q⟩ => ⟨F, G, δ, s, _, en, o, h, fun ds s1 h1 hl G1 H1 vs e1 o1 r1 =>
    ⟨F, G1, δ, s1, _, en.mono e1, o1, h1, fun es s2 h2 hl2 G2 H2 us e2 o2 r2 => ⟨F, G2, _, s2, P, o2, hgD hl hl2 (r1.mono e2) r2, h2, q.mono (e1.trans e2)⟩⟩⟩
theorem de_callK0 {g : List Value → List Value → List Value} {gV : List V → List V → List V} {gD : List D → List D → List D} (F : FnD X.prog X.w X.K X.mg X.base k f fd ps sp) (hr : RoomG k X.A) (hg : Gl X x) (hm : X.mg x = some (.ref f)) (hk : PySem.W.keepIn X.K (.ref f) = true)
    (hb : KBinds X.K fd ps ks g gV) (hgD : ∀ {K : PySem.W.Frag} {G : Hp} {ds es : List D} {vs us : List V}, ds.length = 0 → es.length = m → RepL K G ds vs → RepL K G es us → RepL K G (gD ds es) (gV vs us))
    (hkw : DKw X kws m wk) (hall : (backToKw pos (keywordEach kws X.env)).all (·.1.isSome) = true := by rfl) (hks : (backToKw pos (keywordEach kws X.env)).filterMap (·.1) = ks := by rfl)
    (hdb : (x == ("__debug__" : Str)) = false := by decide)
    (hpl : ((backTo pos (starEach [] X.env)).any (·.1) || (backToKw pos (keywordEach kws X.env)).any (·.1.isNone)) = false := by rfl) :
    DE X (.Call (.Name x p) [] kws pos) (wCallK sp gD wNil wk) :=
  PE.imp (pe_callGK0 F hr hg hm hk hb pass0 hkw hall hks hdb hpl) fun σ H Q ⟨F, G, δ, s, P, en, o, h, q⟩ => ⟨F, G, δ, s, _, en, o, h,
    fun es s2 h2 hl2 G2 H2 us e2 o2 r2 => ⟨F, G2, _, s2, P, o2, hgD rfl hl2 .nil r2, h2, q.mono e2⟩⟩
end
end DL

set_option Elab.async false
set_option linter.all false
set_option autoImplicit false
set_option maxRecDepth 100000
set_option maxHeartbeats 2000000
namespace DL
open PySem PySem.Spec PyProof.Rows L2
open Evl (Ex)

/-! ### subscripts -/
def roIx : R2D := fun x y s P => match y with
  | .int i => match view s x with
    | .lst ds => (match atI ds i with | some d => P d s | none => False)
    | .tup ds => (match atI ds i with | some d => P d s | none => False)
    | .tpw ds => (match atI ds i with | some d => P d s | none => False)
    | .str z => z.length ≤ sizeLine ∧ (match atI z.cps.toList i with | some c => P (.str ⟨#[c]⟩) s | none => False)
    | _ => False
  | _ => False
theorem RepL.atI {K : PySem.W.Frag} {G : Hp} {ds : List D} {xs : List V} {i : Int} {d : D} (r : RepL K G ds xs) (h : L2.atI ds i = some d) : ∃ v, L2.atI xs i = some v ∧ Rep K G d v := by
  unfold L2.atI at h ⊢
  rw [← r.length]
  cases q : ixN ds.length i with
  | none => rw [q] at h; cases h
  | some j => rw [q] at h; exact r.get h
section
variable {X : Cx}
theorem ixd : IxR X (lO X.K roIx) := by
  intro value slice pins s σ H x y v u Q I rx ry ⟨F, G, s', d, e, P, o, rd, re, hw, q⟩ hs
  cases re <;> first | exact hw.elim | skip
  unfold roIx at hw
  have vd := o.seen rd
  refine ix_seq value slice pins s σ H x _ v u Q I rx ry ?_ hs
  cases qd : view s' d <;> simp only [qd] at hw <;> first | exact hw.elim | skip
  · rw [qd] at vd
    cases vd
    obtain ⟨h1, hw⟩ := hw
    split at hw
    · rename_i c hc
      exact .inr (.inr ⟨_, _, c, rfl, rfl, h1, hc, q.val o hw (.str _)⟩)
    · exact hw.elim
  · split at hw
    · rename_i e he
      obtain ⟨a, xs, rfl, h1, r⟩ := rd.seqT (.inl (view_tup qd))
      obtain ⟨w, hv, rv⟩ := r.atI he
      exact .inr (.inl ⟨a, xs, _, w, rfl, rfl, ex_t o.ex h1, hv, q.val o hw rv⟩)
    · exact hw.elim
  · split at hw
    · rename_i e he
      obtain ⟨a, xs, rfl, h1, r⟩ := o.seqL rd qd
      obtain ⟨w, hv, rv⟩ := r.atI he
      exact .inl ⟨a, xs, _, w, rfl, rfl, .of h1, hv, q.val o hw rv⟩
    · exact hw.elim
  · split at hw
    · rename_i e he
      obtain ⟨a, xs, rfl, h1, r⟩ := rd.seqT (.inr (view_tpw qd))
      obtain ⟨w, hv, rv⟩ := r.atI he
      exact .inr (.inl ⟨a, xs, _, w, rfl, rfl, ex_t o.ex h1, hv, q.val o hw rv⟩)
    · exact hw.elim
end
abbrev WO := Dn → S → (Option Int → S → Prop) → Prop
def lP (K : PySem.W.Frag) (w : WO) : TO := fun σ H Q => ∃ F G δ s P, EnvOk K G δ σ ∧ Own K F s G H ∧ w δ s P ∧ ∀ i s', P i s' → ∀ G' H', Ex G G' → Own K F s' G' H' → Q i H'
abbrev DPO (X : Cx) (e : Option Expr) (w : WO) : Prop := PO X e (lP X.K w)
def woN : WO := fun _ s P => P none s
def woS (w : WE) : WO := fun δ s P => w δ s fun d s1 => match d with
  | .int i => P (some i) s1
  | _ => False
/-- a list's slice is a new list -/
def cutD (ds : List D) (lo hi : Option Int) : List D := (ds.drop (HT.sIx ds.length 0 lo)).take (HT.sIx ds.length ds.length hi - HT.sIx ds.length 0 lo)
def wSlL (w : WE) (l h : WO) : WA := fun δ s P => w δ s fun d s1 => l δ s1 fun lo s2 => h δ s2 fun hi s3 => match view s3 d with
  | .lst ds => P (cutD ds lo hi) s3
  | .lsk ds => P (cutD ds lo hi) s3
  | _ => False
def wSlS (w : WE) (l h : WO) : WE := fun δ s P => w δ s fun d s1 => l δ s1 fun lo s2 => h δ s2 fun hi s3 => match d with
  | .str z => z.length ≤ sizeLine ∧ P (.str (cutS z lo hi)) s3
  | _ => False
theorem view_lsk {s : S} {d : D} {ds : List D} (e : view s d = .lsk ds) : d = .lsk ds := by
  cases d with
  | ref a =>
    unfold DL.view at e
    cases q : s.M a with
    | none => simp only [q] at e; cases e
    | some m => cases m <;> simp only [q] at e <;> cases e
  | _ => exact e
theorem RepL.cut {K : PySem.W.Frag} {G : Hp} {ds : List D} {xs : List V} (r : RepL K G ds xs) (lo hi : Option Int) : RepL K G (cutD ds lo hi) (cutV xs lo hi) := by
  unfold cutD cutV
  rw [r.length]
  exact (r.drop _).take _
section
variable {X : Cx} {e : Expr} {lo hi : Option Expr} {p2 pos : Pos} {w : WE} {l h : WO}
theorem dpo_none : DPO X none woN := ⟨fun pins s σ H Q I ⟨F, G, δ, s', P, en, o, hw, q⟩ => po_none.run pins s σ H Q I (q none s' hw G H (Ex.refl G) o)⟩
theorem dpo_some (he : DE X e w) : DPO X (some e) (woS w) := ⟨fun pins s σ H Q I ⟨F, G, δ, s', P, en, o, hw, q⟩ => (po_some he).run pins s σ H Q I ⟨F, G, δ, s', _, en, o, hw, fun d s1 h1 G1 H1 v e1 o1 r1 => by
  cases r1 <;> first | exact h1.elim | skip
  exact ⟨_, rfl, q _ s1 h1 G1 H1 e1 o1⟩⟩⟩
theorem del_slice (he : DE X e w) (hl : DPO X lo l) (hh : DPO X hi h) : DEL X (.Subscript e (.Slice lo hi none p2) pos) (wSlL w l h) :=
  PE.imp (pe_slice sl_list he hl hh) fun σ H Q ⟨F, G, δ, s, P, en, o, hw, q⟩ => ⟨F, G, δ, s, _, en, o, hw, fun d s1 h1 G1 H1 v e1 o1 r1 => ⟨F, G1, δ, s1, _, en.mono e1, o1, h1, fun a s2 h2 G2 H2 e2 o2 =>
    ⟨F, G2, δ, s2, _, (en.mono e1).mono e2, o2, h2, fun b s3 h3 G3 H3 e3 o3 => by
      split at h3 <;> first | exact h3.elim | skip
      · rename_i ds hv
        obtain ⟨p, xs, rfl, hx, r⟩ := o3.seqL ((r1.mono e2).mono e3) hv
        exact ⟨p, xs, rfl, .of hx, fun p' hp' => q _ s3 h3 G3 H3 p' _ (e1.trans (e2.trans e3)) o3 hp' (r.cut _ _)⟩
      · rename_i ds hv
        have e := view_lsk hv
        subst e
        have r3 := (r1.mono e2).mono e3
        cases r3 with
        | lsk hx r => exact ⟨_, _, rfl, Evl.ex_l o3.ex hx, fun p' hp' => q _ s3 h3 G3 H3 p' _ (e1.trans (e2.trans e3)) o3 hp' (r.cut _ _)⟩⟩⟩⟩
theorem de_sliceS (he : DE X e w) (hl : DPO X lo l) (hh : DPO X hi h) : DE X (.Subscript e (.Slice lo hi none p2) pos) (wSlS w l h) :=
  PE.imp (pe_slice sl_str he hl hh) fun σ H Q ⟨F, G, δ, s, P, en, o, hw, q⟩ => ⟨F, G, δ, s, _, en, o, hw, fun d s1 h1 G1 H1 v e1 o1 r1 => ⟨F, G1, δ, s1, _, en.mono e1, o1, h1, fun a s2 h2 G2 H2 e2 o2 =>
    ⟨F, G2, δ, s2, _, (en.mono e1).mono e2, o2, h2, fun b s3 h3 G3 H3 e3 o3 => by
      cases r1 <;> first | exact h3.elim | skip
      exact ⟨_, rfl, h3.1, q _ s3 h3.2 G3 H3 _ (e1.trans (e2.trans e3)) o3 (.str _)⟩⟩⟩⟩
end

/-! ### in -/
def roIn : R2D := fun x y s P => match view s y with
  | .lst ds => (x.isData = true ∧ D.allData ds = true ∧ x.depth ≤ 60) ∧ P (.bl (ds.any fun d => d.eq x)) s
  | .tup ds => (x.isData = true ∧ D.allData ds = true ∧ x.depth ≤ 60) ∧ P (.bl (ds.any fun d => d.eq x)) s
  | .str z => (match x with
    | .str w => (match w.cps.toList with
      | [c] => P (.bl (decide (c ∈ z.cps.toList))) s
      | _ => False)
    | _ => False)
  | _ => False
def roNotIn : R2D := fun x y s P => match view s y with
  | .lst ds => (x.isData = true ∧ D.allData ds = true ∧ x.depth ≤ 60) ∧ P (.bl (!ds.any fun d => d.eq x)) s
  | .tup ds => (x.isData = true ∧ D.allData ds = true ∧ x.depth ≤ 60) ∧ P (.bl (!ds.any fun d => d.eq x)) s
  | .str z => (match x with
    | .str w => (match w.cps.toList with
      | [c] => P (.bl (!decide (c ∈ z.cps.toList))) s
      | _ => False)
    | _ => False)
  | _ => False
theorem one_sign {w : Str} {c : Nat} (h : w.cps.toList = [c]) : w = ⟨#[c]⟩ := by
  obtain ⟨a⟩ := w
  congr 1
  apply Array.ext'
  exact h
theorem pys_any (ds : List D) (x : D) : ((D.pys ds).any fun y => PyData.eqv y x.py) = ds.any fun d => d.eq x := by
  rw [pys_map, List.any_map]; rfl
section
variable {X : Cx}
theorem od_in (hu : X.A.units + 64 < cLine) : OpD X (compareOp .In) roIn := by
  intro pins s σ H x y v u Q I rx ry ⟨F, G, s', d, e, P, o, rd, re, hw, q⟩
  have ve := o.seen re
  have vd := Rep.mono o.ex rd
  unfold roIn at hw
  cases qe : view s' e <;> simp only [qe] at hw ve <;> first | exact hw.elim | skip
  · split at hw
    · rename_i w
      split at hw <;> first | exact hw.elim | skip
      rename_i c hc
      cases ve; cases rd
      exact op_in_sign pins s σ H _ _ v u Q I rx ry ⟨c, _, by rw [one_sign hc], rfl, q.val o hw (.bl _)⟩
    · exact hw.elim
  · obtain ⟨⟨h1, h2, h3⟩, hw⟩ := hw
    obtain ⟨as, r1⟩ := Dp.reads I _ _ _ (vd.dp h1) rx
    obtain ⟨bs, r2⟩ := Dp.reads I _ _ _ (ve.dp h2) ry
    refine SeqAt.in_tuple_data r2 r1 (pys_plain _) (py_plain _) ?_ ⟨.bl _, H, I, by rw [pys_any]; rfl, q.val o hw (.bl _)⟩
    have : d.py.depth ≤ 60 := h3
    omega
  · obtain ⟨⟨h1, h2, h3⟩, hw⟩ := hw
    obtain ⟨as, r1⟩ := Dp.reads I _ _ _ (vd.dp h1) rx
    obtain ⟨bs, r2⟩ := Dp.reads I _ _ _ (ve.dp h2) ry
    refine SeqAt.in_list_data r2 r1 (pys_plain _) (py_plain _) ?_ ⟨.bl _, H, I, by rw [pys_any]; rfl, q.val o hw (.bl _)⟩
    have : d.py.depth ≤ 60 := h3
    omega
theorem od_notin (hu : X.A.units + 64 < cLine) : OpD X (compareOp .NotIn) roNotIn := by
  intro pins s σ H x y v u Q I rx ry ⟨F, G, s', d, e, P, o, rd, re, hw, q⟩
  have ve := o.seen re
  have vd := Rep.mono o.ex rd
  unfold roNotIn at hw
  cases qe : view s' e <;> simp only [qe] at hw ve <;> first | exact hw.elim | skip
  · split at hw
    · rename_i w
      split at hw <;> first | exact hw.elim | skip
      rename_i c hc
      cases ve; cases rd
      exact op_notIn_sign pins s σ H _ _ v u Q I rx ry ⟨c, _, by rw [one_sign hc], rfl, q.val o hw (.bl _)⟩
    · exact hw.elim
  · obtain ⟨⟨h1, h2, h3⟩, hw⟩ := hw
    obtain ⟨as, r1⟩ := Dp.reads I _ _ _ (vd.dp h1) rx
    obtain ⟨bs, r2⟩ := Dp.reads I _ _ _ (ve.dp h2) ry
    refine SeqAt.notIn_tuple_data r2 r1 (pys_plain _) (py_plain _) ?_ ⟨.bl _, H, I, by rw [pys_any]; rfl, q.val o hw (.bl _)⟩
    have : d.py.depth ≤ 60 := h3
    omega
  · obtain ⟨⟨h1, h2, h3⟩, hw⟩ := hw
    obtain ⟨as, r1⟩ := Dp.reads I _ _ _ (vd.dp h1) rx
    obtain ⟨bs, r2⟩ := Dp.reads I _ _ _ (ve.dp h2) ry
    refine SeqAt.notIn_list_data r2 r1 (pys_plain _) (py_plain _) ?_ ⟨.bl _, H, I, by rw [pys_any]; rfl, q.val o hw (.bl _)⟩
    have : d.py.depth ≤ 60 := h3
    omega
theorem od_le : OpD X (compareOp .LtE) roLe := by
  intro pins s σ H x y v u Q I rx ry ⟨F, G, s', d, e, P, o, rd, re, hw, q⟩
  cases rd <;> cases re <;> first | exact hw.elim | skip
  · exact op_le pins s σ H _ _ v u Q I rx ry ⟨_, _, rfl, rfl, q.val o hw (.bl _)⟩
  · exact op_le_str pins s σ H _ _ v u Q I rx ry ⟨_, _, rfl, rfl, q.val o hw (.bl _)⟩
theorem ud_neg : UnR X (unaryOp .USub) (fun x H Q => ∃ F G s d P, Own X.K F s G H ∧ Rep X.K G d x ∧ (match d with | .int i => P (.int (-i)) s | _ => False) ∧ Ret X.K F G P Q) := by
  intro pins s σ H x v Q I rx ⟨F, G, s', d, P, o, rd, hw, q⟩
  cases rd <;> first | exact hw.elim | skip
  exact un_neg pins s σ H _ v Q I rx ⟨_, rfl, q.val o hw (.int _)⟩
def wNeg (w : WE) : WE := fun δ s P => w δ s fun d s1 => match d with
  | .int i => P (.int (-i)) s1
  | _ => False
theorem de_neg {a : Expr} {pos : Pos} {w : WE} (ha : DE X a w) : DE X (.UnaryOp .USub a pos) (wNeg w) :=
  PE.imp (pe_un ud_neg ha) fun σ H Q ⟨F, G, δ, s, P, en, o, hw, q⟩ => ⟨F, G, δ, s, _, en, o, hw, fun d s1 h1 G1 H1 v e1 o1 r1 => ⟨F, G1, s1, d, P, o1, r1, h1, q.mono e1⟩⟩
end

/-! ### built-in functions -/
abbrev RCD := List D → S → DK → Prop
abbrev RCLD := List D → S → (List D → S → Prop) → Prop
def lC (K : PySem.W.Frag) (r : RCD) : List V → Hp → VK → Prop := fun vs H Q => ∃ F G s ds P, Own K F s G H ∧ RepL K G ds vs ∧ r ds s P ∧ Ret K F G P Q
def lCL (K : PySem.W.Frag) (r : RCLD) : List V → Hp → VK → Prop := fun vs H Q => ∃ F G s ds P, Own K F s G H ∧ RepL K G ds vs ∧ r ds s P ∧ RetL K F G P Q
abbrev CallD (X : Cx) (f : Value) (r : RCD) : Prop := CallR X f (lC X.K r)
abbrev CallDL (X : Cx) (f : Value) (r : RCLD) : Prop := CallR X f (lCL X.K r)
def wCB (r : RCD) (w : WA) : WE := fun δ s P => w δ s fun ds s1 => r ds s1 P
def wCBL (r : RCLD) (w : WA) : WA := fun δ s P => w δ s fun ds s1 => r ds s1 P
section
variable {X : Cx} {x : Str} {p pos : Pos} {e : Expr} {es : List Expr} {n : Nat} {w : WA} {id T : String} {r : RCD} {rl : RCLD}
theorem de_callB (hc : CallD X (.builtin id) r) (hg : Gl X x) (hm : X.mg x = none) (hv : bootBuiltins x = some (.builtin id)) (ha : DA X (e :: es) n w) (hn : x ≠ "__name__" := by decide) (hdb : (x == ("__debug__" : Str)) = false := by decide)
    (he : starEach (e :: es) X.env = (false, eval e X.env) :: starEach es X.env := by rfl) (hpl : (backTo pos (starEach es X.env)).any (·.1) = false := by rfl) : DE X (.Call (.Name x p) (e :: es) [] pos) (wCB r w) :=
  PE.imp (pe_callB hc hg hm hv ha hn hdb he hpl) fun σ H Q ⟨F, G, δ, s, P, en, o, hw, q⟩ => ⟨F, G, δ, s, _, en, o, hw, fun ds s1 h1 hl G1 H1 vs e1 o1 r1 => ⟨F, G1, s1, ds, P, o1, r1, h1, q.mono e1⟩⟩
theorem de_callTy (hc : CallD X (.type T) r) (hg : Gl X x) (hm : X.mg x = none) (hv : bootBuiltins x = some (.type T)) (ha : DA X (e :: es) n w) (hn : x ≠ "__name__" := by decide) (hdb : (x == ("__debug__" : Str)) = false := by decide)
    (he : starEach (e :: es) X.env = (false, eval e X.env) :: starEach es X.env := by rfl) (hpl : (backTo pos (starEach es X.env)).any (·.1) = false := by rfl) : DE X (.Call (.Name x p) (e :: es) [] pos) (wCB r w) :=
  PE.imp (pe_callTy hc hg hm hv ha hn hdb he hpl) fun σ H Q ⟨F, G, δ, s, P, en, o, hw, q⟩ => ⟨F, G, δ, s, _, en, o, hw, fun ds s1 h1 hl G1 H1 vs e1 o1 r1 => ⟨F, G1, s1, ds, P, o1, r1, h1, q.mono e1⟩⟩
theorem del_callB (hc : CallDL X (.builtin id) rl) (hg : Gl X x) (hm : X.mg x = none) (hv : bootBuiltins x = some (.builtin id)) (ha : DA X (e :: es) n w) (hn : x ≠ "__name__" := by decide) (hdb : (x == ("__debug__" : Str)) = false := by decide)
    (he : starEach (e :: es) X.env = (false, eval e X.env) :: starEach es X.env := by rfl) (hpl : (backTo pos (starEach es X.env)).any (·.1) = false := by rfl) : DEL X (.Call (.Name x p) (e :: es) [] pos) (wCBL rl w) :=
  PE.imp (pe_callB hc hg hm hv ha hn hdb he hpl) fun σ H Q ⟨F, G, δ, s, P, en, o, hw, q⟩ => ⟨F, G, δ, s, _, en, o, hw, fun ds s1 h1 hl G1 H1 vs e1 o1 r1 => ⟨F, G1, s1, ds, P, o1, r1, h1, q.mono e1⟩⟩
theorem del_callTy (hc : CallDL X (.type T) rl) (hg : Gl X x) (hm : X.mg x = none) (hv : bootBuiltins x = some (.type T)) (ha : DA X (e :: es) n w) (hn : x ≠ "__name__" := by decide) (hdb : (x == ("__debug__" : Str)) = false := by decide)
    (he : starEach (e :: es) X.env = (false, eval e X.env) :: starEach es X.env := by rfl) (hpl : (backTo pos (starEach es X.env)).any (·.1) = false := by rfl) : DEL X (.Call (.Name x p) (e :: es) [] pos) (wCBL rl w) :=
  PE.imp (pe_callTy hc hg hm hv ha hn hdb he hpl) fun σ H Q ⟨F, G, δ, s, P, en, o, hw, q⟩ => ⟨F, G, δ, s, _, en, o, hw, fun ds s1 h1 hl G1 H1 vs e1 o1 r1 => ⟨F, G1, s1, ds, P, o1, r1, h1, q.mono e1⟩⟩
/-- a built-in class as a value -/
theorem dty (hg : Gl X x) (hm : X.mg x = none) (hv : bootBuiltins x = some (.type T)) (hn : x ≠ "__name__" := by decide) (hdb : (x == ("__debug__" : Str)) = false := by decide) : DE X (.Name x p) (wC (.ty T)) :=
  dcon (pe_bltn (v := .ty T) hg hm hv rfl hn hdb) fun _ => .ty T
end
def rcLen : RCD := fun ds s P => match ds with
  | [d] => (match view s d with
    | .lst es => P (.int (es.length : Nat)) s
    | .tup es => P (.int (es.length : Nat)) s
    | .tpw es => P (.int (es.length : Nat)) s
    | .str z => z.length ≤ sizeLine ∧ P (.int (z.length : Nat)) s
    | _ => False)
  | _ => False
def rcList : RCLD := fun ds s P => match ds with
  | [d] => (match seqD s d with
    | some es => P es s
    | none => False)
  | _ => False
def rcTuple : RCD := fun ds s P => match ds with
  | [d] => (match view s d with
    | .lst es => P (.tup es) s
    | .tup es => P (.tup es) s
    | _ => False)
  | _ => False
def rcAbs : RCD := fun ds s P => match ds with
  | [.int i] => P (.int (if i < 0 then -i else i)) s
  | _ => False
def rcMax2 : RCD := fun ds s P => match ds with
  | [.int i, .int j] => P (.int (if j > i then j else i)) s
  | _ => False
def rcMin2 : RCD := fun ds s P => match ds with
  | [.int i, .int j] => P (.int (if j < i then j else i)) s
  | _ => False
def rcInt : RCD := fun ds s P => match ds with
  | [.int i] => P (.int i) s
  | [.bl k] => P (.int (if k then 1 else 0)) s
  | _ => False
def rcStr : RCD := fun ds s P => match ds with
  | [.int i] => i.natAbs.log2 < 1920 ∧ P (.str (toString i)) s
  | _ => False
def D.shown (d : D) : Str := d.py.shown
def rcRepr : RCD := fun ds s P => match ds with
  | [d] => ((view s d).isData = true ∧ (view s d).py.showable = true ∧ (view s d).depth ≤ 60 ∧ (view s d).shown.length ≤ sizeLine) ∧ P (.str (view s d).shown) s
  | _ => False
/-- isinstance of data: bool, int, str, tuple, list -/
def isA (d : D) (T : String) : Bool := match d with
  | .bl _ => T == "bool" || T == "int"
  | .int _ => T == "int"
  | .str _ => T == "str"
  | .tup _ => T == "tuple"
  | .tpw _ => T == "tuple"
  | .lst _ => T == "list"
  | _ => false
def okT (T : String) : Bool := T == "bool" || T == "int" || T == "str" || T == "tuple" || T == "list"
def rcIsi : RCD := fun ds s P => match ds with
  | [d, .ty T] => ((view s d).isData = true ∧ okT T = true) ∧ P (.bl (isA (view s d) T)) s
  | [d, .tup [.ty T, .ty U]] => ((view s d).isData = true ∧ okT T = true ∧ okT U = true) ∧ P (.bl (isA (view s d) T || isA (view s d) U)) s
  | _ => False
def tyN : D → String
  | .non => "NoneType"
  | .bl _ => "bool"
  | .int _ => "int"
  | .str _ => "str"
  | .tup _ => "tuple"
  | .tpw _ => "tuple"
  | .lst _ => "list"
  | .lsk _ => ""
  | .ref _ => ""
  | .ty _ => ""
theorem kit_isA : ∀ (d : D) (T : String), d.isData = true → okT T = true → kitB (tyN d) T = some (isA d T) := by
  have tab : ∀ a ∈ ["NoneType", "bool", "int", "str", "tuple", "list"], ∀ b ∈ ["bool", "int", "str", "tuple", "list"], kitB a b = some (match a with | "bool" => b == "bool" || b == "int" | "NoneType" => false | _ => b == a) := by decide +kernel
  intro d T hd hT
  have hm : T ∈ ["bool", "int", "str", "tuple", "list"] := by
    unfold okT at hT
    simp only [Bool.or_eq_true, beq_iff_eq] at hT
    simp only [List.mem_cons, List.not_mem_nil, or_false]
    rcases hT with (((h | h) | h) | h) | h <;> simp [h]
  cases d <;> first | exact tab _ (by simp [tyN]) T hm | exact nomatch hd
theorem Rep.tyX {K : PySem.W.Frag} {H : Hp} {d : D} {v : V} (r : Rep K H d v) (h : d.isData = true) : TyX K H v (.type (tyN d)) := by
  have tq : ∀ {a : Addr} {xs : List V}, SqT K H a xs → TyX K H (.ref a) (.type "tuple") := fun {a xs} q => by
    rcases q with (q | ⟨o, q⟩) | ⟨o, its, n, q, c, _⟩
    · exact .base (.tup q)
    · exact .fTuple q
    · exact .kTuple q c
  cases r with
  | non => exact .base .non
  | bl b => exact .base (.bl b)
  | int i => exact .base (.int i)
  | str x => exact .base (.str x)
  | tup t _ => exact tq t.sq
  | tpw t _ => exact tq t
  | lst t _ => exact .base (.lst t)
  | lsk _ _ => cases h
  | ref a => cases h
  | ty n => cases h
theorem RepL.two' {K : PySem.W.Frag} {G : Hp} {d e : D} {vs : List V} (r : RepL K G [d, e] vs) : ∃ v u, vs = [v, u] ∧ Rep K G d v ∧ Rep K G e u := r.two
section
variable {X : Cx}
theorem cd_len : CallD X (.builtin "len") rcLen := by
  intro pins s σ H xs us Q I r ⟨F, G, s', ds, P, o, rd, hw, q⟩
  unfold rcLen at hw
  split at hw <;> first | exact hw.elim | skip
  rename_i d
  obtain ⟨v, rfl, rv⟩ := rd.one
  split at hw <;> first | exact hw.elim | skip
  · rename_i es hv
    obtain ⟨a, ys, rfl, h1, r1⟩ := o.seqL rv hv
    exact call_len_seq pins s σ H _ us Q I r ⟨a, ys, rfl, .inl (.of h1), by rw [← r1.length]; exact q.val o hw (.int _)⟩
  · rename_i es hv
    obtain ⟨a, ys, rfl, h1, r1⟩ := rv.seqT (.inl (view_tup hv))
    exact call_len_seq pins s σ H _ us Q I r ⟨a, ys, rfl, .inr (ex_t o.ex h1), by rw [← r1.length]; exact q.val o hw (.int _)⟩
  · rename_i es hv
    obtain ⟨a, ys, rfl, h1, r1⟩ := rv.seqT (.inr (view_tpw hv))
    exact call_len_seq pins s σ H _ us Q I r ⟨a, ys, rfl, .inr (ex_t o.ex h1), by rw [← r1.length]; exact q.val o hw (.int _)⟩
  · rename_i z hv
    have hs := o.seen rv
    rw [hv] at hs
    cases hs
    exact call_len_str pins s σ H _ us Q I r ⟨_, rfl, hw.1, q.val o hw.2 (.int _)⟩
theorem cd_list : CallDL X (.type "list") rcList := by
  intro pins s σ H xs us Q I r ⟨F, G, s', ds, P, o, rd, hw, q⟩
  unfold rcList at hw
  split at hw <;> first | exact hw.elim | skip
  rename_i d
  obtain ⟨v, rfl, rv⟩ := rd.one
  split at hw <;> first | exact hw.elim | skip
  rename_i es hv
  obtain ⟨a, ys, rfl, h1, r1⟩ := o.seq rv hv
  exact call_list_of pins s σ H _ us Q I r ⟨a, ys, rfl, h1, fun l hl => q _ s' hw G H l ys (Ex.refl G) o hl r1⟩
/-- tuple(list): a tuple whose object is known -/
theorem cd_tuple : CallD X (.type "tuple") rcTuple := by
  intro pins s σ H xs us Q I r ⟨F, G, s', ds, P, o, rd, hw, q⟩
  unfold rcTuple at hw
  split at hw <;> first | exact hw.elim | skip
  rename_i d
  obtain ⟨v, rfl, rv⟩ := rd.one
  obtain ⟨u, rfl, ru⟩ := vals1 r
  split at hw <;> first | exact hw.elim | skip
  · rename_i es hv
    obtain ⟨a, ys, rfl, h1, r1⟩ := o.seqL rv hv
    cases ru
    obtain ⟨its, r', pl, hz⟩ := I.list (.of h1)
    have hlen := r'.length
    refine call_tuple_list pl.isList (fun h' kp => ?_) (by simp only [List.size_toArray] <;> omega)
    have I1 : Inv X pins σ H { s with heap := h' } := I.kept (t' := s.toks) kp
    have I2 := I1.laid (t' := s.toks) (o := .frz { cls := .type "tuple", data := .seq its.toArray } (.tup ys)) (h' := h'.push { cls := .type "tuple", data := .seq its.toArray }) (fun b u e => Heap.get?_push_of_some _ e) (Nat.le_refl _)
      ⟨Heap.get?_push_size _ rfl, hz, its, r', IsTup.new _ _⟩
    exact ⟨.ref h'.objs.size, _, I2, rfl, q.newT (ob := { cls := .type "tuple", data := .seq its.toArray }) o hw r1 rfl (I1.hok.fresh (Nat.le_refl _))⟩
  · rename_i es hv
    have e := view_tup hv
    subst e
    cases rv with
    | tup t r1 =>
      exact call_tuple_of pins s σ H _ _ Q I (.cons ru .nil) ⟨_, _, rfl, .inr ⟨ex_t o.ex t.sq, q.val o hw (.tup t r1)⟩⟩
theorem cd_abs : CallD X (.builtin "abs") rcAbs := by
  intro pins s σ H xs us Q I r ⟨F, G, s', ds, P, o, rd, hw, q⟩
  unfold rcAbs at hw
  split at hw <;> first | exact hw.elim | skip
  obtain ⟨v, rfl, rv⟩ := rd.one
  cases rv
  exact call_abs pins s σ H _ us Q I r ⟨_, rfl, q.val o hw (.int _)⟩
theorem cd_max2 (hc : X.calm = true) : CallD X (.builtin "max") rcMax2 := by
  intro pins s σ H xs us Q I r ⟨F, G, s', ds, P, o, rd, hw, q⟩
  unfold rcMax2 at hw
  split at hw <;> first | exact hw.elim | skip
  obtain ⟨v, v', rfl, rv, rv'⟩ := rd.two
  cases rv; cases rv'
  exact call_max2 hc pins s σ H _ us Q I r ⟨_, _, rfl, q.val o hw (.int _)⟩
theorem cd_min2 (hc : X.calm = true) : CallD X (.builtin "min") rcMin2 := by
  intro pins s σ H xs us Q I r ⟨F, G, s', ds, P, o, rd, hw, q⟩
  unfold rcMin2 at hw
  split at hw <;> first | exact hw.elim | skip
  obtain ⟨v, v', rfl, rv, rv'⟩ := rd.two
  cases rv; cases rv'
  exact call_min2 hc pins s σ H _ us Q I r ⟨_, _, rfl, q.val o hw (.int _)⟩
theorem cd_int : CallD X (.type "int") rcInt := by
  intro pins s σ H xs us Q I r ⟨F, G, s', ds, P, o, rd, hw, q⟩
  unfold rcInt at hw
  split at hw <;> first | exact hw.elim | skip
  · obtain ⟨v, rfl, rv⟩ := rd.one
    cases rv
    exact call_int1 pins s σ H _ us Q I r (.inl ⟨_, rfl, q.val o hw (.int _)⟩)
  · obtain ⟨v, rfl, rv⟩ := rd.one
    cases rv
    exact call_int1 pins s σ H _ us Q I r (.inr ⟨_, rfl, q.val o hw (.int _)⟩)
theorem cd_str : CallD X (.type "str") rcStr := by
  intro pins s σ H xs us Q I r ⟨F, G, s', ds, P, o, rd, hw, q⟩
  unfold rcStr at hw
  split at hw <;> first | exact hw.elim | skip
  obtain ⟨v, rfl, rv⟩ := rd.one
  cases rv
  exact call_str_int pins s σ H _ us Q I r ⟨_, rfl, hw.1, q.val o hw.2 (.str _)⟩
theorem pys_noDict : (∀ d : D, d.py.hasDict = false) := by
  intro d
  refine D.rec (motive_1 := fun d => d.py.hasDict = false) (motive_2 := fun ds => PyData.hasDictAll (D.pys ds) = false) rfl (fun _ => rfl) (fun _ => rfl) (fun _ => rfl) (fun _ h => h) (fun _ h => h) (fun _ h => h) (fun _ _ => rfl) (fun _ => rfl) (fun _ => rfl) rfl (fun d ds h1 h2 => ?_) d
  show (d.py.hasDict || PyData.hasDictAll (D.pys ds)) = false
  rw [h1, h2]; rfl
theorem cd_repr (hg : X.A.guards = some []) (hu : X.A.units + 64 < cLine) : CallD X (.builtin "repr") rcRepr := by
  intro pins s σ H xs us Q I r ⟨F, G, s', ds, P, o, rd, hw, q⟩
  unfold rcRepr at hw
  split at hw <;> first | exact hw.elim | skip
  rename_i d
  obtain ⟨v, rfl, rv⟩ := rd.one
  obtain ⟨u, rfl, ru⟩ := vals1 r
  obtain ⟨⟨h1, h2, h3, h4⟩, hw⟩ := hw
  have h3' : (view s' d).py.depth ≤ 60 := h3
  have vs := o.seen rv
  obtain ⟨as, rr⟩ := Dp.reads I _ _ _ (vs.dp h1) ru
  have fin : ∀ (t : Tok) (s2 : Shared), Inv X pins σ H s2 → EP X pins σ Q (.str (view s' d).shown t) s2 := fun t s2 I2 => ⟨.str _, H, I2, ⟨t, rfl⟩, q.val o hw (.str _)⟩
  generalize view s' d = dd at *
  cases dd with
  | non => cases vs; cases ru; exact PySem.P.repr_of_none (fin _ _ (I.tok _))
  | bl b => cases vs; cases ru; exact PySem.P.repr_of_bool (fin _ _ (I.tok _))
  | int i =>
    cases vs
    obtain ⟨t, rfl⟩ := ru
    exact PySem.P.repr_of_int (of_decide_eq_true h2) (fin _ _ (I.tok _))
  | str x =>
    cases vs
    obtain ⟨t, rfl⟩ := ru
    exact PySem.P.repr_of_str (fin _ _ (I.tok _)) h4
  | tup es =>
    cases vs; cases ru
    exact repr_of_reads' rr h2 (PyData.noDict_hsm (pys_noDict (.tup es))) hg (by omega) (fun _ _ e => e) (fun h' t tk hk => fin _ _ (I.kept (t' := tk) hk)) h4
  | tpw es =>
    cases vs; cases ru
    exact repr_of_reads' rr h2 (PyData.noDict_hsm (pys_noDict (.tpw es))) hg (by omega) (fun _ _ e => e) (fun h' t tk hk => fin _ _ (I.kept (t' := tk) hk)) h4
  | lst es =>
    cases vs; cases ru
    exact repr_of_reads' rr h2 (PyData.noDict_hsm (pys_noDict (.lst es))) hg (by omega) (fun _ _ e => e) (fun h' t tk hk => fin _ _ (I.kept (t' := tk) hk)) h4
  | lsk es => cases h1
  | ref a => cases h1
  | ty n => cases h1
theorem cd_isi : CallD X (.builtin "isinstance") rcIsi := by
  intro pins s σ H xs us Q I r ⟨F, G, s', ds, P, o, rd, hw, q⟩
  unfold rcIsi at hw
  split at hw <;> first | exact hw.elim | skip
  · rename_i d T
    obtain ⟨v, u, rfl, rv, ru⟩ := rd.two
    cases ru
    obtain ⟨⟨h1, h2⟩, hw⟩ := hw
    exact call_isi pins s σ H _ us Q I r ⟨v, _, _, _, _, rfl, .ty T, (o.seen rv).tyX h1, kit_ty (kit_isA _ T h1 h2), q.val o hw (.bl _)⟩
  · rename_i d T U
    obtain ⟨v, u, rfl, rv, ru⟩ := rd.two
    obtain ⟨⟨h1, h2, h3⟩, hw⟩ := hw
    obtain ⟨tp, cs, rfl, ht, rc⟩ := ru.seqT (.inl rfl)
    obtain ⟨c1, c2, rfl, r1, r2⟩ := rc.two
    cases r1; cases r2
    obtain ⟨u1, u2, rfl, q1, q2⟩ := vals2 r
    cases (show u2 = Value.ref tp from q2)
    obtain ⟨its, rI, ⟨ob, hob, hcl, n, hdt⟩, _⟩ := I.tuple (ex_t o.ex ht)
    obtain ⟨w1, w2, rfl, z1, z2⟩ := vals2 rI
    cases (show w1 = Value.type T from z1)
    cases (show w2 = Value.type U from z2)
    obtain ⟨oc, od, dt, sl⟩ := ob
    simp only at hcl hdt
    subst hcl hdt
    obtain ⟨Pk, Z, p, hx⟩ := kit_of I q1 ((o.seen rv).tyX h1)
    have ka : PySem.W.kitAny X.K (.type (tyN (view s' d))) [.type T, .type U] = some (isA (view s' d) T || isA (view s' d) U) :=
      kitAny_cons (kit_ty (kit_isA _ T h1 h2)) (fun e => by rw [e, Bool.false_or]; exact kitAny_cons (kit_ty (kit_isA _ U h1 h3)) (fun e2 => by rw [e2]; exact kitAny_nil) (fun e2 => e2)) (fun e => by rw [e]; rfl)
    exact PySem.W.kia_tup Z I.kIn p hob ka hx fun tk => ⟨.bl _, H, I.tok tk, rfl, q.val o hw (.bl _)⟩
end

/-! ### methods -/
abbrev RMD := D → List D → S → DK → Prop
def lM (K : PySem.W.Frag) (r : RMD) : V → List V → Hp → VK → Prop := fun x vs H Q => ∃ F G s d ds P, Own K F s G H ∧ Rep K G d x ∧ RepL K G ds vs ∧ r d ds s P ∧ Ret K F G P Q
/-- the receiver's kind -/
def hasTy (T : String) (s : S) (d : D) : Prop := match view s d with
  | .str _ => T = "str"
  | .int _ => T = "int"
  | .lst _ => T = "list"
  | _ => False
def wMeth (T : String) (r : RMD) (wo : WE) (wr : WA) : WE := fun δ s P => wo δ s fun d s1 => hasTy T s1 d ∧ wr δ s1 fun ds s2 => r d ds s2 P
theorem Own.tyV {K : PySem.W.Frag} {F : Hp} {s : S} {G H : Hp} {T : String} (o : Own K F s G H) {d : D} {v : V} (r : Rep K G d v) (h : hasTy T s d) : L2.tyV K T v H := by
  have vs := o.seen r
  unfold hasTy at h
  cases q : view s d <;> simp only [q] at h vs <;> first | exact h.elim | skip
  · cases vs; exact h
  · cases vs; exact h
  · cases vs with
    | lst t _ => exact .inl ⟨h, _, .of t⟩
section
variable {X : Cx} {o e : Expr} {es : List Expr} {n : Nat} {wo : WE} {wr : WA} {name : Str} {apos cpos : Pos} {T id : String} {r : RMD}
theorem de_meth (pa : PlainAttrs T) (slot : Slot T name id) (hty : typeOf (.builtin id) = pure (.type "method_descriptor")) (hm : MtR X id (lM X.K r)) (ho : DE X o wo) (ha : DA X (e :: es) n wr)
    (hbase : attributeBase o name X.env (eval o X.env) = eval o X.env := by rfl)
    (hfew : ((backTo cpos (starEach (e :: es) X.env)).all (fun x => !x.1) && (backToKw cpos (keywordEach [] X.env)).all (fun x => x.1.isSome) && decide ((e :: es).length + ([] : List Keyword).length + (if ([] : List Keyword).isEmpty then 0 else 1) < 30)) = true := by rfl)
    (hline : (apos.endLine == cpos.line) = true := by rfl) (hs : starEach (e :: es) X.env = (false, eval e X.env) :: starEach es X.env := by rfl) (hplain : (backTo cpos (starEach es X.env)).any (·.1) = false := by rfl) :
    DE X (.Call (.Attribute o name apos) (e :: es) [] cpos) (wMeth T r wo wr) :=
  PE.imp (pe_bm pa slot hty hm ho ha hbase hfew hline hs hplain) fun σ H Q ⟨F, G, δ, s, P, en, ow, hw, q⟩ => ⟨F, G, δ, s, _, en, ow, hw, fun d s1 h1 G1 H1 v e1 o1 r1 => ⟨o1.tyV r1 h1.1, F, G1, δ, s1, _, en.mono e1, o1, h1.2,
    fun ds s2 h2 hl G2 H2 vs e2 o2 r2 => ⟨F, G2, s2, d, ds, P, o2, r1.mono e2, r2, h2, q.mono (e1.trans e2)⟩⟩⟩
theorem de_meth0 (pa : PlainAttrs T) (slot : Slot T name id) (hty : typeOf (.builtin id) = pure (.type "method_descriptor")) (hm : MtR X id (lM X.K r)) (ho : DE X o wo)
    (hbase : attributeBase o name X.env (eval o X.env) = eval o X.env := by rfl) (hline : (apos.endLine == cpos.line) = true := by rfl) :
    DE X (.Call (.Attribute o name apos) [] [] cpos) (wMeth T r wo wNil) :=
  PE.imp (pe_bm0 pa slot hty hm ho hbase hline) fun σ H Q ⟨F, G, δ, s, P, en, ow, hw, q⟩ => ⟨F, G, δ, s, _, en, ow, hw, fun d s1 h1 G1 H1 v e1 o1 r1 => ⟨o1.tyV r1 h1.1,
    F, G1, s1, d, [], P, o1, r1, .nil, h1.2, q.mono e1⟩⟩
end
theorem Own.setL {K : PySem.W.Frag} {F : Hp} {s : S} {G H : Hp} (o : Own K F s G H) {p : Addr} {ds ds' : List D} {xs' : List V} (hM : s.M p = some (.lst ds)) (r : RepL K G ds' xs') : Own K F (s.put p (.lst ds')) G (upd H p (.lst xs')) := by
  obtain ⟨hG, u, hp, _⟩ := o.mu p _ hM
  refine ⟨fun a v e => ?_, fun a v e => ?_, fun a m e => ?_, fun a n e => ?_⟩
  · rw [upd_ne (ne_of_none e hG)]; exact o.ex a v e
  · obtain ⟨h1, h2, h3⟩ := o.fr a v e
    have ha : a ≠ p := fun z => by rw [z, hM] at h3; cases h3
    exact ⟨by rw [upd_ne ha]; exact h1, h2, by simp only [S.put, if_neg ha]; exact h3⟩
  · by_cases ha : a = p
    · subst ha
      simp only [S.put, if_pos] at e
      cases e
      exact ⟨hG, _, upd_same, xs', rfl, r⟩
    · simp only [S.put, if_neg ha] at e
      obtain ⟨g0, v, e1, r'⟩ := o.mu a m e
      exact ⟨g0, v, by rw [upd_ne ha]; exact e1, r'⟩
  · obtain ⟨a1, cells, mixed, k, h1, h2, h3, h4, h5, h6, h7, h8⟩ := (o.dk a n e).ex
    have ha : a ≠ p := fun z => by rw [z, hM] at h4; cases h4
    have ha1 : a1 ≠ p := fun z => by rw [z, hM] at h5; cases h5
    exact ⟨a1, cells, mixed, k, h1, h2, h3, by simp only [S.put, if_neg ha]; exact h4, by simp only [S.put, if_neg ha1]; exact h5, by rw [upd_ne ha]; exact h6, by rw [upd_ne ha1]; exact h7, h8⟩
def rmAppend : RMD := fun x ds s P => match x, ds with
  | .ref a, [d] => (match s.M a with
    | some (.lst es) => es.length < sizeLine ∧ P .non (s.put a (.lst (es ++ [d])))
    | _ => False)
  | _, _ => False
def rmInsert : RMD := fun x ds s P => match x, ds with
  | .ref a, [.int i, d] => (match s.M a with
    | some (.lst es) => (es.length < sizeLine ∧ 0 ≤ i ∧ i < 2 ^ 63) ∧ P .non (s.put a (.lst (es.take i.toNat ++ [d] ++ es.drop i.toNat)))
    | _ => False)
  | _, _ => False
def strsD : List D → Option (List Str)
  | [] => some []
  | .str x :: ds => (strsD ds).map (x :: ·)
  | _ :: _ => none
theorem strsD_of {ds : List D} : ∀ {ys : List Str}, strsD ds = some ys → ds = ys.map .str := by
  induction ds with
  | nil => intro ys h; cases h; rfl
  | cons d ds ih =>
    intro ys h
    cases d with
    | str x =>
      unfold strsD at h
      cases q : strsD ds with
      | none => rw [q] at h; cases h
      | some zs => rw [q] at h; cases h; rw [ih q]; rfl
    | _ => cases h
theorem strsD_map : ∀ ys : List Str, strsD (ys.map .str) = some ys
  | [] => rfl
  | y :: ys => by show (strsD (ys.map .str)).map (y :: ·) = _; rw [strsD_map ys]; rfl
theorem RepL.strs {K : PySem.W.Frag} {G : Hp} : ∀ {ys : List Str} {vs : List V}, RepL K G (ys.map .str) vs → vs = ys.map V.str
  | [], _, h => by cases h; rfl
  | y :: ys, _, h => by cases h with | cons a b => cases a; rw [RepL.strs b]; rfl
def rmJoin : RMD := fun x ds s P => match x, ds with
  | .str a, [d] => (match seqD s d with
    | some es => (match strsD es with
      | some ys => (ys.map (·.length)).sum + ys.length * a.length ≤ 16777216 ∧ P (.str (Txt.join a ys)) s
      | none => False)
    | none => False)
  | _, _ => False
section
variable {X : Cx}
theorem md_append : MtR X "list.append" (lM X.K rmAppend) := by
  intro pins s σ H x vs v us Q I rx rs ⟨F, G, s', d, ds, P, o, rd, rds, hw, q⟩
  unfold rmAppend at hw
  split at hw <;> first | exact hw.elim | skip
  rename_i a e
  split at hw <;> first | exact hw.elim | skip
  rename_i es hM
  cases rd
  obtain ⟨w, rfl, rw'⟩ := rds.one
  obtain ⟨_, u, hp, xs, rfl, r⟩ := o.mu a _ hM
  refine mt_append pins s σ H _ _ v us Q I rx rs ⟨a, xs, w, rfl, rfl, hp, by rw [← r.length]; exact hw.1, ?_⟩
  exact q _ _ hw.2 G _ _ (Ex.refl G) (o.setL hM (r.append (.cons rw' .nil))) .non
theorem md_insert : MtR X "list.insert" (lM X.K rmInsert) := by
  intro pins s σ H x vs v us Q I rx rs ⟨F, G, s', d, ds, P, o, rd, rds, hw, q⟩
  unfold rmInsert at hw
  split at hw <;> first | exact hw.elim | skip
  rename_i a i e
  split at hw <;> first | exact hw.elim | skip
  rename_i es hM
  cases rd
  obtain ⟨w0, w, rfl, rw0, rw'⟩ := rds.two
  cases rw0
  obtain ⟨_, u, hp, xs, rfl, r⟩ := o.mu a _ hM
  refine mt_insert pins s σ H _ _ v us Q I rx rs ⟨a, xs, i, w, rfl, rfl, hp, by rw [← r.length]; exact hw.1.1, hw.1.2.1, hw.1.2.2, ?_⟩
  exact q _ _ hw.2 G _ _ (Ex.refl G) (o.setL hM (((r.take _).append (.cons rw' .nil)).append (r.drop _))) .non
theorem md_join : MtR X "str.join" (lM X.K rmJoin) := by
  intro pins s σ H x vs v us Q I rx rs ⟨F, G, s', d, ds, P, o, rd, rds, hw, q⟩
  unfold rmJoin at hw
  split at hw <;> first | exact hw.elim | skip
  split at hw <;> first | exact hw.elim | skip
  rename_i es hs
  split at hw <;> first | exact hw.elim | skip
  rename_i ys hy
  obtain ⟨w, rfl, rw'⟩ := rds.one
  cases rd
  obtain ⟨a, zs, rfl, h1, r1⟩ := o.seq rw' hs
  rw [strsD_of hy] at r1
  have e := r1.strs
  subst e
  exact mt_join pins s σ H _ _ v us Q I rx rs ⟨_, a, ys, rfl, rfl, h1, hw.1, q.val o hw.2 (.str _)⟩
end
end DL

set_option Elab.async false
set_option linter.all false
set_option autoImplicit false
set_option maxRecDepth 100000
set_option maxHeartbeats 2000000
namespace DL
open PySem PySem.Spec PyProof.Rows L2
open Evl (Ex)

/-! ### match over written texts -/
abbrev WM := D → WS
/-- the cases from here on, for the subject's value -/
structure PM (X : Cx) (cs : List MatchCase) (w : WM) : Prop where
  run : ∀ (pins : List (Addr × Obj)) (s : Shared) (σ : L2.St) (H : Hp) (x : V) (v : Value) (first : Bool) (F G : Hp) (δ : Dn) (st : S) (d : D) (D' : DEnds) (E : Ends), Inv X pins σ H s → RelV x v → EnvOk X.K G δ σ → Own X.K F st G H → Rep X.K G d x → w d D' δ st → REnds X.K F G D' E →
    wpAny (model X.prog X.w) X.A (matchCases cs X.env v first) (SP X pins E) X.xe s
def wmNil : WM := fun _ => wNext
def wmStr (c : Str) (b : WS) (r : WM) : WM := fun d E δ s => match d with
  | .str z => if z = c then b E δ s else r d E δ s
  | _ => False
def wMatch (w : WE) (m : WM) : WS := fun E δ s => w δ s fun d s1 => m d E δ s1
section
variable {X : Cx} {cs : List MatchCase} {e : Expr} {pos p1 p2 : Pos} {body : List Stmt} {w : WE} {wb : WS} {m : WM} {c : Str} {j : Nat}
theorem dm_nil : PM X [] wmNil := ⟨fun pins s σ H x v first F G δ st d D' E I r en o rd hw q => wpAny_matchCases_nil ⟨σ, H, I, q.nx δ st hw G H σ (Ex.refl G) en o⟩⟩
theorem dm_str (hb : DSs X body wb) (hr : PM X cs m) : PM X (⟨.MatchValue (.Constant (.str c) j p1) p2, none, body⟩ :: cs) (wmStr c wb m) := by
  refine ⟨fun pins s σ H x v first F G δ st d D' E I r en o rd hw q => ?_⟩
  cases rd <;> first | exact hw.elim | skip
  rename_i z
  obtain ⟨t, rfl⟩ := id r
  refine wpAny_matchCases_cons (wpAny_matchPattern_Value (thn ((pe_str (X := X) (x := c) (j := j) (pos := p1)).run pins s σ H (fun y H' => y = .str c ∧ H' = H) I ⟨rfl, rfl⟩) fun y s1 ⟨yv, H1, I1, r1, e1, e2⟩ => ?_))
  subst e1 e2
  refine thn (op_eq pins s1 σ H1 (.str z) (.str c) (.str z t) y (fun k H' => k = .bl (decide (V.str z = V.str c)) ∧ H' = H1) I1 r r1 ⟨rfl, rfl, rfl⟩) fun k s2 ⟨kv, H2, I2, r2, e3, e4⟩ => ?_
  subst e3 e4
  cases r2
  refine wpAny_truthy_bool ?_
  have hw : if z = c then wb D' δ st else m (.str z) D' δ st := hw
  by_cases hz : z = c
  · rw [if_pos hz] at hw
    rw [show decide (V.str z = V.str c) = true from decide_eq_true (by rw [hz])]
    rw [if_pos rfl]
    refine wpAny_assignInOrder_none ?_
    exact hb.run pins _ σ _ E I2 ⟨F, G, δ, st, D', en, o, hw, q⟩
  · rw [if_neg hz] at hw
    rw [show decide (V.str z = V.str c) = false from decide_eq_false (fun h => hz (by cases h; rfl))]
    rw [if_neg Bool.false_ne_true]
    exact hr.run pins _ σ _ (.str z) _ false F G δ st (.str z) D' E I2 r en o (.str z) hw q
theorem ds_match (he : DE X e w) (hm : PM X cs m) : DS X (.Match e cs pos) (wMatch w m) := by
  refine ⟨fun pins s σ H E I ⟨F, G, δ, st, D', en, o, hw, q⟩ => ?_⟩
  refine wpAny_Match (thn (he.run pins s σ H (fun v H1 => ∃ G1 s1 d, Ex G G1 ∧ Own X.K F s1 G1 H1 ∧ Rep X.K G1 d v ∧ m d D' δ s1) I ⟨F, G, δ, st, _, en, o, hw, fun d s1 h1 G1 H1 v e1 o1 r1 => ⟨G1, s1, d, e1, o1, r1, h1⟩⟩) fun v s1 ⟨x, H1, I1, r1, G1, s2, d, e1, o1, rd, h1⟩ => ?_)
  exact hm.run pins s1 σ H1 x v true F G1 δ s2 d D' E I1 r1 (en.mono e1) o1 rd h1 (q.mono e1)
end

/-! ### t.index(x) of texts -/
def kTidx (ds : List D) (P : DK) : DK := fun e s => match e with
  | .str z => (match strsD ds with
    | some ys => z ∈ ys ∧ P (.int (ys.idxOf z : Nat)) s
    | none => False)
  | _ => False
def wTidx (wo we : WE) : WE := fun δ s P => wo δ s fun d s1 => match d with
  | .tup ds => we δ s1 (kTidx ds P)
  | _ => False
theorem idxOf_first {ys : List Str} {z : Str} (h : z ∈ ys) : ys[ys.idxOf z]? = some z ∧ ∀ m, m < ys.idxOf z → ys[m]? ≠ some z := by
  have hl : ys.idxOf z < ys.length := List.idxOf_lt_length_of_mem h
  refine ⟨by rw [List.getElem?_eq_getElem hl, List.getElem_idxOf hl], fun m hm e => ?_⟩
  have hml : m < ys.length := by omega
  rw [List.getElem?_eq_getElem hml] at e
  have e' := Option.some.inj e
  have q := List.not_of_lt_findIdx (show m < List.findIdx (· == z) ys from hm)
  simp [e'] at q
section
variable {X : Cx} {o e : Expr} {apos cpos : Pos} {wo we : WE}
theorem de_tidx (ho : DE X o wo) (he : DE X e we) (hbase : attributeBase o "index" X.env (eval o X.env) = eval o X.env := by rfl)
    (hline : (apos.endLine == cpos.line) = true := by rfl) (hs : starEach [e] X.env = [(false, eval e X.env)] := by rfl) : DE X (.Call (.Attribute o "index" apos) [e] [] cpos) (wTidx wo we) := by
  refine ⟨fun pins s σ H Q I ⟨F, G, δ, st, P, en, ow, hw, q⟩ => ?_⟩
  refine wpAny_Call_method1_late hbase hline (by rw [hs]; rfl) (thn (ho.run pins s σ H (fun v H1 => ∃ G1 s1 ds, Ex G G1 ∧ Own X.K F s1 G1 H1 ∧ Rep X.K G1 (.tup ds) v ∧ we δ s1 (kTidx ds P)) I ⟨F, G, δ, st, _, en, ow, hw, fun d s1 h1 G1 H1 v e1 o1 r1 => by
    cases d <;> first | exact h1.elim | skip
    exact ⟨G1, s1, _, e1, o1, r1, h1⟩⟩) fun v s1 ⟨x, H1, I1, rx, G1, st1, ds, e1, o1, rd, h1⟩ => ?_)
  cases rd with
  | @tup a xs _ t r =>
    obtain rfl : v = Value.ref a := rx
    have tIs : s1.TypeIs (.ref a) "tuple" ∧ ∀ b, Value.ref a = Value.ref b → ∃ ob, s1.heap.get? b = some ob ∧ ob.dict = none := by
      rcases t with ⟨ob, hd, hg⟩ | ⟨ob, its, n, hk, hc, hd, _⟩
      · obtain ⟨g1, _, _, _, ob2, g2, hc, _⟩ := I1.hok _ _ (o1.ex _ _ hg)
        exact ⟨⟨ob2, g2, hc⟩, fun b e => by cases e; exact ⟨ob, g1, hd⟩⟩
      · have g1 := I1.kIn _ ob hk
        exact ⟨⟨ob, g1, hc⟩, fun b e => by cases e; exact ⟨ob, g1, hd⟩⟩
    refine ⟨"tuple", "tuple.index", PySem.F.plainAttrs_tuple, PySem.F.slot_tuple_index, PySem.F.type_tuple_index, tIs.1, tIs.2, ?_⟩
    refine Calls.callWith_builtin rfl (Calls.evalArgs_plain ?_)
    have hA := (pa_cons he pa_nil (by rw [hs]; rfl)).run cpos pins s1 σ H1 (fun vs H2 => ∃ y G2 s2 f, vs = [y] ∧ Ex G1 G2 ∧ Own X.K F s2 G2 H2 ∧ Rep X.K G2 f y ∧ kTidx ds P f s2) I1
      ⟨F, G1, δ, st1, _, en.mono e1, o1, h1, fun f s2 h2 G2 H2 y e2 o2 r2 => ⟨y, G2, s2, f, rfl, e2, o2, r2, h2⟩⟩
    rw [hs] at hA
    refine thn hA fun us s2 ⟨vs, H2, I2, rvs, y, G2, st2, f, ev, e2, o2, rf, h2⟩ => ?_
    subst ev
    unfold kTidx at h2
    cases rf <;> first | exact h2.elim | skip
    rename_i z
    dsimp only at h2
    split at h2 <;> first | exact h2.elim | skip
    rename_i ys hy
    have e3 := strsD_of hy
    subst e3
    have r2 := r.mono e2
    have e4 := r2.strs
    subst e4
    obtain ⟨i1, i2⟩ := idxOf_first h2.1
    exact mt_tup_index pins s2 σ H2 (.ref a) _ _ us Q I2 rfl rvs ⟨_, ys, z, _, rfl, rfl, ex_t (e2.trans o2.ex) t.sq, i1, i2, q _ st2 h2.2 G2 H2 _ (e1.trans e2) o2 (.int _)⟩
end

/-! ### several names at once -/
def wPar (i j : Nat) (w : WA) : WS := fun E δ s => w δ s fun ds s1 => match ds with
  | [d, e] => E.nx ((δ.set i (some d)).set j (some e)) s1
  | _ => False
def wPar3 (i j l : Nat) (w : WA) : WS := fun E δ s => w δ s fun ds s1 => match ds with
  | [d, e, f] => E.nx (((δ.set i (some d)).set j (some e)).set l (some f)) s1
  | _ => False
theorem RepL.three {K : PySem.W.Frag} {G : Hp} {d e f : D} {vs : List V} (r : RepL K G [d, e, f] vs) : ∃ u v w, vs = [u, v, w] ∧ Rep K G d u ∧ Rep K G e v ∧ Rep K G f w := by
  cases r with
  | cons h r => obtain ⟨v, w, rfl, h1, h2⟩ := r.two; exact ⟨_, _, _, rfl, h, h1, h2⟩
section
variable {X : Cx} {x y z : Str} {a b c : Expr} {px py pz pt pos : Pos} {kt k2 : Nat} {pt2 : Pos} {w : WA} {i j l : Nat}
theorem ds_par (hc : X.calm = true) (hN : X.N.Nodup) (hi : X.N[i]? = some x) (hj : X.N[j]? = some y) (hij : i ≠ j) (hx : X.env.scope.names.lookup x = some .local) (hy : X.env.scope.names.lookup y = some .local) (ha : DA X [a, b] 2 w)
    (hw : swappedStores [.Tuple [.Name x px, .Name y py] kt pt] (.Tuple [a, b] k2 pt2) X.env = pure (some [x, y])) (hs : swapsWithSole [.Tuple [.Name x px, .Name y py] kt pt] (.Tuple [a, b] k2 pt2) pos.line X.env = pure false := by rfl) :
    DS X (.Assign [.Tuple [.Name x px, .Name y py] kt pt] (.Tuple [a, b] k2 pt2) pos) (wPar i j w) :=
  PS.imp (ps_par hc hN hi hj hij hx hy ha hw hs) fun E σ H ⟨F, G, δ, s, D', en, o, hw, q⟩ => ⟨F, G, δ, s, _, en, o, hw, fun ds s1 h1 hl G1 H1 vs e1 o1 r1 => by
    match ds, h1 with
    | [d, e], h1 =>
      obtain ⟨v, u, rfl, rv, ru⟩ := r1.two
      exact ⟨v, u, rfl, q.nx _ s1 h1 G1 H1 _ e1 (((en.mono e1).set rv).set ru) o1⟩⟩
theorem ds_par3 (hc : X.calm = true) (hN : X.N.Nodup) (hi : X.N[i]? = some x) (hj : X.N[j]? = some y) (hl : X.N[l]? = some z) (hij : i ≠ j) (hil : i ≠ l) (hjl : j ≠ l) (hx : X.env.scope.names.lookup x = some .local) (hy : X.env.scope.names.lookup y = some .local)
    (hz : X.env.scope.names.lookup z = some .local) (ha : DA X [a, b, c] 3 w) (hw : swappedStores [.Tuple [.Name x px, .Name y py, .Name z pz] kt pt] (.Tuple [a, b, c] k2 pt2) X.env = pure (some [x, y, z]))
    (hs : swapsWithSole [.Tuple [.Name x px, .Name y py, .Name z pz] kt pt] (.Tuple [a, b, c] k2 pt2) pos.line X.env = pure false := by rfl) :
    DS X (.Assign [.Tuple [.Name x px, .Name y py, .Name z pz] kt pt] (.Tuple [a, b, c] k2 pt2) pos) (wPar3 i j l w) :=
  PS.imp (ps_par3 hc hN hi hj hl hij hil hjl hx hy hz ha hw hs) fun E σ H ⟨F, G, δ, s, D', en, o, hw, q⟩ => ⟨F, G, δ, s, _, en, o, hw, fun ds s1 h1 hl G1 H1 vs e1 o1 r1 => by
    match ds, h1 with
    | [d, e, f], h1 =>
      obtain ⟨u, v, w, rfl, r1, r2, r3⟩ := r1.three
      exact ⟨u, v, w, rfl, q.nx _ s1 h1 G1 H1 _ e1 ((((en.mono e1).set r1).set r2).set r3) o1⟩⟩
/-- (a, b, ..) = a list of that length -/
def wgUnl (n : Nat) (g : WGs) : WG := fun d δ s P => match view s d with
  | .lst ds => ds.length = n ∧ g ds δ s P
  | _ => False
theorem dg_unl {es : List Expr} {k n : Nat} {vs : List Nat} {gs : WGs} (hc : X.calm = true) (h : DGs X es vs gs) (hn : (assignEach es X.env).length = n := by rfl) (hst : (assignEach es X.env).findIdx? (·.1) = none := by rfl) : DG X (.Tuple es k pos) vs (wgUnl n gs) :=
  PG.imp (pg_unl hc h hn hst) fun v σ H Q ⟨F, G, δ, s, d, P, en, o, r, hw, q⟩ => by
    unfold wgUnl at hw
    split at hw <;> first | exact hw.elim | skip
    rename_i ds hv
    obtain ⟨a, xs, rfl, h1, r1⟩ := o.seqL r hv
    exact ⟨a, xs, rfl, .of h1, by rw [← r1.length]; exact hw.1, F, G, δ, s, ds, P, en, o, r1, hw.2, q⟩
/-- xs[i] = e -/
def wSetIx (we wo wi : WE) : WS := fun E δ s => we δ s fun d s1 => wo δ s1 fun x s2 => wi δ s2 fun k s3 => match x, k with
  | .ref a, .int k => (match s3.M a with
    | some (.lst ds) => (match ixN ds.length k with
      | some j => E.nx δ (s3.put a (.lst (ds.set j d)))
      | none => False)
    | _ => False)
  | _, _ => False
theorem ds_setIx {o i e : Expr} {tpos : Pos} {we wo wi : WE} (he : DE X e we) (ho : DE X o wo) (hi : DE X i wi) (hs : swapsWithSole [.Subscript o i tpos] e pos.line X.env = pure false := by rfl) (hw : swappedStores [.Subscript o i tpos] e X.env = pure none := by rfl)
    (ha : ∀ v, assign (.Subscript o i tpos) X.env v = (do
      let ov ← holding [v] (eval o X.env)
      let iv ← holding [v, ov] (eval i X.env)
      standAt tpos
      holding [v, ov, iv] (setItem ov iv v)
      release [v, ov, iv] []) := by intro _; rfl) (h1 : (assignEach [.Subscript o i tpos] X.env).map (·.2) = [assign (.Subscript o i tpos) X.env] := by rfl) : DS X (.Assign [.Subscript o i tpos] e pos) (wSetIx we wo wi) :=
  PS.imp (ps_asg he (pg_sub ho hi set_list ha) hs hw h1) fun E σ H ⟨F, G, δ, s, D', en, o, hw, q⟩ => ⟨F, G, δ, s, _, en, o, hw, fun d s1 h1 G1 H1 v e1 o1 r1 => ⟨F, G1, δ, s1, _, en.mono e1, o1, h1, fun x s2 h2 G2 H2 vo e2 o2 r2 =>
    ⟨F, G2, δ, s2, _, (en.mono e1).mono e2, o2, h2, fun k s3 h3 G3 H3 vi e3 o3 r3 => by
      have r2' := r2.mono e3
      cases r2' <;> cases r3 <;> first | exact h3.elim | skip
      rename_i a k
      dsimp only at h3
      split at h3 <;> first | exact h3.elim | skip
      rename_i ds hM
      split at h3 <;> first | exact h3.elim | skip
      rename_i j hj
      obtain ⟨_, u, hp, xs, rfl, r⟩ := o3.mu a _ hM
      exact ⟨a, xs, k, j, rfl, rfl, hp, by rw [← r.length]; exact hj, q.nx _ _ h3 G3 _ _ (e1.trans (e2.trans e3)) (((en.mono e1).mono e2).mono e3) (o3.setL hM (r.set j ((r1.mono e2).mono e3)))⟩⟩⟩⟩
end
def rmPop : RMD := fun x ds s P => match x, ds with
  | .ref a, [] => (match s.M a with
    | some (.lst es) => (match es[es.length - 1]? with
      | some d => P d (s.put a (.lst es.dropLast))
      | none => False)
    | _ => False)
  | _, _ => False
/-- sorted of texts, of whole numbers (fewer than 64) -/
def intsD : List D → Option (List Int)
  | [] => some []
  | .int x :: ds => (intsD ds).map (x :: ·)
  | _ :: _ => none
theorem intsD_of {ds : List D} : ∀ {ys : List Int}, intsD ds = some ys → ds = ys.map .int := by
  induction ds with
  | nil => intro ys h; cases h; rfl
  | cons d ds ih =>
    intro ys h
    cases d with
    | int x =>
      unfold intsD at h
      cases q : intsD ds with
      | none => rw [q] at h; cases h
      | some zs => rw [q] at h; cases h; rw [ih q]; rfl
    | _ => cases h
theorem intsD_map : ∀ ys : List Int, intsD (ys.map .int) = some ys
  | [] => rfl
  | y :: ys => by show (intsD (ys.map .int)).map (y :: ·) = _; rw [intsD_map ys]; rfl
theorem RepL.intsV {K : PySem.W.Frag} {G : Hp} : ∀ {ys : List Int} {vs : List V}, RepL K G (ys.map .int) vs → vs = ys.map V.int
  | [], _, h => by cases h; rfl
  | y :: ys, _, h => by cases h with | cons a b => cases a; rw [RepL.intsV b]; rfl
theorem RepL.ofInts {K : PySem.W.Frag} {G : Hp} : ∀ (ys : List Int), RepL K G (ys.map .int) (ys.map V.int)
  | [] => .nil
  | y :: ys => .cons (.int y) (RepL.ofInts ys)
theorem RepL.ofStrs {K : PySem.W.Frag} {G : Hp} : ∀ (ys : List Str), RepL K G (ys.map .str) (ys.map V.str)
  | [] => .nil
  | y :: ys => .cons (.str y) (RepL.ofStrs ys)
def rcSortI : RCLD := fun ds s P => match ds with
  | [d] => (match view s d with
    | .lst es => (match intsD es with
      | some ns => ns.length < 64 ∧ ∀ ns' : List Int, ns'.Perm ns → ns'.Pairwise (· ≤ ·) → P (ns'.map .int) s
      | none => (match strsD es with
        | some ys => ys.length < 64 ∧ ∀ zs : List Str, zs.Perm ys → sortedS zs = true → P (zs.map .str) s
        | none => False))
    | _ => False)
  | _ => False
section
variable {X : Cx}
theorem md_pop : MtR X "list.pop" (lM X.K rmPop) := by
  intro pins s σ H x vs v us Q I rx rs ⟨F, G, s', d, ds, P, o, rd, rds, hw, q⟩
  unfold rmPop at hw
  split at hw <;> first | exact hw.elim | skip
  rename_i a
  split at hw <;> first | exact hw.elim | skip
  rename_i es hM
  split at hw <;> first | exact hw.elim | skip
  rename_i e he
  cases rd; cases rds
  obtain ⟨_, u, hp, xs, rfl, r⟩ := o.mu a _ hM
  obtain ⟨y, hy, ry⟩ := r.get he
  refine mt_pop pins s σ H _ _ v us Q I rx rs ⟨a, xs, y, rfl, rfl, hp, by rw [← r.length]; exact hy, ?_⟩
  exact q _ _ hw G _ _ (Ex.refl G) (o.setL hM r.dropLast) ry
theorem cd_sortI : CallDL X (.builtin "sorted") rcSortI := by
  intro pins s σ H xs us Q I r ⟨F, G, s', ds, P, o, rd, hw, q⟩
  unfold rcSortI at hw
  split at hw <;> first | exact hw.elim | skip
  rename_i d
  obtain ⟨v, rfl, rv⟩ := rd.one
  split at hw <;> first | exact hw.elim | skip
  rename_i es hv
  obtain ⟨a, ys, rfl, h1, r1⟩ := o.seqL rv hv
  split at hw
  · rename_i ns hn
    have e := intsD_of hn
    subst e
    have e2 := r1.intsV
    subst e2
    exact cr_sorted pins s σ H _ us Q I r ⟨a, ns, rfl, .of h1, hw.1, fun ns' p hp hs hH => q _ s' (hw.2 ns' hp hs) G H p _ (Ex.refl G) o hH (RepL.ofInts ns')⟩
  · split at hw <;> first | exact hw.elim | skip
    rename_i zs hz
    have e := strsD_of hz
    subst e
    have e2 := r1.strs
    subst e2
    exact cr_sortedS pins s σ H _ us Q I r ⟨a, zs, rfl, .of h1, hw.1, fun ns' p hp hs hH => q _ s' (hw.2 ns' hp hs) G H p _ (Ex.refl G) o hH (RepL.ofStrs ns')⟩
end
end DL

set_option Elab.async false
set_option linter.all false
set_option autoImplicit false
set_option maxRecDepth 100000
set_option maxHeartbeats 2000000
namespace DL
open PySem PySem.Spec PyProof.Rows L2
open Evl (Ex)

/-! ### the deck, opened and shut -/
/-- the deck's two lists as lists that may change -/
def S.opened (s : S) (a a1 : Addr) (cells : List Int) (mixed : Int) (k : Nat) : S :=
  ⟨none, fun b => if b = a then some (.lst [.ref a1, .int mixed, .int (k : Int)]) else if b = a1 then some (.lst (cells.map .int)) else s.M b⟩
theorem Own.open_ {K : PySem.W.Frag} {F : Hp} {s : S} {G H : Hp} {a : Addr} {n : Nat} (o : Own K F s G H) (h : s.dk = some (a, n)) : ∃ (a1 : Addr) (cells : List Int) (mixed : Int) (k : Nat),
    a ≠ a1 ∧ s.M a = none ∧ s.M a1 = none ∧ cells.length ≤ 63 ∧ 0 ≤ mixed ∧ mixed < 2147483587 ∧ k + n ≤ deckMax ∧ Own K F (s.opened a a1 cells mixed k) G H := by
  obtain ⟨a1, cells, mixed, k, h1, h2, h3, h4, h5, h6, h7, h8, h9, h10, h11⟩ := (o.dk a n h).ex
  refine ⟨a1, cells, mixed, k, h1, h4, h5, h8, h9, h10, h11, o.ex, fun p u q => ?_, fun p m q => ?_, fun _ _ q => nomatch q⟩
  · obtain ⟨g1, g2, g3⟩ := o.fr p u q
    have e1 : p ≠ a := fun z => by rw [z, h2.2] at q; cases q
    have e2 : p ≠ a1 := fun z => by rw [z, h3.2] at q; cases q
    exact ⟨g1, g2, by simp only [S.opened, if_neg e1, if_neg e2]; exact g3⟩
  · by_cases e1 : p = a
    · subst e1
      simp only [S.opened, if_pos] at q
      cases q
      exact ⟨h2.1, _, h6, _, rfl, .cons (.ref _) (.cons (.int _) (.cons (.int _) .nil))⟩
    · by_cases e2 : p = a1
      · subst e2
        simp only [S.opened, if_neg e1, if_pos] at q
        cases q
        exact ⟨h3.1, _, h7, _, rfl, RepL.ofInts cells⟩
      · simp only [S.opened, if_neg e1, if_neg e2] at q
        exact o.mu p m q
/-- a state in which the deck's lists stand, shut again -/
theorem Own.shut {K : PySem.W.Frag} {F : Hp} {s s2 : S} {G H : Hp} {a a1 : Addr} {cells : List Int} {mixed : Int} {k n : Nat} (o : Own K F s2 G H) (hne : a ≠ a1) (h4 : s.M a = none) (h5 : s.M a1 = none)
    (h1 : s2.M a = some (.lst [.ref a1, .int mixed, .int (k : Int)])) (h2 : s2.M a1 = some (.lst (cells.map .int))) (h3 : ∀ b, b ≠ a → b ≠ a1 → s2.M b = s.M b) (hc : cells.length ≤ 63) (m0 : 0 ≤ mixed) (m1 : mixed < 2147483587) (hk : k + n ≤ deckMax) :
    Own K F (s.fuel a n) G H := by
  obtain ⟨ga, u, pa, xs, rfl, ra⟩ := o.mu a _ h1
  obtain ⟨gb, u, pb, ys, rfl, rb⟩ := o.mu a1 _ h2
  have fa : F a = none := by
    cases q : F a with
    | none => rfl
    | some v => rw [(o.fr a v q).2.2] at h1; cases h1
  have fb : F a1 = none := by
    cases q : F a1 with
    | none => rfl
    | some v => rw [(o.fr a1 v q).2.2] at h2; cases h2
  have eb := rb.intsV
  subst eb
  obtain ⟨x1, x2, x3, rfl, r1, r2, r3⟩ := ra.three
  cases r1; cases r2; cases r3
  refine ⟨o.ex, fun p u q => ?_, fun p m q => ?_, fun b j q => ?_⟩
  · obtain ⟨g1, g2, g3⟩ := o.fr p u q
    have e1 : p ≠ a := fun z => by rw [z, fa] at q; cases q
    have e2 : p ≠ a1 := fun z => by rw [z, fb] at q; cases q
    exact ⟨g1, g2, (h3 p e1 e2).symm.trans g3⟩
  · have q : s.M p = some m := q
    have e1 : p ≠ a := fun z => by rw [z, h4] at q; cases q
    have e2 : p ≠ a1 := fun z => by rw [z, h5] at q; cases q
    exact o.mu p m ((h3 p e1 e2).trans q)
  · have q : some (a, n) = some (b, j) := q
    cases q
    exact ⟨a1, cells, mixed, k, hne, ⟨ga, fa⟩, ⟨gb, fb⟩, h4, h5, pa, pb, hc, m0, m1, hk⟩

/-- an integer below c is drawn -/
def spDraw : SpD := fun ds s P => ∃ a n c, ds = [.ref a, .int c] ∧ 0 < c ∧ c < 1073741824 ∧ s.dk = some (a, n + 1) ∧ ∀ r, 0 ≤ r → r < c → P (.int r) (s.fuel a n)
/-- the same over the deck's lists -/
def spDrawM : SpD := fun ds s P => ∃ (a a1 : Addr) (c : Int) (cells : List Int) (mixed : Int) (k : Nat), ds = [.ref a, .int c] ∧ 0 < c ∧ c < 1073741824 ∧ a ≠ a1 ∧ s.dk = none ∧
  s.M a = some (.lst [.ref a1, .int mixed, .int (k : Int)]) ∧ s.M a1 = some (.lst (cells.map .int)) ∧ cells.length ≤ 63 ∧ 0 ≤ mixed ∧ mixed < 2147483587 ∧ k < deckMax ∧
  ∀ r (s2 : S) (cells2 : List Int), 0 ≤ r → r < c → s2.M a = some (.lst [.ref a1, .int mixed, .int ((k + 1 : Nat) : Int)]) → s2.M a1 = some (.lst (cells2.map .int)) → cells2.length ≤ 63 → (∀ b, b ≠ a → b ≠ a1 → s2.M b = s.M b) → P (.int r) s2
theorem draw_shut {K : PySem.W.Frag} (vs : List V) (H : Hp) (Q : VK) (E : XK) (h : lSp K spDraw vs H Q E) : lSp K spDrawM vs H Q E := by
  obtain ⟨F, G, ds, s, P, o, r, ⟨a, n, c, rfl, c0, c1, hd, hP⟩, q⟩ := h
  obtain ⟨a1, cells, mixed, k, h1, h2, h3, h4, h5, h6, h7, o2⟩ := o.open_ hd
  refine ⟨F, G, _, _, fun d s2 => ∃ r cells2, d = .int r ∧ 0 ≤ r ∧ r < c ∧ s2.M a = some (.lst [.ref a1, .int mixed, .int ((k + 1 : Nat) : Int)]) ∧ s2.M a1 = some (.lst (cells2.map .int)) ∧ cells2.length ≤ 63 ∧ (∀ b, b ≠ a → b ≠ a1 → s2.M b = s.M b), o2, r,
    ⟨a, a1, c, cells, mixed, k, rfl, c0, c1, h1, rfl, by simp [S.opened], by simp [S.opened, h1.symm], h4, h5, h6, by omega, fun r s2 cells2 r0 r1 e1 e2 e3 e4 => ⟨r, cells2, rfl, r0, r1, e1, e2, e3, fun b b1 b2 => (e4 b b1 b2).trans (by simp [S.opened, b1, b2])⟩⟩, ?_⟩
  rintro d s2 ⟨r, cells2, rfl, r0, r1, e1, e2, e3, e4⟩ G' H' v ex o3 rv
  exact q _ _ (hP r r0 r1) G' H' v ex (o3.shut h1 h2 h3 e1 e2 e4 e3 h5 h6 (by omega)) rv

/-! ### making the deck -/
/-- [cells, mixed, 0], the cells a new list: it is the deck from here on -/
def wDeck (w1 : WA) (w2 w3 : WE) : WE := fun δ s P => w1 δ s fun cs s1 => w2 δ s1 fun m s2 => w3 δ s2 fun z s3 => match intsD cs, m, z with
  | some ns, .int mixed, .int 0 => (ns.length ≤ 63 ∧ 0 ≤ mixed ∧ mixed < 2147483587 ∧ s3.dk = none) ∧ ∀ a, P (.ref a) (s3.fuel a deckMax)
  | _, _, _ => False
section
variable {X : Cx} {a b c : Expr} {pos : Pos} {w1 : WA} {w2 w3 : WE}
theorem de_deck (ha : DEL X a w1) (hb : DE X b w2) (hc : DE X c w3) (hs : starEach [a, b, c] X.env = [(false, eval a X.env), (false, eval b X.env), (false, eval c X.env)] := by rfl)
    (hs2 : starEach [b, c] X.env = [(false, eval b X.env), (false, eval c X.env)] := by rfl) (hs3 : starEach [c] X.env = [(false, eval c X.env)] := by rfl) : DE X (.List [a, b, c] pos) (wDeck w1 w2 w3) := by
  refine PE.imp (pe_lst (pa_cons ha (pa_cons hb (pa_cons hc pa_nil (by rw [hs3]; rfl)) (by rw [hs2, hs3])) (by rw [hs, hs2]))) fun σ H Q ⟨F, G, δ, s, P, en, o, hw, q⟩ => ?_
  refine ⟨F, G, δ, s, _, en, o, hw, fun cs s1 h1 G1 H1 p xs e1 o1 hp rc => ?_⟩
  have fp := o1.freeF hp
  have op := (o1.pass (u := .lst xs) hp).lend (p := p) (u := .lst xs) upd_same (o1.freeG hp) (o1.freeM hp) (fun d n e a1 mx k h => by
    obtain ⟨a1', cells, mixed, k', _, _, _, _, _, g6, g7, _⟩ := (o1.dk d n e).ex
    have n1 : d ≠ p := ne_of_none g6 hp
    have n2 : a1' ≠ p := ne_of_none g7 hp
    rw [upd_ne n1, g6] at h
    cases h
    exact ⟨n1.symm, n2.symm⟩)
  refine ⟨_, G1, δ, s1, _, en.mono e1, op, h1, fun m s2 h2 G2 H2 v2 e2 o2 r2 => ⟨_, G2, δ, s2, _, (en.mono e1).mono e2, o2, h2, fun z s3 h3 G3 H3 v3 e3 o3 r3 => ?_⟩⟩
  split at h3 <;> first | exact h3.elim | skip
  rename_i ns mixed hns
  have ei := intsD_of hns
  subst ei
  have ex := rc.intsV
  subst ex
  have r2' := r2.mono e3
  cases r2'
  cases r3
  obtain ⟨⟨c1, c2, c3, c4⟩, hP⟩ := h3
  refine ⟨by show 3 ≤ sizeLine; decide, fun d hd => ?_⟩
  obtain ⟨f1, f2, f3⟩ := o3.fr p _ upd_same
  have hdp : d ≠ p := fun z => by rw [z, f1] at hd; cases hd
  have o4 := o3.back (Ex.new fp)
  refine q _ _ (hP d) G3 _ _ (e1.trans (e2.trans e3)) ?_ (.ref d)
  have o5 := o4.pass (u := .lst [.ref p, .int mixed, .int 0]) hd
  refine ⟨o5.ex, o5.fr, o5.mu, fun b n hb => ?_⟩
  have hb : some (d, deckMax) = some (b, n) := hb
  cases hb
  exact ⟨p, ns, mixed, 0, hdp, ⟨o4.freeG hd, o4.freeF hd⟩, ⟨f2, fp⟩, o4.freeM hd, f3, upd_same, by rw [upd_ne hdp.symm]; exact f1, c1, c2, c3, by simp⟩
/-- xs[::-1] -/
def wRevL (w : WE) : WA := fun δ s P => w δ s fun d s1 => match view s1 d with
  | .lst ds => P ds.reverse s1
  | _ => False
theorem del_rev {e : Expr} {w : WE} {k : Nat} {p1 p2 p3 pos : Pos} (he : DE X e w) : DEL X (.Subscript e (.Slice none none (some (.UnaryOp .USub (.Constant (.int 1) k p1) p2)) p3) pos) (wRevL w) :=
  PE.imp (pe_revL he) fun σ H Q ⟨F, G, δ, s, P, en, o, hw, q⟩ => ⟨F, G, δ, s, _, en, o, hw, fun d s1 h1 G1 H1 v e1 o1 r1 => by
    split at h1 <;> first | exact h1.elim | skip
    rename_i ds hv
    obtain ⟨a, xs, rfl, hx, r⟩ := o1.seqL r1 hv
    exact ⟨a, xs, rfl, .of hx, fun p hp => q _ s1 h1 G1 H1 p _ e1 o1 hp r.reverse⟩⟩
end

/-! ### the law's own call -/
/-- the law's promise: a list of at most 63 ints is handed in, True comes out -/
def spLaw : SpD := fun ds s P => ∃ ns : List Int, ds = [.lsk (ns.map .int)] ∧ ns.length ≤ 63 ∧ s.dk = none ∧ (∀ b, s.M b = none) ∧ ∀ s', P (.bl true) s'
theorem roomG0 {k : Nat} (h : Room k callerA) : RoomG k callerA := ⟨h, rfl⟩
theorem law_run {P : Program} {w : World} {K : PySem.W.Frag} {mg mb : Str → Option Value} {k : Nat} {fa a : Addr} {fd : FuncData} {x : Str} {s : Shared} {vs : List Value} {ns : List Int} (KX : K.In s.heap) (hns : s.heap.Ns mainGlobals mg)
    (hb : s.heap.Ns builtinsNs mb) (hbb : ∀ x : Str, x ≠ "__name__" → mb x = bootBuiltins x) (hlim : s.heap.NoLimit) (hg : s.gens = #[]) (ha : s.heap.get? a = some { cls := .type "list", data := .seq vs.toArray }) (hi : IntsAre vs ns) (hl : ns.length ≤ 63)
    (hr : Room k callerA) (F : ∀ base : Heap, K.In base → base.Ns mainGlobals mg → FnD P w K mg base k fa fd [x] spLaw) (hbind : ∀ (s : Shared) (u : Value), BindsTo s fd ⟨[u], []⟩ [(x, u)])
    {H : Hp} (hq : SqL K H a (ns.map V.int)) (hA : ∀ b u, H b = some u → b = a ∧ K.lookup a = none ∧ u = .frz { cls := .type "list", data := .seq vs.toArray } (.lst (ns.map V.int))) (hok : HOk P w H s.heap) :
    codeAny (model P w) callerA (.call (.ref fa) ⟨[.ref a], []⟩) (fun r s' => r = .ok (.ret (.bool true)) ∧ OldK s.heap s'.heap ∧ s'.os = s.os ∧ AllBare s'.gens) s := by
  -- what is no list of the script's is in the base
  have inB : ∀ {b : Addr} {o : Obj}, s.heap.get? b = some o → H b = none → (hidT s.heap H).get? b = some o := fun e n => hidT_get e n
  have dictFree : ∀ {b : Addr} {m : Str → Option Value}, s.heap.Ns b m → (hidT s.heap H).Ns b m := fun {b m} ⟨o, es, ep, e, d, r⟩ => by
    refine ⟨o, es, ep, inB e ?_, d, r⟩
    cases q : H b with
    | none => rfl
    | some u =>
      obtain ⟨rfl, _, _⟩ := hA b u q
      rw [ha] at e; cases e
      have d' : Data.seq vs.toArray _ = Data.dict es ep := d
      cases d'
  have hK : K.In (hidT s.heap H) := fun b o e => inB (KX b o e) (by
    cases q : H b with
    | none => rfl
    | some u =>
      obtain ⟨rfl, h2, _⟩ := hA b u q
      rw [h2] at e; cases e)
  have md : Mod K mg (hidT s.heap H) := ⟨hK, dictFree hns, ⟨mb, dictFree hb, hbb⟩, let ⟨mc, h1, h2⟩ := hlim; ⟨mc, dictFree h1, h2⟩⟩
  have e0 : Env0 P w K mg (hidT s.heap H) callerA [] s H := ⟨rfl, md, fun b o e => of_hidT e, Nat.le_of_eq (hidT_size _ _), trivial, fun b hb => absurd hb (by simp [frs]), hok, .of_eq hg⟩
  have sp : lSp K spLaw [.ref a] H (fun v _ => v = .bl true) (fun _ _ _ => False) := by
    refine ⟨fun _ => none, H, [.lsk (ns.map .int)], ⟨none, fun _ => none⟩, fun d _ => d = .bl true, ⟨Evl.Ex.refl H, (fun _ _ h => by cases h), (fun _ _ h => by cases h), (fun _ _ h => by cases h)⟩, .cons (.lsk hq (RepL.ofInts ns)) .nil, ⟨ns, rfl, hl, rfl, fun _ => rfl, fun _ => rfl⟩, ?_⟩
    rintro d s' rfl G' H' v _ _ r
    cases r
    rfl
  refine codeAny_mono ((F _ hK (dictFree hns)).run callerA [] s H ⟨[.ref a], []⟩ [.ref a] [.ref a] _ _ (roomG0 hr) e0 (hbind s (.ref a)) (.cons rfl .nil) sp) fun r s' h => ?_
  match r, h with
  | .error e, h => exact False.elim h
  | .ok .next, h => exact False.elim h
  | .ok .brk, h => exact False.elim h
  | .ok .cont, h => exact False.elim h
  | .ok (.ret u), ⟨v, H', os, bare, un, hok', r', q⟩ =>
    have q' : v = .bl true := q
    subst q'
    obtain rfl : u = Value.bool true := r'
    refine ⟨rfl, OldK.of_keep fun b o e => ?_, os, bare⟩
    cases q2 : H b with
    | none => exact un.keep b o e q2 (fun z => absurd z (by simp [frs])) (by simp)
    | some u =>
      obtain ⟨rfl, _, rfl⟩ := hA b u q2
      have z2 := un.frzs _ _ _ q2
      obtain ⟨g1, _⟩ := hok _ _ q2
      obtain ⟨g2, _⟩ := hok' _ _ z2
      rw [e] at g1; cases g1
      exact g2
/-- the goal that k_head leaves -/
theorem walkD {l : PySem.W.OpenLaw} {k : Nat} {q : Program} {loose : List Str} {XP : (Str → Option Value) → Heap → Prop} {YP : World → Heap → Prop} {d : DefRec} {K : Params → PySem.W.Frag} {x : Str}
    (hn : l.most = some 63) (hdf : d.params.defaults = []) (hr : Room k callerA) (hY : ∀ (w : World) (h : Heap), YP w h → (K w.params).In h)
    (F : ∀ (w : World) (mg : Str → Option Value) (fa : Addr) (h : Heap), (K w.params).In h → h.Ns mainGlobals mg → mg d.name = some (.ref fa) →
      ∃ fd : FuncData, (∀ (s : Shared) (u : Value), BindsTo s fd ⟨[u], []⟩ [(x, u)]) ∧ ∀ base : Heap, (K w.params).In base → base.Ns mainGlobals mg → FnD l.prog w (K w.params) mg base k fa fd [x] spLaw) :
    PySem.W.WalkO q loose XP YP l.row.toRowW d [] (fun f vs => PySem.call f vs) := by
  refine Att.attach_call hn hdf fun w s₀ s₁ mg mb fa o pm cd doc a vs ns G Y ho hd hcd hmg hobj hints hlen hg => ?_
  have KX := hY w _ Y
  obtain ⟨fd, hb, hF⟩ := F w mg fa _ KX G.T.g hmg
  have rv := vals_ints hints
  have hz : (ns.map V.int).length ≤ sizeLine := by rw [List.length_map, sizeLine_eq]; omega
  cases hk : (K w.params).lookup a with
  | some o =>
    have e := KX a o hk
    rw [hobj] at e
    cases e
    exact law_run KX G.T.g G.T.b G.T.builtins G.T.nolimit hg hobj hints hlen hr hF hb (H := fun _ => none) (.inr ⟨_, vs.toArray, _, hk, rfl, rfl, rfl, by rw [List.size_toArray, hints.length, sizeLine_eq]; omega, by simpa using rv⟩) (fun _ _ h => by cases h) (fun _ _ h => by cases h)
  | none =>
    refine law_run KX G.T.g G.T.b G.T.builtins G.T.nolimit hg hobj hints hlen hr hF hb (H := fun b => if b = a then some (.frz { cls := .type "list", data := .seq vs.toArray } (.lst (ns.map V.int))) else none) (.inl (.inr ⟨_, if_pos rfl⟩)) (fun b u h => ?_) (fun b u h => ?_)
    · by_cases hb : b = a
      · simp only [if_pos hb] at h; cases h; exact ⟨hb, hk, rfl⟩
      · simp only [if_neg hb] at h; cases h
    · by_cases hb : b = a
      · simp only [if_pos hb] at h; cases h; subst hb; exact ⟨hobj, hz, vs, _, rv, hobj⟩
      · simp only [if_neg hb] at h; cases h
end DL

set_option Elab.async false
set_option linter.all false
set_option autoImplicit false
set_option maxRecDepth 100000
set_option maxHeartbeats 2000000
namespace DL
open PySem PySem.Spec PyProof.Rows L2
open Evl (Ex)

/-- a list or a tuple that stands still, walked -/
def wiSeq (w : WE) : WI := fun δ s P => w δ s fun d s1 => match d with
  | .lst ds => P ds s1
  | .tup ds => P ds s1
  | .tpw ds => P ds s1
  | .lsk ds => P ds s1
  | _ => False
/-- an iterator over a list, over a tuple, just made -/
theorem pie_list {X : Cx} {pins : List (Addr × Obj)} {σ : L2.St} {H : Hp} {s : Shared} {tg : Expr} {R : It → Hp → Prop} {a : Addr} {xs : List V} (I : L2.Inv X pins σ H s) (hq : SqL X.K H a xs) (q : R (Itl X.K a) H) :
    wpAny (model X.prog X.w) X.A (pyIter (.ref a)) (PIE X pins σ tg R) X.xe s := by
  obtain ⟨its, rv, p, hz⟩ := I.list hq
  refine wpAny_pyIter_list p.isList ⟨s.heap.objs.size, [s.heap.objs.size], _, _, H, rfl, I.kept (t' := s.toks) (fun b o e => Heap.get?_push_of_some _ e), turn_list a _, ⟨_, Heap.get?_push_size _ rfl, rfl, rfl⟩, fun b hb => ?_, q⟩
  rw [List.mem_singleton.mp hb]
  exact I.fpOk (Nat.le_refl _) (I.hok.fresh (Nat.le_refl _))
theorem pie_tup {X : Cx} {pins : List (Addr × Obj)} {σ : L2.St} {H : Hp} {s : Shared} {tg : Expr} {R : It → Hp → Prop} {a : Addr} {xs : List V} (I : L2.Inv X pins σ H s) (hq : SqT X.K H a xs) (q : R (Itt X.K a) H) :
    wpAny (model X.prog X.w) X.A (pyIter (.ref a)) (PIE X pins σ tg R) X.xe s := by
  obtain ⟨its, rv, p, hz⟩ := I.tuple hq
  refine wpAny_pyIter_tuple (show s.heap.IsTuple a its.toArray from p) ⟨s.heap.objs.size, [s.heap.objs.size], _, _, H, rfl, I.kept (t' := s.toks) (fun b o e => Heap.get?_push_of_some _ e), turn_tuple a _, ⟨_, Heap.get?_push_size _ rfl, rfl, rfl⟩, fun b hb => ?_, q⟩
  rw [List.mem_singleton.mp hb]
  exact I.fpOk (Nat.le_refl _) (I.hok.fresh (Nat.le_refl _))
theorem jok_lsk {K : PySem.W.Frag} {G : Hp} {ds : List D} {xs : List V} {a : Addr} (h : SqL K G a xs) (r : RepL K G ds xs) : JOk K G ds (Itl K a) := by
  have hl := r.length
  refine ⟨fun i F s G1 H e o hi => ?_, fun i F s G1 H e o hi => ⟨xs, Evl.ex_l (e.trans o.ex) h, by omega⟩⟩
  have hx : xs[i]? = some xs[i] := List.getElem?_eq_getElem (by omega)
  have hq : SqL K H a xs := Evl.ex_l (e.trans o.ex) h
  refine ⟨⟨xs, _, hq, hx⟩, fun x H' ⟨e1, y⟩ => ?_⟩
  subst e1
  obtain ⟨d, hd, rd⟩ := r.getV (y xs hq)
  exact ⟨d, G1, hd, Ex.refl _, o, rd.mono e⟩
theorem di_seq {X : Cx} {tg l : Expr} {we : WE} (h : DE X l we) : DI X tg l (wiSeq we) := by
  refine ⟨fun pins s σ H R I ⟨F, G, δ, s', P, en, o, hw, q⟩ => ?_⟩
  refine thn (h.run pins s σ H (fun v H1 => ∃ G1 s1 d, Ex G G1 ∧ Own X.K F s1 G1 H1 ∧ Rep X.K G1 d v ∧ (match d with
    | .lst ds => P ds s1
    | .tup ds => P ds s1
    | .tpw ds => P ds s1
    | .lsk ds => P ds s1
    | _ => False)) I ⟨F, G, δ, s', _, en, o, hw, fun d s1 h1 G1 H1 v e1 o1 r1 => ⟨G1, s1, d, e1, o1, r1, h1⟩⟩) fun v s1 ⟨x, H1, I1, rx, G1, st1, d, e1, o1, rd, h1⟩ => ?_
  cases rd with
  | lst hx r =>
    cases rx
    exact pie_list I1 (.of (o1.ex _ _ hx)) (q _ st1 h1 G1 H1 _ e1 o1 (jok_list hx r))
  | lsk hx r =>
    cases rx
    exact pie_list I1 (Evl.ex_l o1.ex hx) (q _ st1 h1 G1 H1 _ e1 o1 (jok_lsk hx r))
  | tup hx r =>
    cases rx
    exact pie_tup I1 (ex_t o1.ex hx.sq) (q _ st1 h1 G1 H1 _ e1 o1 (jok_tup hx.sq r))
  | tpw hx r =>
    cases rx
    exact pie_tup I1 (ex_t o1.ex hx) (q _ st1 h1 G1 H1 _ e1 o1 (jok_tup hx r))
  | _ => exact h1.elim
/-! ### keywords put in the parameters' order -/
def pgX {α : Type} (d : α) (np nk : Nat) (perm : List Nat) (us ws : List α) : List α := if us.length = np ∧ ws.length = nk then perm.map (fun i => (us ++ ws).getD i d) else []
theorem Vals.getD {xs : List V} {us : List Value} (r : Vals xs us) (i : Nat) : RelV (xs.getD i .non) (us.getD i .none) := by
  rw [List.getD_eq_getElem?_getD, List.getD_eq_getElem?_getD]
  cases e : xs[i]? with
  | none => rw [r.none_of e]; rfl
  | some x => obtain ⟨u, hu, ru⟩ := r.get e; rw [hu]; exact ru
theorem RepL.getD {K : PySem.W.Frag} {G : Hp} {ds : List D} {vs : List V} (r : RepL K G ds vs) (i : Nat) : Rep K G (ds.getD i .non) (vs.getD i .non) := by
  rw [List.getD_eq_getElem?_getD, List.getD_eq_getElem?_getD]
  cases e : ds[i]? with
  | none =>
    have hl := r.length
    rw [List.getElem?_eq_none (by have := List.getElem?_eq_none_iff.mp e; omega)]
    exact .non
  | some x => obtain ⟨u, hu, ru⟩ := r.get e; rw [hu]; exact ru
theorem kb_mk {K : PySem.W.Frag} {fd : FuncData} {ps ks : List Str} {np nk : Nat} {perm : List Nat} (h0 : 0 < ps.length) (h : ∀ (s : Shared) (us ws : List Value), us.length = np → ws.length = nk → BindsTo s fd ⟨us, ks.zip ws⟩ (ps.zip (perm.map fun i => (us ++ ws).getD i .none))) :
    KBinds K fd ps ks (pgX Value.none np nk perm) (pgX V.non np nk perm) := by
  refine ⟨fun s us ws _ hl => ?_, fun {vs us zs ws} r1 r2 => ?_⟩
  · unfold pgX at hl ⊢
    by_cases e : us.length = np ∧ ws.length = nk
    · rw [if_pos e]; exact h s us ws e.1 e.2
    · rw [if_neg e] at hl; exact absurd hl (by simp; omega)
  · unfold pgX
    rw [r1.length, r2.length]
    by_cases e : us.length = np ∧ ws.length = nk
    · rw [if_pos e, if_pos e]
      have ra := r1.append r2
      clear h
      induction perm with
      | nil => exact .nil
      | cons i is ih => exact .cons (Vals.getD ra i) ih
    · rw [if_neg e, if_neg e]; exact .nil
theorem kr_mk {np nk : Nat} {perm : List Nat} {K : PySem.W.Frag} {G : Hp} {ds es : List D} {vs us : List V} (h1 : ds.length = np) (h2 : es.length = nk) (r1 : RepL K G ds vs) (r2 : RepL K G es us) : RepL K G (pgX D.non np nk perm ds es) (pgX V.non np nk perm vs us) := by
  unfold pgX
  rw [if_pos ⟨h1, h2⟩, if_pos ⟨by rw [← r1.length]; exact h1, by rw [← r2.length]; exact h2⟩]
  have ra := r1.append r2
  induction perm with
  | nil => exact .nil
  | cons i is ih => exact .cons (RepL.getD ra i) ih
/-- the built-ins' names -/
theorem bb_len : bootBuiltins (Str.ofString "len") = some (.builtin "len") := by decide +kernel
theorem bb_list : bootBuiltins (Str.ofString "list") = some (.type "list") := by decide +kernel
theorem bb_tuple : bootBuiltins (Str.ofString "tuple") = some (.type "tuple") := by decide +kernel
theorem bb_int : bootBuiltins (Str.ofString "int") = some (.type "int") := by decide +kernel
theorem bb_str : bootBuiltins (Str.ofString "str") = some (.type "str") := by decide +kernel
theorem bb_bool : bootBuiltins (Str.ofString "bool") = some (.type "bool") := by decide +kernel
theorem bb_repr : bootBuiltins (Str.ofString "repr") = some (.builtin "repr") := by decide +kernel
theorem bb_isinstance : bootBuiltins (Str.ofString "isinstance") = some (.builtin "isinstance") := by decide +kernel
theorem bb_abs : bootBuiltins (Str.ofString "abs") = some (.builtin "abs") := by decide +kernel
theorem bb_max : bootBuiltins (Str.ofString "max") = some (.builtin "max") := by decide +kernel
theorem bb_min : bootBuiltins (Str.ofString "min") = some (.builtin "min") := by decide +kernel
theorem bb_sorted : bootBuiltins (Str.ofString "sorted") = some (.builtin "sorted") := by decide +kernel
end DL

set_option Elab.async false
set_option linter.all false
set_option autoImplicit false
set_option maxRecDepth 100000
set_option maxHeartbeats 2000000
namespace DL
open PySem PySem.Spec PyProof.Rows L2

/-! ### equality of data, by kinds -/
def D.scal : D → Bool
  | .non => true
  | .bl _ => true
  | .int _ => true
  | .str _ => true
  | _ => false
theorem eq_ii (i j : Int) : D.eq (.int i) (.int j) = decide (i = j) := by show (i == j) = _; rw [Bool.beq_eq_decide_eq]
theorem eq_ss (a b : Str) : D.eq (.str a) (.str b) = decide (a = b) := by show (a == b) = _; rw [Bool.beq_eq_decide_eq]
theorem eq_bb (a b : Bool) : D.eq (.bl a) (.bl b) = decide (a = b) := by show (a == b) = _; rw [Bool.beq_eq_decide_eq]
theorem eq_nn : D.eq .non .non = true := rfl
theorem eq_is (i : Int) (b : Str) : D.eq (.int i) (.str b) = false := rfl
theorem eq_si (i : Int) (b : Str) : D.eq (.str b) (.int i) = false := rfl
theorem eq_ni (i : Int) : D.eq .non (.int i) = false := rfl
theorem eq_in (i : Int) : D.eq (.int i) .non = false := rfl
theorem eq_ns (i : Str) : D.eq .non (.str i) = false := rfl
theorem eq_sn (i : Str) : D.eq (.str i) .non = false := rfl
theorem eq_tt (xs ys : List D) : D.eq (.tup xs) (.tup ys) = PyData.eqvAll (D.pys xs) (D.pys ys) := rfl
theorem eq_ll (xs ys : List D) : D.eq (.lst xs) (.lst ys) = PyData.eqvAll (D.pys xs) (D.pys ys) := rfl
theorem eqAll_nil : PyData.eqvAll (D.pys []) (D.pys []) = true := rfl
theorem eqAll_cons (x y : D) (xs ys : List D) : PyData.eqvAll (D.pys (x :: xs)) (D.pys (y :: ys)) = (D.eq x y && PyData.eqvAll (D.pys xs) (D.pys ys)) := rfl
theorem eqAll_nc (y : D) (ys : List D) : PyData.eqvAll (D.pys []) (D.pys (y :: ys)) = false := rfl
theorem eqAll_cn (y : D) (ys : List D) : PyData.eqvAll (D.pys (y :: ys)) (D.pys []) = false := rfl
theorem depth_scal {d : D} (h : d.scal = true) : d.depth = 0 := by cases d <;> first | rfl | exact absurd h (by simp [D.scal])
theorem data_scal {d : D} (h : d.scal = true) : d.isData = true := by cases d <;> first | rfl | exact absurd h (by simp [D.scal])
theorem view_scal {s : S} {d : D} (h : d.scal = true) : view s d = d := by cases d <;> first | rfl | exact absurd h (by simp [D.scal])
theorem eqOk_l {x y : D} (h : x.scal = true) (hy : y.isData = true) : EqOk x y := ⟨data_scal h, hy, by rw [depth_scal h]; exact Nat.le_trans (Nat.min_le_left _ _) (Nat.zero_le _)⟩
theorem eqOk_r {x y : D} (hx : x.isData = true) (h : y.scal = true) : EqOk x y := ⟨hx, data_scal h, by rw [depth_scal h]; exact Nat.le_trans (Nat.min_le_right _ _) (Nat.zero_le _)⟩
theorem roEq_sc {x y : D} {s : S} {P : DK} (hx : x.scal = true) (hy : y.scal = true) : roEq x y s P ↔ P (.bl (D.eq x y)) s := by
  unfold roEq
  rw [view_scal hx, view_scal hy]
  exact ⟨fun h => h.2, fun h => ⟨eqOk_l hx (data_scal hy), h⟩⟩
theorem roNe_sc {x y : D} {s : S} {P : DK} (hx : x.scal = true) (hy : y.scal = true) : roNe x y s P ↔ P (.bl (!D.eq x y)) s := by
  unfold roNe
  rw [view_scal hx, view_scal hy]
  exact ⟨fun h => h.2, fun h => ⟨eqOk_l hx (data_scal hy), h⟩⟩
theorem roEq_ss {a b : Str} {s : S} {P : DK} : roEq (.str a) (.str b) s P ↔ P (.bl (decide (a = b))) s := by rw [roEq_sc rfl rfl, eq_ss]
theorem roEq_ii {a b : Int} {s : S} {P : DK} : roEq (.int a) (.int b) s P ↔ P (.bl (decide (a = b))) s := by rw [roEq_sc rfl rfl, eq_ii]
theorem roEq_bb {a b : Bool} {s : S} {P : DK} : roEq (.bl a) (.bl b) s P ↔ P (.bl (decide (a = b))) s := by rw [roEq_sc rfl rfl, eq_bb]
theorem roNe_ss {a b : Str} {s : S} {P : DK} : roNe (.str a) (.str b) s P ↔ P (.bl (!decide (a = b))) s := by rw [roNe_sc rfl rfl, eq_ss]
theorem roNe_ii {a b : Int} {s : S} {P : DK} : roNe (.int a) (.int b) s P ↔ P (.bl (!decide (a = b))) s := by rw [roNe_sc rfl rfl, eq_ii]
theorem roNe_bb {a b : Bool} {s : S} {P : DK} : roNe (.bl a) (.bl b) s P ↔ P (.bl (!decide (a = b))) s := by rw [roNe_sc rfl rfl, eq_bb]
theorem roEq_is {a : Int} {b : Str} {s : S} {P : DK} : roEq (.int a) (.str b) s P ↔ P (.bl false) s := by rw [roEq_sc rfl rfl]; rfl
theorem roEq_si {a : Int} {b : Str} {s : S} {P : DK} : roEq (.str b) (.int a) s P ↔ P (.bl false) s := by rw [roEq_sc rfl rfl]; rfl
theorem roNe_is {a : Int} {b : Str} {s : S} {P : DK} : roNe (.int a) (.str b) s P ↔ P (.bl true) s := by rw [roNe_sc rfl rfl]; rfl
theorem roNe_si {a : Int} {b : Str} {s : S} {P : DK} : roNe (.str b) (.int a) s P ↔ P (.bl true) s := by rw [roNe_sc rfl rfl]; rfl
/-! ### isinstance, by kinds -/
theorem isi_int {i : Int} {T : String} {s : S} {P : DK} : rcIsi [.int i, .ty T] s P ↔ okT T = true ∧ P (.bl (T == "int")) s := ⟨fun h => ⟨h.1.2, h.2⟩, fun h => ⟨⟨rfl, h.1⟩, h.2⟩⟩
theorem isi_str {i : Str} {T : String} {s : S} {P : DK} : rcIsi [.str i, .ty T] s P ↔ okT T = true ∧ P (.bl (T == "str")) s := ⟨fun h => ⟨h.1.2, h.2⟩, fun h => ⟨⟨rfl, h.1⟩, h.2⟩⟩
theorem isi_bl {i : Bool} {T : String} {s : S} {P : DK} : rcIsi [.bl i, .ty T] s P ↔ okT T = true ∧ P (.bl (T == "bool" || T == "int")) s := ⟨fun h => ⟨h.1.2, h.2⟩, fun h => ⟨⟨rfl, h.1⟩, h.2⟩⟩
theorem isi_non {T : String} {s : S} {P : DK} : rcIsi [.non, .ty T] s P ↔ okT T = true ∧ P (.bl false) s := ⟨fun h => ⟨h.1.2, h.2⟩, fun h => ⟨⟨rfl, h.1⟩, h.2⟩⟩
theorem isi_tup {ds : List D} {T : String} {s : S} {P : DK} : rcIsi [.tup ds, .ty T] s P ↔ (D.allData ds = true ∧ okT T = true) ∧ P (.bl (T == "tuple")) s := ⟨fun h => h, fun h => h⟩
theorem okT_int : okT "int" = true := rfl
theorem okT_str : okT "str" = true := rfl
theorem okT_bool : okT "bool" = true := rfl
theorem okT_tuple : okT "tuple" = true := rfl
theorem okT_list : okT "list" = true := rfl
/-! ### fuel -/
theorem fuel_fuel (s : S) (a : Addr) (n m : Nat) : (s.fuel a n).fuel a m = s.fuel a m := rfl
theorem fuel_dk (s : S) (a : Addr) (n : Nat) : (s.fuel a n).dk = some (a, n) := rfl
theorem fuel_M (s : S) (a : Addr) (n : Nat) : (s.fuel a n).M = s.M := rfl
theorem fuel_self {s : S} {a : Addr} {n : Nat} (h : s.dk = some (a, n)) : s.fuel a n = s := by
  obtain ⟨d, M⟩ := s
  have h : d = some (a, n) := h
  rw [h]; rfl
end DL

set_option Elab.async false
set_option linter.all false
set_option autoImplicit false
set_option maxRecDepth 100000
set_option maxHeartbeats 2000000
namespace DL
open PySem PySem.Spec PyProof.Rows L2

/-! ### data that repr can show: leaves of at most B signs, at most N items in each, n deep -/
def Leaf (B : Nat) : D → Prop
  | .non => True
  | .bl _ => True
  | .int i => i.natAbs.log2 < 1920 ∧ i.natAbs < 10 ^ (B - 1)
  | .str x => (reprText x).length ≤ B
  | _ => False
def Fit (B N : Nat) : Nat → D → Prop
  | 0, d => Leaf B d
  | n + 1, d => Leaf B d ∨ ∃ ds : List D, (d = .tup ds ∨ d = .lst ds) ∧ ds.length ≤ N ∧ ∀ x ∈ ds, Fit B N n x
def bnd (B N : Nat) : Nat → Nat
  | 0 => B
  | n + 1 => B + (bnd B N n + 2) * N + 3
theorem leaf_fit {B N : Nat} {d : D} (h : Leaf B d) : ∀ n, Fit B N n d
  | 0 => h
  | _ + 1 => .inl h
theorem leaf_ok {B : Nat} (hB : 6 ≤ B) {d : D} (h : Leaf B d) : d.isData = true ∧ d.py.showable = true ∧ d.depth = 0 ∧ d.shown.length ≤ B := by
  cases d with
  | non => exact ⟨rfl, rfl, rfl, Nat.le_trans (by decide) hB⟩
  | bl b => exact ⟨rfl, rfl, rfl, by cases b <;> exact Nat.le_trans (by decide) hB⟩
  | int i =>
    refine ⟨rfl, decide_eq_true h.1, rfl, ?_⟩
    show (Str.ofString (toString i)).length ≤ B
    rw [PySem.ofString_length]
    have := int_text_length_le10 (k := B - 1) (by omega) h.2
    omega
  | str x => exact ⟨rfl, rfl, rfl, h⟩
  | _ => exact h.elim
theorem pys_sum (k : Nat) : ∀ (ds : List D), (∀ x ∈ ds, x.shown.length ≤ k) → ((PyData.shownAll (D.pys ds)).map (·.length)).sum ≤ k * ds.length ∧ (PyData.shownAll (D.pys ds)).length = ds.length
  | [], _ => ⟨Nat.le_refl _, rfl⟩
  | d :: ds, h => by
    obtain ⟨h1, h2⟩ := pys_sum k ds fun x hx => h x (List.mem_cons_of_mem _ hx)
    have h3 := h d (List.mem_cons_self ..)
    refine ⟨?_, congrArg (· + 1) h2⟩
    show d.shown.length + ((PyData.shownAll (D.pys ds)).map (·.length)).sum ≤ k * (ds.length + 1)
    rw [Nat.mul_succ]
    omega
theorem fit_ok {B N : Nat} (hB : 6 ≤ B) : ∀ {n : Nat} {d : D}, Fit B N n d → d.isData = true ∧ d.py.showable = true ∧ d.depth ≤ n ∧ d.shown.length ≤ bnd B N n
  | 0, d, h => by
    obtain ⟨h1, h2, h3, h4⟩ := leaf_ok hB h
    exact ⟨h1, h2, Nat.le_of_eq h3, h4⟩
  | n + 1, d, h => by
    rcases h with h | ⟨ds, hd, hl, hx⟩
    · obtain ⟨h1, h2, h3, h4⟩ := leaf_ok hB h
      exact ⟨h1, h2, by omega, Nat.le_trans h4 (by unfold bnd; omega)⟩
    · have ih := fun x hm => fit_ok hB (hx x hm)
      have a1 : D.allData ds = true := by
        rw [allData_all]; exact List.all_eq_true.mpr fun x hm => (ih x hm).1
      have a2 : PyData.showableAll (D.pys ds) = true := by
        clear a1 hd hl hx
        induction ds with
        | nil => rfl
        | cons d ds q =>
          show (d.py.showable && PyData.showableAll (D.pys ds)) = true
          rw [(ih d (List.mem_cons_self ..)).2.1, q fun x hm => ih x (List.mem_cons_of_mem _ hm)]; rfl
      have a3 : PyData.depthAll (D.pys ds) ≤ n := by
        clear a1 a2 hd hl hx
        induction ds with
        | nil => exact Nat.zero_le _
        | cons d ds q => exact Nat.max_le.mpr ⟨(ih d (List.mem_cons_self ..)).2.2.1, q fun x hm => ih x (List.mem_cons_of_mem _ hm)⟩
      obtain ⟨a4, a5⟩ := pys_sum (bnd B N n) ds fun x hm => (ih x hm).2.2.2
      have a6 : bnd B N n * ds.length + 2 * ds.length + 3 ≤ bnd B N (n + 1) := by
        have e1 : bnd B N n * ds.length ≤ bnd B N n * N := Nat.mul_le_mul_left _ hl
        have e2 : (bnd B N n + 2) * N = bnd B N n * N + 2 * N := Nat.add_mul _ _ _
        have e3 : bnd B N (n + 1) = B + (bnd B N n + 2) * N + 3 := rfl
        omega
      rcases hd with rfl | rfl
      · exact ⟨a1, a2, Nat.succ_le_succ a3, Nat.le_trans (tupleText_len_le _) (by rw [a5]; omega)⟩
      · exact ⟨a1, a2, Nat.succ_le_succ a3, Nat.le_trans (listText_len_le _) (by rw [a5]; omega)⟩
theorem fit_tup {B N n : Nat} {ds : List D} (hl : ds.length ≤ N) (h : ∀ x ∈ ds, Fit B N n x) : Fit B N (n + 1) (.tup ds) := .inr ⟨ds, .inl rfl, hl, h⟩
theorem fit_lst {B N n : Nat} {ds : List D} (hl : ds.length ≤ N) (h : ∀ x ∈ ds, Fit B N n x) : Fit B N (n + 1) (.lst ds) := .inr ⟨ds, .inr rfl, hl, h⟩
theorem fit_up {B N : Nat} : ∀ {n : Nat} {d : D}, Fit B N n d → Fit B N (n + 1) d
  | 0, _, h => .inl h
  | n + 1, _, .inl h => .inl h
  | n + 1, _, .inr ⟨ds, h1, h2, h3⟩ => .inr ⟨ds, h1, h2, fun x hm => fit_up (h3 x hm)⟩
theorem view_fit {B N n : Nat} {s : S} {d : D} (h : Fit B N n d) : view s d = d := by
  cases d with
  | ref a =>
    cases n with
    | zero => exact h.elim
    | succ n => rcases h with h | ⟨ds, h1 | h1, _⟩
                · exact h.elim
                · cases h1
                · cases h1
  | _ => rfl
/-- repr(d) -/
theorem repr_fit {B N n : Nat} {d : D} {s : S} {P : DK} (h : Fit B N n d) (hB : 6 ≤ B) (hn : n ≤ 60) (hb : bnd B N n ≤ sizeLine) (q : P (.str d.shown) s) : rcRepr [d] s P := by
  obtain ⟨h1, h2, h3, h4⟩ := fit_ok hB h
  show ((view s d).isData = true ∧ (view s d).py.showable = true ∧ (view s d).depth ≤ 60 ∧ (view s d).shown.length ≤ sizeLine) ∧ P (.str (view s d).shown) s
  rw [view_fit h]
  exact ⟨⟨h1, h2, by omega, by omega⟩, q⟩
/-- a text of at most n signs -/
theorem leaf_str {B n : Nat} {x : Str} (h : x.length ≤ n) (hc : ∀ c ∈ x.cps.toList, c < 16 ^ 8) (hB : 10 * n + 2 ≤ B) : Leaf B (.str x) := by
  have := PySem.StrLaws.reprText_len x hc
  show (reprText x).length ≤ B
  omega

/-! ### drawing -/
theorem draw_one {a : Addr} {m : Nat} {c : Int} {s : S} {P : DK} (hd : s.dk = some (a, m)) (hm : 0 < m) (c0 : 0 < c) (c1 : c < 1073741824) (h : ∀ r, 0 ≤ r → r < c → P (.int r) (s.fuel a (m - 1))) : spDraw [.ref a, .int c] s P :=
  ⟨a, m - 1, c, rfl, c0, c1, by rw [hd, Nat.sub_add_cancel hm], h⟩
end DL
namespace DL
open PySem PySem.Spec PyProof.Rows L2
theorem put_M (s : S) (a b : Addr) (o : MO) : (s.put a o).M b = if b = a then some o else s.M b := rfl
theorem put_dk (s : S) (a : Addr) (o : MO) : (s.put a o).dk = s.dk := rfl
theorem fmod_range (x : Int) {c : Int} (h : 0 < c) : 0 ≤ x.fmod c ∧ x.fmod c < c := ⟨Int.fmod_nonneg_of_pos x h, Int.fmod_lt_of_pos x h⟩
end DL

set_option Elab.async false
set_option linter.all false
set_option autoImplicit false
set_option maxRecDepth 100000
set_option maxHeartbeats 2000000
namespace DL
open PySem PySem.Spec PyProof.Rows L2

/-! ### the item at a place -/
theorem atD_nat {α : Type} (l : List α) (i : Nat) : atI l (i : Int) = l[i]? := by
  unfold atI ixN
  by_cases h : (i : Int) < (l.length : Int)
  · rw [if_pos (by omega), if_pos h]; show l[(i : Int).toNat]? = _; rw [Int.toNat_natCast]
  · rw [if_pos (by omega), if_neg h]; exact (List.getElem?_eq_none (by omega)).symm
theorem atI_pos {α : Type} (l : List α) {i : Int} (h : 0 ≤ i) : atI l i = l[i.toNat]? := by
  obtain ⟨n, rfl⟩ := Int.eq_ofNat_of_zero_le h
  exact atD_nat l n
theorem atI_z {α : Type} (x : α) (l : List α) : atI (x :: l) 0 = some x := atD_nat (x :: l) 0
theorem atI_o {α : Type} (x y : α) (l : List α) : atI (x :: y :: l) 1 = some y := atD_nat (x :: y :: l) 1
theorem atI_t {α : Type} (x y z : α) (l : List α) : atI (x :: y :: z :: l) 2 = some z := atD_nat (x :: y :: z :: l) 2
theorem atI_lt {α : Type} (l : List α) {i : Int} (h : 0 ≤ i) (h2 : i < l.length) : atI l i = some (l[i.toNat]'(by omega)) := by
  rw [atI_pos l h, List.getElem?_eq_getElem]
theorem ixN_z (n : Nat) : ixN (n + 1) 0 = some 0 := by unfold ixN; rw [if_pos (by omega), if_pos (by omega)]; rfl
theorem ixN_pos {n : Nat} {i : Int} (h : 0 ≤ i) (h2 : i < n) : ixN n i = some i.toNat := by unfold ixN; rw [if_pos h, if_pos h2]
theorem allData_strs : ∀ ys : List Str, D.allData (ys.map .str) = true
  | [] => rfl
  | y :: ys => by show (true && D.allData (ys.map .str)) = true; rw [allData_strs ys]; rfl
theorem allData_of {ds : List D} (h : ∀ d ∈ ds, d.isData = true) : D.allData ds = true := by rw [allData_all]; exact List.all_eq_true.mpr h
theorem sIx_pos {n d : Nat} {v : Int} (h : 0 ≤ v) : HT.sIx n d (some v) = min v.toNat n := by
  obtain ⟨k, rfl⟩ := Int.eq_ofNat_of_zero_le h
  rw [HT.sIx_nat]; rfl
theorem cutD_to {ds : List D} {v : Int} (h : 0 ≤ v) : cutD ds none (some v) = ds.take v.toNat := by
  unfold cutD
  rw [sIx_pos h, HT.sIx_none, List.drop_zero, Nat.sub_zero]
  by_cases q : v.toNat ≤ ds.length
  · rw [Nat.min_eq_left q]
  · rw [Nat.min_eq_right (by omega), List.take_of_length_le (Nat.le_refl _), List.take_of_length_le (by omega)]
theorem cutD_from {ds : List D} {v : Int} (h : 0 ≤ v) : cutD ds (some v) none = ds.drop v.toNat := by
  unfold cutD
  rw [sIx_pos h, HT.sIx_none]
  by_cases q : v.toNat ≤ ds.length
  · rw [Nat.min_eq_left q, List.take_of_length_le (by rw [List.length_drop]; omega)]
  · rw [Nat.min_eq_right (by omega), List.drop_eq_nil_of_le (Nat.le_refl _), List.drop_eq_nil_of_le (by omega), List.take_nil]
theorem put_put (s : S) (a : Addr) (o o' : MO) : (s.put a o).put a o' = s.put a o' := by
  simp only [S.put]
  congr 1
  funext b
  by_cases h : b = a <;> simp [h]
theorem ofS_eq {a b : String} : (Str.ofString a = Str.ofString b) = (a = b) := by
  refine propext ⟨fun h => ?_, fun h => by rw [h]⟩
  rw [Str.ofString_eq_toList, Str.ofString_eq_toList] at h
  injection h with h
  have h := congrArg Array.toList h
  simp only at h
  refine String.toList_inj.mp ((List.map_inj_right fun x y e => ?_).mp h)
  exact Char.toNat_inj.mp e
/-- a draw -/
theorem drawI {a : Addr} {m : Nat} {c : Int} {s : S} {P : DK} (hd : s.dk = some (a, m)) : (1 ≤ m ∧ 0 < c ∧ c < 1073741824 ∧ ∀ r : Int, 0 ≤ r → r < c → P (.int r) (s.fuel a (m - 1))) → spDraw [.ref a, .int c] s P :=
  fun ⟨h1, h2, h3, h4⟩ => draw_one hd h1 h2 h3 h4
end DL
namespace DL
open PySem PySem.Spec PyProof.Rows L2
theorem allData_ints : ∀ ys : List Int, D.allData (ys.map .int) = true
  | [] => rfl
  | y :: ys => by show (true && D.allData (ys.map .int)) = true; rw [allData_ints ys]; rfl
theorem eqAll_emp (ds : List D) : PyData.eqvAll (D.pys ds) (D.pys []) = ds.isEmpty := by cases ds <;> rfl
/-- xs != [] -/
theorem roNe_emp {s : S} {d : D} {ds : List D} {P : DK} (hv : view s d = .lst ds) (hd : D.allData ds = true) : roNe d (.lst []) s P ↔ P (.bl (!ds.isEmpty)) s := by
  unfold roNe
  rw [hv]
  show (EqOk (.lst ds) (.lst []) ∧ P (.bl (!PyData.eqvAll (D.pys ds) (D.pys []))) s) ↔ _
  rw [eqAll_emp]
  exact ⟨fun h => h.2, fun h => ⟨⟨hd, rfl, Nat.le_trans (Nat.min_le_right _ _) (by decide)⟩, h⟩⟩
theorem cpow_small {i j : Int} (h : 0 ≤ j) (h2 : j ≤ 1000000) (h3 : i.natAbs < 2 ^ 64) : CPow i j := ⟨h, h2, h3⟩
theorem cdiv_small {i j : Int} (h : 0 < j) (h2 : j < 1073741824) : CDivN i j := ⟨by omega, by omega⟩
end DL

set_option Elab.async false
set_option linter.all false
set_option autoImplicit false
set_option maxRecDepth 100000
set_option maxHeartbeats 2000000
namespace DL
open PySem PySem.Spec PyProof.Rows L2

/-! ### comprehensions -/
/-- no draw within: what is kept and what is made of it -/
theorem lcW_pure {vs : List Nat} {g : WG} {t : WT} {w : WE} {δ : Dn} {p : D → Bool} {f : D → D} : ∀ {ds : List D} {s : S} {P : List D → S → Prop},
    (∀ d ∈ ds, ∀ (R0 : S → Prop) (R1 : D → S → Prop), (p d = false → R0 s) → (p d = true → R1 (f d) s) → g d (wipeD δ vs) s fun δ1 s1 => t δ1 s1 fun k s2 => match k with | true => w δ1 s2 R1 | false => R0 s2) →
    P ((ds.filter p).map f) s → lcW vs g t w δ ds s P
  | [], s, P, _, h => h
  | d :: ds, s, P, st, h => by
    unfold lcW
    refine st d (List.mem_cons_self ..) (fun s2 => lcW vs g t w δ ds s2 P) (fun y s3 => lcW vs g t w δ ds s3 fun ys s4 => P (y :: ys) s4) (fun q => ?_) (fun q => ?_)
    · exact lcW_pure (fun d' hd => st d' (List.mem_cons_of_mem _ hd)) (by rw [List.filter_cons_of_neg (by simp [q])] at h; exact h)
    · exact lcW_pure (fun d' hd => st d' (List.mem_cons_of_mem _ hd)) (by rw [List.filter_cons_of_pos q] at h; exact h)
theorem lcW_map {vs : List Nat} {g : WG} {w : WE} {δ : Dn} {f : D → D} {ds : List D} {s : S} {P : List D → S → Prop}
    (st : ∀ d ∈ ds, ∀ (R1 : D → S → Prop), R1 (f d) s → g d (wipeD δ vs) s fun δ1 s1 => w δ1 s1 R1) (h : P (ds.map f) s) : lcW vs g wYes w δ ds s P :=
  lcW_pure (p := fun _ => true) (f := f) (fun d hd R0 R1 _ h1 => st d hd R1 (h1 rfl)) (by rw [List.filter_eq_self.mpr fun _ _ => rfl]; exact h)
/-- draws within: each item is a Q, each takes one of I's steps -/
theorem lcW_draw {vs : List Nat} {g : WG} {w : WE} {δ : Dn} {I : S → Nat → Prop} {Q : D → Prop} : ∀ {ds : List D} {s : S} {n : Nat} {P : List D → S → Prop},
    (∀ d ∈ ds, ∀ s n (R : D → S → Prop), I s (n + 1) → (∀ y s2, Q y → I s2 n → R y s2) → g d (wipeD δ vs) s fun δ1 s1 => w δ1 s1 R) →
    I s (n + ds.length) → (∀ ys s2, ys.length = ds.length → (∀ y ∈ ys, Q y) → I s2 n → P ys s2) → lcW vs g wYes w δ ds s P
  | [], s, n, P, _, hI, h => h [] s rfl (by simp) hI
  | d :: ds, s, n, P, st, hI, h => by
    unfold lcW
    exact st d (List.mem_cons_self ..) s (n + ds.length) (fun y s3 => lcW vs g wYes w δ ds s3 fun ys s4 => P (y :: ys) s4) (by rw [List.length_cons] at hI; exact hI) fun y s2 hy h2 =>
      lcW_draw (n := n) (fun d' hd => st d' (List.mem_cons_of_mem _ hd)) h2 fun ys s3 hl hq h3 => h (y :: ys) s3 (by simp [hl]) (fun z hz => by rcases List.mem_cons.mp hz with rfl | hz; exact hy; exact hq z hz) h3
theorem mem_rngD {lo : Int} {n : Nat} {d : D} (h : d ∈ rngD lo n) : ∃ i : Nat, i < n ∧ d = .int (lo + i) := by
  unfold rngD at h
  obtain ⟨i, hi, rfl⟩ := List.mem_map.mp h
  exact ⟨i, List.mem_range.mp hi, rfl⟩
theorem rngD_map {lo : Int} {n : Nat} (f : D → D) : (rngD lo n).map f = (List.range n).map fun (i : Nat) => f (.int (lo + (i : Int))) := by
  unfold rngD; rw [List.map_map]; rfl
theorem nodup_range_map {α : Type} {n : Nat} {f : Nat → α} (h : ∀ i j, i < n → j < n → f i = f j → i = j) : ((List.range n).map f).Nodup := by
  unfold List.Nodup
  rw [List.pairwise_map]
  refine List.Pairwise.imp_of_mem ?_ (List.nodup_range (n := n))
  intro a b ha hb hne e
  exact hne (h a b (List.mem_range.mp ha) (List.mem_range.mp hb) e)

/-- over items that are made of x's -/
theorem lcW_sel {α : Type} {vs : List Nat} {g : WG} {t : WT} {w : WE} {δ : Dn} {it : α → D} {p : α → Bool} {f : α → D} : ∀ {l : List α} {s : S} {P : List D → S → Prop},
    (∀ x ∈ l, ∀ (R0 : S → Prop) (R1 : D → S → Prop), (p x = false → R0 s) → (p x = true → R1 (f x) s) → g (it x) (wipeD δ vs) s fun δ1 s1 => t δ1 s1 fun k s2 => match k with | true => w δ1 s2 R1 | false => R0 s2) →
    P ((l.filter p).map f) s → lcW vs g t w δ (l.map it) s P
  | [], s, P, _, h => h
  | d :: ds, s, P, st, h => by
    rw [List.map_cons]
    unfold lcW
    refine st d (List.mem_cons_self ..) (fun s2 => lcW vs g t w δ (ds.map it) s2 P) (fun y s3 => lcW vs g t w δ (ds.map it) s3 fun ys s4 => P (y :: ys) s4) (fun q => ?_) (fun q => ?_)
    · exact lcW_sel (fun d' hd => st d' (List.mem_cons_of_mem _ hd)) (by rw [List.filter_cons_of_neg (by simp [q])] at h; exact h)
    · exact lcW_sel (fun d' hd => st d' (List.mem_cons_of_mem _ hd)) (by rw [List.filter_cons_of_pos q] at h; exact h)
theorem lcW_each {α : Type} {vs : List Nat} {g : WG} {w : WE} {δ : Dn} {it f : α → D} {l : List α} {s : S} {P : List D → S → Prop}
    (st : ∀ x ∈ l, ∀ (R1 : D → S → Prop), R1 (f x) s → g (it x) (wipeD δ vs) s fun δ1 s1 => w δ1 s1 R1) (h : P (l.map f) s) : lcW vs g wYes w δ (l.map it) s P :=
  lcW_sel (p := fun _ => true) (f := f) (fun d hd R0 R1 _ h1 => st d hd R1 (h1 rfl)) (by rw [List.filter_eq_self.mpr fun _ _ => rfl]; exact h)
theorem lcW_rng {vs : List Nat} {g : WG} {w : WE} {δ : Dn} {f : Nat → D} {lo : Int} {n : Nat} {s : S} {P : List D → S → Prop}
    (st : ∀ i, i < n → ∀ (R1 : D → S → Prop), R1 (f i) s → g (.int (lo + (i : Int))) (wipeD δ vs) s fun δ1 s1 => w δ1 s1 R1) (h : P ((List.range n).map f) s) : lcW vs g wYes w δ (rngD lo n) s P :=
  lcW_each (fun i hi => st i (List.mem_range.mp hi)) h
theorem drawF {a : Addr} {m : Nat} {c : Int} {s : S} {P : DK} (h : 1 ≤ m ∧ 0 < c ∧ c < 1073741824 ∧ ∀ r : Int, 0 ≤ r → r < c → P (.int r) (s.fuel a (m - 1))) : spDraw [.ref a, .int c] (s.fuel a m) P := drawI rfl h
theorem nodup_inj {α : Type} {l : List α} (h : l.Nodup) {i j : Nat} (hi : i < l.length) (hj : j < l.length) (e : l[i] = l[j]) : i = j := by
  have hp := List.pairwise_iff_getElem.mp h
  rcases Nat.lt_trichotomy i j with q | q | q
  · exact absurd e (hp i j hi hj q)
  · exact q
  · exact absurd e.symm (hp j i hj hi q)
/-! ### signs -/
abbrev sg (x : Str) : List Nat := x.cps.toList
theorem sg_len (x : Str) : x.length = (sg x).length := by simp [sg, Str.length]
theorem sg_app (x y : Str) : sg (x ++ y) = sg x ++ sg y := by show (x.cps ++ y.cps).toList = _; simp
theorem sg_cut (z : Str) (lo hi : Option Int) : sg (cutS z lo hi) = ((sg z).drop (HT.sIx z.length 0 lo)).take (HT.sIx z.length z.length hi - HT.sIx z.length 0 lo) := rfl
theorem sg_to {z : Str} {v : Int} (h : 0 ≤ v) : sg (cutS z none (some v)) = (sg z).take v.toNat := by
  rw [sg_cut, sIx_pos h, HT.sIx_none, List.drop_zero, Nat.sub_zero, sg_len]
  by_cases q : v.toNat ≤ (sg z).length
  · rw [Nat.min_eq_left q]
  · rw [Nat.min_eq_right (by omega), List.take_of_length_le (Nat.le_refl _), List.take_of_length_le (by omega)]
theorem sg_from {z : Str} {v : Int} (h : 0 ≤ v) : sg (cutS z (some v) none) = (sg z).drop v.toNat := by
  rw [sg_cut, sIx_pos h, HT.sIx_none, sg_len]
  by_cases q : v.toNat ≤ (sg z).length
  · rw [Nat.min_eq_left q, List.take_of_length_le (by rw [List.length_drop]; omega)]
  · rw [Nat.min_eq_right (by omega), List.drop_eq_nil_of_le (Nat.le_refl _), List.drop_eq_nil_of_le (by omega), List.take_nil]
/-- a name: one to eight small letters -/
def Nam (x : Str) : Prop := 1 ≤ x.length ∧ x.length ≤ 8 ∧ ∀ c ∈ sg x, 97 ≤ c ∧ c ≤ 122
theorem join_ones (l : List Nat) : sg (Txt.join (Str.ofString "") (l.map fun c => (⟨#[c]⟩ : Str))) = l := by
  rw [show ∀ ys, Txt.join (Str.ofString "") ys = Str.join (Str.ofString "") ys from fun ys => PySem.StrLaws.glued_eq_join _ ys]
  induction l with
  | nil => rfl
  | cons c l ih =>
    cases l with
    | nil => rfl
    | cons d l =>
      show sg ((⟨#[c]⟩ : Str) ++ Str.ofString "" ++ Str.join (Str.ofString "") ((d :: l).map fun c => (⟨#[c]⟩ : Str))) = _
      rw [sg_app, sg_app, ih]; rfl
theorem ones_of {ys : List D} {p : Nat → Prop} (h : ∀ y ∈ ys, ∃ c, y = .str ⟨#[c]⟩ ∧ p c) : ∃ l : List Nat, ys = (l.map fun c => (⟨#[c]⟩ : Str)).map .str ∧ (∀ c ∈ l, p c) ∧ l.length = ys.length := by
  induction ys with
  | nil => exact ⟨[], rfl, (fun _ h => nomatch h), rfl⟩
  | cons y ys ih =>
    obtain ⟨l, rfl, h2, h3⟩ := ih fun z hz => h z (List.mem_cons_of_mem _ hz)
    obtain ⟨c, rfl, hc⟩ := h y (List.mem_cons_self ..)
    exact ⟨c :: l, rfl, fun d hd => by rcases List.mem_cons.mp hd with rfl | hd; exact hc; exact h2 d hd, by simp [← h3]⟩
/-- a list of one kind -/
theorem strs_of {ys : List D} {p : Str → Prop} (h : ∀ y ∈ ys, ∃ x, y = .str x ∧ p x) : ∃ l : List Str, ys = l.map .str ∧ (∀ c ∈ l, p c) ∧ l.length = ys.length := by
  induction ys with
  | nil => exact ⟨[], rfl, (fun _ h => nomatch h), rfl⟩
  | cons y ys ih =>
    obtain ⟨l, rfl, h2, h3⟩ := ih fun z hz => h z (List.mem_cons_of_mem _ hz)
    obtain ⟨c, rfl, hc⟩ := h y (List.mem_cons_self ..)
    exact ⟨c :: l, rfl, fun d hd => by rcases List.mem_cons.mp hd with rfl | hd; exact hc; exact h2 d hd, by simp [← h3]⟩
/-- a name by its signs -/
theorem nam_of {x : Str} {l : List Nat} (h : sg x = l) (h1 : 1 ≤ l.length) (h2 : l.length ≤ 8) (h3 : ∀ c ∈ l, 97 ≤ c ∧ c ≤ 122) : Nam x := ⟨by rw [sg_len, h]; exact h1, by rw [sg_len, h]; exact h2, by rw [h]; exact h3⟩
def abc : Str := Str.ofString "abcdefghijklmnopqrstuvwxyz"
theorem sg_abc : sg abc = (List.range 26).map (97 + ·) := by decide +kernel
theorem abc_at {i : Nat} (h : i < 26) : (sg abc)[i]? = some (97 + i) := by
  rw [sg_abc, List.getElem?_map, List.getElem?_range h]; rfl
theorem abc_len : abc.length = 26 := by rw [sg_len, sg_abc]; simp
end DL

set_option Elab.async false
set_option linter.all false
set_option autoImplicit false
set_option maxRecDepth 100000
set_option maxHeartbeats 4000000
namespace LW
open PySem PySem.Spec PyProof.Rows L2 DL
local macro_rules | `(tactic| walk_at "ev") => `(tactic| try simp only [wipeD, put_put, fuel_fuel, fuel_dk, fuel_M, atI_z, atI_o, atI_t, put_M, if_true, wVar, wC, wNil, wCons, wTup, wFz, wOp, roI, roSub, roMod, roFdiv, roPow, roAdd, roMul, roLt, roLe, roGt, roGe, roIs, roIsNot, wTst, wTru, wAnd, wOr, wNot, wIfE, wAndV, wOrV, wNotV, wNeg, wChain, wNext, wSeq, wRet, wRetN, wDrop, wIf, wBreak, wCont, wAsg, wgName, wgNil, wgCons, wgTup, wiL, wiT, wiSeq, wiR1, wiR2, wFor, wLc, wYes, wCall, wCallK, wPar, wPar3, wSlL, wSlS, woN, woS, wCB, wCBL, rcLen, rcList, rcTuple, rcAbs, rcInt, rcStr, roIx, wTidx, kTidx, wMatch, wmStr, wmNil, view, startD, seqD, wRevL, wMeth, hasTy, rmAppend, rmPop, rmInsert, wSetIx,
  roEq_ss, roEq_ii, roEq_bb, roNe_ss, roNe_ii, roNe_bb, roEq_is, roEq_si, roNe_is, roNe_si, isi_int, isi_str, isi_bl, isi_non, okT_int, okT_str, okT_bool, okT_tuple, okT_list,
  List.map_cons, List.map_nil, List.length_cons, List.length_nil, List.replicate, List.cons_append, List.nil_append, List.append_nil, List.getElem?_cons_zero, List.getElem?_cons_succ, List.set_cons_zero, List.set_cons_succ, Nat.reduceSub, Nat.reduceAdd, Nat.sub_self, List.replicate_succ, List.replicate_zero, true_and, and_true])
local macro_rules | `(tactic| walk_at "ev1") => `(tactic| simp only [wipeD, put_put, fuel_fuel, fuel_dk, fuel_M, atI_z, atI_o, atI_t, put_M, if_true, wVar, wC, wNil, wCons, wTup, wFz, wOp, roI, roSub, roMod, roFdiv, roPow, roAdd, roMul, roLt, roLe, roGt, roGe, roIs, roIsNot, wTst, wTru, wAnd, wOr, wNot, wIfE, wAndV, wOrV, wNotV, wNeg, wChain, wNext, wSeq, wRet, wRetN, wDrop, wIf, wBreak, wCont, wAsg, wgName, wgNil, wgCons, wgTup, wiL, wiT, wiSeq, wiR1, wiR2, wFor, wLc, wYes, wCall, wCallK, wPar, wPar3, wSlL, wSlS, woN, woS, wCB, wCBL, rcLen, rcList, rcTuple, rcAbs, rcInt, rcStr, roIx, wTidx, kTidx, wMatch, wmStr, wmNil, view, startD, seqD, wRevL, wMeth, hasTy, rmAppend, rmPop, rmInsert, wSetIx,
  roEq_ss, roEq_ii, roEq_bb, roNe_ss, roNe_ii, roNe_bb, roEq_is, roEq_si, roNe_is, roNe_si, isi_int, isi_str, isi_bl, isi_non, okT_int, okT_str, okT_bool, okT_tuple, okT_list,
  List.map_cons, List.map_nil, List.length_cons, List.length_nil, List.replicate, List.cons_append, List.nil_append, List.append_nil, List.getElem?_cons_zero, List.getElem?_cons_succ, List.set_cons_zero, List.set_cons_succ, Nat.reduceSub, Nat.reduceAdd, Nat.sub_self, List.replicate_succ, List.replicate_zero, true_and, and_true])

local macro_rules | `(tactic| walk_at "kd") => `(tactic| simp_all [ofS_eq, roEq_ss, roEq_ii, roEq_bb, roNe_ss, roNe_ii, roNe_bb, roEq_is, roEq_si, roNe_is, roNe_si, isi_int, isi_str, isi_bl, isi_non, okT_int, okT_str, okT_bool, okT_tuple, okT_list])
/-! ### cells, tests, what is due -/
def isIS : D → Bool
  | .int _ => true
  | .str _ => true
  | _ => false
/-- two values, none of them None, compared -/
def cmpD (w : Str) : D → D → Bool
  | .int i, .int j => if w = "equal" then decide (i = j) else if w = "unlike" then !decide (i = j) else if w = "less" then decide (i < j) else decide (i ≤ j)
  | .str a, .str b => if w = "equal" then decide (a = b) else if w = "unlike" then !decide (a = b) else if w = "less" then decide (a.cps.toList < b.cps.toList) else !decide (b.cps.toList < a.cps.toList)
  | _, _ => if w = "equal" then false else decide (w = "unlike")
def Cel (d : D) : Prop := d = .non ∨ (∃ i : Int, d = .int i ∧ i.natAbs ≤ 10 ^ 12) ∨ ∃ x : Str, d = .str x ∧ x.length ≤ 8 ∧ ∀ c ∈ x.cps.toList, c < 16 ^ 8
abbrev Lab (x : Str) : Prop := Nam x
def at' (labs : List Str) (cs : List D) (x : Str) : D := cs.getD (labs.idxOf x) .non
def isN : D → Bool
  | .non => true
  | _ => false
/-- the value a condition is held against -/
def other' (labs : List Str) (cs : List D) : D → D
  | .tup [_, .str y] => at' labs cs y
  | o => o
def among' (v : D) : D → Bool
  | .tup os => os.any fun e => D.eq e v
  | _ => false
/-- what a test answers -/
def dueB (labs : List Str) (cs : List D) (x w : Str) (o : D) : Bool :=
  if w = "none" then isN (at' labs cs x) else if isN (at' labs cs x) then false else if w = "some" then true else if w = "among" then among' (at' labs cs x) o
  else if isN (other' labs cs o) then false else cmpD w (at' labs cs x) (other' labs cs o)
/-- the operands of a word -/
def Opd (al : Str) (labs : List Str) (w : Str) (o : D) : Prop :=
  ((w = "none" ∨ w = "some") ∧ o = .non) ∨
  (w = "among" ∧ ∃ os, o = .tup os ∧ os.length ≤ 12 ∧ ∀ e ∈ os, Cel e ∧ isN e = false) ∨
  ((w = "equal" ∨ w = "unlike" ∨ w = "less" ∨ w = "most") ∧ ((Cel o ∧ isN o = false) ∨ ∃ y, y ∈ labs ∧ o = .tup [.str al, .str y]))
def Row (labs : List Str) (cs : List D) : Prop := labs.length = cs.length ∧ 0 < cs.length ∧ cs.length ≤ 6 ∧ (∀ x ∈ labs, Lab x) ∧ ∀ c ∈ cs, Cel c

def labD (labs : List Str) : D := .tup (labs.map .str)
def tstD (al x w : Str) (o : D) : D := .tup [.tup [.str al, .str x], .str w, o]
theorem at_row {labs : List Str} {cs : List D} {x : Str} (hr : Row labs cs) (hx : x ∈ labs) : atI cs (List.idxOf x labs : Nat) = some (at' labs cs x) ∧ Cel (at' labs cs x) := by
  have hl : List.idxOf x labs < cs.length := by rw [← hr.1]; exact List.idxOf_lt_length_of_mem hx
  unfold at'
  rw [atD_nat, List.getElem?_eq_getElem hl, List.getD_eq_getElem?_getD, List.getElem?_eq_getElem hl]
  exact ⟨rfl, hr.2.2.2.2 _ (List.getElem_mem hl)⟩
theorem cel_scal {d : D} (h : Cel d) : d.scal = true := by
  rcases h with rfl | ⟨i, rfl, _⟩ | ⟨x, rfl, _⟩ <;> rfl
theorem cel_isIS {d : D} (h : Cel d) (h2 : isN d = false) : isIS d = true := by
  rcases h with rfl | ⟨i, rfl, _⟩ | ⟨x, rfl, _⟩ <;> first | rfl | cases h2
def wordsL : List Str := [Str.ofString "from", Str.ofString "where", Str.ofString "tell", Str.ofString "once", Str.ofString "order", Str.ofString "equal", Str.ofString "unlike", Str.ofString "less", Str.ofString "most", Str.ofString "among", Str.ofString "none", Str.ofString "some"]
theorem wordsL_nodup : wordsL.Nodup := by decide +kernel
theorem wordsL_nam : ∀ x ∈ wordsL, Nam x := by unfold Nam; decide +kernel
theorem fmod_small {f : Int} {k c : Nat} (f0 : 0 ≤ f) (hc : 0 < c) : (f + (0 + (k : Int))).fmod (c : Int) = (((f.toNat + k) % c : Nat) : Int) := by
  obtain ⟨n, rfl⟩ := Int.eq_ofNat_of_zero_le f0
  rw [Int.fmod_eq_emod_of_nonneg _ (by omega), Int.toNat_natCast, Int.zero_add, ← Int.natCast_add, ← Int.natCast_emod]
theorem row_len {labs : List Str} {cs : List D} (h : Row labs cs) : 0 < labs.length ∧ labs.length ≤ 6 := by rw [h.1]; exact ⟨h.2.1, h.2.2.1⟩
def wordAt : List Str := [Str.ofString "equal", Str.ofString "unlike", Str.ofString "less", Str.ofString "most"]
theorem sort2I {i j : Int} {ns : List Int} (hp : ns.Perm [i, j]) (hs : ns.Pairwise (· ≤ ·)) : ∃ x y, ns = [x, y] ∧ decide (x = i) = decide (i ≤ j) := by
  obtain ⟨x, y, rfl⟩ : ∃ x y, ns = [x, y] := by
    match ns, hp.length_eq with
    | [x, y], _ => exact ⟨x, y, rfl⟩
  have h1 : x ≤ y := (List.pairwise_cons.mp hs).1 y (by simp)
  have hi : i ∈ [x, y] := hp.mem_iff.mpr (by simp)
  have hj : j ∈ [x, y] := hp.mem_iff.mpr (by simp)
  have hx : x ∈ [i, j] := hp.mem_iff.mp (by simp)
  simp at hi hj hx
  refine ⟨x, y, rfl, ?_⟩
  rw [decide_eq_decide]
  omega
theorem sort2S {i j : Str} {ns : List Str} (hp : ns.Perm [i, j]) (hs : sortedS ns = true) : ∃ x y, ns = [x, y] ∧ decide (x = i) = !decide (j.cps.toList < i.cps.toList) := by
  obtain ⟨x, y, rfl⟩ : ∃ x y, ns = [x, y] := by
    match ns, hp.length_eq with
    | [x, y], _ => exact ⟨x, y, rfl⟩
  have h1 : ¬ (y.cps.toList < x.cps.toList) := by
    have : (!ltCps y.cps.toList x.cps.toList && true) = true := hs
    rw [ltCps_eq] at this
    simpa using this
  have hi : i ∈ [x, y] := hp.mem_iff.mpr (by simp)
  have hj : j ∈ [x, y] := hp.mem_iff.mpr (by simp)
  have hx : x ∈ [i, j] := hp.mem_iff.mp (by simp)
  simp only [List.mem_cons, List.not_mem_nil, or_false] at hi hj hx
  refine ⟨x, y, rfl, ?_⟩
  have ext : ∀ a b : Str, a.cps.toList = b.cps.toList → a = b := fun a b h => by cases a; cases b; simpa using h
  by_cases e : x = i
  · subst e
    rcases hj with rfl | rfl
    · simp [List.lt_irrefl]
    · simp [h1]
  · have hxj : x = j := hx.resolve_left e
    have hyi : i = y := hi.resolve_left fun z => e z.symm
    subst hxj; subst hyi
    simp only [e, decide_false]
    have : x.cps.toList < i.cps.toList := by
      rcases Classical.em (x.cps.toList < i.cps.toList) with q | q
      · exact q
      · exact absurd (ext _ _ (List.le_antisymm (List.not_lt.mp h1) (List.not_lt.mp q))) e
    simp [this]
theorem sortII {i j : Int} {s : S} {K : DK} (h : K (.bl (decide (i ≤ j))) s) : rcSortI [.lst [.int i, .int j]] s fun ds s1 => match atI ds 0 with
    | some d => roEq d (.int i) s1 K
    | none => False := by
  show (2 < 64) ∧ ∀ ns' : List Int, ns'.Perm [i, j] → ns'.Pairwise (· ≤ ·) → _
  refine ⟨by decide, fun ns hp hs => ?_⟩
  obtain ⟨x, y, rfl, e⟩ := sort2I hp hs
  rw [List.map_cons, List.map_cons, List.map_nil, atI_z]
  show roEq (.int x) (.int i) s K
  rw [roEq_ii, e]; exact h
theorem sortSS {i j : Str} {s : S} {K : DK} (h : K (.bl (!decide (j.cps.toList < i.cps.toList))) s) : rcSortI [.lst [.str i, .str j]] s fun ds s1 => match atI ds 0 with
    | some d => roEq d (.str i) s1 K
    | none => False := by
  show (2 < 64) ∧ ∀ ns' : List Str, ns'.Perm [i, j] → sortedS ns' = true → _
  refine ⟨by decide, fun ns hp hs => ?_⟩
  obtain ⟨x, y, rfl, e⟩ := sort2S hp hs
  rw [List.map_cons, List.map_cons, List.map_nil, atI_z]
  show roEq (.str x) (.str i) s K
  rw [roEq_ss, e]; exact h
theorem slt_iff (i j : Str) : decide (i.cps.toList < j.cps.toList) = ((!decide (j.cps.toList < i.cps.toList)) && !decide (i = j)) := by
  by_cases e : i = j
  · subst e; simp [List.lt_irrefl]
  · by_cases q : i.cps.toList < j.cps.toList
    · simp [q, e, List.lt_asymm q]
    · have : j.cps.toList < i.cps.toList := by
        rcases Classical.em (j.cps.toList < i.cps.toList) with p | p
        · exact p
        · refine absurd (?_ : i = j) e
          have := List.le_antisymm (List.not_lt.mp p) (List.not_lt.mp q)
          cases i; cases j; simpa using this
      simp [q, e, this]
theorem at_cel {labs : List Str} {cs : List D} {x : Str} (hr : Row labs cs) (hx : x ∈ labs) : Cel (at' labs cs x) := by
  have hl : List.idxOf x labs < cs.length := by rw [← hr.1]; exact List.idxOf_lt_length_of_mem hx
  unfold at'
  rw [List.getD_eq_getElem?_getD, List.getElem?_eq_getElem hl]
  exact hr.2.2.2.2 _ (List.getElem_mem hl)
/-- two cells under a comparison -/
def cel2 (w : Str) (v u : D) : Bool := if isN v then false else if isN u then false else cmpD w v u
theorem due_cel2 {labs : List Str} {cs : List D} {x w : Str} {o : D} (hw : w = "equal" ∨ w = "unlike" ∨ w = "less" ∨ w = "most") : dueB labs cs x w o = cel2 w (at' labs cs x) (other' labs cs o) := by
  unfold dueB cel2
  have n1 : w ≠ "none" := by rcases hw with rfl | rfl | rfl | rfl <;> simp [ofS_eq]
  have n2 : w ≠ "some" := by rcases hw with rfl | rfl | rfl | rfl <;> simp [ofS_eq]
  have n3 : w ≠ "among" := by rcases hw with rfl | rfl | rfl | rfl <;> simp [ofS_eq]
  rw [if_neg n1, if_neg n2, if_neg n3]
theorem cel2_rules {v u : D} (hv : Cel v) (hu : Cel u) : ((cel2 "equal" v u && cel2 "unlike" v u) || ((cel2 "less" v u && !cel2 "most" v u) || ((cel2 "equal" v u && !cel2 "most" v u) || (cel2 "equal" v u && cel2 "less" v u)))) = false ∧
    (!(cel2 "less" u v && cel2 "most" v u) && ((!cel2 "equal" v u && !cel2 "unlike" v u) || (cel2 "less" u v || (cel2 "most" v u || !cel2 "less" v u)))) = true := by
  rcases hv with rfl | ⟨i, rfl, _⟩ | ⟨a, rfl, _⟩ <;> rcases hu with rfl | ⟨j, rfl, _⟩ | ⟨b, rfl, _⟩ <;> first | (constructor <;> (simp [cel2, isN, cmpD, ofS_eq]; done)) | skip
  · simp only [cel2, isN, cmpD, ofS_eq, String.reduceEq, if_true, if_false, Bool.false_eq_true]
    rcases Int.lt_trichotomy i j with h | h | h
    · simp [show i ≠ j by omega, h, show i ≤ j by omega, show ¬ j < i by omega]
    · subst h; simp
    · simp [show i ≠ j by omega, h, show ¬ i ≤ j by omega, show ¬ i < j by omega]
  · simp only [cel2, isN, cmpD, ofS_eq, String.reduceEq, if_true, if_false, Bool.false_eq_true]
    by_cases e : a = b
    · subst e; simp [List.lt_irrefl]
    · by_cases q : a.cps.toList < b.cps.toList
      · have q2 := List.lt_asymm q
        simp [e, q, q2]
      · simp [e, q]
theorem nam_leaf {x : Str} (h : Nam x) : Leaf 100 (.str x) := leaf_str (n := 8) h.2.1 (fun c hc => by have := h.2.2 c hc; omega) (by decide)
theorem cel_leaf {d : D} (h : Cel d) : Leaf 100 d := by
  rcases h with rfl | ⟨i, rfl, hi⟩ | ⟨x, rfl, hx, hc⟩
  · trivial
  · refine ⟨?_, by show i.natAbs < 10 ^ 99; omega⟩
    have : i.natAbs < 2 ^ 64 := by omega
    by_cases h0 : i.natAbs = 0
    · rw [h0]; decide
    · have := (Nat.log2_lt h0).mpr this
      omega
  · exact leaf_str hx hc (by decide)
theorem tst_fit {al x w : Str} {labs : List Str} {o : D} (ha : Nam al) (hl : ∀ y ∈ labs, Nam y) (hx : x ∈ labs) (ho : Opd al labs w o) : Fit 100 12 2 (tstD al x w o) := by
  have lw : Leaf 100 (.str w) := by
    have : w.length ≤ 6 ∧ ∀ c ∈ w.cps.toList, c < 16 ^ 8 := by
      rcases ho with ⟨rfl | rfl, _⟩ | ⟨rfl, _⟩ | ⟨rfl | rfl | rfl | rfl, _⟩ <;> decide +kernel
    exact leaf_str this.1 this.2 (by decide)
  have lo : Fit 100 12 1 o := by
    rcases ho with ⟨_, rfl⟩ | ⟨rfl, os, rfl, h1, h2⟩ | ⟨_, ⟨co, _⟩ | ⟨y, hy, rfl⟩⟩
    · exact leaf_fit (d := .non) trivial _
    · exact fit_tup h1 fun e he => leaf_fit (cel_leaf (h2 e he).1) _
    · exact leaf_fit (cel_leaf co) _
    · exact fit_tup (by simp) fun e he => by
        simp only [List.mem_cons, List.not_mem_nil, or_false] at he
        rcases he with rfl | rfl
        · exact nam_leaf ha
        · exact nam_leaf (hl y hy)
  refine fit_tup (by simp) fun e he => ?_
  simp only [List.mem_cons, List.not_mem_nil, or_false] at he
  rcases he with rfl | rfl | rfl
  · refine fit_tup (by simp) fun e he => ?_
    simp only [List.mem_cons, List.not_mem_nil, or_false] at he
    rcases he with rfl | rfl
    · exact nam_leaf ha
    · exact nam_leaf (hl x hx)
  · exact leaf_fit lw _
  · exact lo
def top (i : Nat) : Stmt := PySem.Challenge.pw_noguess_k09_filters.main.body.getD i (.Pass ⟨0, 0, 0, 0⟩)
abbrev s_comparison_holds : Stmt := top 1
abbrev s_passes : Stmt := top 2
abbrev s__law_deck : Stmt := top 4
abbrev s__law_draw : Stmt := top 5
abbrev s__law_pick : Stmt := top 6
abbrev s__law_names : Stmt := top 7
abbrev s__law_due : Stmt := top 8
abbrev s__law_value : Stmt := top 9
abbrev s__law_operand : Stmt := top 10
abbrev s__law_condition : Stmt := top 11
abbrev s__law_of : Stmt := top 12
abbrev s__law_told : Stmt := top 13
abbrev s__law_rules_hold : Stmt := top 14
abbrev s_law : Stmt := top 15
/-- what the top has written -/
structure Txt (K : PySem.W.Frag) (mg : Str → Option Value) where
  a_comparison_holds : Addr
  fd_comparison_holds : FuncData
  F_comparison_holds : Fun K "comparison_holds" "comparison_holds" s_comparison_holds a_comparison_holds fd_comparison_holds
  m_comparison_holds : mg "comparison_holds" = some (.ref a_comparison_holds)
  a_passes : Addr
  fd_passes : FuncData
  F_passes : Fun K "passes" "passes" s_passes a_passes fd_passes
  m_passes : mg "passes" = some (.ref a_passes)
  a__law_deck : Addr
  fd__law_deck : FuncData
  F__law_deck : Fun K "_law_deck" "_law_deck" s__law_deck a__law_deck fd__law_deck
  m__law_deck : mg "_law_deck" = some (.ref a__law_deck)
  a__law_draw : Addr
  fd__law_draw : FuncData
  F__law_draw : Fun K "_law_draw" "_law_draw" s__law_draw a__law_draw fd__law_draw
  m__law_draw : mg "_law_draw" = some (.ref a__law_draw)
  a__law_pick : Addr
  fd__law_pick : FuncData
  F__law_pick : Fun K "_law_pick" "_law_pick" s__law_pick a__law_pick fd__law_pick
  m__law_pick : mg "_law_pick" = some (.ref a__law_pick)
  a__law_names : Addr
  fd__law_names : FuncData
  F__law_names : Fun K "_law_names" "_law_names" s__law_names a__law_names fd__law_names
  m__law_names : mg "_law_names" = some (.ref a__law_names)
  a__law_due : Addr
  fd__law_due : FuncData
  F__law_due : Fun K "_law_due" "_law_due" s__law_due a__law_due fd__law_due
  m__law_due : mg "_law_due" = some (.ref a__law_due)
  a__law_value : Addr
  fd__law_value : FuncData
  F__law_value : Fun K "_law_value" "_law_value" s__law_value a__law_value fd__law_value
  m__law_value : mg "_law_value" = some (.ref a__law_value)
  a__law_operand : Addr
  fd__law_operand : FuncData
  F__law_operand : Fun K "_law_operand" "_law_operand" s__law_operand a__law_operand fd__law_operand
  m__law_operand : mg "_law_operand" = some (.ref a__law_operand)
  a__law_condition : Addr
  fd__law_condition : FuncData
  F__law_condition : Fun K "_law_condition" "_law_condition" s__law_condition a__law_condition fd__law_condition
  m__law_condition : mg "_law_condition" = some (.ref a__law_condition)
  a__law_of : Addr
  fd__law_of : FuncData
  F__law_of : Fun K "_law_of" "_law_of" s__law_of a__law_of fd__law_of
  m__law_of : mg "_law_of" = some (.ref a__law_of)
  a__law_told : Addr
  fd__law_told : FuncData
  F__law_told : Fun K "_law_told" "_law_told" s__law_told a__law_told fd__law_told
  m__law_told : mg "_law_told" = some (.ref a__law_told)
  a__law_rules_hold : Addr
  fd__law_rules_hold : FuncData
  F__law_rules_hold : Fun K "_law_rules_hold" "_law_rules_hold" s__law_rules_hold a__law_rules_hold fd__law_rules_hold
  m__law_rules_hold : mg "_law_rules_hold" = some (.ref a__law_rules_hold)
  a_law : Addr
  fd_law : FuncData
  F_law : Fun K "law" "law" s_law a_law fd_law
  m_law : mg "law" = some (.ref a_law)
  n_isinstance : mg "isinstance" = none
  n_int : mg "int" = none
  n_tuple : mg "tuple" = none
  n_list : mg "list" = none
  n_len : mg "len" = none
  n_range : mg "range" = none
  n_str : mg "str" = none
  n_sorted : mg "sorted" = none
  n_abs : mg "abs" = none
  n_bool : mg "bool" = none
  n_repr : mg "repr" = none
section
variable {P : Program} {w : World} {K : PySem.W.Frag} {mg : Str → Option Value} {base : Heap}
/-! #### comparison_holds -/
theorem bi_comparison_holds (T : Txt K mg) : Binds K T.fd_comparison_holds ["one", "word", "other"] [] := T.F_comparison_holds.binds fun _ _ _ _ _ _ us hl => match us, hl with | [_, _, _], _ => rfl
def N_comparison_holds : List Str := ["one", "word", "other"]
theorem sc_comparison_holds : FnScope N_comparison_holds ["one", "word", "other"] (defScope s_comparison_holds) := ⟨rfl, rfl, rfl, by decide +kernel, rfl, by decide +kernel, by decide +kernel⟩
def w_comparison_holds_t1 : WS :=
    (wRet (wIfE (wTst (wOp roEq (wVar 1) (wC (.str (Str.ofString "less"))))) (wOp roLt (wVar 0) (wVar 2)) (wOp roLe (wVar 0) (wVar 2))))
def w_comparison_holds_t2 : WS :=
    (wSeq (wIf (wTst (wOp roNe (wCB rcIsi (wCons (wVar 0) (wCons (wC (.ty "int")) wNil))) (wCB rcIsi (wCons (wVar 2) (wCons (wC (.ty "int")) wNil))))) (wRet (wC (.bl false))) wNext)
      w_comparison_holds_t1)
def w_comparison_holds_t3 : WS :=
    (wSeq (wIf (wTst (wOp roEq (wVar 1) (wC (.str (Str.ofString "unlike"))))) (wRet (wOp roNe (wVar 0) (wVar 2))) wNext)
      w_comparison_holds_t2)
def w_comparison_holds : WS :=
    (wSeq (wIf (wTst (wOp roEq (wVar 1) (wC (.str (Str.ofString "equal"))))) (wRet (wOp roEq (wVar 0) (wVar 2))) wNext)
      w_comparison_holds_t3)
theorem b_comparison_holds (T : Txt K mg) {cdv : Value} {A : Around} {outer : List Env} {s : Shared} {H : Hp} {E : XK} (hr : RoomG 0 (A.deeper (envOfC "comparison_holds" (defScope s_comparison_holds) s.heap.objs.size T.a_comparison_holds cdv))) :
    DSs (cxOf CX0 P w K mg base N_comparison_holds "comparison_holds" (defScope s_comparison_holds) T.a_comparison_holds cdv A outer s H E).nox (defBody s_comparison_holds) w_comparison_holds :=
    (dss_cons (ds_if (dt_cmp (od_eq hr.rm.units) (dvar 1) dstr (nomark _)) (dss_one (ds_ret (de_cmp (od_eq hr.rm.units) (dvar 0) (dvar 2) (nomark _)))) dss_nil)
      (dss_cons (ds_if (dt_cmp (od_eq hr.rm.units) (dvar 1) dstr (nomark _)) (dss_one (ds_ret (de_cmp (od_ne hr.rm.units) (dvar 0) (dvar 2) (nomark _)))) dss_nil)
      (dss_cons (ds_if (dt_cmp (od_ne hr.rm.units) (de_callB cd_isi (by rfl) T.n_isinstance bb_isinstance (da_cons (dvar 0) (da_cons (dty (T := "int") (by rfl) T.n_int bb_int) da_nil))) (de_callB cd_isi (by rfl) T.n_isinstance bb_isinstance (da_cons (dvar 2) (da_cons (dty (T := "int") (by rfl) T.n_int bb_int) da_nil))) (nomark _)) (dss_one (ds_ret dbl)) dss_nil)
      (dss_one (ds_ret (de_if (dt_cmp (od_eq hr.rm.units) (dvar 1) dstr (nomark _)) (de_cmp od_lt (dvar 0) (dvar 2) (nomark _)) (de_cmp od_le (dvar 0) (dvar 2) (nomark _))))))))
local macro_rules | `(tactic| walk_at "un.comparison_holds") => `(tactic| unfold w_comparison_holds N_comparison_holds w_comparison_holds_t3 w_comparison_holds_t2 w_comparison_holds_t1)
def sp_comparison_holds : SpD := fun ds s P => ∃ x w y, ds = [x, .str w, y] ∧ isIS x = true ∧ isIS y = true ∧ P (.bl (cmpD w x y)) s
theorem len_comparison_holds : ∀ ds s P, sp_comparison_holds ds s P → ds.length = 3 := by
  rintro ds s P ⟨x, w, y, rfl, _⟩; rfl
theorem sem_comparison_holds : ∀ ds s P, sp_comparison_holds ds s P → w_comparison_holds { nx := fun _ s' => P .non s', rt := P } (startD N_comparison_holds ds) s := by
  rintro ds s P ⟨x, w, y, rfl, hx, hy, h⟩
  walk_at "un.comparison_holds"
  walk_at "ev"
  by_cases h1 : w = "equal"
  · cases x <;> cases y <;> (simp_all [cmpD, isIS] <;> walk_at "kd")
  · by_cases h2 : w = "unlike"
    · cases x <;> cases y <;> (simp_all [cmpD, isIS] <;> walk_at "kd")
    · by_cases h3 : w = "less"
      · cases x <;> cases y <;> (simp_all [cmpD, isIS] <;> walk_at "kd")
      · cases x <;> cases y <;> (simp_all [cmpD, isIS] <;> walk_at "kd")

theorem fn_comparison_holds (T : Txt K mg) : FnD P w K mg base 1 T.a_comparison_holds T.fd_comparison_holds ["one", "word", "other"] sp_comparison_holds :=
  fnD_of T.F_comparison_holds sc_comparison_holds len_comparison_holds (fun cdv A outer s H E hr => b_comparison_holds T hr) sem_comparison_holds
/-! #### passes -/
theorem bi_passes (T : Txt K mg) : Binds K T.fd_passes ["columns", "row", "condition"] [] := T.F_passes.binds fun _ _ _ _ _ _ us hl => match us, hl with | [_, _, _], _ => rfl
abbrev kd_passes_0 : List D → List D → List D := pgX D.non 0 3 [2, 1, 0]
theorem kb_passes_0 (T : Txt K mg) : KBinds K T.fd_passes ["columns", "row", "condition"] ["condition", "row", "columns"] (pgX Value.none 0 3 [2, 1, 0]) (pgX V.non 0 3 [2, 1, 0]) := by
  obtain ⟨oc, od, kV, doc, pm, an, cdv, ct, osl, e, lk, hcd⟩ := T.F_passes.ex
  rw [e]
  exact kb_mk (by decide) fun s us ws h1 h2 => match us, ws, h1, h2 with | [], [_, _, _], _, _ => .of_eq rfl
def N_passes : List Str := ["columns", "row", "condition", "column", "word", "operand", "value", "other"]
theorem sc_passes : FnScope N_passes ["columns", "row", "condition"] (defScope s_passes) := ⟨rfl, rfl, rfl, by decide +kernel, rfl, by decide +kernel, by decide +kernel⟩
def w_passes_t1 : WS :=
    (wSeq (wAsg (wIfE (wTru (wCB rcIsi (wCons (wVar 5) (wCons (wC (.ty "tuple")) wNil)))) (wOp roIx (wVar 1) (wTidx (wVar 0) (wOp roIx (wVar 5) (wC (.int 1))))) (wVar 5)) (wgName 7))
      (wRet (wAndV (wOp roIsNot (wVar 6) (wC .non)) (wAndV (wOp roIsNot (wVar 7) (wC .non)) (wCall sp_comparison_holds (wCons (wVar 6) (wCons (wVar 4) (wCons (wVar 7) wNil))))))))
def w_passes : WS :=
    (wSeq (wAsg (wVar 2) (wgTup 3 (wgCons (wgName 3) (wgCons (wgName 4) (wgCons (wgName 5) wgNil)))))
      (wSeq (wAsg (wOp roIx (wVar 1) (wTidx (wVar 0) (wOp roIx (wVar 3) (wC (.int 1))))) (wgName 6))
      (wSeq (wMatch (wVar 4) (wmStr (Str.ofString "none") (wRet (wOp roIs (wVar 6) (wC .non))) (wmStr (Str.ofString "some") (wRet (wOp roIsNot (wVar 6) (wC .non))) (wmStr (Str.ofString "among") (wRet (wOp roIn (wVar 6) (wVar 5))) wmNil))))
      w_passes_t1)))
theorem b_passes (T : Txt K mg) {cdv : Value} {A : Around} {outer : List Env} {s : Shared} {H : Hp} {E : XK} (hr : RoomG 1 (A.deeper (envOfC "passes" (defScope s_passes) s.heap.objs.size T.a_passes cdv))) :
    DSs (cxOf CX0 P w K mg base N_passes "passes" (defScope s_passes) T.a_passes cdv A outer s H E).nox (defBody s_passes) w_passes :=
    (dss_cons (ds_asg (dvar 2) (dg_tup rfl (dgs_cons (dg_name (i := 3) sc_passes.nd rfl (by first | exact Or.inl rfl | exact Or.inr rfl)) (dgs_cons (dg_name (i := 4) sc_passes.nd rfl (by first | exact Or.inl rfl | exact Or.inr rfl)) (dgs_cons (dg_name (i := 5) sc_passes.nd rfl (by first | exact Or.inl rfl | exact Or.inr rfl)) dgs_nil)))))
      (dss_cons (ds_set (i := 6) sc_passes.nd rfl (by first | exact Or.inl rfl | exact Or.inr rfl) (de_ix ixd (dvar 1) (de_tidx (dvar 0) (de_ix ixd (dvar 3) dint (fun _ _ => rfl))) (fun _ _ => rfl)))
      (dss_cons (ds_match (dvar 4) (dm_str (dss_one (ds_ret (de_cmp od_is (dvar 6) dnon (nomark _)))) (dm_str (dss_one (ds_ret (de_cmp od_isnot (dvar 6) dnon (nomark _)))) (dm_str (dss_one (ds_ret (de_cmp (od_in hr.rm.units) (dvar 6) (dvar 5) (by rfl)))) dm_nil))))
      (dss_cons (ds_set (i := 7) sc_passes.nd rfl (by first | exact Or.inl rfl | exact Or.inr rfl) (de_if (dt_truth (de_callB cd_isi (by rfl) T.n_isinstance bb_isinstance (da_cons (dvar 5) (da_cons (dty (T := "tuple") (by rfl) T.n_tuple bb_tuple) da_nil)))) (de_ix ixd (dvar 1) (de_tidx (dvar 0) (de_ix ixd (dvar 5) dint (fun _ _ => rfl))) (fun _ _ => rfl)) (dvar 5)))
      (dss_one (ds_ret (de_and (de_cmp od_isnot (dvar 6) dnon (nomark _)) (de_and (de_cmp od_isnot (dvar 7) dnon (nomark _)) (de_one (de_call (fn_comparison_holds T) (hr.mono (by decide)) (by rfl) T.m_comparison_holds T.F_comparison_holds.kp (bi_comparison_holds T) (da_cons (dvar 6) (da_cons (dvar 4) (da_cons (dvar 7) da_nil)))))))))))))
local macro_rules | `(tactic| walk_at "un.passes") => `(tactic| unfold w_passes N_passes w_passes_t1)
def sp_passes : SpD := fun ds s P => ∃ labs cs al x w o, ds = [labD labs, .tup cs, tstD al x w o] ∧ Row labs cs ∧ x ∈ labs ∧ Opd al labs w o ∧ P (.bl (dueB labs cs x w o)) s
theorem len_passes : ∀ ds s P, sp_passes ds s P → ds.length = 3 := by
  rintro ds s P ⟨labs, cs, al, x, w, o, rfl, _⟩; rfl
theorem cmp_ok {x y : D} {w : Str} {s : S} {P : DK} (hx : isIS x = true) (hy : isIS y = true) (h : P (.bl (cmpD w x y)) s) : sp_comparison_holds [x, .str w, y] s P := ⟨x, w, y, rfl, hx, hy, h⟩
theorem sem_passes : ∀ ds s P, sp_passes ds s P → w_passes { nx := fun _ s' => P .non s', rt := P } (startD N_passes ds) s := by
  rintro ds s P ⟨labs, cs, al, x, w, o, rfl, hr, hx, ho, h⟩
  obtain ⟨ea, hc⟩ := at_row hr hx
  walk_at "un.passes"
  unfold tstD labD
  revert h
  unfold dueB
  generalize hv : at' labs cs x = v at ea hc ⊢
  intro h
  have hc' := hc
  rcases ho with ⟨rfl | rfl, rfl⟩ | ⟨rfl, os, rfl, hl, ho⟩ | ⟨hw, ⟨co, no⟩ | ⟨y, hy, rfl⟩⟩
  · walk_at "ev"
    rcases hc with rfl | ⟨i, rfl, _⟩ | ⟨z, rfl, _⟩ <;> simp_all [ofS_eq, atI_o, strsD_map, isN]
  · walk_at "ev"
    rcases hc with rfl | ⟨i, rfl, _⟩ | ⟨z, rfl, _⟩ <;> simp_all [ofS_eq, atI_o, strsD_map, isN]
  · have h3 : D.allData os = true := allData_of fun e he => data_scal (cel_scal (ho e he).1)
    have h4 : isN v = true → (os.any fun d => D.eq d v) = false := fun z => by
      rcases hc with rfl | ⟨i, rfl, _⟩ | ⟨z, rfl, _⟩ <;> simp [isN] at z
      refine List.any_eq_false.mpr fun e he => ?_
      obtain ⟨ce, ne⟩ := ho e he
      rcases ce with rfl | ⟨i, rfl, _⟩ | ⟨z, rfl, _⟩ <;> simp_all [ofS_eq, isN, eq_in, eq_sn]
    walk_at "ev"
    simp only [atI_o, strsD_map, ea, hx, true_and, roIn, view, h3, data_scal (cel_scal hc'), depth_scal (cel_scal hc'), Nat.zero_le]
    by_cases q : isN v = true
    · simp only [ofS_eq, q, h4 q] at h ⊢; simpa using h
    · simp_all [ofS_eq, among']
  · have n1 : w ≠ "none" := by rcases hw with rfl | rfl | rfl | rfl <;> simp [ofS_eq]
    have n2 : w ≠ "some" := by rcases hw with rfl | rfl | rfl | rfl <;> simp [ofS_eq]
    have n3 : w ≠ "among" := by rcases hw with rfl | rfl | rfl | rfl <;> simp [ofS_eq]
    rw [if_neg n1, if_neg n2, if_neg n3] at h
    walk_at "ev"
    simp only [atI_o, strsD_map, ea, hx, true_and, n1, n2, n3, if_false]
    rcases co with rfl | ⟨j, rfl, _⟩ | ⟨z, rfl, _⟩
    · cases no
    · rcases hc with rfl | ⟨i, rfl, _⟩ | ⟨z, rfl, _⟩ <;> simp only [isi_int, okT_tuple, true_and, other', isN, if_true, if_false] at h ⊢ <;> first | exact h | exact cmp_ok rfl rfl h
    · rcases hc with rfl | ⟨i, rfl, _⟩ | ⟨z, rfl, _⟩ <;> simp only [isi_str, okT_tuple, true_and, other', isN, if_true, if_false] at h ⊢ <;> first | exact h | exact cmp_ok rfl rfl h
  · have n1 : w ≠ "none" := by rcases hw with rfl | rfl | rfl | rfl <;> simp [ofS_eq]
    have n2 : w ≠ "some" := by rcases hw with rfl | rfl | rfl | rfl <;> simp [ofS_eq]
    have n3 : w ≠ "among" := by rcases hw with rfl | rfl | rfl | rfl <;> simp [ofS_eq]
    rw [if_neg n1, if_neg n2, if_neg n3] at h
    obtain ⟨eb, hd⟩ := at_row hr hy
    obtain ⟨u, hu⟩ : ∃ u, at' labs cs y = u := ⟨_, rfl⟩
    simp only [other', hu] at h eb hd
    walk_at "ev"
    simp only [atI_o, strsD_map, ea, eb, hx, hy, true_and, n1, n2, n3, if_false, isi_tup, D.allData, D.isData, Bool.and_true, okT_tuple]
    rcases hc with rfl | ⟨i, rfl, _⟩ | ⟨z, rfl, _⟩ <;> rcases hd with rfl | ⟨j, rfl, _⟩ | ⟨z2, rfl, _⟩ <;> first | exact h | exact cmp_ok rfl rfl h

theorem fn_passes (T : Txt K mg) : FnD P w K mg base 2 T.a_passes T.fd_passes ["columns", "row", "condition"] sp_passes :=
  fnD_of T.F_passes sc_passes len_passes (fun cdv A outer s H E hr => b_passes T hr) sem_passes
/-! #### _law_deck -/
theorem bi__law_deck (T : Txt K mg) : Binds K T.fd__law_deck ["_law_script"] [] := T.F__law_deck.binds fun _ _ _ _ _ _ us hl => match us, hl with | [_], _ => rfl
def N__law_deck : List Str := ["_law_script", "_law_cells", "_law_mixed", "_law_cell"]
theorem sc__law_deck : FnScope N__law_deck ["_law_script"] (defScope s__law_deck) := ⟨rfl, rfl, rfl, by decide +kernel, rfl, by decide +kernel, by decide +kernel⟩
def w__law_deck_b1 : WS :=
    (wAsg (wOp roMod (wOp roAdd (wOp roAdd (wOp roMul (wVar 2) (wC (.int 48271))) (wOp roMod (wVar 3) (wC (.int 2147483629)))) (wC (.int 57))) (wC (.int 2147483587))) (wgName 2))
def w__law_deck : WS :=
    (wSeq (wPar 1 2 (wCons (wFz (wCBL rcList (wCons (wFz (wSlL (wVar 0) woN (woS (wC (.int 63))))) wNil))) (wCons (wC (.int 40009)) wNil)))
      (wSeq (wFor (wiSeq (wVar 1)) (wgName 3) w__law_deck_b1)
      (wRet (wDeck (wRevL (wVar 1)) (wVar 2) (wC (.int 0))))))
theorem b__law_deck (T : Txt K mg) {cdv : Value} {A : Around} {outer : List Env} {s : Shared} {H : Hp} {E : XK} (hr : RoomG 0 (A.deeper (envOfC "_law_deck" (defScope s__law_deck) s.heap.objs.size T.a__law_deck cdv))) :
    DSs (cxOf CX0 P w K mg base N__law_deck "_law_deck" (defScope s__law_deck) T.a__law_deck cdv A outer s H E).nox (defBody s__law_deck) w__law_deck :=
    (dss_cons (ds_par (i := 1) (j := 2) rfl sc__law_deck.nd rfl rfl (by decide) rfl rfl (da_cons (de_fz (del_callTy cd_list (by rfl) T.n_list bb_list (da_cons (de_fz (del_slice (dvar 0) dpo_none (dpo_some dint))) da_nil))) (da_cons dint da_nil)) (by rfl))
      (dss_cons (ds_for PassesOwn.never rfl (di_seq (dvar 1)) (dg_name (i := 3) sc__law_deck.nd rfl (by first | exact Or.inl rfl | exact Or.inr rfl)) (dss_one (ds_set (i := 2) sc__law_deck.nd rfl (by first | exact Or.inl rfl | exact Or.inr rfl) (de_op od_mod (de_op od_add (de_op od_add (de_op od_mul (dvar 2) dint) (de_op od_mod (dvar 3) dint)) dint) dint))))
      (dss_one (ds_ret (de_deck (del_rev (dvar 1)) (dvar 2) dint)))))
local macro_rules | `(tactic| walk_at "un._law_deck") => `(tactic| unfold w__law_deck N__law_deck)
def sp__law_deck : SpD := fun ds s P => ∃ ns : List Int, ds = [.lsk (ns.map .int)] ∧ ns.length ≤ 63 ∧ s.dk = none ∧ ∀ a, P (.ref a) (s.fuel a deckMax)
theorem len__law_deck : ∀ ds s P, sp__law_deck ds s P → ds.length = 1 := by
  rintro ds s P ⟨ns, rfl, _⟩; rfl
theorem sem__law_deck : ∀ ds s P, sp__law_deck ds s P → w__law_deck { nx := fun _ s' => P .non s', rt := P } (startD N__law_deck ds) s := by
  rintro ds s P ⟨ns, rfl, hl, hd, h⟩
  have hl' : (List.map D.int ns).length ≤ 63 := by rw [List.length_map]; exact hl
  have h63 : cutD (List.map D.int ns) none (some 63) = List.map D.int ns := by rw [cutD_to (by omega)]; exact List.take_of_length_le hl'
  unfold w__law_deck N__law_deck
  walk_at "ev"
  rw [h63]
  suffices H : ∀ (l : List Int) (m : Int) (d : Option D), 0 ≤ m → m < 2147483587 → loopW (wgName 3) (wAsg (wOp roMod (wOp roAdd (wOp roAdd (wOp roMul (wVar 2) (wC (.int 48271))) (wOp roMod (wVar 3) (wC (.int 2147483629)))) (wC (.int 57))) (wC (.int 2147483587))) (wgName 2))
    { nx := fun δ s => wDeck (wRevL (wVar 1)) (wVar 2) (wC (.int 0)) δ s P, rt := P } (l.map .int) [some (.lsk (ns.map .int)), some (.lst (ns.map .int)), some (.int m), d] s from H ns _ _ (by decide) (by decide)
  intro l
  induction l with
  | nil =>
    intro m d m0 m1
    simp only [List.map_nil, loopW, wDeck, wRevL, wVar, wC, view, List.getElem?_cons_zero, List.getElem?_cons_succ, ← List.map_reverse, intsD_map, List.length_reverse]
    exact ⟨⟨hl, m0, m1, hd⟩, h⟩
  | cons x l ih =>
    intro m d m0 m1
    simp only [List.map_cons, loopW]
    walk_at "ev"
    obtain ⟨r0, r1⟩ := fmod_range (m * 48271 + x.fmod 2147483629 + 57) (c := 2147483587) (by decide)
    refine ⟨.inl (by omega), by decide, by decide, ih _ _ r0 r1⟩

theorem fn__law_deck (T : Txt K mg) : FnD P w K mg base 1 T.a__law_deck T.fd__law_deck ["_law_script"] sp__law_deck :=
  fnD_of T.F__law_deck sc__law_deck len__law_deck (fun cdv A outer s H E hr => b__law_deck T hr) sem__law_deck
/-! #### _law_draw -/
theorem bi__law_draw (T : Txt K mg) : Binds K T.fd__law_draw ["_law_deck_here", "_law_count"] [] := T.F__law_draw.binds fun _ _ _ _ _ _ us hl => match us, hl with | [_, _], _ => rfl
def N__law_draw : List Str := ["_law_deck_here", "_law_count", "_law_cell", "_law_number"]
theorem sc__law_draw : FnScope N__law_draw ["_law_deck_here", "_law_count"] (defScope s__law_draw) := ⟨rfl, rfl, rfl, by decide +kernel, rfl, by decide +kernel, by decide +kernel⟩
def w__law_draw_t1 : WS :=
    (wAsg (wOp roAdd (wVar 2) (wOp roIx (wVar 0) (wC (.int 1)))) (wgName 2))
def w__law_draw_t2 : WS :=
    (wSeq (wAsg (wOp roMod (wOp roMul (wOp roAdd (wOp roAdd (wOp roMod (wVar 2) (wC (.int 2147483629))) (wOp roMul (wOp roMul (wC (.int 74093)) (wOp roIx (wVar 0) (wC (.int 2)))) (wOp roIx (wVar 0) (wC (.int 2))))) (wC (.int 57))) (wC (.int 40692))) (wC (.int 2147483647))) (wgName 3))
      (wSeq (wAsg (wOp roMod (wOp roAdd (wOp roAdd (wOp roMul (wVar 3) (wVar 3)) (wOp roMul (wC (.int 69621)) (wOp roIx (wVar 0) (wC (.int 2))))) (wC (.int 13))) (wC (.int 2147483563))) (wgName 3))
      (wRet (wOp roMod (wOp roFdiv (wOp roMod (wOp roMul (wVar 3) (wC (.int 39373))) (wC (.int 2147483587))) (wC (.int 64))) (wVar 1)))))
def w__law_draw : WS :=
    (wSeq (wSetIx (wOp roAdd (wOp roIx (wVar 0) (wC (.int 2))) (wC (.int 1))) (wVar 0) (wC (.int 2)))
      (wSeq (wAsg (wOp roIx (wVar 0) (wC (.int 1))) (wgName 2))
      (wSeq (wIf (wTst (wOp roNe (wOp roIx (wVar 0) (wC (.int 0))) (wFz wNil))) (wSeq (wAsg (wMeth "list" rmPop (wOp roIx (wVar 0) (wC (.int 0))) wNil) (wgName 2))
      (wSeq (wIf (wTst (wOp roGe (wVar 2) (wOp roPow (wC (.int 10)) (wC (.int 18))))) (wSeq (wDrop (wMeth "list" rmAppend (wOp roIx (wVar 0) (wC (.int 0))) (wCons (wOp roFdiv (wVar 2) (wVar 1)) wNil)))
      (wRet (wOp roMod (wVar 2) (wVar 1)))) wNext)
      w__law_draw_t1)) wNext)
      w__law_draw_t2)))
theorem b__law_draw (T : Txt K mg) {cdv : Value} {A : Around} {outer : List Env} {s : Shared} {H : Hp} {E : XK} (hr : RoomG 0 (A.deeper (envOfC "_law_draw" (defScope s__law_draw) s.heap.objs.size T.a__law_draw cdv))) :
    DSs (cxOf CX0 P w K mg base N__law_draw "_law_draw" (defScope s__law_draw) T.a__law_draw cdv A outer s H E).nox (defBody s__law_draw) w__law_draw :=
    (dss_cons (ds_setIx (de_op od_add (de_ix ixd (dvar 0) dint (fun _ _ => rfl)) dint) (dvar 0) dint)
      (dss_cons (ds_set (i := 2) sc__law_draw.nd rfl (by first | exact Or.inl rfl | exact Or.inr rfl) (de_ix ixd (dvar 0) dint (fun _ _ => rfl)))
      (dss_cons (ds_if (dt_cmp (od_ne hr.rm.units) (de_ix ixd (dvar 0) dint (fun _ _ => rfl)) (de_fz (del_lst da_nil)) (nomark _)) (dss_cons (ds_set (i := 2) sc__law_draw.nd rfl (by first | exact Or.inl rfl | exact Or.inr rfl) (de_meth0 PySem.F.plainAttrs_list PySem.F.slot_list_pop PySem.F.type_list_pop md_pop (de_ix ixd (dvar 0) dint (fun _ _ => rfl))))
      (dss_cons (ds_if (dt_cmp od_ge (dvar 2) (de_op od_pow dint dint) (nomark _)) (dss_cons (ds_expr (de_meth PySem.F.plainAttrs_list PySem.F.slot_list_append PySem.F.type_list_append md_append (de_ix ixd (dvar 0) dint (fun _ _ => rfl)) (da_cons (de_op od_fdiv (dvar 2) (dvar 1)) da_nil)))
      (dss_one (ds_ret (de_op od_mod (dvar 2) (dvar 1))))) dss_nil)
      (dss_one (ds_set (i := 2) sc__law_draw.nd rfl (by first | exact Or.inl rfl | exact Or.inr rfl) (de_op od_add (dvar 2) (de_ix ixd (dvar 0) dint (fun _ _ => rfl))))))) dss_nil)
      (dss_cons (ds_set (i := 3) sc__law_draw.nd rfl (by first | exact Or.inl rfl | exact Or.inr rfl) (de_op od_mod (de_op od_mul (de_op od_add (de_op od_add (de_op od_mod (dvar 2) dint) (de_op od_mul (de_op od_mul dint (de_ix ixd (dvar 0) dint (fun _ _ => rfl))) (de_ix ixd (dvar 0) dint (fun _ _ => rfl)))) dint) dint) dint))
      (dss_cons (ds_set (i := 3) sc__law_draw.nd rfl (by first | exact Or.inl rfl | exact Or.inr rfl) (de_op od_mod (de_op od_add (de_op od_add (de_op od_mul (dvar 3) (dvar 3)) (de_op od_mul dint (de_ix ixd (dvar 0) dint (fun _ _ => rfl)))) dint) dint))
      (dss_one (ds_ret (de_op od_mod (de_op od_fdiv (de_op od_mod (de_op od_mul (dvar 3) dint) dint) dint) (dvar 1)))))))))
local macro_rules | `(tactic| walk_at "un._law_draw") => `(tactic| unfold w__law_draw N__law_draw w__law_draw_t2 w__law_draw_t1)
def sp__law_draw : SpD := spDraw
theorem len__law_draw : ∀ ds s P, spDrawM ds s P → ds.length = 2 := by
  rintro ds s P ⟨a, a1, c, cells, mixed, k, rfl, _⟩; rfl
theorem draw_tail {P : DK} {a a1 : Addr} {c mixed cell : Int} {k : Nat} {s2 : S} {d3 : Option D} {nx : Dn → S → Prop} (c0 : 0 < c) (c1 : c < 1073741824) (hk : (k : Int) < 2 ^ 60) (h1 : s2.M a = some (.lst [.ref a1, .int mixed, .int (k + 1)]))
    (h : ∀ r : Int, 0 ≤ r → r < c → P (.int r) s2) : w__law_draw_t2 { nx := nx, rt := P } [some (.ref a), some (.int c), some (.int cell), d3] s2 := by
  unfold w__law_draw_t2
  repeat (walk_at "ev"; simp only [h1])
  walk_at "ev"
  obtain ⟨q0, q1⟩ := fmod_range (((cell.fmod 2147483629 + 74093 * (↑k + 1) * (↑k + 1) + 57) * 40692)) (c := 2147483647) (by decide)
  refine ⟨by decide, .inl (by decide), .inr (by omega), .inr (by decide), by decide, .inr (by omega), .inl (by decide), by decide, .inr (by decide), by decide, cdiv_small (by decide) (by decide), by omega, h _ (fmod_range _ c0).1 (fmod_range _ c0).2⟩
theorem sem__law_draw : ∀ ds s P, spDrawM ds s P → w__law_draw { nx := fun _ s' => P .non s', rt := P } (startD N__law_draw ds) s := by
  rintro ds s P ⟨a, a1, c, cells, mixed, k, rfl, c0, c1, hne, hdk, hM, hM1, hl, m0, m1, hk, h⟩
  have hne' : a1 ≠ a := fun z => hne z.symm
  have hk2 : (k : Int) < 2 ^ 60 := by unfold deckMax at hk; omega
  have e2 : ixN 3 2 = some 2 := by decide
  unfold w__law_draw N__law_draw
  simp only [wSeq, wSetIx, wVar, startD, wC, wOp, roIx, view, hM]
  walk_at "ev"
  simp only [hM, List.length_cons, List.length_nil, Nat.reduceAdd, e2]
  walk_at "ev"
  rw [roNe_emp (ds := cells.map .int) (by simp only [view, put_M, if_neg hne', hM1]) (allData_ints _)]
  rcases List.eq_nil_or_concat cells with hc | ⟨l, x, hc⟩
  · subst hc
    walk_at "ev"
    simp only [List.isEmpty_nil, Bool.not_true]
    refine draw_tail (a1 := a1) (mixed := mixed) c0 c1 hk2 (by simp only [put_M, if_true]) fun r r0 r1 => h r _ [] r0 r1 (by simp only [put_M, if_true]; rfl) (by simp only [put_M, if_neg hne', hM1]) (by decide) fun b b1 b2 => by simp only [put_M, if_neg b1]
  · rw [List.concat_eq_append] at hc
    subst hc
    have e3 : (List.map D.int (l ++ [x])).isEmpty = false := by simp
    have e4 : (List.map D.int (l ++ [x]))[(List.map D.int (l ++ [x])).length - 1]? = some (.int x) := by simp
    have e5 : (List.map D.int (l ++ [x])).dropLast = List.map D.int l := by simp
    have hl2 : l.length ≤ 62 := by simp at hl; omega
    simp only [e3, Bool.not_false]
    repeat (first | walk_at "ev1" | simp only [hM1, hne', hne, if_false, e4, e5, true_and])
    by_cases hx : (10 : Int) ^ Int.toNat 18 ≤ x
    · simp only [hx, decide_true]
      repeat (first | walk_at "ev1" | simp only [hM1, hne', hne, if_false, e4, e5, true_and])
      refine ⟨cpow_small (by decide) (by decide) (by decide), cdiv_small c0 c1, by rw [List.length_map, sizeLine_eq]; omega, by omega, h _ _ (l ++ [x.fdiv c]) (fmod_range _ c0).1 (fmod_range _ c0).2 ?_ ?_ ?_ ?_⟩
      · simp only [put_M, if_neg hne, if_true]; rfl
      · simp only [put_M, if_true, List.map_append]; rfl
      · rw [List.length_append]; show l.length + 1 ≤ 63; omega
      · intro b b1 b2; simp only [put_M, if_neg b1, if_neg b2]
    · simp only [hx, decide_false]
      unfold w__law_draw_t1
      repeat (first | walk_at "ev1" | simp only [hM1, hne', hne, if_false, e4, e5, true_and])
      refine ⟨cpow_small (by decide) (by decide) (by decide), draw_tail (a1 := a1) (mixed := mixed) c0 c1 hk2 (by simp only [put_M, if_neg hne, if_true]) fun r r0 r1 => h r _ l r0 r1 (by simp only [put_M, if_neg hne, if_true]; rfl) (by simp only [put_M, if_true]) (by omega) fun b b1 b2 => by simp only [put_M, if_neg b1, if_neg b2]⟩
theorem fn__law_draw (T : Txt K mg) : FnD P w K mg base 1 T.a__law_draw T.fd__law_draw ["_law_deck_here", "_law_count"] sp__law_draw :=
  FnG.imp (fnD_of T.F__law_draw sc__law_draw len__law_draw (fun cdv A outer s H E hr => b__law_draw T hr) sem__law_draw) draw_shut

/-! #### _law_pick -/
theorem bi__law_pick (T : Txt K mg) : Binds K T.fd__law_pick ["_law_deck_here", "_law_items"] [] := T.F__law_pick.binds fun _ _ _ _ _ _ us hl => match us, hl with | [_, _], _ => rfl
def N__law_pick : List Str := ["_law_deck_here", "_law_items"]
theorem sc__law_pick : FnScope N__law_pick ["_law_deck_here", "_law_items"] (defScope s__law_pick) := ⟨rfl, rfl, rfl, by decide +kernel, rfl, by decide +kernel, by decide +kernel⟩
def w__law_pick : WS :=
    (wRet (wOp roIx (wVar 1) (wCall sp__law_draw (wCons (wVar 0) (wCons (wCB rcLen (wCons (wVar 1) wNil)) wNil)))))
theorem b__law_pick (T : Txt K mg) {cdv : Value} {A : Around} {outer : List Env} {s : Shared} {H : Hp} {E : XK} (hr : RoomG 1 (A.deeper (envOfC "_law_pick" (defScope s__law_pick) s.heap.objs.size T.a__law_pick cdv))) :
    DSs (cxOf CX0 P w K mg base N__law_pick "_law_pick" (defScope s__law_pick) T.a__law_pick cdv A outer s H E).nox (defBody s__law_pick) w__law_pick :=
    (dss_one (ds_ret (de_ix ixd (dvar 1) (de_call (fn__law_draw T) (hr.mono (by decide)) (by rfl) T.m__law_draw T.F__law_draw.kp (bi__law_draw T) (da_cons (dvar 0) (da_cons (de_callB cd_len (by rfl) T.n_len bb_len (da_cons (dvar 1) da_nil)) da_nil))) (fun _ _ => rfl))))
local macro_rules | `(tactic| walk_at "un._law_pick") => `(tactic| unfold w__law_pick N__law_pick)
def sp__law_pick : SpD := fun ds s P => ∃ a m t, ds = [.ref a, .str t] ∧ s.dk = some (a, m) ∧ 1 ≤ m ∧ 0 < t.length ∧ t.length ≤ 1000 ∧ ∀ (i : Nat) m2, i < t.length → m - 1 ≤ m2 → P (.str ⟨#[(sg t).getD i 0]⟩) (s.fuel a m2)
theorem len__law_pick : ∀ ds s P, sp__law_pick ds s P → ds.length = 2 := by
  rintro ds s P ⟨a, m, t, rfl, _⟩; rfl
theorem sem__law_pick : ∀ ds s P, sp__law_pick ds s P → w__law_pick { nx := fun _ s' => P .non s', rt := P } (startD N__law_pick ds) s := by
  rintro ds s P ⟨a, m, t, rfl, hd, hm, h0, h1, h⟩
  walk_at "un._law_pick"
  walk_at "ev"
  refine ⟨by rw [sizeLine_eq]; omega, drawI hd ⟨hm, by omega, by omega, fun r r0 r1 => ?_⟩⟩
  obtain ⟨i, rfl⟩ := Int.eq_ofNat_of_zero_le r0
  have hi : i < (sg t).length := by rw [← sg_len]; omega
  simp only [atD_nat, List.getElem?_eq_getElem hi]
  refine ⟨by rw [sizeLine_eq]; omega, ?_⟩
  have := h i (m - 1) (by omega) (Nat.le_refl _)
  rw [List.getD_eq_getElem?_getD, List.getElem?_eq_getElem hi] at this
  exact this

theorem fn__law_pick (T : Txt K mg) : FnD P w K mg base 2 T.a__law_pick T.fd__law_pick ["_law_deck_here", "_law_items"] sp__law_pick :=
  fnD_of T.F__law_pick sc__law_pick len__law_pick (fun cdv A outer s H E hr => b__law_pick T hr) sem__law_pick
/-! #### _law_names -/
theorem bi__law_names (T : Txt K mg) : Binds K T.fd__law_names ["_law_deck_here", "_law_count"] [] := T.F__law_names.binds fun _ _ _ _ _ _ us hl => match us, hl with | [_, _], _ => rfl
def N__law_names : List Str := ["_law_deck_here", "_law_count", "_law_letters", "_law_way", "_law_at", "_law_first", "_law_stem", "_law_k", "_law_words"]
theorem sc__law_names : FnScope N__law_names ["_law_deck_here", "_law_count"] (defScope s__law_names) := ⟨rfl, rfl, rfl, by decide +kernel, rfl, by decide +kernel, by decide +kernel⟩
def w__law_names_e1 : WE :=
    (wCall sp__law_pick (wCons (wVar 0) (wCons (wVar 2) wNil)))
def w__law_names_e2 : WE :=
    (wIfE (wTst (wOp roLt (wVar 1) (wC (.int 9)))) (wSlS (wVar 6) woN (woS (wOp roAdd (wVar 7) (wC (.int 1))))) (wOp roIx (wVar 2) (wOp roMod (wOp roAdd (wVar 5) (wVar 7)) (wC (.int 26)))))
def w__law_names_e3 : WE :=
    (wOp roIx (wVar 8) (wOp roMod (wOp roAdd (wVar 5) (wVar 7)) (wC (.int 12))))
def w__law_names_e4 : WE :=
    (wOp roAdd (wOp roAdd (wSlS (wVar 6) woN (woS (wVar 4))) (wOp roIx (wVar 2) (wOp roMod (wOp roAdd (wVar 5) (wVar 7)) (wC (.int 26))))) (wSlS (wVar 6) (woS (wOp roAdd (wVar 4) (wC (.int 1)))) woN))
def w__law_names_t1 : WS :=
    (wRet (wFz (wLc [7] (wiR1 (wCons (wVar 1) wNil)) (wgName 7) wYes w__law_names_e4)))
def w__law_names_t2 : WS :=
    (wSeq (wIf (wTst (wOp roEq (wVar 3) (wC (.int 2)))) (wRet (wFz (wLc [7] (wiR1 (wCons (wVar 1) wNil)) (wgName 7) wYes w__law_names_e3))) wNext)
      w__law_names_t1)
def w__law_names : WS :=
    (wSeq (wAsg (wTup (wCons (wC (.str (Str.ofString "abcdefghijklmnopqrstuvwxyz"))) (wCons (wCall sp__law_draw (wCons (wVar 0) (wCons (wC (.int 3)) wNil))) (wCons (wCall sp__law_draw (wCons (wVar 0) (wCons (wC (.int 8)) wNil))) (wCons (wCall sp__law_draw (wCons (wVar 0) (wCons (wC (.int 26)) wNil))) wNil))))) (wgTup 4 (wgCons (wgName 2) (wgCons (wgName 3) (wgCons (wgName 4) (wgCons (wgName 5) wgNil))))))
      (wSeq (wAsg (wMeth "str" rmJoin (wC (.str (Str.ofString ""))) (wCons (wFz (wLc [7] (wiR1 (wCons (wC (.int 8)) wNil)) (wgName 7) wYes w__law_names_e1)) wNil)) (wgName 6))
      (wSeq (wAsg (wFz (wCons (wC (.str (Str.ofString "from"))) (wCons (wC (.str (Str.ofString "where"))) (wCons (wC (.str (Str.ofString "tell"))) (wCons (wC (.str (Str.ofString "once"))) (wCons (wC (.str (Str.ofString "order"))) (wCons (wC (.str (Str.ofString "equal"))) (wCons (wC (.str (Str.ofString "unlike"))) (wCons (wC (.str (Str.ofString "less"))) (wCons (wC (.str (Str.ofString "most"))) (wCons (wC (.str (Str.ofString "among"))) (wCons (wC (.str (Str.ofString "none"))) (wCons (wC (.str (Str.ofString "some"))) wNil))))))))))))) (wgName 8))
      (wSeq (wIf (wTst (wOp roEq (wVar 3) (wC (.int 1)))) (wRet (wFz (wLc [7] (wiR1 (wCons (wVar 1) wNil)) (wgName 7) wYes w__law_names_e2))) wNext)
      w__law_names_t2))))
theorem b__law_names (T : Txt K mg) {cdv : Value} {A : Around} {outer : List Env} {s : Shared} {H : Hp} {E : XK} (hr : RoomG 2 (A.deeper (envOfC "_law_names" (defScope s__law_names) s.heap.objs.size T.a__law_names cdv))) :
    DSs (cxOf CX0 P w K mg base N__law_names "_law_names" (defScope s__law_names) T.a__law_names cdv A outer s H E).nox (defBody s__law_names) w__law_names :=
    (dss_cons (ds_asg (de_tup (da_cons dstr (da_cons (de_call (fn__law_draw T) (hr.mono (by decide)) (by rfl) T.m__law_draw T.F__law_draw.kp (bi__law_draw T) (da_cons (dvar 0) (da_cons dint da_nil))) (da_cons (de_call (fn__law_draw T) (hr.mono (by decide)) (by rfl) T.m__law_draw T.F__law_draw.kp (bi__law_draw T) (da_cons (dvar 0) (da_cons dint da_nil))) (da_cons (de_call (fn__law_draw T) (hr.mono (by decide)) (by rfl) T.m__law_draw T.F__law_draw.kp (bi__law_draw T) (da_cons (dvar 0) (da_cons dint da_nil))) da_nil))))) (dg_tup rfl (dgs_cons (dg_name (i := 2) sc__law_names.nd rfl (by first | exact Or.inl rfl | exact Or.inr rfl)) (dgs_cons (dg_name (i := 3) sc__law_names.nd rfl (by first | exact Or.inl rfl | exact Or.inr rfl)) (dgs_cons (dg_name (i := 4) sc__law_names.nd rfl (by first | exact Or.inl rfl | exact Or.inr rfl)) (dgs_cons (dg_name (i := 5) sc__law_names.nd rfl (by first | exact Or.inl rfl | exact Or.inr rfl)) dgs_nil))))))
      (dss_cons (ds_set (i := 6) sc__law_names.nd rfl (by first | exact Or.inl rfl | exact Or.inr rfl) (de_meth PySem.F.plainAttrs_str PySem.F.slot_str_join PySem.F.type_str_join md_join dstr (da_cons (de_fz (del_lc [("_law_k", 7)] rfl sc__law_names.nd (di_range1 (by rfl) T.n_range (da_cons dint da_nil)) (blkOk_by (own := [("_law_k", 7)]) (N := N__law_names) (sc := (defScope s__law_names)) (by decide +kernel)) (fun _ _ _ _ _ => (dg_name (i := 7) sc__law_names.nd rfl (by first | exact Or.inl rfl | exact Or.inr rfl))) (fun _ _ _ _ _ => dts_nil) (fun _ _ _ _ _ => (de_call (fn__law_pick T) (hr.mono (by decide)) (by rfl) T.m__law_pick T.F__law_pick.kp (bi__law_pick T) (da_cons (dvar 0) (da_cons (dvar 2) da_nil)))))) da_nil)))
      (dss_cons (ds_set (i := 8) sc__law_names.nd rfl (by first | exact Or.inl rfl | exact Or.inr rfl) (de_fz (del_lst (da_cons dstr (da_cons dstr (da_cons dstr (da_cons dstr (da_cons dstr (da_cons dstr (da_cons dstr (da_cons dstr (da_cons dstr (da_cons dstr (da_cons dstr (da_cons dstr da_nil)))))))))))))))
      (dss_cons (ds_if (dt_cmp (od_eq hr.rm.units) (dvar 3) dint (nomark _)) (dss_one (ds_ret (de_fz (del_lc [("_law_k", 7)] rfl sc__law_names.nd (di_range1 (by rfl) T.n_range (da_cons (dvar 1) da_nil)) (blkOk_by (own := [("_law_k", 7)]) (N := N__law_names) (sc := (defScope s__law_names)) (by decide +kernel)) (fun _ _ _ _ _ => (dg_name (i := 7) sc__law_names.nd rfl (by first | exact Or.inl rfl | exact Or.inr rfl))) (fun _ _ _ _ _ => dts_nil) (fun _ _ _ _ _ => (de_if (dt_cmp od_lt (dvar 1) dint (nomark _)) (de_sliceS (dvar 6) dpo_none (dpo_some (de_op od_add (dvar 7) dint))) (de_ix ixd (dvar 2) (de_op od_mod (de_op od_add (dvar 5) (dvar 7)) dint) (fun _ _ => rfl)))))))) dss_nil)
      (dss_cons (ds_if (dt_cmp (od_eq hr.rm.units) (dvar 3) dint (nomark _)) (dss_one (ds_ret (de_fz (del_lc [("_law_k", 7)] rfl sc__law_names.nd (di_range1 (by rfl) T.n_range (da_cons (dvar 1) da_nil)) (blkOk_by (own := [("_law_k", 7)]) (N := N__law_names) (sc := (defScope s__law_names)) (by decide +kernel)) (fun _ _ _ _ _ => (dg_name (i := 7) sc__law_names.nd rfl (by first | exact Or.inl rfl | exact Or.inr rfl))) (fun _ _ _ _ _ => dts_nil) (fun _ _ _ _ _ => (de_ix ixd (dvar 8) (de_op od_mod (de_op od_add (dvar 5) (dvar 7)) dint) (fun _ _ => rfl))))))) dss_nil)
      (dss_one (ds_ret (de_fz (del_lc [("_law_k", 7)] rfl sc__law_names.nd (di_range1 (by rfl) T.n_range (da_cons (dvar 1) da_nil)) (blkOk_by (own := [("_law_k", 7)]) (N := N__law_names) (sc := (defScope s__law_names)) (by decide +kernel)) (fun _ _ _ _ _ => (dg_name (i := 7) sc__law_names.nd rfl (by first | exact Or.inl rfl | exact Or.inr rfl))) (fun _ _ _ _ _ => dts_nil) (fun _ _ _ _ _ => (de_op od_add (de_op od_add (de_sliceS (dvar 6) dpo_none (dpo_some (dvar 4))) (de_ix ixd (dvar 2) (de_op od_mod (de_op od_add (dvar 5) (dvar 7)) dint) (fun _ _ => rfl))) (de_sliceS (dvar 6) (dpo_some (de_op od_add (dvar 4) dint)) dpo_none))))))))))))
local macro_rules | `(tactic| walk_at "un._law_names") => `(tactic| unfold w__law_names N__law_names w__law_names_t2 w__law_names_t1)
def sp__law_names : SpD := fun ds s P => ∃ a m n, ds = [.ref a, .int ((n : Nat) : Int)] ∧ s.dk = some (a, m) ∧ 11 ≤ m ∧ n ≤ 12 ∧ ∀ (ns : List Str) m2, ns.length = n → ns.Nodup → (∀ x ∈ ns, Nam x) → m - 11 ≤ m2 → P (.lst (ns.map .str)) (s.fuel a m2)
theorem len__law_names : ∀ ds s P, sp__law_names ds s P → ds.length = 2 := by
  rintro ds s P ⟨a, m, n, rfl, _⟩; rfl
theorem sem__law_names : ∀ ds s P, sp__law_names ds s P → w__law_names { nx := fun _ s' => P .non s', rt := P } (startD N__law_names ds) s := by
  rintro ds s P ⟨a, m, n, rfl, hd, hm, hn, h⟩
  walk_at "un._law_names"
  walk_at "ev"
  refine drawI hd ⟨by omega, by decide, by decide, fun w w0 w1 => drawF ⟨by omega, by decide, by decide, fun q q0 q1 => drawF ⟨by omega, by decide, by decide, fun f f0 f1 => ?_⟩⟩⟩
  walk_at "ev"
  refine ⟨⟨by decide, by decide⟩, by rw [rngD_length, sizeLine_eq]; decide, ?_⟩
  refine lcW_draw (I := fun s' k => ∃ m2, s' = s.fuel a m2 ∧ m - 11 + k ≤ m2) (Q := fun d => ∃ c, d = .str ⟨#[c]⟩ ∧ 97 ≤ c ∧ c ≤ 122) (n := 0) ?_ ⟨m - 1 - 1 - 1, rfl, by rw [rngD_length]; show m - 11 + (0 + 8) ≤ _; omega⟩ ?_
  · rintro d - s' k R ⟨m2, rfl, h2⟩ hR
    unfold w__law_names_e1
    walk_at "ev"
    refine ⟨a, m2, abc, rfl, rfl, by omega, by rw [abc_len]; decide, by rw [abc_len]; decide, fun i m3 hi hm3 => ?_⟩
    rw [abc_len] at hi
    refine hR _ _ ⟨97 + i, ?_, by omega, by omega⟩ ⟨m3, rfl, by omega⟩
    rw [List.getD_eq_getElem?_getD, abc_at hi]; rfl
  · rintro ys s2 hl hq ⟨m2, rfl, h2⟩
    rw [rngD_length] at hl
    obtain ⟨l, rfl, hq2, hl2⟩ := ones_of hq
    have hl8 : l.length = 8 := hl2.trans hl
    unfold rmJoin
    walk_at "ev"
    simp only [strsD_map]
    obtain ⟨stem, hst⟩ : ∃ stem, Txt.join (Str.ofString "") (l.map fun c => (⟨#[c]⟩ : Str)) = stem := ⟨_, rfl⟩
    have hsg : sg stem = l := by rw [← hst]; exact join_ones l
    have hsl : stem.length = 8 := by rw [sg_len, hsg]; exact hl8
    refine ⟨?_, ?_⟩
    · rw [List.map_map, show (Str.length ∘ fun c => (⟨#[c]⟩ : Str)) = fun _ => 1 from rfl, List.map_const', List.sum_replicate_nat, List.length_map, hl8]; decide
    rw [hst]
    have hz : stem.length ≤ sizeLine := by rw [hsl]; decide
    have hzz : (abc).length ≤ sizeLine := by rw [abc_len]; decide
    have hn2 : -(2 ^ 62) ≤ (n : Int) ∧ (n : Int) < 2 ^ 62 := by omega
    have hn3 : (rngD 0 (n : Int).toNat).length ≤ sizeLine := by rw [rngD_length, sizeLine_eq]; omega
    rw [Int.toNat_natCast]
    rw [Int.toNat_natCast] at hn3
    have done : ∀ F : Nat → Str, (∀ i, i < n → Nam (F i)) → (∀ i j, i < n → j < n → F i = F j → i = j) → P (.lst ((List.range n).map fun i => .str (F i))) (s.fuel a m2) := fun F h1 h2' => by
      have := h ((List.range n).map F) m2 (by simp) (nodup_range_map h2') (fun x hx => by obtain ⟨i, hi, rfl⟩ := List.mem_map.mp hx; exact h1 i (List.mem_range.mp hi)) (by omega)
      rw [List.map_map] at this
      exact this
    by_cases e1 : w = 1
    · simp only [e1, decide_true]
      refine ⟨hn2, hn3, ?_⟩
      by_cases h9 : (n : Int) < 9
      · refine lcW_rng (f := fun i => .str (cutS stem none (some (0 + (i : Int) + 1)))) (fun i hi R hR => ?_) (done _ (fun i hi => ?_) fun i j hi hj e => ?_)
        · unfold w__law_names_e2
          walk_at "ev"
          simp only [h9, decide_true]
          exact ⟨hz, hR⟩
        · refine nam_of (sg_to (by omega)) ?_ ?_ fun c hc => hq2 c (by rw [← hsg]; exact List.mem_of_mem_take hc)
          · rw [List.length_take, hsg]; omega
          · rw [List.length_take, hsg]; omega
        · have := congrArg (fun x => (sg x).length) e
          simp only [sg_to (show (0 : Int) ≤ 0 + (i : Int) + 1 by omega), sg_to (show (0 : Int) ≤ 0 + (j : Int) + 1 by omega), List.length_take, hsg] at this
          omega
      · refine lcW_rng (f := fun i => .str ⟨#[97 + (f.toNat + i) % 26]⟩) (fun i hi R hR => ?_) (done _ (fun i hi => ?_) fun i j hi hj e => ?_)
        · unfold w__law_names_e2
          walk_at "ev"
          simp only [h9, decide_false]
          refine ⟨by decide, ?_⟩
          rw [show (26 : Int) = ((26 : Nat) : Int) from rfl, fmod_small f0 (by decide)]
          refine ⟨hzz, ?_⟩
          rw [atD_nat, show (Str.ofString "abcdefghijklmnopqrstuvwxyz").cps.toList = sg abc from rfl, abc_at (Nat.mod_lt _ (by decide))]
          exact hR
        · refine nam_of (l := [97 + (f.toNat + i) % 26]) rfl (by simp) (by simp) fun c hc => ?_
          simp only [List.mem_singleton] at hc
          omega
        · have := congrArg sg e
          simp only [sg, List.cons.injEq, and_true] at this
          omega
    · simp only [e1, decide_false]
      by_cases e2 : w = 2
      · simp only [e2, decide_true]
        refine ⟨hn2, hn3, ?_⟩
        refine lcW_rng (f := fun i => .str (wordsL.getD ((f.toNat + i) % 12) abc)) (fun i hi R hR => ?_) (done _ (fun i hi => ?_) fun i j hi hj e => ?_)
        · unfold w__law_names_e3
          walk_at "ev"
          refine ⟨by decide, ?_⟩
          have hw : (f.toNat + i) % 12 < wordsL.length := Nat.mod_lt _ (by decide)
          rw [show (12 : Int) = ((12 : Nat) : Int) from rfl, fmod_small f0 (by decide), atD_nat, show [D.str (Str.ofString "from"), D.str (Str.ofString "where"), D.str (Str.ofString "tell"), D.str (Str.ofString "once"), D.str (Str.ofString "order"), D.str (Str.ofString "equal"), D.str (Str.ofString "unlike"), D.str (Str.ofString "less"), D.str (Str.ofString "most"), D.str (Str.ofString "among"), D.str (Str.ofString "none"), D.str (Str.ofString "some")] = wordsL.map .str from rfl, List.getElem?_map, List.getElem?_eq_getElem hw]
          rw [List.getD_eq_getElem?_getD, List.getElem?_eq_getElem hw] at hR
          exact hR
        · have hw : (f.toNat + i) % 12 < wordsL.length := Nat.mod_lt _ (by decide)
          rw [List.getD_eq_getElem?_getD, List.getElem?_eq_getElem hw]
          exact wordsL_nam _ (List.getElem_mem hw)
        · have hw : (f.toNat + i) % 12 < wordsL.length := Nat.mod_lt _ (by decide)
          have hw2 : (f.toNat + j) % 12 < wordsL.length := Nat.mod_lt _ (by decide)
          rw [List.getD_eq_getElem?_getD, List.getD_eq_getElem?_getD, List.getElem?_eq_getElem hw, List.getElem?_eq_getElem hw2] at e
          have := nodup_inj wordsL_nodup hw hw2 e
          omega
      · simp only [e2, decide_false]
        refine ⟨hn2, hn3, ?_⟩
        have key : ∀ i : Nat, sg (cutS stem none (some q) ++ ⟨#[97 + (f.toNat + i) % 26]⟩ ++ cutS stem (some (q + 1)) none) = l.take q.toNat ++ [97 + (f.toNat + i) % 26] ++ l.drop (q.toNat + 1) := fun i => by
          rw [sg_app, sg_app, sg_to q0, sg_from (by omega), hsg, show (q + 1).toNat = q.toNat + 1 by omega]
        refine lcW_rng (f := fun i => .str (cutS stem none (some q) ++ ⟨#[97 + (f.toNat + i) % 26]⟩ ++ cutS stem (some (q + 1)) none)) (fun i hi R hR => ?_) (done _ (fun i hi => ?_) fun i j hi hj e => ?_)
        · unfold w__law_names_e4
          walk_at "ev"
          refine ⟨hz, by decide, ?_⟩
          rw [show (26 : Int) = ((26 : Nat) : Int) from rfl, fmod_small f0 (by decide)]
          refine ⟨hzz, ?_⟩
          rw [atD_nat, show (Str.ofString "abcdefghijklmnopqrstuvwxyz").cps.toList = sg abc from rfl, abc_at (Nat.mod_lt _ (by decide))]
          have l1 := cutS_length stem none (some q)
          have l2 := cutS_length stem (some (q + 1)) none
          have l3 : (cutS stem none (some q) ++ (⟨#[97 + (f.toNat + i) % 26]⟩ : Str)).length ≤ 9 := by
            rw [sg_len, sg_app, List.length_append, ← sg_len]; show _ + 1 ≤ 9; omega
          refine ⟨?_, hz, ?_, hR⟩
          · show _ + 1 ≤ sizeLine; rw [sizeLine_eq]; omega
          · rw [sizeLine_eq]; omega
        · refine nam_of (key i) (by rw [List.length_append, List.length_append, List.length_singleton]; omega) ?_ fun c hc => ?_
          · simp only [List.length_append, List.length_take, List.length_drop, List.length_singleton, hl8]; omega
          · rcases List.mem_append.mp hc with hc | hc
            · rcases List.mem_append.mp hc with hc | hc
              · exact hq2 c (List.mem_of_mem_take hc)
              · simp only [List.mem_singleton] at hc; omega
            · exact hq2 c (List.mem_of_mem_drop hc)
        · have := congrArg sg e
          rw [key, key] at this
          have := List.append_cancel_left (List.append_cancel_right this)
          simp only [List.cons.injEq, and_true] at this
          omega

theorem fn__law_names (T : Txt K mg) : FnD P w K mg base 3 T.a__law_names T.fd__law_names ["_law_deck_here", "_law_count"] sp__law_names :=
  fnD_of T.F__law_names sc__law_names len__law_names (fun cdv A outer s H E hr => b__law_names T hr) sem__law_names
/-! #### _law_due -/
theorem bi__law_due (T : Txt K mg) : Binds K T.fd__law_due ["_law_labels", "_law_cells", "_law_test"] [] := T.F__law_due.binds fun _ _ _ _ _ _ us hl => match us, hl with | [_, _, _], _ => rfl
def N__law_due : List Str := ["_law_labels", "_law_cells", "_law_test", "_law_column", "_law_word", "_law_operand_here", "_law_value_here", "_law_one", "_law_other", "_law_alike"]
theorem sc__law_due : FnScope N__law_due ["_law_labels", "_law_cells", "_law_test"] (defScope s__law_due) := ⟨rfl, rfl, rfl, by decide +kernel, rfl, by decide +kernel, by decide +kernel⟩
def w__law_due_q1 : WT :=
    (wTst (wOp roEq (wVar 7) (wVar 6)))
def w__law_due_e1 : WE :=
    (wVar 7)
def w__law_due_t1 : WS :=
    (wRet (wAndV (wVar 9) (wOp roEq (wOp roIx (wFz (wCBL rcSortI (wCons (wFz (wCons (wVar 6) (wCons (wVar 8) wNil))) wNil))) (wC (.int 0))) (wVar 6))))
def w__law_due_t2 : WS :=
    (wSeq (wAsg (wOp roEq (wCB rcIsi (wCons (wVar 6) (wCons (wC (.ty "str")) wNil))) (wCB rcIsi (wCons (wVar 8) (wCons (wC (.ty "str")) wNil)))) (wgName 9))
      (wSeq (wIf (wTst (wOp roEq (wVar 4) (wC (.str (Str.ofString "less"))))) (wRet (wAndV (wVar 9) (wAndV (wOp roEq (wOp roIx (wFz (wCBL rcSortI (wCons (wFz (wCons (wVar 6) (wCons (wVar 8) wNil))) wNil))) (wC (.int 0))) (wVar 6)) (wOp roNe (wVar 6) (wVar 8))))) wNext)
      w__law_due_t1))
def w__law_due_t3 : WS :=
    (wSeq (wIf (wTst (wOp roEq (wVar 4) (wC (.str (Str.ofString "unlike"))))) (wRet (wNotV (wOp roEq (wVar 6) (wVar 8)))) wNext)
      w__law_due_t2)
def w__law_due_t4 : WS :=
    (wSeq (wIf (wTst (wOp roEq (wVar 4) (wC (.str (Str.ofString "equal"))))) (wRet (wOp roEq (wVar 6) (wVar 8))) wNext)
      w__law_due_t3)
def w__law_due_t5 : WS :=
    (wSeq (wIf (wTst (wOp roIs (wVar 8) (wC .non))) (wRet (wC (.bl false))) wNext)
      w__law_due_t4)
def w__law_due_t6 : WS :=
    (wSeq (wAsg (wVar 5) (wgName 8))
      (wSeq (wIf (wTru (wCB rcIsi (wCons (wVar 5) (wCons (wC (.ty "tuple")) wNil)))) (wAsg (wOp roIx (wVar 1) (wTidx (wVar 0) (wOp roIx (wVar 5) (wC (.int 1))))) (wgName 8)) wNext)
      w__law_due_t5))
def w__law_due_t7 : WS :=
    (wSeq (wIf (wTst (wOp roEq (wVar 4) (wC (.str (Str.ofString "among"))))) (wRet (wOp roNe (wFz (wLc [7] (wiSeq (wVar 5)) (wgName 7) w__law_due_q1 w__law_due_e1)) (wFz wNil))) wNext)
      w__law_due_t6)
def w__law_due_t8 : WS :=
    (wSeq (wIf (wTst (wOp roEq (wVar 4) (wC (.str (Str.ofString "some"))))) (wRet (wC (.bl true))) wNext)
      w__law_due_t7)
def w__law_due_t9 : WS :=
    (wSeq (wIf (wTst (wOp roIs (wVar 6) (wC .non))) (wRet (wC (.bl false))) wNext)
      w__law_due_t8)
def w__law_due : WS :=
    (wSeq (wAsg (wVar 2) (wgTup 3 (wgCons (wgName 3) (wgCons (wgName 4) (wgCons (wgName 5) wgNil)))))
      (wSeq (wAsg (wOp roIx (wVar 1) (wTidx (wVar 0) (wOp roIx (wVar 3) (wC (.int 1))))) (wgName 6))
      (wSeq (wIf (wTst (wOp roEq (wVar 4) (wC (.str (Str.ofString "none"))))) (wRet (wOp roIs (wVar 6) (wC .non))) wNext)
      w__law_due_t9)))
theorem b__law_due (T : Txt K mg) {cdv : Value} {A : Around} {outer : List Env} {s : Shared} {H : Hp} {E : XK} (hr : RoomG 0 (A.deeper (envOfC "_law_due" (defScope s__law_due) s.heap.objs.size T.a__law_due cdv))) :
    DSs (cxOf CX0 P w K mg base N__law_due "_law_due" (defScope s__law_due) T.a__law_due cdv A outer s H E).nox (defBody s__law_due) w__law_due :=
    (dss_cons (ds_asg (dvar 2) (dg_tup rfl (dgs_cons (dg_name (i := 3) sc__law_due.nd rfl (by first | exact Or.inl rfl | exact Or.inr rfl)) (dgs_cons (dg_name (i := 4) sc__law_due.nd rfl (by first | exact Or.inl rfl | exact Or.inr rfl)) (dgs_cons (dg_name (i := 5) sc__law_due.nd rfl (by first | exact Or.inl rfl | exact Or.inr rfl)) dgs_nil)))))
      (dss_cons (ds_set (i := 6) sc__law_due.nd rfl (by first | exact Or.inl rfl | exact Or.inr rfl) (de_ix ixd (dvar 1) (de_tidx (dvar 0) (de_ix ixd (dvar 3) dint (fun _ _ => rfl))) (fun _ _ => rfl)))
      (dss_cons (ds_if (dt_cmp (od_eq hr.rm.units) (dvar 4) dstr (nomark _)) (dss_one (ds_ret (de_cmp od_is (dvar 6) dnon (nomark _)))) dss_nil)
      (dss_cons (ds_if (dt_cmp od_is (dvar 6) dnon (nomark _)) (dss_one (ds_ret dbl)) dss_nil)
      (dss_cons (ds_if (dt_cmp (od_eq hr.rm.units) (dvar 4) dstr (nomark _)) (dss_one (ds_ret dbl)) dss_nil)
      (dss_cons (ds_if (dt_cmp (od_eq hr.rm.units) (dvar 4) dstr (nomark _)) (dss_one (ds_ret (de_cmp (od_ne hr.rm.units) (de_fz (del_lc [("_law_one", 7)] rfl sc__law_due.nd (di_seq (dvar 5)) (blkOk_by (own := [("_law_one", 7)]) (N := N__law_due) (sc := (defScope s__law_due)) (by decide +kernel)) (fun _ _ _ _ _ => (dg_name (i := 7) sc__law_due.nd rfl (by first | exact Or.inl rfl | exact Or.inr rfl))) (fun _ _ _ _ _ => (dts_one (dt_cmp (od_eq hr.rm.units) (dvar 7) (dvar 6) (nomark _)))) (fun _ _ _ _ _ => (dvar 7)))) (de_fz (del_lst da_nil)) (nomark _)))) dss_nil)
      (dss_cons (ds_set (i := 8) sc__law_due.nd rfl (by first | exact Or.inl rfl | exact Or.inr rfl) (dvar 5))
      (dss_cons (ds_if (dt_truth (de_callB cd_isi (by rfl) T.n_isinstance bb_isinstance (da_cons (dvar 5) (da_cons (dty (T := "tuple") (by rfl) T.n_tuple bb_tuple) da_nil)))) (dss_one (ds_set (i := 8) sc__law_due.nd rfl (by first | exact Or.inl rfl | exact Or.inr rfl) (de_ix ixd (dvar 1) (de_tidx (dvar 0) (de_ix ixd (dvar 5) dint (fun _ _ => rfl))) (fun _ _ => rfl)))) dss_nil)
      (dss_cons (ds_if (dt_cmp od_is (dvar 8) dnon (nomark _)) (dss_one (ds_ret dbl)) dss_nil)
      (dss_cons (ds_if (dt_cmp (od_eq hr.rm.units) (dvar 4) dstr (nomark _)) (dss_one (ds_ret (de_cmp (od_eq hr.rm.units) (dvar 6) (dvar 8) (nomark _)))) dss_nil)
      (dss_cons (ds_if (dt_cmp (od_eq hr.rm.units) (dvar 4) dstr (nomark _)) (dss_one (ds_ret (de_not (de_cmp (od_eq hr.rm.units) (dvar 6) (dvar 8) (nomark _))))) dss_nil)
      (dss_cons (ds_set (i := 9) sc__law_due.nd rfl (by first | exact Or.inl rfl | exact Or.inr rfl) (de_cmp (od_eq hr.rm.units) (de_callB cd_isi (by rfl) T.n_isinstance bb_isinstance (da_cons (dvar 6) (da_cons (dty (T := "str") (by rfl) T.n_str bb_str) da_nil))) (de_callB cd_isi (by rfl) T.n_isinstance bb_isinstance (da_cons (dvar 8) (da_cons (dty (T := "str") (by rfl) T.n_str bb_str) da_nil))) (nomark _)))
      (dss_cons (ds_if (dt_cmp (od_eq hr.rm.units) (dvar 4) dstr (nomark _)) (dss_one (ds_ret (de_and (dvar 9) (de_and (de_cmp (od_eq hr.rm.units) (de_ix ixd (de_fz (del_callB cd_sortI (by rfl) T.n_sorted bb_sorted (da_cons (de_fz (del_lst (da_cons (dvar 6) (da_cons (dvar 8) da_nil)))) da_nil))) dint (fun _ _ => rfl)) (dvar 6) (nomark _)) (de_one (de_cmp (od_ne hr.rm.units) (dvar 6) (dvar 8) (nomark _))))))) dss_nil)
      (dss_one (ds_ret (de_and (dvar 9) (de_one (de_cmp (od_eq hr.rm.units) (de_ix ixd (de_fz (del_callB cd_sortI (by rfl) T.n_sorted bb_sorted (da_cons (de_fz (del_lst (da_cons (dvar 6) (da_cons (dvar 8) da_nil)))) da_nil))) dint (fun _ _ => rfl)) (dvar 6) (nomark _)))))))))))))))))))
local macro_rules | `(tactic| walk_at "un._law_due") => `(tactic| unfold w__law_due N__law_due w__law_due_t9 w__law_due_t8 w__law_due_t7 w__law_due_t6 w__law_due_t5 w__law_due_t4 w__law_due_t3 w__law_due_t2 w__law_due_t1)
def sp__law_due : SpD := fun ds s P => ∃ labs cs al x w o, ds = [labD labs, .tup cs, tstD al x w o] ∧ Row labs cs ∧ x ∈ labs ∧ Opd al labs w o ∧ P (.bl (dueB labs cs x w o)) s
theorem len__law_due : ∀ ds s P, sp__law_due ds s P → ds.length = 3 := by
  rintro ds s P ⟨labs, cs, al, x, w, o, rfl, _⟩; rfl
theorem sem__law_due : ∀ ds s P, sp__law_due ds s P → w__law_due { nx := fun _ s' => P .non s', rt := P } (startD N__law_due ds) s := by
  rintro ds s P ⟨labs, cs, al, x, w, o, rfl, hr, hx, ho, h⟩
  obtain ⟨ea, hc⟩ := at_row hr hx
  unfold w__law_due w__law_due_t9 w__law_due_t8 w__law_due_t7 N__law_due tstD labD
  revert h
  unfold dueB
  generalize hv : at' labs cs x = v at ea hc ⊢
  intro h
  have hc' := hc
  rcases ho with ⟨rfl | rfl, rfl⟩ | ⟨rfl, os, rfl, hl, ho⟩ | ⟨hw, ho⟩
  · walk_at "ev"
    simp only [strsD_map, ea, hx, true_and, decide_true]
    rcases hc with rfl | ⟨i, rfl, _⟩ | ⟨z, rfl, _⟩ <;> exact h
  · walk_at "ev"
    simp only [strsD_map, ea, hx, true_and, decide_true, ofS_eq] at h ⊢
    rcases hc with rfl | ⟨i, rfl, _⟩ | ⟨z, rfl, _⟩ <;> simpa [isN] using h
  · have e3 : ∀ d ∈ os, ∃ b, D.eq d v = b := fun d _ => ⟨_, rfl⟩
    walk_at "ev"
    simp only [strsD_map, ea, hx, true_and, decide_true, ofS_eq] at h ⊢
    simp only [show ("among" = "none") = False by simp, show ("among" = "some") = False by simp, decide_false, if_false, if_true, among'] at h ⊢
    have hos : os.length ≤ sizeLine := by rw [sizeLine_eq]; omega
    have hsc : ∀ e ∈ os, e.scal = true := fun e he => by rcases (ho e he).1 with rfl | ⟨i, rfl, _⟩ | ⟨x, rfl, _⟩ <;> rfl
    have step : v.scal = true → P (.bl (os.any fun e => D.eq e v)) s → lcW [7] (wgName 7) w__law_due_q1 w__law_due_e1 [some (D.tup (List.map D.str labs)), some (D.tup cs), some (D.tup [D.tup [D.str al, D.str x], D.str (Str.ofString "among"), D.tup os]), some (D.tup [D.str al, D.str x]), some (D.str (Str.ofString "among")), some (D.tup os), some v, none, none, none] os s fun ds s1 => roNe (D.lst ds) (D.lst []) s1 P := fun hvs hp => by
      refine lcW_pure (p := fun d => D.eq d v) (f := id) (fun d hd R0 R1 h0 h1 => ?_) ?_
      · unfold w__law_due_q1 w__law_due_e1
        walk_at "ev"
        rw [roEq_sc (hsc d hd) hvs]
        cases q : D.eq d v
        · exact h0 q
        · exact h1 q
      · rw [List.map_id, roNe_emp (d := .lst (os.filter fun d => D.eq d v)) (ds := os.filter fun d => D.eq d v) rfl (allData_of fun d hd => data_scal (hsc d (List.mem_filter.mp hd).1))]
        have : (!(List.filter (fun d => d.eq v) os).isEmpty) = os.any fun e => D.eq e v := by
          rw [Bool.eq_iff_iff]; simp
        rw [this]; exact hp
    rcases hc with rfl | ⟨i, rfl, _⟩ | ⟨z, rfl, _⟩
    · exact h
    · exact ⟨hos, step rfl h⟩
    · exact ⟨hos, step rfl h⟩
  · have n1 : w ≠ "none" := by rcases hw with rfl | rfl | rfl | rfl <;> simp [ofS_eq]
    have n2 : w ≠ "some" := by rcases hw with rfl | rfl | rfl | rfl <;> simp [ofS_eq]
    have n3 : w ≠ "among" := by rcases hw with rfl | rfl | rfl | rfl <;> simp [ofS_eq]
    rw [if_neg n1, if_neg n2, if_neg n3] at h
    walk_at "ev"
    simp only [strsD_map, ea, hx, true_and, n1, n2, n3, decide_false]
    have tail : ∀ u, Cel u → isN v = false → P (.bl (if isN u = true then false else cmpD w v u)) s → w__law_due_t5 { nx := fun _ s' => P .non s', rt := P } [some (.tup (List.map D.str labs)), some (.tup cs), some (.tup [.tup [.str al, .str x], .str w, o]), some (.tup [.str al, .str x]), some (.str w), some o, some v, none, some u, none] s := by
      intro u hu hv0 h
      unfold w__law_due_t5 w__law_due_t4 w__law_due_t3 w__law_due_t2 w__law_due_t1
      walk_at "ev"
      rcases hu with rfl | ⟨j, rfl, _⟩ | ⟨z2, rfl, _⟩
      · exact h
      all_goals rcases hc with rfl | ⟨i, rfl, _⟩ | ⟨z, rfl, _⟩ <;> first | (cases hv0; done) | skip
      all_goals walk_at "ev"
      all_goals rcases hw with rfl | rfl | rfl | rfl <;> simp only [ofS_eq, isi_int, isi_str, okT_str, true_and, show ("str" == "int") = false from rfl, show ("str" == "str") = true from rfl, isN, cmpD, ofS_eq, String.reduceEq, if_false, if_true, decide_false, decide_true, Bool.false_eq_true, Bool.true_eq_false] at h ⊢ <;> walk_at "ev" <;> (try simp only [decide_true, decide_false, Bool.false_eq_true, Bool.true_eq_false]) <;> first | exact h | skip
      · refine sortII ?_
        by_cases q : i ≤ j
        · simp only [q, decide_true]
          have : decide (i < j) = !decide (i = j) := by rw [← decide_not, decide_eq_decide]; omega
          rw [this] at h; exact h
        · simp only [q, decide_false]
          rw [show decide (i < j) = false from decide_eq_false (by omega)] at h; exact h
      · exact sortII h
      · refine sortSS ?_
        rw [slt_iff] at h
        by_cases q : z2.cps.toList < z.cps.toList
        · simp only [q, decide_true, Bool.not_true, Bool.false_and] at h ⊢; exact h
        · simp only [q, decide_false, Bool.not_false, Bool.true_and] at h ⊢; exact h
      · exact sortSS h
    unfold w__law_due_t6
    have hn : isN v = true → P (.bl false) s := fun q => by rw [if_pos q] at h; exact h
    have hp : isN v = false → P (.bl (if isN (other' labs cs o) = true then false else cmpD w v (other' labs cs o))) s := fun q => by rw [if_neg (by rw [q]; decide)] at h; exact h
    rcases ho with ⟨co, no⟩ | ⟨y, hy, rfl⟩
    · have ho2 : other' labs cs o = o := by rcases co with rfl | ⟨j, rfl, _⟩ | ⟨z2, rfl, _⟩ <;> rfl
      rw [ho2] at hp
      rcases hc' with rfl | ⟨i, rfl, _⟩ | ⟨z, rfl, _⟩
      · exact hn rfl
      all_goals
        walk_at "ev"
        have hp := tail o co rfl (hp rfl)
        rcases co with rfl | ⟨j, rfl, _⟩ | ⟨z2, rfl, _⟩
        · cases no
        · simp only [isi_int, okT_tuple, true_and]; exact hp
        · simp only [isi_str, okT_tuple, true_and]; exact hp
    · obtain ⟨eb, hd⟩ := at_row hr hy
      rcases hc' with rfl | ⟨i, rfl, _⟩ | ⟨z, rfl, _⟩
      · exact hn rfl
      all_goals
        walk_at "ev"
        have hp := tail _ hd rfl (hp rfl)
        simp only [isi_tup, D.allData, D.isData, okT_tuple]
        walk_at "ev"
        simp only [strsD_map, eb, hy, true_and]
        refine ⟨rfl, hp⟩

theorem fn__law_due (T : Txt K mg) : FnD P w K mg base 1 T.a__law_due T.fd__law_due ["_law_labels", "_law_cells", "_law_test"] sp__law_due :=
  fnD_of T.F__law_due sc__law_due len__law_due (fun cdv A outer s H E hr => b__law_due T hr) sem__law_due
/-! #### _law_value -/
theorem bi__law_value (T : Txt K mg) : Binds K T.fd__law_value ["_law_deck_here"] [] := T.F__law_value.binds fun _ _ _ _ _ _ us hl => match us, hl with | [_], _ => rfl
def N__law_value : List Str := ["_law_deck_here", "_law_way"]
theorem sc__law_value : FnScope N__law_value ["_law_deck_here"] (defScope s__law_value) := ⟨rfl, rfl, rfl, by decide +kernel, rfl, by decide +kernel, by decide +kernel⟩
def w__law_value_t1 : WS :=
    (wRet (wOp roIx (wFz (wCons (wC (.str (Str.ofString "a"))) (wCons (wC (.str (Str.ofString "b"))) (wCons (wC (.str (Str.ofString "ab"))) (wCons (wC (.str (Str.ofString "z"))) (wCons (wC (.str (Str.ofString "zzzzzzzz"))) (wCons (wC (.str (Str.ofString "x"))) wNil))))))) (wCall sp__law_draw (wCons (wVar 0) (wCons (wC (.int 6)) wNil)))))
def w__law_value_t2 : WS :=
    (wSeq (wIf (wTst (wOp roLt (wVar 1) (wC (.int 5)))) (wRet (wOp roIx (wFz (wCons (wC (.int 0)) (wCons (wC (.int 1)) (wCons (wC (.int 2)) (wCons (wNeg (wC (.int 1))) (wCons (wOp roPow (wC (.int 10)) (wC (.int 12))) (wCons (wNeg (wOp roPow (wC (.int 10)) (wC (.int 12)))) (wCons (wC (.int 7)) wNil)))))))) (wCall sp__law_draw (wCons (wVar 0) (wCons (wC (.int 7)) wNil))))) wNext)
      w__law_value_t1)
def w__law_value : WS :=
    (wSeq (wAsg (wCall sp__law_draw (wCons (wVar 0) (wCons (wC (.int 8)) wNil))) (wgName 1))
      (wSeq (wIf (wTst (wOp roEq (wVar 1) (wC (.int 0)))) (wRet (wC .non)) wNext)
      w__law_value_t2))
theorem b__law_value (T : Txt K mg) {cdv : Value} {A : Around} {outer : List Env} {s : Shared} {H : Hp} {E : XK} (hr : RoomG 1 (A.deeper (envOfC "_law_value" (defScope s__law_value) s.heap.objs.size T.a__law_value cdv))) :
    DSs (cxOf CX0 P w K mg base N__law_value "_law_value" (defScope s__law_value) T.a__law_value cdv A outer s H E).nox (defBody s__law_value) w__law_value :=
    (dss_cons (ds_set (i := 1) sc__law_value.nd rfl (by first | exact Or.inl rfl | exact Or.inr rfl) (de_call (fn__law_draw T) (hr.mono (by decide)) (by rfl) T.m__law_draw T.F__law_draw.kp (bi__law_draw T) (da_cons (dvar 0) (da_cons dint da_nil))))
      (dss_cons (ds_if (dt_cmp (od_eq hr.rm.units) (dvar 1) dint (nomark _)) (dss_one (ds_ret dnon)) dss_nil)
      (dss_cons (ds_if (dt_cmp od_lt (dvar 1) dint (nomark _)) (dss_one (ds_ret (de_ix ixd (de_fz (del_lst (da_cons dint (da_cons dint (da_cons dint (da_cons (de_neg dint) (da_cons (de_op od_pow dint dint) (da_cons (de_neg (de_op od_pow dint dint)) (da_cons dint da_nil))))))))) (de_call (fn__law_draw T) (hr.mono (by decide)) (by rfl) T.m__law_draw T.F__law_draw.kp (bi__law_draw T) (da_cons (dvar 0) (da_cons dint da_nil))) (fun _ _ => rfl)))) dss_nil)
      (dss_one (ds_ret (de_ix ixd (de_fz (del_lst (da_cons dstr (da_cons dstr (da_cons dstr (da_cons dstr (da_cons dstr (da_cons dstr da_nil)))))))) (de_call (fn__law_draw T) (hr.mono (by decide)) (by rfl) T.m__law_draw T.F__law_draw.kp (bi__law_draw T) (da_cons (dvar 0) (da_cons dint da_nil))) (fun _ _ => rfl)))))))
local macro_rules | `(tactic| walk_at "un._law_value") => `(tactic| unfold w__law_value N__law_value w__law_value_t2 w__law_value_t1)
def sp__law_value : SpD := fun ds s P => ∃ a m, ds = [.ref a] ∧ s.dk = some (a, m) ∧ 2 ≤ m ∧ ∀ d m2, Cel d → m - 2 ≤ m2 → P d (s.fuel a m2)
theorem len__law_value : ∀ ds s P, sp__law_value ds s P → ds.length = 1 := by
  rintro ds s P ⟨a, m, rfl, _⟩; rfl
theorem sem__law_value : ∀ ds s P, sp__law_value ds s P → w__law_value { nx := fun _ s' => P .non s', rt := P } (startD N__law_value ds) s := by
  rintro ds s P ⟨a, m, rfl, hd, hm, h⟩
  walk_at "un._law_value"
  walk_at "ev"
  refine drawI hd ⟨by omega, by decide, by decide, fun w w0 w1 => ?_⟩
  walk_at "ev"
  by_cases e0 : w = 0
  · simp only [e0, decide_true]
    exact h _ _ (.inl rfl) (by omega)
  · simp only [e0, decide_false]
    by_cases e1 : w < 5
    · simp only [e1, decide_true]
      refine ⟨cpow_small (by decide) (by decide) (by decide), cpow_small (by decide) (by decide) (by decide), drawF ⟨by omega, by decide, by decide, fun r r0 r1 => ?_⟩⟩
      walk_at "ev"
      rw [atI_lt _ r0 (by simpa using r1)]
      refine h _ _ (.inr (.inl ?_)) (by omega)
      have : ∀ d ∈ [D.int 0, D.int 1, D.int 2, D.int (-1), D.int (10 ^ Int.toNat 12), D.int (-10 ^ Int.toNat 12), D.int 7], ∃ i : Int, d = .int i ∧ i.natAbs ≤ 10 ^ 12 := by
        intro d hd
        simp only [List.mem_cons, List.not_mem_nil, or_false] at hd
        rcases hd with rfl | rfl | rfl | rfl | rfl | rfl | rfl <;> exact ⟨_, rfl, by decide⟩
      exact this _ (List.getElem_mem _)
    · simp only [e1, decide_false]
      refine drawF ⟨by omega, by decide, by decide, fun r r0 r1 => ?_⟩
      walk_at "ev"
      rw [atI_lt _ r0 (by simpa using r1)]
      refine h _ _ (.inr (.inr ?_)) (by omega)
      have : ∀ d ∈ [D.str (Str.ofString "a"), D.str (Str.ofString "b"), D.str (Str.ofString "ab"), D.str (Str.ofString "z"), D.str (Str.ofString "zzzzzzzz"), D.str (Str.ofString "x")], ∃ x : Str, d = .str x ∧ x.length ≤ 8 ∧ ∀ c ∈ x.cps.toList, c < 16 ^ 8 := by
        intro d hd
        simp only [List.mem_cons, List.not_mem_nil, or_false] at hd
        rcases hd with rfl | rfl | rfl | rfl | rfl | rfl <;> exact ⟨_, rfl, by decide +kernel⟩
      exact this _ (List.getElem_mem _)

theorem fn__law_value (T : Txt K mg) : FnD P w K mg base 2 T.a__law_value T.fd__law_value ["_law_deck_here"] sp__law_value :=
  fnD_of T.F__law_value sc__law_value len__law_value (fun cdv A outer s H E hr => b__law_value T hr) sem__law_value
/-! #### _law_operand -/
theorem bi__law_operand (T : Txt K mg) : Binds K T.fd__law_operand ["_law_deck_here", "_law_alias", "_law_labels", "_law_cells", "_law_value_here"] [] := T.F__law_operand.binds fun _ _ _ _ _ _ us hl => match us, hl with | [_, _, _, _, _], _ => rfl
def N__law_operand : List Str := ["_law_deck_here", "_law_alias", "_law_labels", "_law_cells", "_law_value_here", "_law_way", "_law_found"]
theorem sc__law_operand : FnScope N__law_operand ["_law_deck_here", "_law_alias", "_law_labels", "_law_cells", "_law_value_here"] (defScope s__law_operand) := ⟨rfl, rfl, rfl, by decide +kernel, rfl, by decide +kernel, by decide +kernel⟩
def w__law_operand_t1 : WS :=
    (wSeq (wAsg (wCall sp__law_value (wCons (wVar 0) wNil)) (wgName 6))
      (wRet (wIfE (wTst (wOp roIs (wVar 6) (wC .non))) (wC (.int 0)) (wVar 6))))
def w__law_operand_t2 : WS :=
    (wSeq (wIf (wAnd (wTst (wOp roEq (wVar 5) (wC (.int 3)))) (wAnd (wTru (wCB rcIsi (wCons (wVar 4) (wCons (wC (.ty "str")) wNil)))) (wTst (wOp roLt (wCB rcLen (wCons (wVar 4) wNil)) (wC (.int 8)))))) (wRet (wOp roAdd (wVar 4) (wC (.str (Str.ofString "a"))))) wNext)
      w__law_operand_t1)
def w__law_operand_t3 : WS :=
    (wSeq (wIf (wAnd (wTst (wOp roEq (wVar 5) (wC (.int 3)))) (wAnd (wTru (wCB rcIsi (wCons (wVar 4) (wCons (wC (.ty "int")) wNil)))) (wTst (wOp roLt (wCB rcAbs (wCons (wVar 4) wNil)) (wOp roPow (wC (.int 10)) (wC (.int 12))))))) (wRet (wOp roSub (wOp roAdd (wVar 4) (wC (.int 1))) (wOp roMul (wC (.int 2)) (wCall sp__law_draw (wCons (wVar 0) (wCons (wC (.int 2)) wNil)))))) wNext)
      w__law_operand_t2)
def w__law_operand_t4 : WS :=
    (wSeq (wIf (wAnd (wTst (wOp roEq (wVar 5) (wC (.int 2)))) (wTst (wOp roIsNot (wVar 4) (wC .non)))) (wRet (wVar 4)) wNext)
      w__law_operand_t3)
def w__law_operand : WS :=
    (wSeq (wAsg (wCall sp__law_draw (wCons (wVar 0) (wCons (wC (.int 6)) wNil))) (wgName 5))
      (wSeq (wIf (wTst (wOp roLt (wVar 5) (wC (.int 2)))) (wRet (wTup (wCons (wVar 1) (wCons (wOp roIx (wVar 2) (wCall sp__law_draw (wCons (wVar 0) (wCons (wCB rcLen (wCons (wVar 2) wNil)) wNil)))) wNil)))) wNext)
      w__law_operand_t4))
theorem b__law_operand (T : Txt K mg) {cdv : Value} {A : Around} {outer : List Env} {s : Shared} {H : Hp} {E : XK} (hr : RoomG 2 (A.deeper (envOfC "_law_operand" (defScope s__law_operand) s.heap.objs.size T.a__law_operand cdv))) :
    DSs (cxOf CX0 P w K mg base N__law_operand "_law_operand" (defScope s__law_operand) T.a__law_operand cdv A outer s H E).nox (defBody s__law_operand) w__law_operand :=
    (dss_cons (ds_set (i := 5) sc__law_operand.nd rfl (by first | exact Or.inl rfl | exact Or.inr rfl) (de_call (fn__law_draw T) (hr.mono (by decide)) (by rfl) T.m__law_draw T.F__law_draw.kp (bi__law_draw T) (da_cons (dvar 0) (da_cons dint da_nil))))
      (dss_cons (ds_if (dt_cmp od_lt (dvar 5) dint (nomark _)) (dss_one (ds_ret (de_tup (da_cons (dvar 1) (da_cons (de_ix ixd (dvar 2) (de_call (fn__law_draw T) (hr.mono (by decide)) (by rfl) T.m__law_draw T.F__law_draw.kp (bi__law_draw T) (da_cons (dvar 0) (da_cons (de_callB cd_len (by rfl) T.n_len bb_len (da_cons (dvar 2) da_nil)) da_nil))) (fun _ _ => rfl)) da_nil))))) dss_nil)
      (dss_cons (ds_if (PW.pt (dw_and (dt_cmp (od_eq hr.rm.units) (dvar 5) dint (nomark _)) (dw_and1 (dt_cmp od_isnot (dvar 4) dnon (nomark _))))) (dss_one (ds_ret (dvar 4))) dss_nil)
      (dss_cons (ds_if (PW.pt (dw_and (dt_cmp (od_eq hr.rm.units) (dvar 5) dint (nomark _)) (dw_and (dt_truth (de_callB cd_isi (by rfl) T.n_isinstance bb_isinstance (da_cons (dvar 4) (da_cons (dty (T := "int") (by rfl) T.n_int bb_int) da_nil)))) (dw_and1 (dt_cmp od_lt (de_callB cd_abs (by rfl) T.n_abs bb_abs (da_cons (dvar 4) da_nil)) (de_op od_pow dint dint) (nomark _)))))) (dss_one (ds_ret (de_op od_sub (de_op od_add (dvar 4) dint) (de_op od_mul dint (de_call (fn__law_draw T) (hr.mono (by decide)) (by rfl) T.m__law_draw T.F__law_draw.kp (bi__law_draw T) (da_cons (dvar 0) (da_cons dint da_nil))))))) dss_nil)
      (dss_cons (ds_if (PW.pt (dw_and (dt_cmp (od_eq hr.rm.units) (dvar 5) dint (nomark _)) (dw_and (dt_truth (de_callB cd_isi (by rfl) T.n_isinstance bb_isinstance (da_cons (dvar 4) (da_cons (dty (T := "str") (by rfl) T.n_str bb_str) da_nil)))) (dw_and1 (dt_cmp od_lt (de_callB cd_len (by rfl) T.n_len bb_len (da_cons (dvar 4) da_nil)) dint (nomark _)))))) (dss_one (ds_ret (de_op od_add (dvar 4) dstr))) dss_nil)
      (dss_cons (ds_set (i := 6) sc__law_operand.nd rfl (by first | exact Or.inl rfl | exact Or.inr rfl) (de_call (fn__law_value T) (hr.mono (by decide)) (by rfl) T.m__law_value T.F__law_value.kp (bi__law_value T) (da_cons (dvar 0) da_nil)))
      (dss_one (ds_ret (de_if (dt_cmp od_is (dvar 6) dnon (nomark _)) dint (dvar 6))))))))))
local macro_rules | `(tactic| walk_at "un._law_operand") => `(tactic| unfold w__law_operand N__law_operand w__law_operand_t4 w__law_operand_t3 w__law_operand_t2 w__law_operand_t1)
def sp__law_operand : SpD := fun ds s P => ∃ a m al labs cs v, ds = [.ref a, .str al, labD labs, .tup cs, v] ∧ s.dk = some (a, m) ∧ 3 ≤ m ∧ Row labs cs ∧ Cel v ∧ ∀ o m2, ((Cel o ∧ isN o = false) ∨ ∃ y, y ∈ labs ∧ o = .tup [.str al, .str y]) → m - 3 ≤ m2 → P o (s.fuel a m2)
theorem len__law_operand : ∀ ds s P, sp__law_operand ds s P → ds.length = 5 := by
  rintro ds s P ⟨a, m, al, labs, cs, v, rfl, _⟩; rfl
theorem sem__law_operand : ∀ ds s P, sp__law_operand ds s P → w__law_operand { nx := fun _ s' => P .non s', rt := P } (startD N__law_operand ds) s := by
  rintro ds s P ⟨a, m, al, labs, cs, v, rfl, hd, hm, hr, hv, h⟩
  obtain ⟨l0, l1⟩ := row_len hr
  have tail : ∀ (o : Option D) m2, m - 1 ≤ m2 → w__law_operand_t1 { nx := fun _ s' => P .non s', rt := P } [some (.ref a), some (.str al), some (labD labs), some (.tup cs), some v, o, none] (s.fuel a m2) := fun o m2 h2 => by
    unfold w__law_operand_t1
    walk_at "ev"
    refine ⟨a, m2, rfl, rfl, by omega, fun d m3 hd h3 => ?_⟩
    rcases hd with rfl | ⟨i, rfl, hi⟩ | ⟨x, rfl, hx⟩
    · walk_at "ev"; exact h _ _ (.inl ⟨.inr (.inl ⟨0, rfl, by decide⟩), rfl⟩) (by omega)
    · walk_at "ev"; exact h _ _ (.inl ⟨.inr (.inl ⟨i, rfl, hi⟩), rfl⟩) (by omega)
    · walk_at "ev"; exact h _ _ (.inl ⟨.inr (.inr ⟨x, rfl, hx⟩), rfl⟩) (by omega)
  unfold w__law_operand w__law_operand_t4 N__law_operand labD
  walk_at "ev"
  refine drawI hd ⟨by omega, by decide, by decide, fun w w0 w1 => ?_⟩
  walk_at "ev"
  by_cases e0 : w < 2
  · simp only [e0, decide_true, List.length_map]
    refine drawF ⟨by omega, by omega, by omega, fun r r0 r1 => ?_⟩
    walk_at "ev"
    rw [atI_lt _ r0 (by rw [List.length_map]; exact r1), List.getElem_map]
    exact h _ _ (.inr ⟨_, List.getElem_mem _, rfl⟩) (by omega)
  · simp only [e0, decide_false]
    by_cases e2 : w = 2
    · simp only [e2, decide_true]
      rcases hv with rfl | ⟨i, rfl, hi⟩ | ⟨x, rfl, hx⟩
      · unfold w__law_operand_t3 w__law_operand_t2
        walk_at "ev"
        exact tail _ _ (Nat.le_refl _)
      · exact h _ _ (.inl ⟨.inr (.inl ⟨i, rfl, hi⟩), rfl⟩) (by omega)
      · exact h _ _ (.inl ⟨.inr (.inr ⟨x, rfl, hx⟩), rfl⟩) (by omega)
    · simp only [e2, decide_false]
      unfold w__law_operand_t3 w__law_operand_t2
      walk_at "ev"
      by_cases e3 : w = 3
      · simp only [e3, decide_true]
        rcases hv with rfl | ⟨i, rfl, hi⟩ | ⟨x, rfl, hx⟩
        · simp only [isi_non, okT_int, okT_str, true_and]
          walk_at "ev"
          exact tail _ _ (Nat.le_refl _)
        · simp only [isi_int, okT_int, okT_str, true_and, show ("int" == "int") = true from rfl, show ("str" == "int") = false from rfl]
          walk_at "ev"
          refine ⟨cpow_small (by decide) (by decide) (by decide), ?_⟩
          by_cases e4 : (if i < 0 then -i else i) < 10 ^ Int.toNat 12
          · simp only [e4, decide_true]
            refine drawF ⟨by omega, by decide, by decide, fun r r0 r1 => ?_⟩
            have e5 : (10 : Int) ^ Int.toNat 12 = 1000000000000 := by decide
            rw [e5] at e4
            exact ⟨.inl (by decide), h _ _ (.inl ⟨.inr (.inl ⟨_, rfl, by split at e4 <;> omega⟩), rfl⟩) (by omega)⟩
          · simp only [e4, decide_false]
            exact tail _ _ (Nat.le_refl _)
        · simp only [isi_str, okT_int, okT_str, true_and, show ("int" == "str") = false from rfl, show ("str" == "str") = true from rfl]
          walk_at "ev"
          refine ⟨by rw [sizeLine_eq]; omega, ?_⟩
          by_cases e4 : (x.length : Int) < 8
          · simp only [e4, decide_true]
            have e5 : (x ++ Str.ofString "a").length = x.length + 1 := by rw [sg_len, sg_app, List.length_append, ← sg_len]; rfl
            refine ⟨by show _ + 1 ≤ _; rw [sizeLine_eq]; omega, h _ _ (.inl ⟨.inr (.inr ⟨_, rfl, by omega, fun c hc => ?_⟩), rfl⟩) (by omega)⟩
            rw [show (x ++ Str.ofString "a").cps.toList = sg x ++ [97] from sg_app _ _] at hc
            rcases List.mem_append.mp hc with hc | hc
            · exact hx.2 c hc
            · simp only [List.mem_singleton] at hc; omega
          · simp only [e4, decide_false]
            exact tail _ _ (Nat.le_refl _)
      · simp only [e3, decide_false]
        exact tail _ _ (Nat.le_refl _)

theorem fn__law_operand (T : Txt K mg) : FnD P w K mg base 3 T.a__law_operand T.fd__law_operand ["_law_deck_here", "_law_alias", "_law_labels", "_law_cells", "_law_value_here"] sp__law_operand :=
  fnD_of T.F__law_operand sc__law_operand len__law_operand (fun cdv A outer s H E hr => b__law_operand T hr) sem__law_operand
/-! #### _law_condition -/
theorem bi__law_condition (T : Txt K mg) : Binds K T.fd__law_condition ["_law_deck_here", "_law_alias", "_law_labels", "_law_cells"] [] := T.F__law_condition.binds fun _ _ _ _ _ _ us hl => match us, hl with | [_, _, _, _], _ => rfl
def N__law_condition : List Str := ["_law_deck_here", "_law_alias", "_law_labels", "_law_cells", "_law_at", "_law_column", "_law_value_here", "_law_way", "_law_some", "_law_k", "_law_one", "_law_word"]
theorem sc__law_condition : FnScope N__law_condition ["_law_deck_here", "_law_alias", "_law_labels", "_law_cells"] (defScope s__law_condition) := ⟨rfl, rfl, rfl, by decide +kernel, rfl, by decide +kernel, by decide +kernel⟩
def w__law_condition_e1 : WE :=
    (wCall sp__law_value (wCons (wVar 0) wNil))
def w__law_condition_q1 : WT :=
    (wTst (wOp roIsNot (wVar 10) (wC .non)))
def w__law_condition_e2 : WE :=
    (wVar 10)
def w__law_condition_t1 : WS :=
    (wSeq (wAsg (wOp roIx (wFz (wCons (wC (.str (Str.ofString "equal"))) (wCons (wC (.str (Str.ofString "unlike"))) (wCons (wC (.str (Str.ofString "less"))) (wCons (wC (.str (Str.ofString "most"))) wNil))))) (wCall sp__law_draw (wCons (wVar 0) (wCons (wC (.int 4)) wNil)))) (wgName 11))
      (wRet (wTup (wCons (wVar 5) (wCons (wVar 11) (wCons (wCall sp__law_operand (wCons (wVar 0) (wCons (wVar 1) (wCons (wVar 2) (wCons (wVar 3) (wCons (wVar 6) wNil)))))) wNil))))))
def w__law_condition_t2 : WS :=
    (wSeq (wIf (wTst (wOp roEq (wVar 7) (wC (.int 1)))) (wSeq (wAsg (wOp roAdd (wFz (wLc [9] (wiR1 (wCons (wCall sp__law_draw (wCons (wVar 0) (wCons (wC (.int 13)) wNil))) wNil)) (wgName 9) wYes w__law_condition_e1)) (wOp roMul (wFz (wCons (wVar 6) wNil)) (wCall sp__law_draw (wCons (wVar 0) (wCons (wC (.int 2)) wNil))))) (wgName 8))
      (wRet (wTup (wCons (wVar 5) (wCons (wC (.str (Str.ofString "among"))) (wCons (wCB rcTuple (wCons (wFz (wSlL (wFz (wLc [10] (wiSeq (wVar 8)) (wgName 10) w__law_condition_q1 w__law_condition_e2)) (woS (wNeg (wC (.int 12)))) woN)) wNil)) wNil)))))) wNext)
      w__law_condition_t1)
def w__law_condition : WS :=
    (wSeq (wAsg (wCall sp__law_draw (wCons (wVar 0) (wCons (wCB rcLen (wCons (wVar 2) wNil)) wNil))) (wgName 4))
      (wSeq (wPar 5 6 (wCons (wTup (wCons (wVar 1) (wCons (wOp roIx (wVar 2) (wVar 4)) wNil))) (wCons (wOp roIx (wVar 3) (wVar 4)) wNil)))
      (wSeq (wAsg (wCall sp__law_draw (wCons (wVar 0) (wCons (wC (.int 8)) wNil))) (wgName 7))
      (wSeq (wIf (wTst (wOp roEq (wVar 7) (wC (.int 0)))) (wRet (wTup (wCons (wVar 5) (wCons (wOp roIx (wFz (wCons (wC (.str (Str.ofString "none"))) (wCons (wC (.str (Str.ofString "some"))) wNil))) (wCall sp__law_draw (wCons (wVar 0) (wCons (wC (.int 2)) wNil)))) (wCons (wC .non) wNil))))) wNext)
      w__law_condition_t2))))
theorem b__law_condition (T : Txt K mg) {cdv : Value} {A : Around} {outer : List Env} {s : Shared} {H : Hp} {E : XK} (hr : RoomG 3 (A.deeper (envOfC "_law_condition" (defScope s__law_condition) s.heap.objs.size T.a__law_condition cdv))) :
    DSs (cxOf CX0 P w K mg base N__law_condition "_law_condition" (defScope s__law_condition) T.a__law_condition cdv A outer s H E).nox (defBody s__law_condition) w__law_condition :=
    (dss_cons (ds_set (i := 4) sc__law_condition.nd rfl (by first | exact Or.inl rfl | exact Or.inr rfl) (de_call (fn__law_draw T) (hr.mono (by decide)) (by rfl) T.m__law_draw T.F__law_draw.kp (bi__law_draw T) (da_cons (dvar 0) (da_cons (de_callB cd_len (by rfl) T.n_len bb_len (da_cons (dvar 2) da_nil)) da_nil))))
      (dss_cons (ds_par (i := 5) (j := 6) rfl sc__law_condition.nd rfl rfl (by decide) rfl rfl (da_cons (de_tup (da_cons (dvar 1) (da_cons (de_ix ixd (dvar 2) (dvar 4) (fun _ _ => rfl)) da_nil))) (da_cons (de_ix ixd (dvar 3) (dvar 4) (fun _ _ => rfl)) da_nil)) (by rfl))
      (dss_cons (ds_set (i := 7) sc__law_condition.nd rfl (by first | exact Or.inl rfl | exact Or.inr rfl) (de_call (fn__law_draw T) (hr.mono (by decide)) (by rfl) T.m__law_draw T.F__law_draw.kp (bi__law_draw T) (da_cons (dvar 0) (da_cons dint da_nil))))
      (dss_cons (ds_if (dt_cmp (od_eq hr.rm.units) (dvar 7) dint (nomark _)) (dss_one (ds_ret (de_tup (da_cons (dvar 5) (da_cons (de_ix ixd (de_fz (del_lst (da_cons dstr (da_cons dstr da_nil)))) (de_call (fn__law_draw T) (hr.mono (by decide)) (by rfl) T.m__law_draw T.F__law_draw.kp (bi__law_draw T) (da_cons (dvar 0) (da_cons dint da_nil))) (fun _ _ => rfl)) (da_cons dnon da_nil)))))) dss_nil)
      (dss_cons (ds_if (dt_cmp (od_eq hr.rm.units) (dvar 7) dint (nomark _)) (dss_cons (ds_set (i := 8) sc__law_condition.nd rfl (by first | exact Or.inl rfl | exact Or.inr rfl) (de_op od_add (de_fz (del_lc [("_law_k", 9)] rfl sc__law_condition.nd (di_range1 (by rfl) T.n_range (da_cons (de_call (fn__law_draw T) (hr.mono (by decide)) (by rfl) T.m__law_draw T.F__law_draw.kp (bi__law_draw T) (da_cons (dvar 0) (da_cons dint da_nil))) da_nil)) (blkOk_by (own := [("_law_k", 9)]) (N := N__law_condition) (sc := (defScope s__law_condition)) (by decide +kernel)) (fun _ _ _ _ _ => (dg_name (i := 9) sc__law_condition.nd rfl (by first | exact Or.inl rfl | exact Or.inr rfl))) (fun _ _ _ _ _ => dts_nil) (fun _ _ _ _ _ => (de_call (fn__law_value T) (hr.mono (by decide)) (by rfl) T.m__law_value T.F__law_value.kp (bi__law_value T) (da_cons (dvar 0) da_nil))))) (de_op od_mul (de_fz (del_lst (da_cons (dvar 6) da_nil))) (de_call (fn__law_draw T) (hr.mono (by decide)) (by rfl) T.m__law_draw T.F__law_draw.kp (bi__law_draw T) (da_cons (dvar 0) (da_cons dint da_nil))))))
      (dss_one (ds_ret (de_tup (da_cons (dvar 5) (da_cons dstr (da_cons (de_callTy cd_tuple (by rfl) T.n_tuple bb_tuple (da_cons (de_fz (del_slice (de_fz (del_lc [("_law_one", 10)] rfl sc__law_condition.nd (di_seq (dvar 8)) (blkOk_by (own := [("_law_one", 10)]) (N := N__law_condition) (sc := (defScope s__law_condition)) (by decide +kernel)) (fun _ _ _ _ _ => (dg_name (i := 10) sc__law_condition.nd rfl (by first | exact Or.inl rfl | exact Or.inr rfl))) (fun _ _ _ _ _ => (dts_one (dt_cmp od_isnot (dvar 10) dnon (nomark _)))) (fun _ _ _ _ _ => (dvar 10)))) (dpo_some (de_neg dint)) dpo_none)) da_nil)) da_nil))))))) dss_nil)
      (dss_cons (ds_set (i := 11) sc__law_condition.nd rfl (by first | exact Or.inl rfl | exact Or.inr rfl) (de_ix ixd (de_fz (del_lst (da_cons dstr (da_cons dstr (da_cons dstr (da_cons dstr da_nil)))))) (de_call (fn__law_draw T) (hr.mono (by decide)) (by rfl) T.m__law_draw T.F__law_draw.kp (bi__law_draw T) (da_cons (dvar 0) (da_cons dint da_nil))) (fun _ _ => rfl)))
      (dss_one (ds_ret (de_tup (da_cons (dvar 5) (da_cons (dvar 11) (da_cons (de_call (fn__law_operand T) (hr.mono (by decide)) (by rfl) T.m__law_operand T.F__law_operand.kp (bi__law_operand T) (da_cons (dvar 0) (da_cons (dvar 1) (da_cons (dvar 2) (da_cons (dvar 3) (da_cons (dvar 6) da_nil)))))) da_nil))))))))))))
local macro_rules | `(tactic| walk_at "un._law_condition") => `(tactic| unfold w__law_condition N__law_condition w__law_condition_t2 w__law_condition_t1)
def sp__law_condition : SpD := fun ds s P => ∃ a m al labs cs, ds = [.ref a, .str al, labD labs, .tup cs] ∧ s.dk = some (a, m) ∧ 40 ≤ m ∧ Row labs cs ∧ ∀ x w o m2, x ∈ labs → Opd al labs w o → m - 40 ≤ m2 → P (tstD al x w o) (s.fuel a m2)
theorem len__law_condition : ∀ ds s P, sp__law_condition ds s P → ds.length = 4 := by
  rintro ds s P ⟨a, m, al, labs, cs, rfl, _⟩; rfl
theorem sem__law_condition : ∀ ds s P, sp__law_condition ds s P → w__law_condition { nx := fun _ s' => P .non s', rt := P } (startD N__law_condition ds) s := by
  rintro ds s P ⟨a, m, al, labs, cs, rfl, hd, hm, hr, h⟩
  obtain ⟨l0, l1⟩ := row_len hr
  unfold w__law_condition w__law_condition_t2 w__law_condition_t1 N__law_condition labD
  walk_at "ev"
  simp only [List.length_map]
  refine drawI hd ⟨by omega, by omega, by omega, fun r r0 r1 => ?_⟩
  have r2 : r < (cs.length : Int) := by rw [← hr.1]; exact r1
  have r3 : r < ((labs.map D.str).length : Int) := by rw [List.length_map]; exact r1
  walk_at "ev"
  rw [atI_lt _ r0 r3]
  simp only [atI_lt _ r0 r2, List.getElem_map]
  obtain ⟨x, hx⟩ : ∃ x, labs[r.toNat]'(by omega) = x := ⟨_, rfl⟩
  have hxm : x ∈ labs := by rw [← hx]; exact List.getElem_mem _
  obtain ⟨v, hv⟩ : ∃ v, cs[r.toNat]'(by omega) = v := ⟨_, rfl⟩
  have hvm : Cel v := by rw [← hv]; exact hr.2.2.2.2 _ (List.getElem_mem _)
  simp only [hx, hv]
  refine drawF ⟨by omega, by decide, by decide, fun w w0 w1 => ?_⟩
  walk_at "ev"
  by_cases e0 : w = 0
  · simp only [e0, decide_true]
    refine drawF ⟨by omega, by decide, by decide, fun q q0 q1 => ?_⟩
    walk_at "ev"
    have : q = 0 ∨ q = 1 := by omega
    rcases this with rfl | rfl
    · walk_at "ev"; exact h _ _ _ _ hxm (.inl ⟨.inl rfl, rfl⟩) (by omega)
    · walk_at "ev"; exact h _ _ _ _ hxm (.inl ⟨.inr rfl, rfl⟩) (by omega)
  · simp only [e0, decide_false]
    by_cases e1 : w = 1
    · simp only [e1, decide_true]
      refine drawF ⟨by omega, by decide, by decide, fun q q0 q1 => ?_⟩
      walk_at "ev"
      refine ⟨⟨by omega, by omega⟩, by rw [rngD_length, sizeLine_eq]; omega, ?_⟩
      refine lcW_draw (I := fun s' k => ∃ m2, s' = s.fuel a m2 ∧ m - 39 + 2 * k ≤ m2) (Q := Cel) (n := 6) ?_ ⟨_, rfl, by rw [rngD_length]; omega⟩ ?_
      · rintro d - s' k R ⟨m2, rfl, h2⟩ hR
        unfold w__law_condition_e1
        walk_at "ev"
        exact ⟨a, m2, rfl, rfl, by omega, fun d m3 hd h3 => hR _ _ hd ⟨m3, rfl, by omega⟩⟩
      · rintro ys s2 hl hq ⟨m2, rfl, h2⟩
        rw [rngD_length] at hl
        have hl2 : ys.length ≤ 12 := by omega
        walk_at "ev"
        refine drawF ⟨by omega, by decide, by decide, fun z z0 z1 => ?_⟩
        walk_at "ev"
        refine ⟨⟨by omega, by omega, ?_⟩, ?_, ?_⟩
        · rw [sizeLine_eq]; simp; omega
        · rw [sizeLine_eq]; simp; omega
        · have hall : ∀ y ∈ ys ++ (List.replicate z.toNat [v]).flatten, Cel y := by
            intro y hy
            rcases List.mem_append.mp hy with hy | hy
            · exact hq y hy
            · obtain ⟨l, hl, hy⟩ := List.mem_flatten.mp hy
              rw [List.eq_of_mem_replicate hl] at hy
              rw [List.mem_singleton.mp hy]; exact hvm
          refine ⟨?_, ?_⟩
          · rw [sizeLine_eq]; simp; omega
          refine lcW_pure (p := fun d => !isN d) (f := id) (fun d hd R0 R1 h0 h1 => ?_) ?_
          · unfold w__law_condition_q1 w__law_condition_e2
            walk_at "ev"
            rcases hall d hd with rfl | ⟨i, rfl, _⟩ | ⟨y, rfl, _⟩
            · exact h0 rfl
            · exact h1 rfl
            · exact h1 rfl
          · rw [List.map_id]
            walk_at "ev"
            obtain ⟨zs, hzs⟩ : ∃ zs, List.filter (fun d => !isN d) (ys ++ (List.replicate z.toNat [v]).flatten) = zs := ⟨_, rfl⟩
            rw [hzs]
            have hz1 : ∀ e ∈ cutD zs (some (-12)) none, Cel e ∧ isN e = false := fun e he => by
              have h1 : e ∈ zs := List.mem_of_mem_drop (List.mem_of_mem_take he)
              rw [← hzs] at h1
              obtain ⟨h2, h3⟩ := List.mem_filter.mp h1
              exact ⟨hall e h2, by simpa using h3⟩
            have hz2 : (cutD zs (some (-12)) none).length ≤ 12 := by
              unfold DL.cutD
              rw [List.length_take, List.length_drop, HT.sIx_none]
              have : HT.sIx zs.length 0 (some (-12)) = zs.length - 12 := by
                unfold HT.sIx; simp; omega
              rw [this]; omega
            exact h _ _ _ _ hxm (.inr (.inl ⟨rfl, _, rfl, hz2, hz1⟩)) (by omega)
    · simp only [e1, decide_false]
      refine drawF ⟨by omega, by decide, by decide, fun q q0 q1 => ?_⟩
      walk_at "ev"
      rw [atI_lt _ q0 (by simpa using q1)]
      have : ∀ d ∈ [D.str (Str.ofString "equal"), D.str (Str.ofString "unlike"), D.str (Str.ofString "less"), D.str (Str.ofString "most")], ∃ w, d = .str w ∧ (w = "equal" ∨ w = "unlike" ∨ w = "less" ∨ w = "most") := by
        intro d hd
        simp only [List.mem_cons, List.not_mem_nil, or_false] at hd
        rcases hd with rfl | rfl | rfl | rfl
        · exact ⟨_, rfl, .inl rfl⟩
        · exact ⟨_, rfl, .inr (.inl rfl)⟩
        · exact ⟨_, rfl, .inr (.inr (.inl rfl))⟩
        · exact ⟨_, rfl, .inr (.inr (.inr rfl))⟩
      have hq4 : q.toNat < [D.str (Str.ofString "equal"), D.str (Str.ofString "unlike"), D.str (Str.ofString "less"), D.str (Str.ofString "most")].length := by simp; omega
      obtain ⟨w, hw, hw2⟩ := this _ (List.getElem_mem hq4)
      simp only [hw]
      exact ⟨a, _, al, labs, cs, v, rfl, rfl, by omega, hr, hvm, fun o m2 ho h2 => h _ _ _ _ hxm (.inr (.inr ⟨hw2, ho⟩)) (by omega)⟩

theorem fn__law_condition (T : Txt K mg) : FnD P w K mg base 4 T.a__law_condition T.fd__law_condition ["_law_deck_here", "_law_alias", "_law_labels", "_law_cells"] sp__law_condition :=
  fnD_of T.F__law_condition sc__law_condition len__law_condition (fun cdv A outer s H E hr => b__law_condition T hr) sem__law_condition
/-! #### _law_of -/
theorem bi__law_of (T : Txt K mg) : Binds K T.fd__law_of ["_law_test", "_law_alias"] [] := T.F__law_of.binds fun _ _ _ _ _ _ us hl => match us, hl with | [_, _], _ => rfl
def N__law_of : List Str := ["_law_test", "_law_alias", "_law_column", "_law_word", "_law_operand_here"]
theorem sc__law_of : FnScope N__law_of ["_law_test", "_law_alias"] (defScope s__law_of) := ⟨rfl, rfl, rfl, by decide +kernel, rfl, by decide +kernel, by decide +kernel⟩
def w__law_of_t1 : WS :=
    (wRet (wTup (wCons (wTup (wCons (wVar 1) (wCons (wOp roIx (wVar 2) (wC (.int 1))) wNil))) (wCons (wVar 3) (wCons (wVar 4) wNil)))))
def w__law_of : WS :=
    (wSeq (wAsg (wVar 0) (wgTup 3 (wgCons (wgName 2) (wgCons (wgName 3) (wgCons (wgName 4) wgNil)))))
      (wSeq (wIf (wAnd (wTst (wOp roNe (wVar 3) (wC (.str (Str.ofString "among"))))) (wTru (wCB rcIsi (wCons (wVar 4) (wCons (wC (.ty "tuple")) wNil))))) (wAsg (wTup (wCons (wVar 1) (wCons (wOp roIx (wVar 4) (wC (.int 1))) wNil))) (wgName 4)) wNext)
      w__law_of_t1))
theorem b__law_of (T : Txt K mg) {cdv : Value} {A : Around} {outer : List Env} {s : Shared} {H : Hp} {E : XK} (hr : RoomG 0 (A.deeper (envOfC "_law_of" (defScope s__law_of) s.heap.objs.size T.a__law_of cdv))) :
    DSs (cxOf CX0 P w K mg base N__law_of "_law_of" (defScope s__law_of) T.a__law_of cdv A outer s H E).nox (defBody s__law_of) w__law_of :=
    (dss_cons (ds_asg (dvar 0) (dg_tup rfl (dgs_cons (dg_name (i := 2) sc__law_of.nd rfl (by first | exact Or.inl rfl | exact Or.inr rfl)) (dgs_cons (dg_name (i := 3) sc__law_of.nd rfl (by first | exact Or.inl rfl | exact Or.inr rfl)) (dgs_cons (dg_name (i := 4) sc__law_of.nd rfl (by first | exact Or.inl rfl | exact Or.inr rfl)) dgs_nil)))))
      (dss_cons (ds_if (PW.pt (dw_and (dt_cmp (od_ne hr.rm.units) (dvar 3) dstr (nomark _)) (dw_and1 (dt_truth (de_callB cd_isi (by rfl) T.n_isinstance bb_isinstance (da_cons (dvar 4) (da_cons (dty (T := "tuple") (by rfl) T.n_tuple bb_tuple) da_nil))))))) (dss_one (ds_set (i := 4) sc__law_of.nd rfl (by first | exact Or.inl rfl | exact Or.inr rfl) (de_tup (da_cons (dvar 1) (da_cons (de_ix ixd (dvar 4) dint (fun _ _ => rfl)) da_nil))))) dss_nil)
      (dss_one (ds_ret (de_tup (da_cons (de_tup (da_cons (dvar 1) (da_cons (de_ix ixd (dvar 2) dint (fun _ _ => rfl)) da_nil))) (da_cons (dvar 3) (da_cons (dvar 4) da_nil))))))))
local macro_rules | `(tactic| walk_at "un._law_of") => `(tactic| unfold w__law_of N__law_of w__law_of_t1)
def sp__law_of : SpD := fun ds s P => ∃ labs al x w o q, ds = [tstD al x w o, .str q] ∧ Opd al labs w o ∧ ∀ o2, Opd q labs w o2 → (∀ labs cs, dueB labs cs x w o2 = dueB labs cs x w o) → P (tstD q x w o2) s
theorem len__law_of : ∀ ds s P, sp__law_of ds s P → ds.length = 2 := by
  rintro ds s P ⟨labs, al, x, w, o, q, rfl, _⟩; rfl
theorem sem__law_of : ∀ ds s P, sp__law_of ds s P → w__law_of { nx := fun _ s' => P .non s', rt := P } (startD N__law_of ds) s := by
  rintro ds s P ⟨labs, al, x, w, o, q, rfl, ho, h⟩
  unfold w__law_of w__law_of_t1 N__law_of tstD
  walk_at "ev"
  rcases ho with ⟨hw, rfl⟩ | ⟨rfl, os, rfl, hl, ho⟩ | ⟨hw, ⟨co, no⟩ | ⟨y, hy, rfl⟩⟩
  · have hn : (Str.ofString "among" ≠ w) := by rcases hw with rfl | rfl <;> simp [ofS_eq]
    simp only [isi_non, okT_tuple, true_and]
    walk_at "ev"
    simp only [hn.symm, decide_false, Bool.not_false]
    exact h _ (.inl ⟨hw, rfl⟩) fun _ _ => rfl
  · simp only [decide_true, Bool.not_true]
    exact h _ (.inr (.inl ⟨rfl, os, rfl, hl, ho⟩)) fun _ _ => rfl
  · have hn : w ≠ "among" := by rcases hw with rfl | rfl | rfl | rfl <;> simp [ofS_eq]
    simp only [hn, decide_false, Bool.not_false]
    rcases co with rfl | ⟨j, rfl, hj⟩ | ⟨z, rfl, hz⟩
    · cases no
    · simp only [isi_int, okT_tuple, true_and]
      walk_at "ev"
      exact h _ (.inr (.inr ⟨hw, .inl ⟨.inr (.inl ⟨j, rfl, hj⟩), rfl⟩⟩)) fun _ _ => rfl
    · simp only [isi_str, okT_tuple, true_and]
      walk_at "ev"
      exact h _ (.inr (.inr ⟨hw, .inl ⟨.inr (.inr ⟨z, rfl, hz⟩), rfl⟩⟩)) fun _ _ => rfl
  · have hn : w ≠ "among" := by rcases hw with rfl | rfl | rfl | rfl <;> simp [ofS_eq]
    simp only [hn, decide_false, Bool.not_false, isi_tup, D.allData, D.isData, okT_tuple]
    walk_at "ev"
    refine ⟨rfl, h _ (.inr (.inr ⟨hw, .inr ⟨y, hy, rfl⟩⟩)) fun _ _ => by simp only [dueB, hn, if_false, other'] <;> rfl⟩

theorem fn__law_of (T : Txt K mg) : FnD P w K mg base 1 T.a__law_of T.fd__law_of ["_law_test", "_law_alias"] sp__law_of :=
  fnD_of T.F__law_of sc__law_of len__law_of (fun cdv A outer s H E hr => b__law_of T hr) sem__law_of
/-! #### _law_told -/
theorem bi__law_told (T : Txt K mg) : Binds K T.fd__law_told ["_law_labels", "_law_cells", "_law_test", "_law_due_here"] [] := T.F__law_told.binds fun _ _ _ _ _ _ us hl => match us, hl with | [_, _, _, _], _ => rfl
def N__law_told : List Str := ["_law_labels", "_law_cells", "_law_test", "_law_due_here", "_law_found", "_law_again"]
theorem sc__law_told : FnScope N__law_told ["_law_labels", "_law_cells", "_law_test", "_law_due_here"] (defScope s__law_told) := ⟨rfl, rfl, rfl, by decide +kernel, rfl, by decide +kernel, by decide +kernel⟩
def w__law_told : WS :=
    (wSeq (wPar 4 5 (wCons (wCall sp_passes (wCons (wVar 0) (wCons (wVar 1) (wCons (wVar 2) wNil)))) (wCons (wCallK sp_passes kd_passes_0 wNil (wCons (wVar 2) (wCons (wVar 1) (wCons (wVar 0) wNil)))) wNil)))
      (wRet (wAndV (wCB rcIsi (wCons (wVar 4) (wCons (wC (.ty "bool")) wNil))) (wAndV (wOp roEq (wVar 4) (wVar 3)) (wAndV (wCB rcIsi (wCons (wVar 5) (wCons (wC (.ty "bool")) wNil))) (wOp roEq (wVar 5) (wVar 3)))))))
theorem b__law_told (T : Txt K mg) {cdv : Value} {A : Around} {outer : List Env} {s : Shared} {H : Hp} {E : XK} (hr : RoomG 2 (A.deeper (envOfC "_law_told" (defScope s__law_told) s.heap.objs.size T.a__law_told cdv))) :
    DSs (cxOf CX0 P w K mg base N__law_told "_law_told" (defScope s__law_told) T.a__law_told cdv A outer s H E).nox (defBody s__law_told) w__law_told :=
    (dss_cons (ds_par (i := 4) (j := 5) rfl sc__law_told.nd rfl rfl (by decide) rfl rfl (da_cons (de_call (fn_passes T) (hr.mono (by decide)) (by rfl) T.m_passes T.F_passes.kp (bi_passes T) (da_cons (dvar 0) (da_cons (dvar 1) (da_cons (dvar 2) da_nil)))) (da_cons (de_callK0 (fn_passes T) (hr.mono (by decide)) (by rfl) T.m_passes T.F_passes.kp (kb_passes_0 T) kr_mk (dk_cons (dvar 2) (dk_cons (dvar 1) (dk_cons (dvar 0) dk_nil)))) da_nil)) (by rfl))
      (dss_one (ds_ret (de_and (de_callB cd_isi (by rfl) T.n_isinstance bb_isinstance (da_cons (dvar 4) (da_cons (dty (T := "bool") (by rfl) T.n_bool bb_bool) da_nil))) (de_and (de_cmp (od_eq hr.rm.units) (dvar 4) (dvar 3) (nomark _)) (de_and (de_callB cd_isi (by rfl) T.n_isinstance bb_isinstance (da_cons (dvar 5) (da_cons (dty (T := "bool") (by rfl) T.n_bool bb_bool) da_nil))) (de_one (de_cmp (od_eq hr.rm.units) (dvar 5) (dvar 3) (nomark _)))))))))
local macro_rules | `(tactic| walk_at "un._law_told") => `(tactic| unfold w__law_told N__law_told)
def sp__law_told : SpD := fun ds s P => ∃ labs cs al x w o, ds = [labD labs, .tup cs, tstD al x w o, .bl (dueB labs cs x w o)] ∧ Row labs cs ∧ x ∈ labs ∧ Opd al labs w o ∧ P (.bl true) s
theorem len__law_told : ∀ ds s P, sp__law_told ds s P → ds.length = 4 := by
  rintro ds s P ⟨labs, cs, al, x, w, o, rfl, _⟩; rfl
theorem sem__law_told : ∀ ds s P, sp__law_told ds s P → w__law_told { nx := fun _ s' => P .non s', rt := P } (startD N__law_told ds) s := by
  rintro ds s P ⟨labs, cs, al, x, w, o, rfl, hr, hx, ho, h⟩
  unfold w__law_told N__law_told
  walk_at "ev"
  refine ⟨labs, cs, al, x, w, o, rfl, hr, hx, ho, labs, cs, al, x, w, o, rfl, hr, hx, ho, ?_⟩
  walk_at "ev"
  simp only [isi_bl, okT_bool, true_and, show ("bool" == "bool" || "bool" == "int") = true from rfl]
  walk_at "ev"
  simp only [decide_true]
  exact h

theorem fn__law_told (T : Txt K mg) : FnD P w K mg base 3 T.a__law_told T.fd__law_told ["_law_labels", "_law_cells", "_law_test", "_law_due_here"] sp__law_told :=
  fnD_of T.F__law_told sc__law_told len__law_told (fun cdv A outer s H E hr => b__law_told T hr) sem__law_told
/-! #### _law_rules_hold -/
theorem bi__law_rules_hold (T : Txt K mg) : Binds K T.fd__law_rules_hold ["_law_labels", "_law_cells", "_law_test"] [] := T.F__law_rules_hold.binds fun _ _ _ _ _ _ us hl => match us, hl with | [_, _, _], _ => rfl
def N__law_rules_hold : List Str := ["_law_labels", "_law_cells", "_law_test", "_law_column", "_law_word", "_law_operand_here", "_law_equal", "_law_unlike", "_law_one", "_law_less", "_law_most", "_law_less_back", "_law_both_none"]
theorem sc__law_rules_hold : FnScope N__law_rules_hold ["_law_labels", "_law_cells", "_law_test"] (defScope s__law_rules_hold) := ⟨rfl, rfl, rfl, by decide +kernel, rfl, by decide +kernel, by decide +kernel⟩
def w__law_rules_hold_e1 : WE :=
    (wCall sp_passes (wCons (wVar 0) (wCons (wVar 1) (wCons (wTup (wCons (wVar 3) (wCons (wVar 8) (wCons (wVar 5) wNil)))) wNil))))
def w__law_rules_hold_e2 : WE :=
    (wCall sp_passes (wCons (wVar 0) (wCons (wVar 1) (wCons (wTup (wCons (wVar 3) (wCons (wVar 8) (wCons (wVar 5) wNil)))) wNil))))
def w__law_rules_hold_t1 : WS :=
    (wSeq (wIf (wTru (wCB rcIsi (wCons (wVar 5) (wCons (wC (.ty "tuple")) wNil)))) (wSeq (wAsg (wCall sp_passes (wCons (wVar 0) (wCons (wVar 1) (wCons (wTup (wCons (wVar 5) (wCons (wC (.str (Str.ofString "less"))) (wCons (wVar 3) wNil)))) wNil)))) (wgName 11))
      (wSeq (wAsg (wAndV (wNotV (wVar 6)) (wNotV (wVar 7))) (wgName 12))
      (wRet (wAndV (wNotV (wAndV (wVar 11) (wVar 10))) (wOrV (wVar 12) (wOrV (wVar 11) (wOrV (wVar 10) (wNotV (wVar 9))))))))) wNext)
      (wRet (wC (.bl true))))
def w__law_rules_hold_t2 : WS :=
    (wSeq (wAsg (wFz (wLc [8] (wiSeq (wTup (wCons (wC (.str (Str.ofString "equal"))) (wCons (wC (.str (Str.ofString "unlike"))) wNil)))) (wgName 8) wYes w__law_rules_hold_e1)) (wgUnl 2 (wgCons (wgName 6) (wgCons (wgName 7) wgNil))))
      (wSeq (wAsg (wFz (wLc [8] (wiSeq (wTup (wCons (wC (.str (Str.ofString "less"))) (wCons (wC (.str (Str.ofString "most"))) wNil)))) (wgName 8) wYes w__law_rules_hold_e2)) (wgUnl 2 (wgCons (wgName 9) (wgCons (wgName 10) wgNil))))
      (wSeq (wIf (wOr (wAnd (wTru (wVar 6)) (wTru (wVar 7))) (wOr (wAnd (wTru (wVar 9)) (wNot (wTru (wVar 10)))) (wOr (wAnd (wTru (wVar 6)) (wNot (wTru (wVar 10)))) (wAnd (wTru (wVar 6)) (wTru (wVar 9)))))) (wRet (wC (.bl false))) wNext)
      w__law_rules_hold_t1)))
def w__law_rules_hold : WS :=
    (wSeq (wAsg (wVar 2) (wgTup 3 (wgCons (wgName 3) (wgCons (wgName 4) (wgCons (wgName 5) wgNil)))))
      (wSeq (wIf (wTst (wOp roIn (wVar 4) (wTup (wCons (wC (.str (Str.ofString "none"))) (wCons (wC (.str (Str.ofString "some"))) (wCons (wC (.str (Str.ofString "among"))) wNil)))))) (wRet (wC (.bl true))) wNext)
      w__law_rules_hold_t2))
theorem b__law_rules_hold (T : Txt K mg) {cdv : Value} {A : Around} {outer : List Env} {s : Shared} {H : Hp} {E : XK} (hr : RoomG 2 (A.deeper (envOfC "_law_rules_hold" (defScope s__law_rules_hold) s.heap.objs.size T.a__law_rules_hold cdv))) :
    DSs (cxOf CX0 P w K mg base N__law_rules_hold "_law_rules_hold" (defScope s__law_rules_hold) T.a__law_rules_hold cdv A outer s H E).nox (defBody s__law_rules_hold) w__law_rules_hold :=
    (dss_cons (ds_asg (dvar 2) (dg_tup rfl (dgs_cons (dg_name (i := 3) sc__law_rules_hold.nd rfl (by first | exact Or.inl rfl | exact Or.inr rfl)) (dgs_cons (dg_name (i := 4) sc__law_rules_hold.nd rfl (by first | exact Or.inl rfl | exact Or.inr rfl)) (dgs_cons (dg_name (i := 5) sc__law_rules_hold.nd rfl (by first | exact Or.inl rfl | exact Or.inr rfl)) dgs_nil)))))
      (dss_cons (ds_if (dt_cmp (od_in hr.rm.units) (dvar 4) (de_tup (da_cons dstr (da_cons dstr (da_cons dstr da_nil)))) (by rfl)) (dss_one (ds_ret dbl)) dss_nil)
      (dss_cons (ds_asg (de_fz (del_lc [("_law_one", 8)] rfl sc__law_rules_hold.nd (di_seq (de_tup (da_cons dstr (da_cons dstr da_nil)))) (blkOk_by (own := [("_law_one", 8)]) (N := N__law_rules_hold) (sc := (defScope s__law_rules_hold)) (by decide +kernel)) (fun _ _ _ _ _ => (dg_name (i := 8) sc__law_rules_hold.nd rfl (by first | exact Or.inl rfl | exact Or.inr rfl))) (fun _ _ _ _ _ => dts_nil) (fun _ _ _ _ _ => (de_call (fn_passes T) (hr.mono (by decide)) (by rfl) T.m_passes T.F_passes.kp (bi_passes T) (da_cons (dvar 0) (da_cons (dvar 1) (da_cons (de_tup (da_cons (dvar 3) (da_cons (dvar 8) (da_cons (dvar 5) da_nil)))) da_nil))))))) (dg_unl rfl (dgs_cons (dg_name (i := 6) sc__law_rules_hold.nd rfl (by first | exact Or.inl rfl | exact Or.inr rfl)) (dgs_cons (dg_name (i := 7) sc__law_rules_hold.nd rfl (by first | exact Or.inl rfl | exact Or.inr rfl)) dgs_nil))))
      (dss_cons (ds_asg (de_fz (del_lc [("_law_one", 8)] rfl sc__law_rules_hold.nd (di_seq (de_tup (da_cons dstr (da_cons dstr da_nil)))) (blkOk_by (own := [("_law_one", 8)]) (N := N__law_rules_hold) (sc := (defScope s__law_rules_hold)) (by decide +kernel)) (fun _ _ _ _ _ => (dg_name (i := 8) sc__law_rules_hold.nd rfl (by first | exact Or.inl rfl | exact Or.inr rfl))) (fun _ _ _ _ _ => dts_nil) (fun _ _ _ _ _ => (de_call (fn_passes T) (hr.mono (by decide)) (by rfl) T.m_passes T.F_passes.kp (bi_passes T) (da_cons (dvar 0) (da_cons (dvar 1) (da_cons (de_tup (da_cons (dvar 3) (da_cons (dvar 8) (da_cons (dvar 5) da_nil)))) da_nil))))))) (dg_unl rfl (dgs_cons (dg_name (i := 9) sc__law_rules_hold.nd rfl (by first | exact Or.inl rfl | exact Or.inr rfl)) (dgs_cons (dg_name (i := 10) sc__law_rules_hold.nd rfl (by first | exact Or.inl rfl | exact Or.inr rfl)) dgs_nil))))
      (dss_cons (ds_if (PW.pt (dw_or (PW.pt (dw_and (dt_truth (dvar 6)) (dw_and1 (dt_truth (dvar 7))))) (dw_or (PW.pt (dw_and (dt_truth (dvar 9)) (dw_and1 (dt_not (dt_truth (dvar 10)))))) (dw_or (PW.pt (dw_and (dt_truth (dvar 6)) (dw_and1 (dt_not (dt_truth (dvar 10)))))) (dw_or1 (PW.pt (dw_and (dt_truth (dvar 6)) (dw_and1 (dt_truth (dvar 9)))))))))) (dss_one (ds_ret dbl)) dss_nil)
      (dss_cons (ds_if (dt_truth (de_callB cd_isi (by rfl) T.n_isinstance bb_isinstance (da_cons (dvar 5) (da_cons (dty (T := "tuple") (by rfl) T.n_tuple bb_tuple) da_nil)))) (dss_cons (ds_set (i := 11) sc__law_rules_hold.nd rfl (by first | exact Or.inl rfl | exact Or.inr rfl) (de_call (fn_passes T) (hr.mono (by decide)) (by rfl) T.m_passes T.F_passes.kp (bi_passes T) (da_cons (dvar 0) (da_cons (dvar 1) (da_cons (de_tup (da_cons (dvar 5) (da_cons dstr (da_cons (dvar 3) da_nil)))) da_nil)))))
      (dss_cons (ds_set (i := 12) sc__law_rules_hold.nd rfl (by first | exact Or.inl rfl | exact Or.inr rfl) (de_and (de_not (dvar 6)) (de_one (de_not (dvar 7)))))
      (dss_one (ds_ret (de_and (de_not (de_and (dvar 11) (de_one (dvar 10)))) (de_one (de_or (dvar 12) (de_or (dvar 11) (de_or (dvar 10) (de_one (de_not (dvar 9)))))))))))) dss_nil)
      (dss_one (ds_ret dbl))))))))
local macro_rules | `(tactic| walk_at "un._law_rules_hold") => `(tactic| unfold w__law_rules_hold N__law_rules_hold w__law_rules_hold_t2 w__law_rules_hold_t1)
def sp__law_rules_hold : SpD := fun ds s P => ∃ labs cs al x w o, ds = [labD labs, .tup cs, tstD al x w o] ∧ Row labs cs ∧ x ∈ labs ∧ Opd al labs w o ∧ P (.bl true) s
theorem len__law_rules_hold : ∀ ds s P, sp__law_rules_hold ds s P → ds.length = 3 := by
  rintro ds s P ⟨labs, cs, al, x, w, o, rfl, _⟩; rfl
theorem sem__law_rules_hold : ∀ ds s P, sp__law_rules_hold ds s P → w__law_rules_hold { nx := fun _ s' => P .non s', rt := P } (startD N__law_rules_hold ds) s := by
  rintro ds s P ⟨labs, cs, al, x, w, o, rfl, hr, hx, ho, h⟩
  unfold w__law_rules_hold w__law_rules_hold_t2 w__law_rules_hold_t1 N__law_rules_hold tstD labD
  rcases ho with ⟨hw, rfl⟩ | ⟨rfl, os, rfl, hl, ho⟩ | ⟨hw, ho⟩
  · walk_at "ev"
    unfold roIn
    simp only [view, D.isData, D.allData, true_and, Bool.and_true, D.depth, List.any_cons, List.any_nil, eq_ss]
    refine ⟨Nat.zero_le _, ?_⟩
    rcases hw with rfl | rfl <;> simpa [ofS_eq] using h
  · walk_at "ev"
    unfold roIn
    simp only [view, D.isData, D.allData, true_and, Bool.and_true, D.depth, List.any_cons, List.any_nil, eq_ss]
    refine ⟨Nat.zero_le _, ?_⟩
    simpa [ofS_eq] using h
  · walk_at "ev"
    unfold roIn
    simp only [view, D.isData, D.allData, true_and, Bool.and_true, D.depth, List.any_cons, List.any_nil, eq_ss]
    refine ⟨Nat.zero_le _, ?_⟩
    have n1 : ("none" : Str) ≠ w := by rcases hw with rfl | rfl | rfl | rfl <;> simp [ofS_eq]
    have n2 : ("some" : Str) ≠ w := by rcases hw with rfl | rfl | rfl | rfl <;> simp [ofS_eq]
    have n3 : ("among" : Str) ≠ w := by rcases hw with rfl | rfl | rfl | rfl <;> simp [ofS_eq]
    simp only [n1, n2, n3, decide_false, Bool.or_self, Bool.or_false]
    have op : ∀ w2 : Str, (w2 = "equal" ∨ w2 = "unlike" ∨ w2 = "less" ∨ w2 = "most") → Opd al labs w2 o := fun w2 h2 => .inr (.inr ⟨h2, ho⟩)
    have hu : Cel (other' labs cs o) := by
      rcases ho with ⟨co, no⟩ | ⟨y, hy, rfl⟩
      · rcases co with rfl | ⟨j, rfl, hj⟩ | ⟨z2, rfl, hz⟩
        · cases no
        · exact .inr (.inl ⟨j, rfl, hj⟩)
        · exact .inr (.inr ⟨z2, rfl, hz⟩)
      · exact at_cel hr hy
    have hv := at_cel hr hx
    obtain ⟨R1, R2⟩ := cel2_rules hv hu
    refine ⟨by decide, ?_⟩
    unfold lcW lcW lcW w__law_rules_hold_e1
    walk_at "ev"
    refine ⟨labs, cs, al, x, "equal", o, rfl, hr, hx, op _ (.inl rfl), labs, cs, al, x, "unlike", o, rfl, hr, hx, op _ (.inr (.inl rfl)), ?_⟩
    simp only [wgUnl]
    walk_at "ev"
    refine ⟨by decide, ?_⟩
    unfold lcW lcW lcW w__law_rules_hold_e2
    walk_at "ev"
    refine ⟨labs, cs, al, x, "less", o, rfl, hr, hx, op _ (.inr (.inr (.inl rfl))), labs, cs, al, x, "most", o, rfl, hr, hx, op _ (.inr (.inr (.inr rfl))), ?_⟩
    simp only [wgUnl]
    walk_at "ev"
    rw [due_cel2 (.inl rfl), due_cel2 (.inr (.inl rfl)), due_cel2 (.inr (.inr (.inl rfl))), due_cel2 (.inr (.inr (.inr rfl)))]
    rcases ho with ⟨co, no⟩ | ⟨y, hy, rfl⟩
    · have ty : ∀ K : DK, K (.bl false) s → rcIsi [o, D.ty "tuple"] s K := fun K q => by
        rcases co with rfl | ⟨j, rfl, hj⟩ | ⟨z2, rfl, hz⟩
        · cases no
        · rw [isi_int]; exact ⟨rfl, q⟩
        · rw [isi_str]; exact ⟨rfl, q⟩
      clear op hu hv hw
      revert R1 R2
      generalize cel2 (Str.ofString "equal") (at' labs cs x) (other' labs cs o) = e1
      generalize cel2 (Str.ofString "unlike") (at' labs cs x) (other' labs cs o) = e2
      generalize cel2 (Str.ofString "less") (at' labs cs x) (other' labs cs o) = e3
      generalize cel2 (Str.ofString "most") (at' labs cs x) (other' labs cs o) = e4
      intro R1 R2
      cases e1 <;> cases e2 <;> cases e3 <;> cases e4 <;> first | (cases R1; done) | exact ty _ h
    · simp only [other'] at R1 R2 ⊢
      have ty : ∀ K : DK, K (.bl true) s → rcIsi [.tup [.str al, .str y], D.ty "tuple"] s K := fun K q => by
        rw [isi_tup]; exact ⟨⟨rfl, rfl⟩, q⟩
      have ps : ∀ K : DK, K (.bl (cel2 "less" (at' labs cs y) (at' labs cs x))) s → sp_passes [D.tup (List.map D.str labs), D.tup cs, D.tup [.tup [.str al, .str y], D.str (Str.ofString "less"), D.tup [D.str al, D.str x]]] s K := fun K q => by
        refine ⟨labs, cs, al, y, "less", .tup [.str al, .str x], rfl, hr, hy, .inr (.inr ⟨.inr (.inr (.inl rfl)), .inr ⟨x, hx, rfl⟩⟩), ?_⟩
        rw [due_cel2 (.inr (.inr (.inl rfl)))]
        exact q
      clear op hu hv hw
      revert R1 R2 ps
      generalize cel2 (Str.ofString "equal") (at' labs cs x) (at' labs cs y) = e1
      generalize cel2 (Str.ofString "unlike") (at' labs cs x) (at' labs cs y) = e2
      generalize cel2 (Str.ofString "less") (at' labs cs x) (at' labs cs y) = e3
      generalize cel2 (Str.ofString "most") (at' labs cs x) (at' labs cs y) = e4
      generalize cel2 (Str.ofString "less") (at' labs cs y) (at' labs cs x) = e5
      intro R1 R2 ps
      cases e1 <;> cases e2 <;> cases e3 <;> cases e4 <;> cases e5 <;> first | (cases R1; done) | (cases R2; done) | exact ty _ (ps _ h)

theorem fn__law_rules_hold (T : Txt K mg) : FnD P w K mg base 3 T.a__law_rules_hold T.fd__law_rules_hold ["_law_labels", "_law_cells", "_law_test"] sp__law_rules_hold :=
  fnD_of T.F__law_rules_hold sc__law_rules_hold len__law_rules_hold (fun cdv A outer s H E hr => b__law_rules_hold T hr) sem__law_rules_hold
/-! #### law -/
theorem bi_law (T : Txt K mg) : Binds K T.fd_law ["_law_script"] [] := T.F_law.binds fun _ _ _ _ _ _ us hl => match us, hl with | [_], _ => rfl
def N_law : List Str := ["_law_script", "_law_deck_here", "_law_turn", "_law_names_here", "_law_labels", "_law_cells", "_law_name", "_law_test", "_law_kept", "_law_due_here"]
theorem sc_law : FnScope N_law ["_law_script"] (defScope s_law) := ⟨rfl, rfl, rfl, by decide +kernel, rfl, by decide +kernel, by decide +kernel⟩
def w_law_e1 : WE :=
    (wCall sp__law_value (wCons (wVar 1) wNil))
def w_law_t1 : WS :=
    (wIf (wOr (wNot (wTru (wCall sp__law_rules_hold (wCons (wVar 4) (wCons (wVar 5) (wCons (wVar 7) wNil)))))) (wTst (wOp roNe (wCB rcRepr (wCons (wTup (wCons (wVar 4) (wCons (wVar 5) (wCons (wVar 7) wNil)))) wNil)) (wVar 8)))) (wRet (wC (.bl false))) wNext)
def w_law_b1 : WS :=
    (wSeq (wAsg (wCall sp__law_names (wCons (wVar 1) (wCons (wC (.int 8)) wNil))) (wgName 3))
      (wSeq (wAsg (wCB rcTuple (wCons (wFz (wSlL (wVar 3) woN (woS (wOp roAdd (wC (.int 1)) (wCall sp__law_draw (wCons (wVar 1) (wCons (wC (.int 6)) wNil))))))) wNil)) (wgName 4))
      (wSeq (wAsg (wCB rcTuple (wCons (wFz (wLc [6] (wiSeq (wVar 4)) (wgName 6) wYes w_law_e1)) wNil)) (wgName 5))
      (wSeq (wAsg (wCall sp__law_condition (wCons (wVar 1) (wCons (wOp roIx (wVar 3) (wC (.int 6))) (wCons (wVar 4) (wCons (wVar 5) wNil))))) (wgName 7))
      (wSeq (wPar 8 9 (wCons (wCB rcRepr (wCons (wTup (wCons (wVar 4) (wCons (wVar 5) (wCons (wVar 7) wNil)))) wNil)) (wCons (wCall sp__law_due (wCons (wVar 4) (wCons (wVar 5) (wCons (wVar 7) wNil)))) wNil)))
      (wSeq (wIf (wOr (wNot (wTru (wCall sp__law_told (wCons (wVar 4) (wCons (wVar 5) (wCons (wVar 7) (wCons (wVar 9) wNil))))))) (wNot (wTru (wCall sp__law_told (wCons (wVar 4) (wCons (wVar 5) (wCons (wCall sp__law_of (wCons (wVar 7) (wCons (wC (.str (Str.ofString "q"))) wNil))) (wCons (wVar 9) wNil)))))))) (wRet (wC (.bl false))) wNext)
      w_law_t1))))))
def w_law : WS :=
    (wSeq (wAsg (wCall sp__law_deck (wCons (wVar 0) wNil)) (wgName 1))
      (wSeq (wFor (wiR1 (wCons (wC (.int 40)) wNil)) (wgName 2) w_law_b1)
      (wRet (wC (.bl true)))))
theorem b_law (T : Txt K mg) {cdv : Value} {A : Around} {outer : List Env} {s : Shared} {H : Hp} {E : XK} (hr : RoomG 4 (A.deeper (envOfC "law" (defScope s_law) s.heap.objs.size T.a_law cdv))) :
    DSs (cxOf CX0 P w K mg base N_law "law" (defScope s_law) T.a_law cdv A outer s H E).nox (defBody s_law) w_law :=
    (dss_cons (ds_set (i := 1) sc_law.nd rfl (by first | exact Or.inl rfl | exact Or.inr rfl) (de_call (fn__law_deck T) (hr.mono (by decide)) (by rfl) T.m__law_deck T.F__law_deck.kp (bi__law_deck T) (da_cons (dvar 0) da_nil)))
      (dss_cons (ds_for PassesOwn.never rfl (di_range1 (by rfl) T.n_range (da_cons dint da_nil)) (dg_name (i := 2) sc_law.nd rfl (by first | exact Or.inl rfl | exact Or.inr rfl)) (dss_cons (ds_set (i := 3) sc_law.nd rfl (by first | exact Or.inl rfl | exact Or.inr rfl) (de_call (fn__law_names T) (hr.mono (by decide)) (by rfl) T.m__law_names T.F__law_names.kp (bi__law_names T) (da_cons (dvar 1) (da_cons dint da_nil))))
      (dss_cons (ds_set (i := 4) sc_law.nd rfl (by first | exact Or.inl rfl | exact Or.inr rfl) (de_callTy cd_tuple (by rfl) T.n_tuple bb_tuple (da_cons (de_fz (del_slice (dvar 3) dpo_none (dpo_some (de_op od_add dint (de_call (fn__law_draw T) (hr.mono (by decide)) (by rfl) T.m__law_draw T.F__law_draw.kp (bi__law_draw T) (da_cons (dvar 1) (da_cons dint da_nil))))))) da_nil)))
      (dss_cons (ds_set (i := 5) sc_law.nd rfl (by first | exact Or.inl rfl | exact Or.inr rfl) (de_callTy cd_tuple (by rfl) T.n_tuple bb_tuple (da_cons (de_fz (del_lc [("_law_name", 6)] rfl sc_law.nd (di_seq (dvar 4)) (blkOk_by (own := [("_law_name", 6)]) (N := N_law) (sc := (defScope s_law)) (by decide +kernel)) (fun _ _ _ _ _ => (dg_name (i := 6) sc_law.nd rfl (by first | exact Or.inl rfl | exact Or.inr rfl))) (fun _ _ _ _ _ => dts_nil) (fun _ _ _ _ _ => (de_call (fn__law_value T) (hr.mono (by decide)) (by rfl) T.m__law_value T.F__law_value.kp (bi__law_value T) (da_cons (dvar 1) da_nil))))) da_nil)))
      (dss_cons (ds_set (i := 7) sc_law.nd rfl (by first | exact Or.inl rfl | exact Or.inr rfl) (de_call (fn__law_condition T) (hr.mono (by decide)) (by rfl) T.m__law_condition T.F__law_condition.kp (bi__law_condition T) (da_cons (dvar 1) (da_cons (de_ix ixd (dvar 3) dint (fun _ _ => rfl)) (da_cons (dvar 4) (da_cons (dvar 5) da_nil))))))
      (dss_cons (ds_par (i := 8) (j := 9) rfl sc_law.nd rfl rfl (by decide) rfl rfl (da_cons (de_callB (cd_repr hr.gd hr.rm.units) (by rfl) T.n_repr bb_repr (da_cons (de_tup (da_cons (dvar 4) (da_cons (dvar 5) (da_cons (dvar 7) da_nil)))) da_nil)) (da_cons (de_call (fn__law_due T) (hr.mono (by decide)) (by rfl) T.m__law_due T.F__law_due.kp (bi__law_due T) (da_cons (dvar 4) (da_cons (dvar 5) (da_cons (dvar 7) da_nil)))) da_nil)) (by rfl))
      (dss_cons (ds_if (PW.pt (dw_or (dt_not (dt_truth (de_call (fn__law_told T) (hr.mono (by decide)) (by rfl) T.m__law_told T.F__law_told.kp (bi__law_told T) (da_cons (dvar 4) (da_cons (dvar 5) (da_cons (dvar 7) (da_cons (dvar 9) da_nil))))))) (dw_or1 (dt_not (dt_truth (de_call (fn__law_told T) (hr.mono (by decide)) (by rfl) T.m__law_told T.F__law_told.kp (bi__law_told T) (da_cons (dvar 4) (da_cons (dvar 5) (da_cons (de_call (fn__law_of T) (hr.mono (by decide)) (by rfl) T.m__law_of T.F__law_of.kp (bi__law_of T) (da_cons (dvar 7) (da_cons dstr da_nil))) (da_cons (dvar 9) da_nil)))))))))) (dss_one (ds_ret dbl)) dss_nil)
      (dss_one (ds_if (PW.pt (dw_or (dt_not (dt_truth (de_call (fn__law_rules_hold T) (hr.mono (by decide)) (by rfl) T.m__law_rules_hold T.F__law_rules_hold.kp (bi__law_rules_hold T) (da_cons (dvar 4) (da_cons (dvar 5) (da_cons (dvar 7) da_nil)))))) (dw_or1 (dt_cmp (od_ne hr.rm.units) (de_callB (cd_repr hr.gd hr.rm.units) (by rfl) T.n_repr bb_repr (da_cons (de_tup (da_cons (dvar 4) (da_cons (dvar 5) (da_cons (dvar 7) da_nil)))) da_nil)) (dvar 8) (nomark _))))) (dss_one (ds_ret dbl)) dss_nil)))))))))
      (dss_one (ds_ret dbl))))
local macro_rules | `(tactic| walk_at "un.law") => `(tactic| unfold w_law N_law w_law_t1)
def sp_law : SpD := spLaw
theorem len_law : ∀ ds s P, sp_law ds s P → ds.length = 1 := by
  rintro ds s P ⟨ns, rfl, _⟩; rfl
theorem sem_law : ∀ ds s P, sp_law ds s P → w_law { nx := fun _ s' => P .non s', rt := P } (startD N_law ds) s := by
  rintro ds s P ⟨ns, rfl, hl, hd, hM, h⟩
  unfold w_law N_law
  walk_at "ev"
  refine ⟨ns, rfl, hl, hd, fun a => ?_⟩
  walk_at "ev"
  refine ⟨by decide, ?_⟩
  suffices H : ∀ (l : List D) (m : Nat) (d2 d3 d4 d5 d6 d7 d8 d9 : Option D), 100 * l.length ≤ m → loopW (wgName 2) w_law_b1 { nx := fun δ s => P (D.bl true) s, rt := P } l [some (.lsk (ns.map .int)), some (.ref a), d2, d3, d4, d5, d6, d7, d8, d9] (s.fuel a m) from
    H _ _ _ _ _ _ _ _ _ _ (by rw [rngD_length]; decide)
  intro l
  induction l with
  | nil => intro m d2 d3 d4 d5 d6 d7 d8 d9 _; exact h _
  | cons x l ih =>
    intro m d2 d3 d4 d5 d6 d7 d8 d9 hm
    rw [List.length_cons] at hm
    unfold loopW w_law_b1 w_law_t1
    walk_at "ev"
    refine ⟨a, m, 8, rfl, rfl, by omega, by decide, fun ns8 m2 hn8 hnd hnam hm2 => ?_⟩
    walk_at "ev"
    refine drawF ⟨by omega, by decide, by decide, fun r r0 r1 => ?_⟩
    walk_at "ev"
    rw [cutD_to (by omega)]
    rw [← List.map_take]
    obtain ⟨k, hk⟩ : ∃ k, (1 + r).toNat = k := ⟨_, rfl⟩
    have k1 : 1 ≤ k ∧ k ≤ 6 := by omega
    rw [hk]
    obtain ⟨labs, hlabs⟩ : ∃ labs, ns8.take k = labs := ⟨_, rfl⟩
    rw [hlabs]
    have ll : labs.length = k := by rw [← hlabs, List.length_take]; omega
    have lN : ∀ x ∈ labs, Nam x := fun x hx => hnam x (List.mem_of_mem_take (hlabs ▸ hx))
    refine ⟨by rw [List.length_map, sizeLine_eq]; omega, ?_⟩
    refine lcW_draw (I := fun s' k => ∃ m3, s' = s.fuel a m3 ∧ m - 24 + 2 * k ≤ m3) (Q := Cel) (n := 0) ?_ ⟨_, rfl, by rw [List.length_map]; omega⟩ ?_
    · rintro d - s' k R ⟨m3, rfl, h2⟩ hR
      unfold w_law_e1
      walk_at "ev"
      exact ⟨a, m3, rfl, rfl, by omega, fun d m3 hd h3 => hR _ _ hd ⟨m3, rfl, by omega⟩⟩
    · rintro cs s2 hcl hcs ⟨m3, rfl, hm3⟩
      rw [List.length_map] at hcl
      have h6 : 6 < ns8.length := by omega
      have hr : Row labs cs := ⟨hcl.symm, by omega, by omega, lN, hcs⟩
      have e6 : atI (ns8.map D.str) 6 = some (.str ns8[6]) := by
        rw [show (6 : Int) = ((6 : Nat) : Int) from rfl, atD_nat, List.getElem?_map, List.getElem?_eq_getElem h6]; rfl
      rw [e6]
      have hal : Nam ns8[6] := hnam _ (List.getElem_mem h6)
      generalize ns8[6] = al at hal
      refine ⟨a, m3, al, labs, cs, rfl, rfl, by omega, hr, fun x w o m4 hx ho hm4 => ?_⟩
      have hfit : Fit 100 12 3 (.tup [labD labs, .tup cs, tstD al x w o]) := by
        refine fit_tup (by simp) fun e he => ?_
        simp only [List.mem_cons, List.not_mem_nil, or_false] at he
        rcases he with rfl | rfl | rfl
        · exact fit_tup (by rw [List.length_map]; omega) fun e he => by
            obtain ⟨y, hy, rfl⟩ := List.mem_map.mp he
            exact leaf_fit (nam_leaf (lN y hy)) _
        · exact fit_tup (by omega) fun e he => leaf_fit (cel_leaf (hcs e he)) _
        · exact tst_fit hal lN hx ho
      refine repr_fit hfit (by decide) (by decide) (by rw [sizeLine_eq]; decide) ?_
      refine ⟨labs, cs, al, x, w, o, rfl, hr, hx, ho, ?_⟩
      refine ⟨labs, cs, al, x, w, o, rfl, hr, hx, ho, ?_⟩
      walk_at "ev"
      refine ⟨labs, al, x, w, o, "q", rfl, ho, fun o2 ho2 he => ?_⟩
      refine ⟨labs, cs, "q", x, w, o2, by rw [he]; rfl, hr, hx, ho2, ?_⟩
      walk_at "ev"
      refine ⟨labs, cs, al, x, w, o, rfl, hr, hx, ho, ?_⟩
      walk_at "ev"
      refine repr_fit hfit (by decide) (by decide) (by rw [sizeLine_eq]; decide) ?_
      rw [roNe_ss]
      simp only [decide_true, Bool.not_true]
      exact ih _ _ _ _ _ _ _ _ _ (by omega)


theorem fn_law (T : Txt K mg) : FnD P w K mg base 5 T.a_law T.fd_law ["_law_script"] sp_law :=
  fnD_of T.F_law sc_law len_law (fun cdv A outer s H E hr => b_law T hr) sem_law
end
theorem all_mk {l : PySem.W.OpenLaw} {w : World} {K : PySem.W.Frag} {h : Heap} {mg : Str → Option Value} {fa : Addr} (X : K.In h) (G : h.Ns mainGlobals mg) (hfa : mg "law" = some (.ref fa))
    {f_comparison_holds : Addr} {oc_comparison_holds kV_comparison_holds dc_comparison_holds pm_comparison_holds cd_comparison_holds ct_comparison_holds : Value} {od_comparison_holds an_comparison_holds : Option Addr} {sl_comparison_holds : Array (Option Value)}
    {f_passes : Addr} {oc_passes kV_passes dc_passes pm_passes cd_passes ct_passes : Value} {od_passes an_passes : Option Addr} {sl_passes : Array (Option Value)}
    {f__law_deck : Addr} {oc__law_deck kV__law_deck dc__law_deck pm__law_deck cd__law_deck ct__law_deck : Value} {od__law_deck an__law_deck : Option Addr} {sl__law_deck : Array (Option Value)}
    {f__law_draw : Addr} {oc__law_draw kV__law_draw dc__law_draw pm__law_draw cd__law_draw ct__law_draw : Value} {od__law_draw an__law_draw : Option Addr} {sl__law_draw : Array (Option Value)}
    {f__law_pick : Addr} {oc__law_pick kV__law_pick dc__law_pick pm__law_pick cd__law_pick ct__law_pick : Value} {od__law_pick an__law_pick : Option Addr} {sl__law_pick : Array (Option Value)}
    {f__law_names : Addr} {oc__law_names kV__law_names dc__law_names pm__law_names cd__law_names ct__law_names : Value} {od__law_names an__law_names : Option Addr} {sl__law_names : Array (Option Value)}
    {f__law_due : Addr} {oc__law_due kV__law_due dc__law_due pm__law_due cd__law_due ct__law_due : Value} {od__law_due an__law_due : Option Addr} {sl__law_due : Array (Option Value)}
    {f__law_value : Addr} {oc__law_value kV__law_value dc__law_value pm__law_value cd__law_value ct__law_value : Value} {od__law_value an__law_value : Option Addr} {sl__law_value : Array (Option Value)}
    {f__law_operand : Addr} {oc__law_operand kV__law_operand dc__law_operand pm__law_operand cd__law_operand ct__law_operand : Value} {od__law_operand an__law_operand : Option Addr} {sl__law_operand : Array (Option Value)}
    {f__law_condition : Addr} {oc__law_condition kV__law_condition dc__law_condition pm__law_condition cd__law_condition ct__law_condition : Value} {od__law_condition an__law_condition : Option Addr} {sl__law_condition : Array (Option Value)}
    {f__law_of : Addr} {oc__law_of kV__law_of dc__law_of pm__law_of cd__law_of ct__law_of : Value} {od__law_of an__law_of : Option Addr} {sl__law_of : Array (Option Value)}
    {f__law_told : Addr} {oc__law_told kV__law_told dc__law_told pm__law_told cd__law_told ct__law_told : Value} {od__law_told an__law_told : Option Addr} {sl__law_told : Array (Option Value)}
    {f__law_rules_hold : Addr} {oc__law_rules_hold kV__law_rules_hold dc__law_rules_hold pm__law_rules_hold cd__law_rules_hold ct__law_rules_hold : Value} {od__law_rules_hold an__law_rules_hold : Option Addr} {sl__law_rules_hold : Array (Option Value)}
    {f_law : Addr} {oc_law kV_law dc_law pm_law cd_law ct_law : Value} {od_law an_law : Option Addr} {sl_law : Array (Option Value)}
    (a_comparison_holds : PySem.W.nsIn K mainGlobals "comparison_holds" = some (some (.ref f_comparison_holds)))
    (l_comparison_holds : K.lookup f_comparison_holds = some ⟨oc_comparison_holds, od_comparison_holds, .func (PySem.W.fnOf "comparison_holds" "comparison_holds" (defArgs s_comparison_holds) (defBody s_comparison_holds) (defScope s_comparison_holds) .none kV_comparison_holds dc_comparison_holds pm_comparison_holds an_comparison_holds cd_comparison_holds ct_comparison_holds), sl_comparison_holds⟩)
    (c_comparison_holds : PySem.W.codeIn K cd_comparison_holds "comparison_holds" = true)
    (k_comparison_holds : PySem.W.keepIn K (.ref f_comparison_holds) = true)
    (a_passes : PySem.W.nsIn K mainGlobals "passes" = some (some (.ref f_passes)))
    (l_passes : K.lookup f_passes = some ⟨oc_passes, od_passes, .func (PySem.W.fnOf "passes" "passes" (defArgs s_passes) (defBody s_passes) (defScope s_passes) .none kV_passes dc_passes pm_passes an_passes cd_passes ct_passes), sl_passes⟩)
    (c_passes : PySem.W.codeIn K cd_passes "passes" = true)
    (k_passes : PySem.W.keepIn K (.ref f_passes) = true)
    (a__law_deck : PySem.W.nsIn K mainGlobals "_law_deck" = some (some (.ref f__law_deck)))
    (l__law_deck : K.lookup f__law_deck = some ⟨oc__law_deck, od__law_deck, .func (PySem.W.fnOf "_law_deck" "_law_deck" (defArgs s__law_deck) (defBody s__law_deck) (defScope s__law_deck) .none kV__law_deck dc__law_deck pm__law_deck an__law_deck cd__law_deck ct__law_deck), sl__law_deck⟩)
    (c__law_deck : PySem.W.codeIn K cd__law_deck "_law_deck" = true)
    (k__law_deck : PySem.W.keepIn K (.ref f__law_deck) = true)
    (a__law_draw : PySem.W.nsIn K mainGlobals "_law_draw" = some (some (.ref f__law_draw)))
    (l__law_draw : K.lookup f__law_draw = some ⟨oc__law_draw, od__law_draw, .func (PySem.W.fnOf "_law_draw" "_law_draw" (defArgs s__law_draw) (defBody s__law_draw) (defScope s__law_draw) .none kV__law_draw dc__law_draw pm__law_draw an__law_draw cd__law_draw ct__law_draw), sl__law_draw⟩)
    (c__law_draw : PySem.W.codeIn K cd__law_draw "_law_draw" = true)
    (k__law_draw : PySem.W.keepIn K (.ref f__law_draw) = true)
    (a__law_pick : PySem.W.nsIn K mainGlobals "_law_pick" = some (some (.ref f__law_pick)))
    (l__law_pick : K.lookup f__law_pick = some ⟨oc__law_pick, od__law_pick, .func (PySem.W.fnOf "_law_pick" "_law_pick" (defArgs s__law_pick) (defBody s__law_pick) (defScope s__law_pick) .none kV__law_pick dc__law_pick pm__law_pick an__law_pick cd__law_pick ct__law_pick), sl__law_pick⟩)
    (c__law_pick : PySem.W.codeIn K cd__law_pick "_law_pick" = true)
    (k__law_pick : PySem.W.keepIn K (.ref f__law_pick) = true)
    (a__law_names : PySem.W.nsIn K mainGlobals "_law_names" = some (some (.ref f__law_names)))
    (l__law_names : K.lookup f__law_names = some ⟨oc__law_names, od__law_names, .func (PySem.W.fnOf "_law_names" "_law_names" (defArgs s__law_names) (defBody s__law_names) (defScope s__law_names) .none kV__law_names dc__law_names pm__law_names an__law_names cd__law_names ct__law_names), sl__law_names⟩)
    (c__law_names : PySem.W.codeIn K cd__law_names "_law_names" = true)
    (k__law_names : PySem.W.keepIn K (.ref f__law_names) = true)
    (a__law_due : PySem.W.nsIn K mainGlobals "_law_due" = some (some (.ref f__law_due)))
    (l__law_due : K.lookup f__law_due = some ⟨oc__law_due, od__law_due, .func (PySem.W.fnOf "_law_due" "_law_due" (defArgs s__law_due) (defBody s__law_due) (defScope s__law_due) .none kV__law_due dc__law_due pm__law_due an__law_due cd__law_due ct__law_due), sl__law_due⟩)
    (c__law_due : PySem.W.codeIn K cd__law_due "_law_due" = true)
    (k__law_due : PySem.W.keepIn K (.ref f__law_due) = true)
    (a__law_value : PySem.W.nsIn K mainGlobals "_law_value" = some (some (.ref f__law_value)))
    (l__law_value : K.lookup f__law_value = some ⟨oc__law_value, od__law_value, .func (PySem.W.fnOf "_law_value" "_law_value" (defArgs s__law_value) (defBody s__law_value) (defScope s__law_value) .none kV__law_value dc__law_value pm__law_value an__law_value cd__law_value ct__law_value), sl__law_value⟩)
    (c__law_value : PySem.W.codeIn K cd__law_value "_law_value" = true)
    (k__law_value : PySem.W.keepIn K (.ref f__law_value) = true)
    (a__law_operand : PySem.W.nsIn K mainGlobals "_law_operand" = some (some (.ref f__law_operand)))
    (l__law_operand : K.lookup f__law_operand = some ⟨oc__law_operand, od__law_operand, .func (PySem.W.fnOf "_law_operand" "_law_operand" (defArgs s__law_operand) (defBody s__law_operand) (defScope s__law_operand) .none kV__law_operand dc__law_operand pm__law_operand an__law_operand cd__law_operand ct__law_operand), sl__law_operand⟩)
    (c__law_operand : PySem.W.codeIn K cd__law_operand "_law_operand" = true)
    (k__law_operand : PySem.W.keepIn K (.ref f__law_operand) = true)
    (a__law_condition : PySem.W.nsIn K mainGlobals "_law_condition" = some (some (.ref f__law_condition)))
    (l__law_condition : K.lookup f__law_condition = some ⟨oc__law_condition, od__law_condition, .func (PySem.W.fnOf "_law_condition" "_law_condition" (defArgs s__law_condition) (defBody s__law_condition) (defScope s__law_condition) .none kV__law_condition dc__law_condition pm__law_condition an__law_condition cd__law_condition ct__law_condition), sl__law_condition⟩)
    (c__law_condition : PySem.W.codeIn K cd__law_condition "_law_condition" = true)
    (k__law_condition : PySem.W.keepIn K (.ref f__law_condition) = true)
    (a__law_of : PySem.W.nsIn K mainGlobals "_law_of" = some (some (.ref f__law_of)))
    (l__law_of : K.lookup f__law_of = some ⟨oc__law_of, od__law_of, .func (PySem.W.fnOf "_law_of" "_law_of" (defArgs s__law_of) (defBody s__law_of) (defScope s__law_of) .none kV__law_of dc__law_of pm__law_of an__law_of cd__law_of ct__law_of), sl__law_of⟩)
    (c__law_of : PySem.W.codeIn K cd__law_of "_law_of" = true)
    (k__law_of : PySem.W.keepIn K (.ref f__law_of) = true)
    (a__law_told : PySem.W.nsIn K mainGlobals "_law_told" = some (some (.ref f__law_told)))
    (l__law_told : K.lookup f__law_told = some ⟨oc__law_told, od__law_told, .func (PySem.W.fnOf "_law_told" "_law_told" (defArgs s__law_told) (defBody s__law_told) (defScope s__law_told) .none kV__law_told dc__law_told pm__law_told an__law_told cd__law_told ct__law_told), sl__law_told⟩)
    (c__law_told : PySem.W.codeIn K cd__law_told "_law_told" = true)
    (k__law_told : PySem.W.keepIn K (.ref f__law_told) = true)
    (a__law_rules_hold : PySem.W.nsIn K mainGlobals "_law_rules_hold" = some (some (.ref f__law_rules_hold)))
    (l__law_rules_hold : K.lookup f__law_rules_hold = some ⟨oc__law_rules_hold, od__law_rules_hold, .func (PySem.W.fnOf "_law_rules_hold" "_law_rules_hold" (defArgs s__law_rules_hold) (defBody s__law_rules_hold) (defScope s__law_rules_hold) .none kV__law_rules_hold dc__law_rules_hold pm__law_rules_hold an__law_rules_hold cd__law_rules_hold ct__law_rules_hold), sl__law_rules_hold⟩)
    (c__law_rules_hold : PySem.W.codeIn K cd__law_rules_hold "_law_rules_hold" = true)
    (k__law_rules_hold : PySem.W.keepIn K (.ref f__law_rules_hold) = true)
    (a_law : PySem.W.nsIn K mainGlobals "law" = some (some (.ref f_law)))
    (l_law : K.lookup f_law = some ⟨oc_law, od_law, .func (PySem.W.fnOf "law" "law" (defArgs s_law) (defBody s_law) (defScope s_law) .none kV_law dc_law pm_law an_law cd_law ct_law), sl_law⟩)
    (c_law : PySem.W.codeIn K cd_law "law" = true)
    (k_law : PySem.W.keepIn K (.ref f_law) = true)
    (z_isinstance : PySem.W.nsIn K mainGlobals "isinstance" = some none)
    (z_int : PySem.W.nsIn K mainGlobals "int" = some none)
    (z_tuple : PySem.W.nsIn K mainGlobals "tuple" = some none)
    (z_list : PySem.W.nsIn K mainGlobals "list" = some none)
    (z_len : PySem.W.nsIn K mainGlobals "len" = some none)
    (z_range : PySem.W.nsIn K mainGlobals "range" = some none)
    (z_str : PySem.W.nsIn K mainGlobals "str" = some none)
    (z_sorted : PySem.W.nsIn K mainGlobals "sorted" = some none)
    (z_abs : PySem.W.nsIn K mainGlobals "abs" = some none)
    (z_bool : PySem.W.nsIn K mainGlobals "bool" = some none)
    (z_repr : PySem.W.nsIn K mainGlobals "repr" = some none)
    : ∃ fd : FuncData, (∀ (s : Shared) (v : Value), BindsTo s fd ⟨[v], []⟩ [("_law_script", v)]) ∧ ∀ base : Heap, K.In base → base.Ns mainGlobals mg → FnD l.prog w K mg base 5 fa fd ["_law_script"] spLaw := by
  have e := hfa.symm.trans (PySem.W.mg_of X G a_law)
  have e2 : f_law = fa := by cases e; rfl
  subst e2
  let T : Txt K mg := {
    a_comparison_holds := f_comparison_holds
    fd_comparison_holds := _
    F_comparison_holds := fun_mk (st := s_comparison_holds) l_comparison_holds c_comparison_holds k_comparison_holds
    m_comparison_holds := PySem.W.mg_of X G a_comparison_holds
    a_passes := f_passes
    fd_passes := _
    F_passes := fun_mk (st := s_passes) l_passes c_passes k_passes
    m_passes := PySem.W.mg_of X G a_passes
    a__law_deck := f__law_deck
    fd__law_deck := _
    F__law_deck := fun_mk (st := s__law_deck) l__law_deck c__law_deck k__law_deck
    m__law_deck := PySem.W.mg_of X G a__law_deck
    a__law_draw := f__law_draw
    fd__law_draw := _
    F__law_draw := fun_mk (st := s__law_draw) l__law_draw c__law_draw k__law_draw
    m__law_draw := PySem.W.mg_of X G a__law_draw
    a__law_pick := f__law_pick
    fd__law_pick := _
    F__law_pick := fun_mk (st := s__law_pick) l__law_pick c__law_pick k__law_pick
    m__law_pick := PySem.W.mg_of X G a__law_pick
    a__law_names := f__law_names
    fd__law_names := _
    F__law_names := fun_mk (st := s__law_names) l__law_names c__law_names k__law_names
    m__law_names := PySem.W.mg_of X G a__law_names
    a__law_due := f__law_due
    fd__law_due := _
    F__law_due := fun_mk (st := s__law_due) l__law_due c__law_due k__law_due
    m__law_due := PySem.W.mg_of X G a__law_due
    a__law_value := f__law_value
    fd__law_value := _
    F__law_value := fun_mk (st := s__law_value) l__law_value c__law_value k__law_value
    m__law_value := PySem.W.mg_of X G a__law_value
    a__law_operand := f__law_operand
    fd__law_operand := _
    F__law_operand := fun_mk (st := s__law_operand) l__law_operand c__law_operand k__law_operand
    m__law_operand := PySem.W.mg_of X G a__law_operand
    a__law_condition := f__law_condition
    fd__law_condition := _
    F__law_condition := fun_mk (st := s__law_condition) l__law_condition c__law_condition k__law_condition
    m__law_condition := PySem.W.mg_of X G a__law_condition
    a__law_of := f__law_of
    fd__law_of := _
    F__law_of := fun_mk (st := s__law_of) l__law_of c__law_of k__law_of
    m__law_of := PySem.W.mg_of X G a__law_of
    a__law_told := f__law_told
    fd__law_told := _
    F__law_told := fun_mk (st := s__law_told) l__law_told c__law_told k__law_told
    m__law_told := PySem.W.mg_of X G a__law_told
    a__law_rules_hold := f__law_rules_hold
    fd__law_rules_hold := _
    F__law_rules_hold := fun_mk (st := s__law_rules_hold) l__law_rules_hold c__law_rules_hold k__law_rules_hold
    m__law_rules_hold := PySem.W.mg_of X G a__law_rules_hold
    a_law := f_law
    fd_law := _
    F_law := fun_mk (st := s_law) l_law c_law k_law
    m_law := PySem.W.mg_of X G a_law
    n_isinstance := PySem.W.mg_none_of X G z_isinstance
    n_int := PySem.W.mg_none_of X G z_int
    n_tuple := PySem.W.mg_none_of X G z_tuple
    n_list := PySem.W.mg_none_of X G z_list
    n_len := PySem.W.mg_none_of X G z_len
    n_range := PySem.W.mg_none_of X G z_range
    n_str := PySem.W.mg_none_of X G z_str
    n_sorted := PySem.W.mg_none_of X G z_sorted
    n_abs := PySem.W.mg_none_of X G z_abs
    n_bool := PySem.W.mg_none_of X G z_bool
    n_repr := PySem.W.mg_none_of X G z_repr }
  exact ⟨T.fd_law, fun s v => .of_eq rfl, fun base _ _ => fn_law T⟩
end LW
open PySem PySem.W PyProof.Rows L2 in
set_option maxRecDepth 100000 in
set_option maxHeartbeats 0 in
theorem PySem.Challenge.cw_noguess_k09_filters_holds : PySem.Challenge.rw_noguess_k09_filters.Holds := by
  w_on; o_law; k_head; (case hw => w_witness2)
  k_fill
  refine DL.walkD (l := PySem.Challenge.rw_noguess_k09_filters) (k := 5) (x := PySem.Str.ofString "_law_script") rfl rfl ⟨rfl, by decide, by decide⟩ (fun w h Y => PySem.W.kIn_of Y) ?F
  case F =>
    intro w mg fa h KX G hmg
    refine' LW.all_mk KX G hmg ?a_comparison_holds ?l_comparison_holds ?c_comparison_holds ?k_comparison_holds ?a_passes ?l_passes ?c_passes ?k_passes ?a__law_deck ?l__law_deck ?c__law_deck ?k__law_deck ?a__law_draw ?l__law_draw ?c__law_draw ?k__law_draw ?a__law_pick ?l__law_pick ?c__law_pick ?k__law_pick ?a__law_names ?l__law_names ?c__law_names ?k__law_names ?a__law_due ?l__law_due ?c__law_due ?k__law_due ?a__law_value ?l__law_value ?c__law_value ?k__law_value ?a__law_operand ?l__law_operand ?c__law_operand ?k__law_operand ?a__law_condition ?l__law_condition ?c__law_condition ?k__law_condition ?a__law_of ?l__law_of ?c__law_of ?k__law_of ?a__law_told ?l__law_told ?c__law_told ?k__law_told ?a__law_rules_hold ?l__law_rules_hold ?c__law_rules_hold ?k__law_rules_hold ?a_law ?l_law ?c_law ?k_law ?z_isinstance ?z_int ?z_tuple ?z_list ?z_len ?z_range ?z_str ?z_sorted ?z_abs ?z_bool ?z_repr
    (case a_comparison_holds => k_is)
    (case l_comparison_holds => k_is)
    (case c_comparison_holds => k_is)
    (case k_comparison_holds => k_is)
    (case a_passes => k_is)
    (case l_passes => k_is)
    (case c_passes => k_is)
    (case k_passes => k_is)
    (case a__law_deck => k_is)
    (case l__law_deck => k_is)
    (case c__law_deck => k_is)
    (case k__law_deck => k_is)
    (case a__law_draw => k_is)
    (case l__law_draw => k_is)
    (case c__law_draw => k_is)
    (case k__law_draw => k_is)
    (case a__law_pick => k_is)
    (case l__law_pick => k_is)
    (case c__law_pick => k_is)
    (case k__law_pick => k_is)
    (case a__law_names => k_is)
    (case l__law_names => k_is)
    (case c__law_names => k_is)
    (case k__law_names => k_is)
    (case a__law_due => k_is)
    (case l__law_due => k_is)
    (case c__law_due => k_is)
    (case k__law_due => k_is)
    (case a__law_value => k_is)
    (case l__law_value => k_is)
    (case c__law_value => k_is)
    (case k__law_value => k_is)
    (case a__law_operand => k_is)
    (case l__law_operand => k_is)
    (case c__law_operand => k_is)
    (case k__law_operand => k_is)
    (case a__law_condition => k_is)
    (case l__law_condition => k_is)
    (case c__law_condition => k_is)
    (case k__law_condition => k_is)
    (case a__law_of => k_is)
    (case l__law_of => k_is)
    (case c__law_of => k_is)
    (case k__law_of => k_is)
    (case a__law_told => k_is)
    (case l__law_told => k_is)
    (case c__law_told => k_is)
    (case k__law_told => k_is)
    (case a__law_rules_hold => k_is)
    (case l__law_rules_hold => k_is)
    (case c__law_rules_hold => k_is)
    (case k__law_rules_hold => k_is)
    (case a_law => k_is)
    (case l_law => k_is)
    (case c_law => k_is)
    (case k_law => k_is)
    (case z_isinstance => k_is)
    (case z_int => k_is)
    (case z_tuple => k_is)
    (case z_list => k_is)
    (case z_len => k_is)
    (case z_range => k_is)
    (case z_str => k_is)
    (case z_sorted => k_is)
    (case z_abs => k_is)
    (case z_bool => k_is)
    (case z_repr => k_is)
