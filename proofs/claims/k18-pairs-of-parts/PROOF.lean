import PyProof.Rows.All
import Wide.All
import OpenK.AllK
import Wide.FinOn
import HandS.ForMost
import HandS.ForExc
import HandS.Evl
import KE.DataEq
import HandS.TupAny
import HandS.Wide
import HandS.NoneIn
import HandS.IsInst
import HandS.Strs
import HandS.Sort
import HandS.SortInts
import HandS.More
import HandS.Style
import HandS.Ends
import PyProof.ReprLen
import PyProof.StrLawsRepr
import KE.SortData
import HandS.TupSets
import HandS.SetBool
import HandS.Zip
import HandS.Star
import HandS.Flow
import HandS.Iter
import HandS.DictComp
import KE.SortKeyHeap
import HandS.Exc
import HandS.SortKw
import HandS.ExcValue
import HandS.Conv
import KE.DataCmp
import PySem.Challenge.RW_noguess_k18_pairs_and_the_order_of_parts
set_option Elab.async false
set_option linter.all false
set_option autoImplicit false
set_option maxRecDepth 100000
set_option maxHeartbeats 2000000
/-! A layer of data over the hand layer: what a def computes, told over plain data (D), no heap in sight. -/
namespace DL
open PySem L2

/-! ### data -/
inductive D where
  | non | bl (b : Bool) | int (i : Int) | str (x : Str)
  | tup (ds : List D) | lst (ds : List D) | tpw (ds : List D)
  | lsk (ds : List D)
  | dct (ks : List Key) (ds : List D)
  | ref (a : Addr) | ty (n : String)

open Evl (Ex)
theorem _root_.Evl.Ex.free {H H' : Hp} (e : Ex H H') {p : Addr} (h : H' p = none) : H p = none := Evl.fresh_back e h
theorem ex_t {K : PySem.W.Frag} {H H' : Hp} {a : Addr} {xs : List V} (e : Ex H H') (h : SqT K H a xs) : SqT K H' a xs := Evl.ex_t e h
/-- a tuple whose object is known to have no dict of its own -/
def TupF (K : PySem.W.Frag) (G : Hp) (a : Addr) (xs : List V) : Prop :=
  (∃ o : Obj, o.dict = none ∧ G a = some (.frz o (.tup xs))) ∨
    ∃ (o : Obj) (its : Array Value) (n : Nat), K.lookup a = some o ∧ o.cls = .type "tuple" ∧ o.dict = none ∧ o.data = .seq its n ∧ its.size ≤ sizeLine ∧ Vals xs its.toList
theorem TupF.sq {K : PySem.W.Frag} {G : Hp} {a : Addr} {xs : List V} (h : TupF K G a xs) : SqT K G a xs := by
  rcases h with ⟨o, _, h⟩ | ⟨o, its, n, h1, h2, _, h3, h4, h5⟩
  · exact .inl (.inr ⟨o, h⟩)
  · exact .inr ⟨o, its, n, h1, h2, h3, h4, h5⟩
theorem TupF.mono {K : PySem.W.Frag} {G G' : Hp} {a : Addr} {xs : List V} (e : Ex G G') (h : TupF K G a xs) : TupF K G' a xs := by
  rcases h with ⟨o, d, h⟩ | h
  · exact .inl ⟨o, d, e _ _ h⟩
  · exact .inr h
mutual
/-- v stands for the data d where G stands still -/
inductive Rep (K : PySem.W.Frag) (G : Hp) : D → V → Prop
  | non : Rep K G .non .non
  | bl (b : Bool) : Rep K G (.bl b) (.bl b)
  | int (i : Int) : Rep K G (.int i) (.int i)
  | str (x : Str) : Rep K G (.str x) (.str x)
  | tup {a : Addr} {xs : List V} {ds : List D} : TupF K G a xs → RepL K G ds xs → Rep K G (.tup ds) (.ref a)
  | tpw {a : Addr} {xs : List V} {ds : List D} : SqT K G a xs → RepL K G ds xs → Rep K G (.tpw ds) (.ref a)
  | lst {a : Addr} {xs : List V} {ds : List D} : G a = some (.lst xs) → RepL K G ds xs → Rep K G (.lst ds) (.ref a)
  | lsk {a : Addr} {xs : List V} {ds : List D} : SqL K G a xs → RepL K G ds xs → Rep K G (.lsk ds) (.ref a)
  | dct {a : Addr} {ks : List Key} {xs : List V} {ds : List D} {o : Obj} : G a = some (.frz o (.dK (ks.zip xs))) → ks.length = xs.length → ks.Nodup → RepL K G ds xs → Rep K G (.dct ks ds) (.ref a)
  | ref (a : Addr) : Rep K G (.ref a) (.ref a)
  | ty (n : String) : Rep K G (.ty n) (.ty n)
inductive RepL (K : PySem.W.Frag) (G : Hp) : List D → List V → Prop
  | nil : RepL K G [] []
  | cons {d : D} {v : V} {ds : List D} {vs : List V} : Rep K G d v → RepL K G ds vs → RepL K G (d :: ds) (v :: vs)
end
section
variable {K : PySem.W.Frag} {G G' : Hp}
mutual
theorem Rep.mono (e : Ex G G') : ∀ {d : D} {v : V}, Rep K G d v → Rep K G' d v
  | _, _, .non => .non
  | _, _, .bl b => .bl b
  | _, _, .int i => .int i
  | _, _, .str x => .str x
  | _, _, .tup h r => .tup (h.mono e) (RepL.mono e r)
  | _, _, .tpw h r => .tpw (ex_t e h) (RepL.mono e r)
  | _, _, .lst h r => .lst (e _ _ h) (RepL.mono e r)
  | _, _, .lsk h r => .lsk (Evl.ex_l e h) (RepL.mono e r)
  | _, _, .dct h l n r => .dct (e _ _ h) l n (RepL.mono e r)
  | _, _, .ref a => .ref a
  | _, _, .ty n => .ty n
theorem RepL.mono (e : Ex G G') : ∀ {ds : List D} {vs : List V}, RepL K G ds vs → RepL K G' ds vs
  | _, _, .nil => .nil
  | _, _, .cons h r => .cons (Rep.mono e h) (RepL.mono e r)
end
theorem RepL.length : ∀ {ds : List D} {vs : List V}, RepL K G ds vs → ds.length = vs.length
  | _, _, .nil => rfl
  | _, _, .cons _ r => congrArg Nat.succ (RepL.length r)
theorem RepL.get : ∀ {ds : List D} {vs : List V} {i : Nat} {d : D}, RepL K G ds vs → ds[i]? = some d → ∃ v, vs[i]? = some v ∧ Rep K G d v
  | _, _, _, _, .nil, e => by simp at e
  | _, _, 0, _, .cons h _, e => by simp at e; subst e; exact ⟨_, rfl, h⟩
  | _, _, i + 1, _, .cons _ r, e => by
    obtain ⟨v, h1, h2⟩ := RepL.get (i := i) r (by simpa using e)
    exact ⟨v, by simpa using h1, h2⟩
theorem RepL.getV : ∀ {ds : List D} {vs : List V} {i : Nat} {v : V}, RepL K G ds vs → vs[i]? = some v → ∃ d, ds[i]? = some d ∧ Rep K G d v
  | _, _, _, _, .nil, e => by simp at e
  | _, _, 0, _, .cons h _, e => by simp at e; subst e; exact ⟨_, rfl, h⟩
  | _, _, i + 1, _, .cons _ r, e => by
    obtain ⟨d, h1, h2⟩ := RepL.getV (i := i) r (by simpa using e)
    exact ⟨d, by simpa using h1, h2⟩
theorem RepL.append : ∀ {ds es : List D} {vs us : List V}, RepL K G ds vs → RepL K G es us → RepL K G (ds ++ es) (vs ++ us)
  | _, _, _, _, .nil, s => s
  | _, _, _, _, .cons h r, s => .cons h (RepL.append r s)
theorem RepL.take : ∀ {ds : List D} {vs : List V} (n : Nat), RepL K G ds vs → RepL K G (ds.take n) (vs.take n)
  | _, _, 0, _ => .nil
  | _, _, _ + 1, .nil => .nil
  | _, _, n + 1, .cons h r => .cons h (RepL.take n r)
theorem RepL.drop : ∀ {ds : List D} {vs : List V} (n : Nat), RepL K G ds vs → RepL K G (ds.drop n) (vs.drop n)
  | _, _, 0, r => r
  | _, _, _ + 1, .nil => .nil
  | _, _, n + 1, .cons _ r => RepL.drop n r
theorem RepL.eraseIdx : ∀ {ds : List D} {vs : List V} (n : Nat), RepL K G ds vs → RepL K G (ds.eraseIdx n) (vs.eraseIdx n)
  | _, _, _, .nil => .nil
  | _, _, 0, .cons _ r => r
  | _, _, n + 1, .cons h r => .cons h (RepL.eraseIdx n r)
theorem RepL.set : ∀ {ds : List D} {vs : List V} (n : Nat) {d : D} {v : V}, Rep K G d v → RepL K G ds vs → RepL K G (ds.set n d) (vs.set n v)
  | _, _, _, _, _, _, .nil => .nil
  | _, _, 0, _, _, h, .cons _ r => .cons h r
  | _, _, n + 1, _, _, h, .cons h' r => .cons h' (RepL.set n h r)
theorem RepL.reverse : ∀ {ds : List D} {vs : List V}, RepL K G ds vs → RepL K G ds.reverse vs.reverse
  | _, _, .nil => .nil
  | _, _, .cons h r => by
    rw [List.reverse_cons, List.reverse_cons]
    exact (RepL.reverse r).append (.cons h .nil)
theorem RepL.dropLast {ds : List D} {vs : List V} (r : RepL K G ds vs) : RepL K G ds.dropLast vs.dropLast := by
  rw [List.dropLast_eq_take, List.dropLast_eq_take, r.length]
  exact r.take _
theorem RepL.rep {ds : List D} {vs : List V} (r : RepL K G ds vs) : ∀ k : Nat, RepL K G (List.replicate k ds).flatten (List.replicate k vs).flatten
  | 0 => .nil
  | k + 1 => by
    rw [List.replicate_succ, List.replicate_succ, List.flatten_cons, List.flatten_cons]
    exact r.append (RepL.rep r k)
theorem RepL.of_all {ds : List D} {vs : List V} (hl : ds.length = vs.length) (h : ∀ (i : Nat) d v, ds[i]? = some d → vs[i]? = some v → Rep K G d v) : RepL K G ds vs := by
  induction ds generalizing vs with
  | nil => cases vs with
    | nil => exact .nil
    | cons v vs => cases hl
  | cons d ds ih => cases vs with
    | nil => cases hl
    | cons v vs => exact .cons (h 0 d v rfl rfl) (ih (Nat.succ.inj hl) fun i d' v' h1 h2 => h (i + 1) d' v' (by simpa using h1) (by simpa using h2))
end

/-! ### what may change -/
/-- an object that may change, by its data -/
inductive MO where
  | lst (ds : List D)
  | ins (C : Addr) (fs : List (Str × D))
/-- the state over data: the deck of draws (its address, how many draws are left), and the objects that may change -/
structure S where
  dk : Option (Addr × Nat)
  M : Addr → Option MO
def S.put (s : S) (a : Addr) (o : MO) : S := { s with M := fun b => if b = a then some o else s.M b }
def S.del (s : S) (a : Addr) : S := { s with M := fun b => if b = a then none else s.M b }
def S.fuel (s : S) (a : Addr) (n : Nat) : S := { s with dk := some (a, n) }

inductive RepF (K : PySem.W.Frag) (G : Hp) : List (Str × D) → List (Str × V) → Prop
  | nil : RepF K G [] []
  | cons {x : Str} {d : D} {v : V} {ds : List (Str × D)} {vs : List (Str × V)} : Rep K G d v → RepF K G ds vs → RepF K G ((x, d) :: ds) ((x, v) :: vs)
theorem RepF.mono {K : PySem.W.Frag} {G G' : Hp} (e : Ex G G') : ∀ {ds : List (Str × D)} {vs : List (Str × V)}, RepF K G ds vs → RepF K G' ds vs
  | _, _, .nil => .nil
  | _, _, .cons h r => .cons (h.mono e) (RepF.mono e r)

def MRep (K : PySem.W.Frag) (G : Hp) : MO → HO → Prop
  | .lst ds, o => ∃ xs, o = .lst xs ∧ RepL K G ds xs
  | .ins C fs, o => ∃ dx xs, o = .ins C dx xs ∧ RepF K G fs xs
theorem MRep.mono {K : PySem.W.Frag} {G G' : Hp} (e : Ex G G') {m : MO} {o : HO} (h : MRep K G m o) : MRep K G' m o := by
  cases m with
  | lst ds => obtain ⟨xs, e1, r⟩ := h; exact ⟨xs, e1, r.mono e⟩
  | ins C fs => obtain ⟨dx, xs, e1, r⟩ := h; exact ⟨dx, xs, e1, r.mono e⟩

/-- how many draws a deck may serve in all -/
def deckMax : Nat := 2 ^ 60
/-- the deck: its cells' list at a1, the mixed number, the number of draws made -/
structure DeckAt (F : Hp) (s : S) (G H : Hp) (a : Addr) (n : Nat) : Prop where
  ex : ∃ (a1 : Addr) (cells : List Int) (mixed : Int) (k : Nat), a ≠ a1 ∧ (G a = none ∧ F a = none) ∧ (G a1 = none ∧ F a1 = none) ∧ s.M a = none ∧ s.M a1 = none ∧
    H a = some (.lst [.ref a1, .int mixed, .int (k : Int)]) ∧ H a1 = some (.lst (cells.map V.int)) ∧ cells.length ≤ 63 ∧ 0 ≤ mixed ∧ mixed < 2147483587 ∧ k + n ≤ deckMax

/-- H holds what stands still (G), what others own (F), the deck and what may change -/
structure Own (K : PySem.W.Frag) (F : Hp) (s : S) (G H : Hp) : Prop where
  ex : Ex G H
  fr : ∀ p u, F p = some u → H p = some u ∧ G p = none ∧ s.M p = none
  mu : ∀ a m, s.M a = some m → G a = none ∧ ∃ o, H a = some o ∧ MRep K G m o
  dk : ∀ a n, s.dk = some (a, n) → DeckAt F s G H a n
/-- no deck's place -/
def NoDk (s : S) (H : Hp) (p : Addr) : Prop := ∀ a n, s.dk = some (a, n) → ∀ a1 mx k, H a = some (.lst [.ref a1, mx, k]) → p ≠ a ∧ p ≠ a1
section
variable {K : PySem.W.Frag} {F : Hp} {s : S} {G G' H H' : Hp}
/-- a new address is in nothing -/
theorem Own.freeM (o : Own K F s G H) {p : Addr} (h : H p = none) : s.M p = none := by
  cases q : s.M p with
  | none => rfl
  | some m =>
    obtain ⟨_, u, e, _⟩ := o.mu p m q
    rw [e] at h; cases h
theorem Own.freeG (o : Own K F s G H) {p : Addr} (h : H p = none) : G p = none := o.ex.free h
theorem Own.freeF (o : Own K F s G H) {p : Addr} (h : H p = none) : F p = none := by
  cases q : F p with
  | none => rfl
  | some u => rw [(o.fr p u q).1] at h; cases h
/-- a new object that stands still from now on -/
theorem Own.lay (o : Own K F s G H) {p : Addr} {u : HO} (h : H p = none) : Own K F s (upd G p u) (upd H p u) := by
  have hG := o.freeG h
  refine ⟨fun a v e => ?_, fun a v e => ?_, fun a m e => ?_, fun a n e => ?_⟩
  · by_cases ha : a = p
    · subst ha; rw [upd_same] at e ⊢; exact e
    · rw [upd_ne ha] at e ⊢; exact o.ex a v e
  · obtain ⟨h1, h2, h3⟩ := o.fr a v e
    have ha : a ≠ p := ne_of_none h1 h
    exact ⟨by rw [upd_ne ha]; exact h1, by rw [upd_ne ha]; exact h2, h3⟩
  · obtain ⟨g0, v, e1, r⟩ := o.mu a m e
    have ha : a ≠ p := ne_of_none e1 h
    exact ⟨by rw [upd_ne ha]; exact g0, v, by rw [upd_ne ha]; exact e1, r.mono (Ex.new hG)⟩
  · obtain ⟨a1, cells, mixed, k, h1, h2, h3, h4, h5, h6, h7, h8⟩ := (o.dk a n e).ex
    have ha : a ≠ p := ne_of_none h6 h
    have ha1 : a1 ≠ p := ne_of_none h7 h
    exact ⟨a1, cells, mixed, k, h1, by rw [upd_ne ha]; exact h2, by rw [upd_ne ha1]; exact h3, h4, h5, by rw [upd_ne ha]; exact h6, by rw [upd_ne ha1]; exact h7, h8⟩
/-- a new object that nothing knows yet -/
theorem Own.pass (o : Own K F s G H) {p : Addr} {u : HO} (h : H p = none) : Own K F s G (upd H p u) := by
  refine ⟨o.ex.trans (Ex.new h), fun a v e => ?_, fun a m e => ?_, fun a n e => ?_⟩
  · obtain ⟨h1, h2, h3⟩ := o.fr a v e
    exact ⟨by rw [upd_ne (ne_of_none h1 h)]; exact h1, h2, h3⟩
  · obtain ⟨g0, v, e1, r⟩ := o.mu a m e
    exact ⟨g0, v, by rw [upd_ne (ne_of_none e1 h)]; exact e1, r⟩
  · obtain ⟨a1, cells, mixed, k, h1, h2, h3, h4, h5, h6, h7, h8⟩ := (o.dk a n e).ex
    exact ⟨a1, cells, mixed, k, h1, h2, h3, h4, h5, by rw [upd_ne (ne_of_none h6 h)]; exact h6, by rw [upd_ne (ne_of_none h7 h)]; exact h7, h8⟩
/-- an object that nothing knows is another's from here on -/
theorem Own.lend (o : Own K F s G H) {p : Addr} {u : HO} (hp : H p = some u) (hG : G p = none) (hM : s.M p = none) (hd : NoDk s H p) : Own K (upd F p u) s G H := by
  refine ⟨o.ex, fun a v e => ?_, o.mu, fun a n e => ?_⟩
  · by_cases ha : a = p
    · subst ha; rw [upd_same] at e; cases e; exact ⟨hp, hG, hM⟩
    · rw [upd_ne ha] at e; exact o.fr a v e
  · obtain ⟨a1, cells, mixed, k, h1, h2, h3, h4, h5, h6, h7, h8⟩ := (o.dk a n e).ex
    obtain ⟨d1, d2⟩ := hd a n e _ _ _ h6
    exact ⟨a1, cells, mixed, k, h1, ⟨h2.1, by rw [upd_ne (Ne.symm d1)]; exact h2.2⟩, ⟨h3.1, by rw [upd_ne (Ne.symm d2)]; exact h3.2⟩, h4, h5, h6, h7, h8⟩
theorem Own.back (o : Own K F s G H) {F0 : Hp} (e : Ex F0 F) : Own K F0 s G H := by
  refine ⟨o.ex, fun a v q => o.fr a v (e a v q), o.mu, fun a n q => ?_⟩
  obtain ⟨a1, cells, mixed, k, h1, h2, h3, h4, h5, h6, h7, h8⟩ := (o.dk a n q).ex
  exact ⟨a1, cells, mixed, k, h1, ⟨h2.1, e.free h2.2⟩, ⟨h3.1, e.free h3.2⟩, h4, h5, h6, h7, h8⟩
/-- what is another's is no deck's place -/
theorem Own.noDk (o : Own K F s G H) {p : Addr} {u : HO} (hF : F p = some u) : NoDk s H p := fun a n e a1 mx k h => by
  obtain ⟨a1', cells, mixed, k', h1, h2, h3, h4, h5, h6, h7, h8⟩ := (o.dk a n e).ex
  rw [h6] at h; cases h
  exact ⟨(fun z => by rw [z, h2.2] at hF; cases hF), (fun z => by rw [z, h3.2] at hF; cases hF)⟩
/-- an object that nothing knows changes -/
theorem Own.turn (o : Own K F s G H) {p : Addr} {u : HO} (hF : F p = none) (hG : G p = none) (hM : s.M p = none) (hd : NoDk s H p) : Own K F s G (upd H p u) := by
  refine ⟨fun a v e => ?_, fun a v e => ?_, fun a m e => ?_, fun a n e => ?_⟩
  · rw [upd_ne (ne_of_none e hG)]; exact o.ex a v e
  · obtain ⟨h1, h2, h3⟩ := o.fr a v e
    exact ⟨by rw [upd_ne (ne_of_none e hF)]; exact h1, h2, h3⟩
  · obtain ⟨g0, v, e1, r⟩ := o.mu a m e
    refine ⟨g0, v, ?_, r⟩
    rw [upd_ne]
    · exact e1
    · rintro rfl; rw [hM] at e; cases e
  · obtain ⟨a1, cells, mixed, k, h1, h2, h3, h4, h5, h6, h7, h8⟩ := (o.dk a n e).ex
    obtain ⟨d1, d2⟩ := hd a n e _ _ _ h6
    exact ⟨a1, cells, mixed, k, h1, h2, h3, h4, h5, by rw [upd_ne (Ne.symm d1)]; exact h6, by rw [upd_ne (Ne.symm d2)]; exact h7, h8⟩
/-- what stands still grows by an object that nothing else knows -/
theorem Own.frz (o : Own K F s G H) {p : Addr} {u : HO} (hp : H p = some u) (hF : F p = none) (hG : G p = none) (hM : s.M p = none) (hd : NoDk s H p) : Own K F s (upd G p u) H := by
  refine ⟨fun a v e => ?_, fun a v e => ?_, fun a m e => ?_, fun a n e => ?_⟩
  · by_cases ha : a = p
    · subst ha; rw [upd_same] at e; cases e; exact hp
    · rw [upd_ne ha] at e; exact o.ex a v e
  · obtain ⟨h1, h2, h3⟩ := o.fr a v e
    exact ⟨h1, by rw [upd_ne (ne_of_none e hF)]; exact h2, h3⟩
  · obtain ⟨g0, v, e1, r⟩ := o.mu a m e
    refine ⟨?_, v, e1, r.mono (Ex.new hG)⟩
    rw [upd_ne]
    · exact g0
    · rintro rfl; rw [hM] at e; cases e
  · obtain ⟨a1, cells, mixed, k, h1, h2, h3, h4, h5, h6, h7, h8⟩ := (o.dk a n e).ex
    obtain ⟨d1, d2⟩ := hd a n e _ _ _ h6
    exact ⟨a1, cells, mixed, k, h1, by rw [upd_ne (Ne.symm d1)]; exact h2, by rw [upd_ne (Ne.symm d2)]; exact h3, h4, h5, h6, h7, h8⟩
end

/-! ### the slots -/
abbrev Dn := List (Option D)
structure EnvOk (K : PySem.W.Frag) (G : Hp) (δ : Dn) (σ : St) : Prop where
  len : δ.length = σ.length
  at_ : ∀ (i : Nat) (d : D), δ[i]? = some (some d) → ∃ v, σ[i]? = some (some v) ∧ Rep K G d v
section
variable {K : PySem.W.Frag} {G G' : Hp} {δ : Dn} {σ : St}
theorem EnvOk.mono (e : Ex G G') (h : EnvOk K G δ σ) : EnvOk K G' δ σ := ⟨h.len, fun i d q => let ⟨v, a, b⟩ := h.at_ i d q; ⟨v, a, b.mono e⟩⟩
theorem EnvOk.set (h : EnvOk K G δ σ) {i : Nat} {d : D} {v : V} (r : Rep K G d v) : EnvOk K G (δ.set i (some d)) (σ.set i (some v)) := by
  refine ⟨by rw [List.length_set, List.length_set]; exact h.len, fun j e q => ?_⟩
  by_cases hj : i = j
  · subst hj
    by_cases hl : i < δ.length
    · rw [List.getElem?_set_self hl] at q; cases q
      exact ⟨v, List.getElem?_set_self (by rw [← h.len]; exact hl), r⟩
    · rw [List.getElem?_eq_none (by rw [List.length_set]; omega)] at q; cases q
  · rw [List.getElem?_set_ne hj] at q
    obtain ⟨w, a, b⟩ := h.at_ j e q
    exact ⟨w, by rw [List.getElem?_set_ne hj]; exact a, b⟩
def wipeD (δ : Dn) : List Nat → Dn
  | [] => δ
  | v :: vs => (wipeD δ vs).set v none
theorem EnvOk.unset (h : EnvOk K G δ σ) (i : Nat) : EnvOk K G (δ.set i none) (σ.set i none) := by
  refine ⟨by rw [List.length_set, List.length_set]; exact h.len, fun j e q => ?_⟩
  by_cases hj : i = j
  · subst hj
    by_cases hl : i < δ.length
    · rw [List.getElem?_set_self hl] at q; cases q
    · rw [List.getElem?_eq_none (by rw [List.length_set]; omega)] at q; cases q
  · rw [List.getElem?_set_ne hj] at q ⊢
    exact h.at_ j e q
theorem EnvOk.wipe (h : EnvOk K G δ σ) : ∀ vs : List Nat, EnvOk K G (wipeD δ vs) (L2.wipe σ vs)
  | [] => h
  | v :: vs => (EnvOk.wipe h vs).unset v
/-- at a def's entry -/
def startD (N : List Str) (ds : List D) : Dn := ds.map some ++ List.replicate (N.length - ds.length) none
theorem EnvOk.start {N : List Str} {ds : List D} {vs : List V} (r : RepL K G ds vs) : EnvOk K G (startD N ds) (L2.start N vs) := by
  have hl := r.length
  refine ⟨by simp [startD, L2.start, hl], fun i d q => ?_⟩
  unfold startD at q
  unfold L2.start
  by_cases hi : i < ds.length
  · rw [List.getElem?_append_left (by simpa using hi), List.getElem?_map] at q
    cases e : ds[i]? with
    | none => rw [e] at q; cases q
    | some d' =>
      rw [e] at q; cases q
      obtain ⟨v, hv, rv⟩ := r.get e
      exact ⟨v, by rw [List.getElem?_append_left (by simp; omega), List.getElem?_map, hv]; rfl, rv⟩
  · rw [List.getElem?_append_right (by simpa using hi), List.getElem?_replicate] at q
    split at q <;> cases q
end

/-! ### readings over data -/
abbrev DK := D → S → Prop
abbrev WE := Dn → S → DK → Prop
abbrev WT := Dn → S → (Bool → S → Prop) → Prop
abbrev WA := Dn → S → (List D → S → Prop) → Prop
/-- behind an expression -/
def Ret (K : PySem.W.Frag) (F G : Hp) (P : DK) (Q : VK) : Prop := ∀ d s', P d s' → ∀ G' H' v, Ex G G' → Own K F s' G' H' → Rep K G' d v → Q v H'
def RetT (K : PySem.W.Frag) (F G : Hp) (P : Bool → S → Prop) (Q : Bool → Hp → Prop) : Prop := ∀ b s', P b s' → ∀ G' H', Ex G G' → Own K F s' G' H' → Q b H'
def RetA (K : PySem.W.Frag) (n : Nat) (F G : Hp) (P : List D → S → Prop) (Q : List V → Hp → Prop) : Prop := ∀ ds s', P ds s' → ds.length = n → ∀ G' H' vs, Ex G G' → Own K F s' G' H' → RepL K G' ds vs → Q vs H'
/-- behind an expression that made a list of its own -/
def RetL (K : PySem.W.Frag) (F G : Hp) (P : List D → S → Prop) (Q : VK) : Prop := ∀ ds s', P ds s' → ∀ G' H' p xs, Ex G G' → Own K F s' G' H' → H' p = none → RepL K G' ds xs → Q (.ref p) (upd H' p (.lst xs))
section
variable {K : PySem.W.Frag} {F G G' : Hp}
theorem Ret.mono {P : DK} {Q : VK} (e : Ex G G') (h : Ret K F G P Q) : Ret K F G' P Q := fun d s' p G2 H' v e2 => h d s' p G2 H' v (e.trans e2)
theorem RetT.mono {P : Bool → S → Prop} {Q : Bool → Hp → Prop} (e : Ex G G') (h : RetT K F G P Q) : RetT K F G' P Q := fun d s' p G2 H' e2 => h d s' p G2 H' (e.trans e2)
theorem RetA.mono {n : Nat} {P : List D → S → Prop} {Q : List V → Hp → Prop} (e : Ex G G') (h : RetA K n F G P Q) : RetA K n F G' P Q := fun d s' p l G2 H' v e2 => h d s' p l G2 H' v (e.trans e2)
theorem RetL.mono {P : List D → S → Prop} {Q : VK} (e : Ex G G') (h : RetL K F G P Q) : RetL K F G' P Q := fun d s' p G2 H' v xs e2 => h d s' p G2 H' v xs (e.trans e2)
end
def lE (K : PySem.W.Frag) (w : WE) : TE := fun σ H Q => ∃ F G δ s P, EnvOk K G δ σ ∧ Own K F s G H ∧ w δ s P ∧ Ret K F G P Q
def lT (K : PySem.W.Frag) (w : WT) : TT := fun σ H Q => ∃ F G δ s P, EnvOk K G δ σ ∧ Own K F s G H ∧ w δ s P ∧ RetT K F G P Q
def lA (K : PySem.W.Frag) (n : Nat) (w : WA) : TA := fun σ H Q => ∃ F G δ s P, EnvOk K G δ σ ∧ Own K F s G H ∧ w δ s P ∧ RetA K n F G P Q
def lL (K : PySem.W.Frag) (w : WA) : TE := fun σ H Q => ∃ F G δ s P, EnvOk K G δ σ ∧ Own K F s G H ∧ w δ s P ∧ RetL K F G P Q

theorem PE.imp {X : Cx} {e : Expr} {t t' : TE} (h : PE X e t) (i : ∀ σ H Q, t' σ H Q → t σ H Q) : PE X e t' := ⟨fun pins s σ H Q I q => h.run pins s σ H Q I (i σ H Q q)⟩
theorem PT.imp {X : Cx} {e : Expr} {t t' : TT} (h : PT X e t) (i : ∀ σ H Q, t' σ H Q → t σ H Q) : PT X e t' := ⟨fun pins s σ H Q I q => h.run pins s σ H Q I (i σ H Q q)⟩
theorem PA.imp {X : Cx} {e : List Expr} {t t' : TA} (h : PA X e t) (i : ∀ σ H Q, t' σ H Q → t σ H Q) : PA X e t' := ⟨fun pos pins s σ H Q I q => h.run pos pins s σ H Q I (i σ H Q q)⟩
theorem PS.imp {X : Cx} {e : Stmt} {t t' : TS} (h : PS X e t) (i : ∀ D σ H, t' D σ H → t D σ H) : PS X e t' := ⟨fun pins s σ H D I q => h.run pins s σ H D I (i D σ H q)⟩
theorem PSs.imp {X : Cx} {e : List Stmt} {t t' : TS} (h : PSs X e t) (i : ∀ D σ H, t' D σ H → t D σ H) : PSs X e t' := ⟨fun pins s σ H D I q => h.run pins s σ H D I (i D σ H q)⟩

abbrev DE (X : Cx) (e : Expr) (w : WE) : Prop := PE X e (lE X.K w)
abbrev DT (X : Cx) (e : Expr) (w : WT) : Prop := PT X e (lT X.K w)
/-- an argument list of n expressions -/
abbrev DA (X : Cx) (es : List Expr) (n : Nat) (w : WA) : Prop := PA X es (lA X.K n w)
/-- an expression that makes a list of its own -/
abbrev DEL (X : Cx) (e : Expr) (w : WA) : Prop := PE X e (lL X.K w)

/-! ### names, constants -/
section
variable {X : Cx} {e a b : Expr} {pos : Pos}
def wVar (i : Nat) : WE := fun δ s P => match δ[i]? with
  | some (some d) => P d s
  | _ => False
def wC (d : D) : WE := fun _ s P => P d s
theorem dvar (i : Nat) {x : Str} {pos : Pos} (hN : X.N[i]? = some x := by rfl) (hv : Vis X.env.scope x := by first | exact Or.inl rfl | exact Or.inr (Or.inl rfl) | exact Or.inr (Or.inr rfl)) (hd : (x == ("__debug__" : Str)) = false := by decide)
    (hcd : (x == ("__classdict__" : Str)) = false := by decide) : DE X (.Name x pos) (wVar i) := by
  refine PE.imp (pe_var hN hv hd hcd) fun σ H Q ⟨F, G, δ, s, P, e, o, h, q⟩ => ?_
  unfold wVar at h
  split at h
  · rename_i d hd
    obtain ⟨v, hv, r⟩ := e.at_ i d hd
    exact ⟨v, hv, q d s h G H v (Ex.refl G) o r⟩
  · exact h.elim
theorem dcon {v : V} {d : D} (h : PE X e (tC v)) (r : ∀ G, Rep X.K G d v) : DE X e (wC d) :=
  PE.imp h fun _ H _ ⟨F, G, _, s, _, _, o, h, q⟩ => q d s h G H v (Ex.refl G) o (r G)
theorem dint {i j pos} : DE X (.Constant (.int i) j pos) (wC (.int i)) := dcon pe_int fun _ => .int i
theorem dbl {b j pos} : DE X (.Constant (.bool b) j pos) (wC (.bl b)) := dcon pe_bl fun _ => .bl b
theorem dnon {j pos} : DE X (.Constant .none j pos) (wC .non) := dcon pe_non fun _ => .non
theorem dstr {x j pos} : DE X (.Constant (.str x) j pos) (wC (.str x)) := dcon pe_str fun _ => .str x
end
end DL

set_option Elab.async false
set_option linter.all false
set_option autoImplicit false
set_option maxRecDepth 100000
set_option maxHeartbeats 2000000
namespace DL
open PySem L2
open Evl (Ex)

/-! ### data as the library knows it -/
mutual
def D.py : D → PyData
  | .non => .none
  | .bl b => .bool b
  | .int i => .int i
  | .str x => .str x
  | .tup ds => .tuple (D.pys ds)
  | .tpw ds => .tuple (D.pys ds)
  | .lst ds => .list (D.pys ds)
  | .lsk _ => .none
  | .dct _ _ => .none
  | .ref _ => .none
  | .ty _ => .none
def D.pys : List D → List PyData
  | [] => []
  | d :: ds => d.py :: D.pys ds
end
mutual
/-- no address within -/
def D.isData : D → Bool
  | .tup ds => D.allData ds
  | .tpw ds => D.allData ds
  | .lst ds => D.allData ds
  | .ref _ => false
  | .ty _ => false
  | .lsk _ => false
  | .dct _ _ => false
  | _ => true
def D.allData : List D → Bool
  | [] => true
  | d :: ds => d.isData && D.allData ds
end
def D.eq (x y : D) : Bool := PyData.eqv x.py y.py
def D.depth (x : D) : Nat := x.py.depth
theorem pys_map (ds : List D) : D.pys ds = ds.map D.py := by
  induction ds with
  | nil => rfl
  | cons d ds ih => rw [D.pys, ih]; rfl
theorem allData_all (ds : List D) : D.allData ds = ds.all D.isData := by
  induction ds with
  | nil => rfl
  | cons d ds ih => rw [D.allData, ih]; rfl
mutual
theorem py_plain : ∀ d : D, d.py.plain = true
  | .non => rfl
  | .bl _ => rfl
  | .int _ => rfl
  | .str _ => rfl
  | .tup ds => by show PyData.plainAll (D.pys ds) = true; exact pys_plain ds
  | .tpw ds => by show PyData.plainAll (D.pys ds) = true; exact pys_plain ds
  | .lst ds => by show PyData.plainAll (D.pys ds) = true; exact pys_plain ds
  | .lsk _ => rfl
  | .dct _ _ => rfl
  | .ref _ => rfl
  | .ty _ => rfl
theorem pys_plain : ∀ ds : List D, PyData.plainAll (D.pys ds) = true
  | [] => rfl
  | d :: ds => by
    show (d.py.plain && PyData.plainAll (D.pys ds)) = true
    rw [py_plain d, pys_plain ds]; rfl
end
section
variable {K : PySem.W.Frag} {G : Hp}
mutual
theorem Rep.dp : ∀ {d : D} {v : V}, Rep K G d v → d.isData = true → Dp K G v d.py
  | _, _, .non, _ => .non
  | _, _, .bl b, _ => .bl b
  | _, _, .int i, _ => .int i
  | _, _, .str x, _ => .str x
  | _, _, .tup h r, e => .tup h.sq (RepL.dp r e)
  | _, _, .tpw h r, e => .tup h (RepL.dp r e)
  | _, _, .lst h r, e => .lst (.of h) (RepL.dp r e)
  | _, _, .lsk _ _, e => nomatch e
  | _, _, .dct _ _ _ _, e => nomatch e
  | _, _, .ref a, e => nomatch e
  | _, _, .ty n, e => nomatch e
theorem RepL.dp : ∀ {ds : List D} {vs : List V}, RepL K G ds vs → D.allData ds = true → DpAll K G vs (D.pys ds)
  | _, _, .nil, _ => .nil
  | _, _, .cons h r, e => by
    have e' : _ ∧ _ := Bool.and_eq_true_iff.mp e
    exact .cons (Rep.dp h e'.1) (RepL.dp r e'.2)
end
end

/-! ### a list that may change, seen as data -/
def view (s : S) (d : D) : D := match d with
  | .ref a => match s.M a with
    | some (.lst ds) => .lst ds
    | _ => .ref a
  | d => d
section
variable {K : PySem.W.Frag} {F : Hp} {s : S} {G G' H : Hp}
theorem Own.seen (o : Own K F s G H) {d : D} {v : V} (r : Rep K G d v) : Rep K H (view s d) v := by
  cases r with
  | ref a =>
    unfold DL.view
    cases q : s.M a with
    | none => simp only [q]; exact .ref a
    | some m => cases m with
      | lst ds =>
        simp only [q]
        obtain ⟨_, u, e, xs, rfl, r⟩ := o.mu a _ q
        exact .lst e (r.mono o.ex)
      | ins C fs => simp only [q]; exact .ref a
  | non => exact .non
  | bl b => exact .bl b
  | int i => exact .int i
  | str x => exact .str x
  | tup h r => exact .tup (h.mono o.ex) (r.mono o.ex)
  | tpw h r => exact .tpw (ex_t o.ex h) (r.mono o.ex)
  | lst h r => exact .lst (o.ex _ _ h) (r.mono o.ex)
  | lsk h r => exact .lsk (Evl.ex_l o.ex h) (r.mono o.ex)
  | dct h l n r => exact .dct (o.ex _ _ h) l n (r.mono o.ex)
  | ty n => exact .ty n
/-- the items stand still -/
theorem Own.seqL (o : Own K F s G H) {d : D} {v : V} {ds : List D} (r : Rep K G d v) (e : view s d = .lst ds) : ∃ a xs, v = .ref a ∧ H a = some (.lst xs) ∧ RepL K G ds xs := by
  cases r with
  | ref a =>
    unfold DL.view at e
    cases q : s.M a with
    | none => simp only [q] at e; cases e
    | some m => cases m with
      | lst ds' =>
        simp only [q] at e
        cases e
        obtain ⟨_, u, e, xs, rfl, r⟩ := o.mu a _ q
        exact ⟨a, xs, rfl, e, r⟩
      | ins C fs => simp only [q] at e; cases e
  | lst h r => cases e; exact ⟨_, _, rfl, o.ex _ _ h, r⟩
  | _ => cases e
theorem Rep.seqT {d : D} {v : V} {ds : List D} (r : Rep K G d v) (e : d = .tup ds ∨ d = .tpw ds) : ∃ a xs, v = .ref a ∧ SqT K G a xs ∧ RepL K G ds xs := by
  rcases e with rfl | rfl
  · cases r with
    | tup h r => exact ⟨_, _, rfl, h.sq, r⟩
  · cases r with
    | tpw h r => exact ⟨_, _, rfl, h, r⟩
theorem view_tup {d : D} {ds : List D} (e : view s d = .tup ds) : d = .tup ds := by
  cases d with
  | ref a =>
    unfold DL.view at e
    cases q : s.M a with
    | none => simp only [q] at e; cases e
    | some m => cases m with
      | lst _ => simp only [q] at e; cases e
      | ins _ _ => simp only [q] at e; cases e
  | _ => exact e
theorem view_tpw {d : D} {ds : List D} (e : view s d = .tpw ds) : d = .tpw ds := by
  cases d with
  | ref a =>
    unfold DL.view at e
    cases q : s.M a with
    | none => simp only [q] at e; cases e
    | some m => cases m with
      | lst _ => simp only [q] at e; cases e
      | ins _ _ => simp only [q] at e; cases e
  | _ => exact e
/-- a sequence of items that are looked at -/
def seqD (s : S) (d : D) : Option (List D) := match view s d with
  | .lst ds => some ds
  | .tup ds => some ds
  | .tpw ds => some ds
  | _ => none
theorem Own.seq (o : Own K F s G H) {d : D} {v : V} {ds : List D} (r : Rep K G d v) (e : seqD s d = some ds) : ∃ a xs, v = .ref a ∧ (SqL K H a xs ∨ SqT K H a xs) ∧ RepL K G ds xs := by
  unfold seqD at e
  cases q : DL.view s d with
  | lst ds' =>
    simp only [q] at e; cases e
    obtain ⟨a, xs, e1, e2, r'⟩ := o.seqL r q
    exact ⟨a, xs, e1, .inl (.of e2), r'⟩
  | tup ds' =>
    simp only [q] at e; cases e
    obtain ⟨a, xs, e1, e2, r'⟩ := r.seqT (.inl (view_tup q))
    exact ⟨a, xs, e1, .inr (ex_t o.ex e2), r'⟩
  | tpw ds' =>
    simp only [q] at e; cases e
    obtain ⟨a, xs, e1, e2, r'⟩ := r.seqT (.inr (view_tpw q))
    exact ⟨a, xs, e1, .inr (ex_t o.ex e2), r'⟩
  | _ => simp only [q] at e; cases e
end

/-! ### behind: short words -/
section
variable {K : PySem.W.Frag} {F : Hp} {s : S} {G G' H : Hp} {P : DK} {Q : VK}
theorem Ret.val (q : Ret K F G P Q) (o : Own K F s G H) {d : D} {v : V} (h : P d s) (r : Rep K G d v) : Q v H := q d s h G H v (Ex.refl G) o r
theorem Ret.newL (q : Ret K F G P Q) (o : Own K F s G H) {ds : List D} {xs : List V} (h : P (.lst ds) s) (r : RepL K G ds xs) {p : Addr} (hp : H p = none) : Q (.ref p) (upd H p (.lst xs)) := by
  have e := Ex.new (o := .lst xs) (o.freeG hp)
  exact q _ s h _ _ _ e (o.lay hp) (.lst upd_same (r.mono e))
theorem Ret.newT (q : Ret K F G P Q) (o : Own K F s G H) {ds : List D} {xs : List V} (h : P (.tup ds) s) (r : RepL K G ds xs) {p : Addr} {ob : Obj} (hd : ob.dict = none) (hp : H p = none) : Q (.ref p) (upd H p (.frz ob (.tup xs))) := by
  have e := Ex.new (o := .frz ob (.tup xs)) (o.freeG hp)
  exact q _ s h _ _ _ e (o.lay hp) (.tup (.inl ⟨ob, hd, upd_same⟩) (r.mono e))
theorem Ret.newW (q : Ret K F G P Q) (o : Own K F s G H) {ds : List D} {xs : List V} (h : P (.tpw ds) s) (r : RepL K G ds xs) {p : Addr} (hp : H p = none) : Q (.ref p) (upd H p (.tup xs)) := by
  have e := Ex.new (o := .tup xs) (o.freeG hp)
  exact q _ s h _ _ _ e (o.lay hp) (.tpw (.of upd_same) (r.mono e))
end

/-! ### argument lists, displays -/
def wNil : WA := fun _ s P => P [] s
def wCons (w : WE) (r : WA) : WA := fun δ s P => w δ s fun d s1 => r δ s1 fun ds s2 => P (d :: ds) s2
def wTup (w : WA) : WE := fun δ s P => w δ s fun ds s1 => P (.tup ds) s1
/-- a new list as a value that stands still from now on -/
def wFz (w : WA) : WE := fun δ s P => w δ s fun ds s1 => P (.lst ds) s1
section
variable {X : Cx} {e a b : Expr} {es : List Expr} {n : Nat} {pos : Pos} {w wa wb : WE} {wr : WA}
theorem da_nil : DA X [] 0 wNil := PA.imp pa_nil fun _ H _ ⟨F, G, _, s, _, _, o, h, q⟩ => q [] s h rfl G H [] (Ex.refl G) o .nil
theorem da_cons (ha : DE X e w) (hr : DA X es n wr) (hs : starEach (e :: es) X.env = (false, eval e X.env) :: starEach es X.env := by rfl) : DA X (e :: es) (n + 1) (wCons w wr) :=
  PA.imp (pa_cons ha hr hs) fun σ H Q ⟨F, G, δ, s, P, en, o, h, q⟩ => ⟨F, G, δ, s, _, en, o, h, fun d s1 h1 G1 H1 v e1 o1 r1 =>
    ⟨F, G1, δ, s1, _, en.mono e1, o1, h1, fun ds s2 h2 hl G2 H2 vs e2 o2 r2 => q _ s2 h2 (by rw [List.length_cons, hl]) G2 H2 _ (e1.trans e2) o2 (.cons (r1.mono e2) r2)⟩⟩
/-- (a, b): a tuple whose object is known -/
theorem pe_tupF {x1} {t : TA} (h : PA X es t) : PE X (.Tuple es x1 pos) (fun σ H Q => t σ H fun xs H1 => xs.length ≤ sizeLine ∧ ∀ p (o : Obj), H1 p = none → o.dict = none → Q (.ref p) (upd H1 p (.frz o (.tup xs)))) := by
  refine ⟨fun pins s σ H Q I hq => ?_⟩
  refine wpAny_Tuple_spliced (thn (h.run pos pins s σ H _ I hq) fun us s1 ⟨xs, H1, I1, r, z, q⟩ => ⟨by rw [← r.length]; exact z, ?_⟩)
  have hf : H1 s1.heap.objs.size = none := I1.hok.fresh (Nat.le_refl _)
  refine ⟨.ref s1.heap.objs.size, upd H1 s1.heap.objs.size (.frz { cls := .type "tuple", data := .seq us.toArray } (.tup xs)), I1.laid (t' := s1.toks) (fun b u e => Heap.get?_push_of_some _ e) (Nat.le_refl _) ?_, rfl, q _ { cls := .type "tuple", data := .seq us.toArray } hf rfl⟩
  exact ⟨Heap.get?_push_size _ rfl, z, us, r, ⟨_, Heap.get?_push_size _ rfl, rfl, _, rfl⟩⟩
theorem de_tup {x1} (h : DA X es n wr) (hn : n ≤ sizeLine := by decide) : DE X (.Tuple es x1 pos) (wTup wr) :=
  PE.imp (pe_tupF h) fun σ H Q ⟨F, G, δ, s, P, en, o, hw, q⟩ => ⟨F, G, δ, s, _, en, o, hw, fun ds s1 h1 hl G1 H1 vs e1 o1 r1 =>
    ⟨by rw [← r1.length, hl]; exact hn, fun p ob hp hd => (q.mono e1).newT o1 h1 r1 hd hp⟩⟩
theorem del_lst (h : DA X es n wr) (hn : n ≤ sizeLine := by decide) : DEL X (.List es pos) wr :=
  PE.imp (pe_lst h) fun σ H Q ⟨F, G, δ, s, P, en, o, hw, q⟩ => ⟨F, G, δ, s, _, en, o, hw, fun ds s1 h1 hl G1 H1 vs e1 o1 r1 =>
    ⟨by rw [← r1.length, hl]; exact hn, fun p hp => q ds s1 h1 G1 H1 p vs e1 o1 hp r1⟩⟩
theorem de_fz (h : DEL X e wr) : DE X e (wFz wr) :=
  PE.imp h fun σ H Q ⟨F, G, δ, s, P, en, o, hw, q⟩ => ⟨F, G, δ, s, _, en, o, hw, fun ds s1 h1 G1 H1 p xs e1 o1 hp r1 => (q.mono e1).newL o1 h1 r1 hp⟩
end

/-! ### operations on values -/
abbrev R2D := D → D → S → DK → Prop
def lO (K : PySem.W.Frag) (r : R2D) : R2 := fun x y H Q => ∃ F G s d e P, Own K F s G H ∧ Rep K G d x ∧ Rep K G e y ∧ r d e s P ∧ Ret K F G P Q
abbrev OpD (X : Cx) (f : Value → Value → Sem Value) (r : R2D) : Prop := OpR X f (lO X.K r)
def wOp (r : R2D) (wa wb : WE) : WE := fun δ s P => wa δ s fun d s1 => wb δ s1 fun e s2 => r d e s2 P
theorem lE_op {K : PySem.W.Frag} {r : R2D} {wa wb : WE} {σ : St} {H : Hp} {Q : VK} (h : lE K (wOp r wa wb) σ H Q) : tOp (lO K r) (lE K wa) (lE K wb) σ H Q := by
  obtain ⟨F, G, δ, s, P, en, o, hw, q⟩ := h
  exact ⟨F, G, δ, s, _, en, o, hw, fun d s1 h1 G1 H1 v e1 o1 r1 => ⟨F, G1, δ, s1, _, en.mono e1, o1, h1, fun e s2 h2 G2 H2 u e2 o2 r2 =>
    ⟨F, G2, s2, d, e, P, o2, r1.mono e2, r2, h2, q.mono (e1.trans e2)⟩⟩⟩
section
variable {X : Cx} {a b : Expr} {pos : Pos} {wa wb : WE} {r : R2D}
theorem de_op {op : Operator} (ho : OpD X (binaryOp op) r) (ha : DE X a wa) (hb : DE X b wb) : DE X (.BinOp a op b pos) (wOp r wa wb) := PE.imp (pe_op ho ha hb) fun _ _ _ h => lE_op h
theorem de_cmp {op : CmpOp} (ho : OpD X (compareOp op) r) (ha : DE X a wa) (hb : DE X b wb) (hm : behindInMarks op b = false) : DE X (.Compare a [op] [b] pos) (wOp r wa wb) := PE.imp (pe_cmpR ho ha hb hm) fun _ _ _ h => lE_op h
theorem de_ix (ho : IxR X (lO X.K r)) (ha : DE X a wa) (hb : DE X b wb) (hs : PlainIx b) : DE X (.Subscript a b pos) (wOp r wa wb) := PE.imp (pe_ix ho ha hb hs) fun _ _ _ h => lE_op h
end

/-- two ints, under C -/
def roI (C : Int → Int → Prop) (g : Int → Int → D) : R2D := fun x y s P => match x, y with
  | .int i, .int j => C i j ∧ P (g i j) s
  | _, _ => False
section
variable {X : Cx}
theorem OpD.ints {f : Value → Value → Sem Value} {C : Int → Int → Prop} {g : Int → Int → Int} (h : OpR X f (rI C fun i j => .int (g i j))) : OpD X f (roI C fun i j => .int (g i j)) := by
  intro pins s σ H x y v u Q I rx ry ⟨F, G, s', d, e, P, o, rd, re, hw, q⟩
  cases rd <;> cases re <;> first | exact hw.elim | skip
  exact h pins s σ H _ _ v u Q I rx ry ⟨_, _, rfl, rfl, hw.1, q.val o hw.2 (.int _)⟩
theorem OpD.intsB {f : Value → Value → Sem Value} {C : Int → Int → Prop} {g : Int → Int → Bool} (h : OpR X f (rI C fun i j => .bl (g i j))) : OpD X f (roI C fun i j => .bl (g i j)) := by
  intro pins s σ H x y v u Q I rx ry ⟨F, G, s', d, e, P, o, rd, re, hw, q⟩
  cases rd <;> cases re <;> first | exact hw.elim | skip
  exact h pins s σ H _ _ v u Q I rx ry ⟨_, _, rfl, rfl, hw.1, q.val o hw.2 (.bl _)⟩
theorem rI0_of {f : Value → Value → Sem Value} {g : Int → Int → V} (h : OpR X f (rI0 g)) : OpR X f (rI (fun _ _ => True) g) := by
  intro pins s σ H x y v u Q I rx ry ⟨i, j, e1, e2, _, q⟩
  exact h pins s σ H x y v u Q I rx ry ⟨i, j, e1, e2, q⟩
abbrev roSub : R2D := roI (fun _ _ => True) fun i j => .int (i - j)
abbrev roMod : R2D := roI (fun _ j => j ≠ 0) fun i j => .int (i.fmod j)
abbrev roFdiv : R2D := roI CDivN fun i j => .int (i.fdiv j)
abbrev roPow : R2D := roI CPow fun i j => .int (i ^ j.toNat)
theorem od_sub : OpD X (binaryOp .Sub) roSub := OpD.ints (g := fun i j => i - j) (rI0_of op_sub)
theorem od_mod : OpD X (binaryOp .Mod) roMod := OpD.ints (g := fun i j => i.fmod j) op_modN
theorem od_fdiv : OpD X (binaryOp .FloorDiv) roFdiv := OpD.ints (g := fun i j => i.fdiv j) op_fdivN
theorem od_pow : OpD X (binaryOp .Pow) roPow := OpD.ints (g := fun i j => i ^ j.toNat) op_pow
/-- t + u, the new tuple's object known -/
def rCatF (K : PySem.W.Frag) : R2 := fun x y H Q => ∃ a b xs ys, x = .ref a ∧ y = .ref b ∧ SqT K H a xs ∧ SqT K H b ys ∧ xs.length + ys.length ≤ sizeLine ∧
  (xs = [] → Q (.ref b) H) ∧ (xs ≠ [] → ys = [] → Q (.ref a) H) ∧ (xs ≠ [] → ys ≠ [] → ∀ p (o : Obj), H p = none → o.dict = none → Q (.ref p) (upd H p (.frz o (.tup (xs ++ ys)))))
theorem op_catF : OpR X (binaryOp .Add) (rCatF X.K) := by
  intro pins s σ H x y v u Q I rx ry h
  obtain ⟨a, b, xs, ys, rfl, rfl, ha, hb, hz, q0, q1, q2⟩ := h
  cases rx
  cases ry
  obtain ⟨its, r1, p1, _⟩ := I.tuple ha
  obtain ⟨its2, r2, p2, _⟩ := I.tuple hb
  by_cases hx : xs = []
  · subst hx
    cases r1
    exact cat_tup0 p1 p2 ⟨.ref b, H, I, rfl, q0 rfl⟩
  · refine HT.cat_tup p1 p2 (fun z => hx (r1.nil_iff.mp z)) (fun z => ⟨.ref a, H, I, rfl, q1 hx (r2.nil_iff.mp z)⟩) (fun z => ?_) (by rw [← r1.length, ← r2.length]; exact hz)
    have hf : H s.heap.objs.size = none := I.hok.fresh (Nat.le_refl _)
    refine ⟨.ref s.heap.objs.size, upd H s.heap.objs.size (.frz { cls := .type "tuple", data := .seq (its ++ its2).toArray } (.tup (xs ++ ys))), I.laid (t' := s.toks) (fun b ob q => Heap.get?_push_of_some _ q) (Nat.le_refl _) ?_, rfl, q2 hx (fun w => z (r2.nil_iff.mpr w)) _ { cls := .type "tuple", data := .seq (its ++ its2).toArray } hf rfl⟩
    exact ⟨Heap.get?_push_size _ rfl, by rw [List.length_append]; exact hz, _, r1.append r2, ⟨_, Heap.get?_push_size _ rfl, rfl, _, rfl⟩⟩
/-- +: ints, texts, lists (a new one), tuples -/
def roAdd : R2D := fun x y s P => match view s x, view s y with
  | .int i, .int j => P (.int (i + j)) s
  | .str i, .str j => i.length + j.length ≤ sizeLine ∧ P (.str (i ++ j)) s
  | .lst xs, .lst ys => xs.length + ys.length ≤ sizeLine ∧ P (.lst (xs ++ ys)) s
  | .tup xs, .tup ys => xs.length + ys.length ≤ sizeLine ∧ P (.tup (xs ++ ys)) s
  | _, _ => False
theorem od_add : OpD X (binaryOp .Add) roAdd := by
  intro pins s σ H x y v u Q I rx ry ⟨F, G, s', d, e, P, o, rd, re, hw, q⟩
  have vd := o.seen rd
  have ve := o.seen re
  unfold roAdd at hw
  cases qd : view s' d <;> cases qe : view s' e <;> simp only [qd, qe] at hw <;> first | exact hw.elim | skip
  · rw [qd] at vd; rw [qe] at ve
    cases vd; cases ve
    exact op_add pins s σ H _ _ v u Q I rx ry ⟨_, _, rfl, rfl, q.val o hw (.int _)⟩
  · rw [qd] at vd; rw [qe] at ve
    cases vd; cases ve
    exact op_add_str pins s σ H _ _ v u Q I rx ry ⟨_, _, rfl, rfl, hw.1, q.val o hw.2 (.str _)⟩
  · have ed := view_tup qd
    have ee := view_tup qe
    subst ed; subst ee
    obtain ⟨a, xs, rfl, h1, r1⟩ := rd.seqT (.inl rfl)
    obtain ⟨b, ys, rfl, h2, r2⟩ := re.seqT (.inl rfl)
    refine op_catF pins s σ H _ _ v u Q I rx ry ⟨a, b, xs, ys, rfl, rfl, ex_t o.ex h1, ex_t o.ex h2, by rw [← r1.length, ← r2.length]; exact hw.1, fun z => ?_, fun _ z => ?_, fun _ _ p ob hp hd => q.newT o hw.2 (r1.append r2) hd hp⟩
    · subst z
      cases r1
      exact q.val o hw.2 re
    · subst z
      cases r2
      exact q.val o (by simpa using hw.2) rd
  · obtain ⟨p, xs, rfl, h1, r1⟩ := o.seqL rd qd
    obtain ⟨p2, ys, rfl, h2, r2⟩ := o.seqL re qe
    exact op_cat pins s σ H _ _ v u Q I rx ry ⟨p, p2, xs, ys, rfl, rfl, h1, h2, by rw [← r1.length, ← r2.length]; exact hw.1, fun a ha => q.newL o hw.2 (r1.append r2) ha⟩
/-- *: ints (one of them below 2^64), a list as often -/
def roMul : R2D := fun x y s P => match view s x, y with
  | .int i, .int j => CMul i j ∧ P (.int (i * j)) s
  | .lst xs, .int k => (-(2 ^ 63) ≤ k ∧ k < 2 ^ 63 ∧ xs.length * k.toNat ≤ sizeLine) ∧ P (.lst (List.replicate k.toNat xs).flatten) s
  | _, _ => False
theorem od_mul : OpD X (binaryOp .Mult) roMul := by
  intro pins s σ H x y v u Q I rx ry ⟨F, G, s', d, e, P, o, rd, re, hw, q⟩
  have vd := o.seen rd
  unfold roMul at hw
  cases qd : view s' d <;> cases re <;> simp only [qd] at hw <;> first | exact hw.elim | skip
  · rw [qd] at vd
    cases vd
    exact op_mul pins s σ H _ _ v u Q I rx ry ⟨_, _, rfl, rfl, hw.1, q.val o hw.2 (.int _)⟩
  · obtain ⟨p, xs, rfl, h1, r1⟩ := o.seqL rd qd
    refine op_rep pins s σ H _ _ v u Q I rx ry ⟨p, _, xs, rfl, rfl, h1, hw.1.1, hw.1.2.1, by rw [← r1.length]; exact hw.1.2.2, fun a ha => q.newL o hw.2 (r1.rep _) ha⟩

/-! ### comparisons -/
def roLt : R2D := fun x y s P => match x, y with
  | .int i, .int j => P (.bl (decide (i < j))) s
  | .str i, .str j => P (.bl (decide (i.cps.toList < j.cps.toList))) s
  | _, _ => False
theorem od_lt : OpD X (compareOp .Lt) roLt := by
  intro pins s σ H x y v u Q I rx ry ⟨F, G, s', d, e, P, o, rd, re, hw, q⟩
  cases rd <;> cases re <;> first | exact hw.elim | skip
  · exact op_lt pins s σ H _ _ v u Q I rx ry ⟨_, _, rfl, rfl, q.val o hw (.bl _)⟩
  · exact op_lt_str pins s σ H _ _ v u Q I rx ry ⟨_, _, rfl, rfl, q.val o hw (.bl _)⟩
def roLe : R2D := fun x y s P => match x, y with
  | .int i, .int j => P (.bl (decide (i ≤ j))) s
  | .str i, .str j => P (.bl (!decide (j.cps.toList < i.cps.toList))) s
  | _, _ => False
abbrev roGt : R2D := roI (fun _ _ => True) fun i j => .bl (decide (j < i))
abbrev roGe : R2D := roI (fun _ _ => True) fun i j => .bl (decide (j ≤ i))
theorem od_gt : OpD X (compareOp .Gt) roGt := OpD.intsB (g := fun i j => decide (j < i)) (rI0_of op_gt)
theorem od_ge : OpD X (compareOp .GtE) roGe := OpD.intsB (g := fun i j => decide (j ≤ i)) (rI0_of op_ge)
/-- x is None -/
def roIs : R2D := fun x y s P => match y with
  | .non => P (.bl (match x with | .non => true | _ => false)) s
  | _ => False
def roIsNot : R2D := fun x y s P => match y with
  | .non => P (.bl (match x with | .non => false | _ => true)) s
  | _ => False
theorem od_is : OpD X (compareOp .Is) roIs := by
  intro pins s σ H x y v u Q I rx ry ⟨F, G, s', d, e, P, o, rd, re, hw, q⟩
  cases re <;> first | exact hw.elim | skip
  refine op_isN pins s σ H _ _ v u Q I rx ry ⟨rfl, ?_⟩
  cases rd <;> exact q.val o hw (.bl _)
theorem od_isnot : OpD X (compareOp .IsNot) roIsNot := by
  intro pins s σ H x y v u Q I rx ry ⟨F, G, s', d, e, P, o, rd, re, hw, q⟩
  cases re <;> first | exact hw.elim | skip
  refine op_notN pins s σ H _ _ v u Q I rx ry ⟨rfl, ?_⟩
  cases rd <;> exact q.val o hw (.bl _)
/-- ==, !=: data without addresses, one of them at most 60 deep -/
def EqOk (x y : D) : Prop := x.isData = true ∧ y.isData = true ∧ min x.depth y.depth ≤ 60
def roEq : R2D := fun x y s P => EqOk (view s x) (view s y) ∧ P (.bl (D.eq (view s x) (view s y))) s
def roNe : R2D := fun x y s P => EqOk (view s x) (view s y) ∧ P (.bl (!D.eq (view s x) (view s y))) s
theorem od_eq (hu : X.A.units + 64 < cLine) : OpD X (compareOp .Eq) roEq := by
  intro pins s σ H x y v u Q I rx ry ⟨F, G, s', d, e, P, o, rd, re, ⟨⟨h1, h2, h3⟩, hw⟩, q⟩
  obtain ⟨as, r1⟩ := Dp.reads I _ _ _ ((o.seen rd).dp h1) rx
  obtain ⟨bs, r2⟩ := Dp.reads I _ _ _ ((o.seen re).dp h2) ry
  exact SeqAt.eq_plain r1 r2 (py_plain _) (py_plain _) (Nat.lt_of_le_of_lt (Nat.add_le_add_left h3 _) (by omega)) ⟨.bl _, H, I, rfl, q.val o hw (.bl _)⟩
theorem od_ne (hu : X.A.units + 64 < cLine) : OpD X (compareOp .NotEq) roNe := by
  intro pins s σ H x y v u Q I rx ry ⟨F, G, s', d, e, P, o, rd, re, ⟨⟨h1, h2, h3⟩, hw⟩, q⟩
  obtain ⟨as, r1⟩ := Dp.reads I _ _ _ ((o.seen rd).dp h1) rx
  obtain ⟨bs, r2⟩ := Dp.reads I _ _ _ ((o.seen re).dp h2) ry
  exact SeqAt.ne_plain r1 r2 (py_plain _) (py_plain _) (Nat.lt_of_le_of_lt (Nat.add_le_add_left h3 _) (by omega)) ⟨.bl _, H, I, rfl, q.val o hw (.bl _)⟩
end
end DL

set_option Elab.async false
set_option linter.all false
set_option autoImplicit false
set_option maxRecDepth 100000
set_option maxHeartbeats 2000000
namespace DL
open PySem L2
open Evl (Ex)

/-! ### tests -/
/-- a truth value told -/
def wTst (w : WE) : WT := fun δ s P => w δ s fun d s1 => match d with
  | .bl b => P b s1
  | _ => False
/-- the truth of any value -/
def wTru (w : WE) : WT := fun δ s P => w δ s fun d s1 => match view s1 d with
  | .bl b => P b s1
  | .non => P false s1
  | .int i => P (i != 0) s1
  | .str x => x.length ≤ sizeLine ∧ P ((x.length : Int) != 0) s1
  | .lst ds => P (!ds.isEmpty) s1
  | .tup ds => P (!ds.isEmpty) s1
  | .tpw ds => P (!ds.isEmpty) s1
  | _ => False
def wAnd (w u : WT) : WT := fun δ s P => w δ s fun b s1 => match b with
  | true => u δ s1 P
  | false => P false s1
def wOr (w u : WT) : WT := fun δ s P => w δ s fun b s1 => match b with
  | true => P true s1
  | false => u δ s1 P
def wNot (w : WT) : WT := fun δ s P => w δ s fun b s1 => P (!b) s1
def wIfE (c : WT) (w u : WE) : WE := fun δ s P => c δ s fun b s1 => match b with
  | true => w δ s1 P
  | false => u δ s1 P
/-- and, or, not as values (all but the last a truth value) -/
def wAndV (w u : WE) : WE := fun δ s P => w δ s fun d s1 => match d with
  | .bl true => u δ s1 P
  | .bl false => P (.bl false) s1
  | _ => False
def wOrV (w u : WE) : WE := fun δ s P => w δ s fun d s1 => match d with
  | .bl true => P (.bl true) s1
  | .bl false => u δ s1 P
  | _ => False
def wNotV (w : WE) : WE := fun δ s P => w δ s fun d s1 => match d with
  | .bl b => P (.bl (!b)) s1
  | _ => False
abbrev DW (X : Cx) (e : Expr) (w : WT) : Prop := PW X e (lT X.K w)
theorem PW.imp {X : Cx} {e : Expr} {t t' : TT} (h : PW X e t) (i : ∀ σ H Q, t' σ H Q → t σ H Q) : PW X e t' := ⟨fun wh pins s σ H Q I q => h.run wh pins s σ H Q I (i σ H Q q)⟩
theorem isEmpty_len {α β : Type} {xs : List α} {ys : List β} (h : xs.length = ys.length) : xs.isEmpty = ys.isEmpty := by
  cases xs <;> cases ys <;> first | rfl | cases h
section
variable {X : Cx} {a b c e : Expr} {pos : Pos} {wa wb : WE} {u v : WT} {r r' : R2D} {rest : List Expr}
theorem lT_tst {K : PySem.W.Frag} {σ : St} {H : Hp} {Q : Bool → Hp → Prop} {w : WE} (h : lT K (wTst w) σ H Q) : lE K w σ H fun x H' => ∃ k, x = .bl k ∧ Q k H' := by
  obtain ⟨F, G, δ, s, P, en, o, hw, q⟩ := h
  refine ⟨F, G, δ, s, _, en, o, hw, fun d s1 h1 G1 H1 x e1 o1 r1 => ?_⟩
  cases r1 <;> first | exact h1.elim | skip
  exact ⟨_, rfl, q _ s1 h1 G1 H1 e1 o1⟩
theorem dt_cmp {op : CmpOp} (ho : OpD X (compareOp op) r) (ha : DE X a wa) (hb : DE X b wb) (hm : behindInMarks op b = false) : DT X (.Compare a [op] [b] pos) (wTst (wOp r wa wb)) :=
  PT.imp (pt_cmpR ho ha hb hm) fun σ H Q h => lE_op (lT_tst h)
theorem dt_truth (ha : DE X a wa) (he : ∀ whole, isTrue a X.env whole = (do let v ← whole; standAt a.pos; holding [v] (truthy v)) := by intro _; rfl) : DT X a (wTru wa) :=
  PT.imp (pt_truth ha he) fun σ H Q ⟨F, G, δ, s, P, en, o, hw, q⟩ => ⟨F, G, δ, s, _, en, o, hw, fun d s1 h1 G1 H1 x e1 o1 r1 => by
    have rv := o1.seen r1
    cases qd : view s1 d <;> simp only [qd] at h1 rv <;> first | exact h1.elim | skip
    · cases rv; exact ⟨false, rfl, q _ s1 h1 G1 H1 e1 o1⟩
    · cases rv; exact ⟨_, rfl, q _ s1 h1 G1 H1 e1 o1⟩
    · cases rv; exact ⟨_, rfl, q _ s1 h1 G1 H1 e1 o1⟩
    · cases rv; exact ⟨_, ⟨h1.1, rfl⟩, q _ s1 h1.2 G1 H1 e1 o1⟩
    · cases rv with
      | tup t r => exact ⟨_, .inr (.inl ⟨_, t.sq, rfl⟩), by rw [← isEmpty_len r.length]; exact q _ s1 h1 G1 H1 e1 o1⟩
    · cases rv with
      | lst t r => exact ⟨_, .inl ⟨_, .of t, rfl⟩, by rw [← isEmpty_len r.length]; exact q _ s1 h1 G1 H1 e1 o1⟩
    · cases rv with
      | tpw t r => exact ⟨_, .inr (.inl ⟨_, t, rfl⟩), by rw [← isEmpty_len r.length]; exact q _ s1 h1 G1 H1 e1 o1⟩⟩
theorem dw_and1 (ha : DT X a u) : DW X (.BoolOp .And [a] pos) u := pw_and1 ha
theorem dw_or1 (ha : DT X a u) : DW X (.BoolOp .Or [a] pos) u := pw_or1 ha
theorem dw_and (ha : DT X a u) (hb : DW X (.BoolOp .And (b :: rest) pos) v) : DW X (.BoolOp .And (a :: b :: rest) pos) (wAnd u v) :=
  PW.imp (pw_and ha hb) fun σ H Q ⟨F, G, δ, s, P, en, o, hw, q⟩ => ⟨F, G, δ, s, _, en, o, hw, fun k s1 h1 G1 H1 e1 o1 => by
    cases k with
    | true => rw [if_pos rfl]; exact ⟨F, G1, δ, s1, P, en.mono e1, o1, h1, q.mono e1⟩
    | false => rw [if_neg Bool.false_ne_true]; exact q _ s1 h1 G1 H1 e1 o1⟩
theorem dw_or (ha : DT X a u) (hb : DW X (.BoolOp .Or (b :: rest) pos) v) : DW X (.BoolOp .Or (a :: b :: rest) pos) (wOr u v) :=
  PW.imp (pw_or ha hb) fun σ H Q ⟨F, G, δ, s, P, en, o, hw, q⟩ => ⟨F, G, δ, s, _, en, o, hw, fun k s1 h1 G1 H1 e1 o1 => by
    cases k with
    | true => rw [if_pos rfl]; exact q _ s1 h1 G1 H1 e1 o1
    | false => rw [if_neg Bool.false_ne_true]; exact ⟨F, G1, δ, s1, P, en.mono e1, o1, h1, q.mono e1⟩⟩
theorem dt_not (ha : DT X a u) : DT X (.UnaryOp .Not a pos) (wNot u) :=
  PT.imp (pt_not ha) fun σ H Q ⟨F, G, δ, s, P, en, o, hw, q⟩ => ⟨F, G, δ, s, _, en, o, hw, fun k s1 h1 G1 H1 e1 o1 => q _ s1 h1 G1 H1 e1 o1⟩
theorem de_if (hc : DT X c u) (ha : DE X a wa) (hb : DE X b wb) : DE X (.IfExp c a b pos) (wIfE u wa wb) :=
  PE.imp (pe_ifExp hc ha hb) fun σ H Q ⟨F, G, δ, s, P, en, o, hw, q⟩ => ⟨F, G, δ, s, _, en, o, hw, fun k s1 h1 G1 H1 e1 o1 => by
    cases k with
    | true => rw [if_pos rfl]; exact ⟨F, G1, δ, s1, P, en.mono e1, o1, h1, q.mono e1⟩
    | false => rw [if_neg Bool.false_ne_true]; exact ⟨F, G1, δ, s1, P, en.mono e1, o1, h1, q.mono e1⟩⟩
theorem de_one {op : PySem.BoolOp} (h : DE X a wa) : DE X (.BoolOp op [a] pos) wa := pe_one h
theorem de_and (ha : DE X a wa) (hb : DE X (.BoolOp .And (b :: rest) pos) wb) : DE X (.BoolOp .And (a :: b :: rest) pos) (wAndV wa wb) :=
  PE.imp (pe_and ha hb) fun σ H Q ⟨F, G, δ, s, P, en, o, hw, q⟩ => ⟨F, G, δ, s, _, en, o, hw, fun d s1 h1 G1 H1 x e1 o1 r1 => by
    cases r1 <;> first | exact h1.elim | skip
    rename_i k
    refine ⟨k, rfl, ?_⟩
    cases k with
    | true => rw [if_pos rfl]; exact ⟨F, G1, δ, s1, P, en.mono e1, o1, h1, q.mono e1⟩
    | false => rw [if_neg Bool.false_ne_true]; exact q _ s1 h1 G1 H1 _ e1 o1 (.bl _)⟩
theorem de_or (ha : DE X a wa) (hb : DE X (.BoolOp .Or (b :: rest) pos) wb) : DE X (.BoolOp .Or (a :: b :: rest) pos) (wOrV wa wb) :=
  PE.imp (pe_or ha hb) fun σ H Q ⟨F, G, δ, s, P, en, o, hw, q⟩ => ⟨F, G, δ, s, _, en, o, hw, fun d s1 h1 G1 H1 x e1 o1 r1 => by
    cases r1 <;> first | exact h1.elim | skip
    rename_i k
    refine ⟨k, rfl, ?_⟩
    cases k with
    | true => rw [if_pos rfl]; exact q _ s1 h1 G1 H1 _ e1 o1 (.bl _)
    | false => rw [if_neg Bool.false_ne_true]; exact ⟨F, G1, δ, s1, P, en.mono e1, o1, h1, q.mono e1⟩⟩
theorem de_not (ha : DE X a wa) : DE X (.UnaryOp .Not a pos) (wNotV wa) :=
  PE.imp (pe_not ha) fun σ H Q ⟨F, G, δ, s, P, en, o, hw, q⟩ => ⟨F, G, δ, s, _, en, o, hw, fun d s1 h1 G1 H1 x e1 o1 r1 => by
    cases r1 <;> first | exact h1.elim | skip
    exact ⟨_, rfl, q _ s1 h1 G1 H1 _ e1 o1 (.bl _)⟩⟩
/-- a < b < c -/
def wChain (r r' : R2D) (wa wb wc : WE) : WE := fun δ s P => wa δ s fun x s1 => wb δ s1 fun y s2 => r x y s2 fun z s3 => match z with
  | .bl true => wc δ s3 fun z' s4 => r' y z' s4 P
  | .bl false => P (.bl false) s3
  | _ => False
theorem lE_chain {K : PySem.W.Frag} {wc : WE} {σ : St} {H : Hp} {Q : VK} (h : lE K (wChain r r' wa wb wc) σ H Q) : tChain (lO K r) (lO K r') (lE K wa) (lE K wb) (lE K wc) σ H Q := by
  obtain ⟨F, G, δ, s, P, en, o, hw, q⟩ := h
  refine ⟨F, G, δ, s, _, en, o, hw, fun d s1 h1 G1 H1 v e1 o1 r1 => ⟨F, G1, δ, s1, _, en.mono e1, o1, h1, fun e s2 h2 G2 H2 u e2 o2 r2 => ⟨F, G2, s2, d, e, _, o2, r1.mono e2, r2, h2, fun z s3 h3 G3 H3 w e3 o3 r3 => ?_⟩⟩⟩
  have e13 := e1.trans (e2.trans e3)
  cases r3 <;> first | exact h3.elim | skip
  rename_i k
  refine ⟨k, rfl, ?_⟩
  cases k with
  | true => rw [if_pos rfl]; exact ⟨F, G3, δ, s3, _, en.mono e13, o3, h3, fun d4 s4 h4 G4 H4 v4 e4 o4 r4 => ⟨F, G4, s4, e, d4, P, o4, r2.mono (e3.trans e4), r4, h4, q.mono (e13.trans e4)⟩⟩
  | false => rw [if_neg Bool.false_ne_true]; exact q _ s3 h3 G3 H3 _ e13 o3 (.bl _)
theorem de_chain {op op' : CmpOp} {wc : WE} (ho : OpD X (compareOp op) r) (ho' : OpD X (compareOp op') r') (ha : DE X a wa) (hb : DE X b wb) (hc : DE X c wc)
    (hm : lastMarks [op, op'] [b, c] = false := by with_unfolding_all rfl) : DE X (.Compare a [op, op'] [b, c] pos) (wChain r r' wa wb wc) := PE.imp (pe_chain ho ho' ha hb hc hm) fun _ _ _ h => lE_chain h
theorem dt_chain {op op' : CmpOp} {wc : WE} (ho : OpD X (compareOp op) r) (ho' : OpD X (compareOp op') r') (ha : DE X a wa) (hb : DE X b wb) (hc : DE X c wc)
    (hm : lastMarks [op, op'] [b, c] = false := by with_unfolding_all rfl) : DT X (.Compare a [op, op'] [b, c] pos) (wTst (wChain r r' wa wb wc)) := PT.imp (pt_chain ho ho' ha hb hc hm) fun _ _ _ h => lE_chain (lT_tst h)
end

/-! ### statements -/
structure DEnds where
  nx : Dn → S → Prop
  rt : DK
  bk : Dn → S → Prop := fun _ _ => False
  ct : Dn → S → Prop := fun _ _ => False
abbrev WS := DEnds → Dn → S → Prop
def RetS (K : PySem.W.Frag) (F G : Hp) (P : Dn → S → Prop) (Q : St → Hp → Prop) : Prop := ∀ δ s', P δ s' → ∀ G' H' σ', Ex G G' → EnvOk K G' δ σ' → Own K F s' G' H' → Q σ' H'
theorem RetS.mono {K : PySem.W.Frag} {F G G' : Hp} {P : Dn → S → Prop} {Q : St → Hp → Prop} (e : Ex G G') (h : RetS K F G P Q) : RetS K F G' P Q := fun δ s' p G2 H' σ' e2 => h δ s' p G2 H' σ' (e.trans e2)
structure REnds (K : PySem.W.Frag) (F G : Hp) (D' : DEnds) (D : Ends) : Prop where
  nx : RetS K F G D'.nx D.nx
  rt : Ret K F G D'.rt D.rt
  bk : RetS K F G D'.bk D.bk
  ct : RetS K F G D'.ct D.ct
theorem REnds.mono {K : PySem.W.Frag} {F G G' : Hp} {D' : DEnds} {D : Ends} (e : Ex G G') (h : REnds K F G D' D) : REnds K F G' D' D := ⟨h.nx.mono e, h.rt.mono e, h.bk.mono e, h.ct.mono e⟩
def lS (K : PySem.W.Frag) (w : WS) : TS := fun D σ H => ∃ F G δ s D', EnvOk K G δ σ ∧ Own K F s G H ∧ w D' δ s ∧ REnds K F G D' D
abbrev DS (X : Cx) (st : Stmt) (w : WS) : Prop := PS X st (lS X.K w)
abbrev DSs (X : Cx) (st : List Stmt) (w : WS) : Prop := PSs X st (lS X.K w)
def wNext : WS := fun D δ s => D.nx δ s
def wSeq (w u : WS) : WS := fun D δ s => w { D with nx := u D } δ s
def wRet (w : WE) : WS := fun D δ s => w δ s D.rt
def wRetN : WS := fun D _ s => D.rt .non s
def wDrop (w : WE) : WS := fun D δ s => w δ s fun _ s1 => D.nx δ s1
def wIf (c : WT) (w u : WS) : WS := fun D δ s => c δ s fun b s1 => match b with
  | true => w D δ s1
  | false => u D δ s1
def wBreak : WS := fun D δ s => D.bk δ s
def wCont : WS := fun D δ s => D.ct δ s
def wNever : WS := fun _ _ _ => False
/-- a list that changed is looked at as a value from here on -/
def wFreeze (i : Nat) (w : WS) : WS := fun D δ s => match δ[i]? with
  | some (some (.ref a)) => match s.M a with
    | some (.lst ds) => (∀ b n, s.dk = some (b, n) → a ≠ b) ∧ w D (δ.set i (some (.lst ds))) (s.del a)
    | _ => False
  | _ => False
section
variable {X : Cx} {st : Stmt} {rest : List Stmt} {e c : Expr} {pos : Pos} {w u : WS} {we : WE} {wt : WT}
theorem dss_nil : DSs X [] wNext := PSs.imp pss_nil fun D σ H ⟨F, G, δ, s, D', en, o, hw, q⟩ => q.nx δ s hw G H σ (Ex.refl G) en o
theorem dss_one (h : DS X st w) : DSs X [st] w := pss_one h
theorem dss_cons (h1 : DS X st w) (h2 : DSs X rest u) : DSs X (st :: rest) (wSeq w u) :=
  PSs.imp (pss_cons h1 h2) fun D σ H ⟨F, G, δ, s, D', en, o, hw, q⟩ => ⟨F, G, δ, s, _, en, o, hw, fun δ1 s1 h1 G1 H1 σ1 e1 en1 o1 => ⟨F, G1, δ1, s1, D', en1, o1, h1, q.mono e1⟩, q.rt, q.bk, q.ct⟩
theorem ds_pass : DS X (.Pass pos) wNext := PS.imp ps_pass fun D σ H ⟨F, G, δ, s, D', en, o, hw, q⟩ => q.nx δ s hw G H σ (Ex.refl G) en o
theorem ds_break : DS X (.Break pos) wBreak := PS.imp ps_break fun D σ H ⟨F, G, δ, s, D', en, o, hw, q⟩ => q.bk δ s hw G H σ (Ex.refl G) en o
theorem ds_continue : DS X (.Continue pos) wCont := PS.imp ps_continue fun D σ H ⟨F, G, δ, s, D', en, o, hw, q⟩ => q.ct δ s hw G H σ (Ex.refl G) en o
theorem ds_ret (h : DE X e we) : DS X (.Return (some e) pos) (wRet we) := PS.imp (ps_ret h) fun D σ H ⟨F, G, δ, s, D', en, o, hw, q⟩ => ⟨F, G, δ, s, _, en, o, hw, q.rt⟩
theorem ds_retN : DS X (.Return none pos) wRetN := PS.imp ps_retN fun D σ H ⟨F, G, δ, s, D', en, o, hw, q⟩ => q.rt _ s hw G H _ (Ex.refl G) o .non
theorem ds_expr (h : DE X e we) (hs : swapsWith e none pos.line X.env = pure false := by rfl) : DS X (.Expr e pos) (wDrop we) :=
  PS.imp (ps_expr h hs) fun D σ H ⟨F, G, δ, s, D', en, o, hw, q⟩ => ⟨F, G, δ, s, _, en, o, hw, fun d s1 h1 G1 H1 v e1 o1 _ => q.nx δ s1 h1 G1 H1 σ e1 (en.mono e1) o1⟩
theorem ds_never : DS X st wNever := PS.imp ps_never fun D σ H ⟨F, G, δ, s, D', en, o, hw, q⟩ => hw
theorem dss_never {sts : List Stmt} : DSs X sts wNever := PSs.imp pss_never fun D σ H ⟨F, G, δ, s, D', en, o, hw, q⟩ => hw
theorem ds_if {a b : List Stmt} (hc : DT X c wt) (ha : DSs X a w) (hb : DSs X b u) : DS X (.If c a b pos) (wIf wt w u) :=
  PS.imp (ps_if hc ha hb) fun D σ H ⟨F, G, δ, s, D', en, o, hw, q⟩ => ⟨F, G, δ, s, _, en, o, hw, fun k s1 h1 G1 H1 e1 o1 => by
    cases k with
    | true => rw [if_pos rfl]; exact ⟨F, G1, δ, s1, D', en.mono e1, o1, h1, q.mono e1⟩
    | false => rw [if_neg Bool.false_ne_true]; exact ⟨F, G1, δ, s1, D', en.mono e1, o1, h1, q.mono e1⟩⟩
theorem S.del_M {s : S} {a b : Addr} {m : MO} (h : (s.del a).M b = some m) : b ≠ a ∧ s.M b = some m := by
  by_cases e : b = a
  · subst e; simp only [S.del, if_pos] at h; cases h
  · simp only [S.del, if_neg e] at h; exact ⟨e, h⟩
theorem Own.del {K : PySem.W.Frag} {F : Hp} {s : S} {G H : Hp} (o : Own K F s G H) (a : Addr) : Own K F (s.del a) G H := by
  refine ⟨o.ex, fun b u h => ⟨(o.fr b u h).1, (o.fr b u h).2.1, ?_⟩, fun b m h => o.mu b m (S.del_M h).2, fun b n h => ?_⟩
  · by_cases e : b = a
    · simp [S.del, e]
    · simp only [S.del, if_neg e]; exact (o.fr b u h).2.2
  obtain ⟨a1, cells, mixed, k, h1, h2, h3, h4, h5, h6⟩ := (o.dk b n h).ex
  refine ⟨a1, cells, mixed, k, h1, h2, h3, ?_, ?_, h6⟩
  · by_cases e : b = a
    · simp [S.del, e]
    · simp only [S.del, if_neg e]; exact h4
  · by_cases e : a1 = a
    · simp [S.del, e]
    · simp only [S.del, if_neg e]; exact h5
theorem dss_freeze {sts : List Stmt} (i : Nat) (h : DSs X sts w) : DSs X sts (wFreeze i w) :=
  PSs.imp h fun D σ H ⟨F, G, δ, s, D', en, o, hw, q⟩ => by
    unfold wFreeze at hw
    split at hw <;> first | exact hw.elim | skip
    rename_i a ha
    split at hw <;> first | exact hw.elim | skip
    rename_i ds hm
    obtain ⟨g0, ob, hp, xs, rfl, r⟩ := o.mu a _ hm
    obtain ⟨v, hv, rv⟩ := en.at_ i _ ha
    cases rv
    have hM : (s.del a).M a = none := by simp [S.del]
    have e1 : Ex G (upd G a (.lst xs)) := Ex.new g0
    refine ⟨F, upd G a (.lst xs), _, s.del a, D', ?_, (o.del a).frz hp (by cases qF : F a with | none => rfl | some u => rw [(o.fr a u qF).2.2] at hm; cases hm) g0 hM (fun b n hd a1 mx k hb => ⟨hw.1 b n hd, ?_⟩), hw.2, q.mono e1⟩
    · have z := (en.mono e1).set (i := i) (d := .lst ds) (v := .ref a) (.lst upd_same (r.mono e1))
      have ez : σ.set i (some (.ref a)) = σ := by
        apply List.ext_getElem?
        intro j
        by_cases hj : i = j
        · subst hj; rw [List.getElem?_set_self (List.getElem?_eq_some_iff.mp hv).1, hv]
        · rw [List.getElem?_set_ne hj]
      rw [ez] at z
      exact z
    · obtain ⟨a1', cells, mixed, k', h1, h2, h3, h4, h5, h6, h7, _⟩ := (o.dk b n hd).ex
      rw [h6] at hb; cases hb
      rintro rfl
      rw [h5] at hm; cases hm
end

/-! ### targets -/
abbrev WG := D → Dn → S → (Dn → S → Prop) → Prop
abbrev WGs := List D → Dn → S → (Dn → S → Prop) → Prop
/-- slots that a target stores; what is behind it agrees elsewhere -/
def RetG (K : PySem.W.Frag) (F G : Hp) (vs : List Nat) (σ : St) (P : Dn → S → Prop) (Q : St → Hp → Prop) : Prop := ∀ δ s', P δ s' → ∀ G' H' (σ' : St), Ex G G' → EnvOk K G' δ σ' → Own K F s' G' H' → σ'.length = σ.length → (∀ j : Nat, j ∉ vs → σ'[j]? = σ[j]?) → Q σ' H'
theorem RetS.toG {K : PySem.W.Frag} {F G : Hp} {vs : List Nat} {σ : St} {P : Dn → S → Prop} {Q : St → Hp → Prop} (h : RetS K F G P Q) : RetG K F G vs σ P Q := fun δ s' p G' H' σ' e en o _ _ => h δ s' p G' H' σ' e en o
def lG (K : PySem.W.Frag) (vs : List Nat) (w : WG) : TG := fun v σ H Q => ∃ F G δ s d P, EnvOk K G δ σ ∧ Own K F s G H ∧ Rep K G d v ∧ w d δ s P ∧ RetG K F G vs σ P Q
def lGs (K : PySem.W.Frag) (is : List Nat) (w : WGs) : TGs := fun vs σ H Q => ∃ F G δ s ds P, EnvOk K G δ σ ∧ Own K F s G H ∧ RepL K G ds vs ∧ w ds δ s P ∧ RetG K F G is σ P Q
theorem PG.imp {X : Cx} {e : Expr} {t t' : TG} (h : PG X e t) (i : ∀ v σ H Q, t' v σ H Q → t v σ H Q) : PG X e t' := ⟨fun pins s σ H v u Q I r q => h.run pins s σ H v u Q I r (i v σ H Q q)⟩
theorem PGs.imp {X : Cx} {e : List Expr} {t t' : TGs} (h : PGs X e t) (i : ∀ v σ H Q, t' v σ H Q → t v σ H Q) : PGs X e t' := ⟨fun pins s σ H v u Q I r q => h.run pins s σ H v u Q I r (i v σ H Q q)⟩
abbrev DG (X : Cx) (e : Expr) (vs : List Nat) (w : WG) : Prop := PG X e (lG X.K vs w)
abbrev DGs (X : Cx) (es : List Expr) (vs : List Nat) (w : WGs) : Prop := PGs X es (lGs X.K vs w)
def wgName (i : Nat) : WG := fun d δ s P => P (δ.set i (some d)) s
def wgNil : WGs := fun ds δ s P => match ds with
  | [] => P δ s
  | _ => False
def wgCons (g : WG) (r : WGs) : WGs := fun ds δ s P => match ds with
  | d :: ds => g d δ s fun δ1 s1 => r ds δ1 s1 P
  | [] => False
def wgTup (n : Nat) (g : WGs) : WG := fun d δ s P => match d with
  | .tup ds => ds.length = n ∧ g ds δ s P
  | .tpw ds => ds.length = n ∧ g ds δ s P
  | _ => False
def wAsg (w : WE) (g : WG) : WS := fun D δ s => w δ s fun d s1 => g d δ s1 D.nx
/-- name = a new list that will change -/
def wSetM (i : Nat) (w : WA) : WS := fun D δ s => w δ s fun ds s1 => ∀ p, s1.M p = none → (∀ a n, s1.dk = some (a, n) → p ≠ a) → D.nx (δ.set i (some (.ref p))) (s1.put p (.lst ds))
theorem Own.put {K : PySem.W.Frag} {F : Hp} {s : S} {G H : Hp} (o : Own K F s G H) {p : Addr} {ds : List D} {xs : List V} (hp : H p = none) (r : RepL K G ds xs) : Own K F (s.put p (.lst ds)) G (upd H p (.lst xs)) := by
  have o1 := o.pass (u := .lst xs) hp
  have hG := o.freeG hp
  refine ⟨o1.ex, fun b u h => ⟨(o1.fr b u h).1, (o1.fr b u h).2.1, ?_⟩, fun b m h => ?_, fun b n h => ?_⟩
  · have e : b ≠ p := ne_of_none (o.fr b u h).1 hp
    simp only [S.put, if_neg e]; exact (o1.fr b u h).2.2
  · by_cases e : b = p
    · subst e
      simp only [S.put, if_pos] at h
      cases h
      exact ⟨hG, _, upd_same, xs, rfl, r⟩
    · simp only [S.put, if_neg e] at h
      exact o1.mu b m h
  · obtain ⟨a1, cells, mixed, k, h1, h2, h3, h4, h5, h6⟩ := (o1.dk b n h).ex
    have hb : b ≠ p := by
      obtain ⟨_, _, _, _, _, _, _, _, _, z, _⟩ := (o.dk b n h).ex
      exact ne_of_none z hp
    have ha : a1 ≠ p := by
      obtain ⟨a2, _, _, _, _, _, _, _, _, z, z2, _⟩ := (o.dk b n h).ex
      obtain ⟨h6, _⟩ := h6
      rw [upd_ne hb, z] at h6
      cases h6
      exact ne_of_none z2 hp
    refine ⟨a1, cells, mixed, k, h1, h2, h3, ?_, ?_, h6⟩
    · simp only [S.put, if_neg hb]; exact h4
    · simp only [S.put, if_neg ha]; exact h5
theorem Own.fresh {K : PySem.W.Frag} {F : Hp} {s : S} {G H : Hp} (o : Own K F s G H) {p : Addr} (hp : H p = none) : s.M p = none ∧ ∀ a n, s.dk = some (a, n) → p ≠ a := by
  refine ⟨o.freeM hp, fun a n h => ?_⟩
  obtain ⟨_, _, _, _, _, _, _, _, _, z, _⟩ := (o.dk a n h).ex
  exact (ne_of_none z hp).symm
section
variable {X : Cx} {e tg : Expr} {es : List Expr} {pos : Pos} {we : WE} {wl : WA} {g : WG} {gs : WGs}
theorem dg_name {i : Nat} {x : Str} (hN : X.N.Nodup) (hi : X.N[i]? = some x) (hx : Loc X.env.scope x) (hf : X.fn x = true ∨ X.env.scope.names.lookup x = some .local := by first | exact .inl rfl | exact .inr rfl | assumption) : DG X (.Name x pos) [i] (wgName i) :=
  PG.imp (pg_name hN hi hx hf) fun v σ H Q ⟨F, G, δ, s, d, P, en, o, r, hw, q⟩ => q _ s hw G H _ (Ex.refl G) (en.set r) o (List.length_set ..) fun j hj => List.getElem?_set_ne (fun z => hj (by rw [z]; exact List.mem_singleton_self _))
theorem dgs_nil : DGs X [] [] wgNil := PGs.imp pgs_nil fun v σ H Q ⟨F, G, δ, s, ds, P, en, o, r, hw, q⟩ => by
  cases r with
  | nil => exact ⟨rfl, q _ s hw G H _ (Ex.refl G) en o rfl fun _ _ => rfl⟩
  | cons _ _ => exact hw.elim
theorem dgs_cons {vs ws : List Nat} (h1 : DG X e vs g) (h2 : DGs X es ws gs) (hs : (assignEach (e :: es) X.env).map (·.2) = assign e X.env :: (assignEach es X.env).map (·.2) := by rfl) : DGs X (e :: es) (vs ++ ws) (wgCons g gs) :=
  PGs.imp (pgs_cons h1 h2 hs) fun v σ H Q ⟨F, G, δ, s, ds, P, en, o, r, hw, q⟩ => by
    cases r with
    | nil => exact hw.elim
    | cons r1 r2 => exact ⟨_, _, rfl, F, G, δ, s, _, _, en, o, r1, hw, fun δ1 s1 h1 G1 H1 σ1 e1 en1 o1 l1 a1 => ⟨F, G1, δ1, s1, _, P, en1, o1, r2.mono e1, h1,
        fun δ2 s2 h2 G2 H2 σ2 e2 en2 o2 l2 a2 => q δ2 s2 h2 G2 H2 σ2 (e1.trans e2) en2 o2 (l2.trans l1) fun j hj => (a2 j fun z => hj (List.mem_append_right _ z)).trans (a1 j fun z => hj (List.mem_append_left _ z))⟩⟩
theorem dg_tup {k n : Nat} {vs : List Nat} (hc : X.calm = true) (h : DGs X es vs gs) (hn : (assignEach es X.env).length = n := by rfl) (hst : (assignEach es X.env).findIdx? (·.1) = none := by rfl) : DG X (.Tuple es k pos) vs (wgTup n gs) :=
  PG.imp (pg_tup hc h hn hst) fun v σ H Q ⟨F, G, δ, s, d, P, en, o, r, hw, q⟩ => by
    cases r with
    | tup t r => exact ⟨_, _, rfl, ex_t o.ex t.sq, by rw [← r.length]; exact hw.1, F, G, δ, s, _, P, en, o, r, hw.2, q⟩
    | tpw t r => exact ⟨_, _, rfl, ex_t o.ex t, by rw [← r.length]; exact hw.1, F, G, δ, s, _, P, en, o, r, hw.2, q⟩
    | _ => exact hw.elim
theorem ds_asg {vs : List Nat} (he : DE X e we) (hg : DG X tg vs g) (hs : swapsWithSole [tg] e pos.line X.env = pure false := by rfl) (hw : swappedStores [tg] e X.env = pure none := by rfl)
    (h1 : (assignEach [tg] X.env).map (·.2) = [assign tg X.env] := by rfl) : DS X (.Assign [tg] e pos) (wAsg we g) :=
  PS.imp (ps_asg he hg hs hw h1) fun D σ H ⟨F, G, δ, s, D', en, o, hw, q⟩ => ⟨F, G, δ, s, _, en, o, hw, fun d s1 h1 G1 H1 v e1 o1 r1 => ⟨F, G1, δ, s1, d, _, en.mono e1, o1, r1, h1, (q.nx.mono e1).toG⟩⟩
theorem ds_set {i : Nat} {x : Str} {pos' : Pos} (hN : X.N.Nodup) (hi : X.N[i]? = some x) (hx : Loc X.env.scope x) (he : DE X e we) (hs : swapsWith e (some (.Name x pos')) pos.line X.env = pure false := by rfl) (hf : X.fn x = true ∨ X.env.scope.names.lookup x = some .local := by first | exact .inl rfl | exact .inr rfl | assumption) :
    DS X (.Assign [.Name x pos'] e pos) (wAsg we (wgName i)) :=
  PS.imp (ps_set hN hi hx he hs hf) fun D σ H ⟨F, G, δ, s, D', en, o, hw, q⟩ => ⟨F, G, δ, s, _, en, o, hw, fun d s1 h1 G1 H1 v e1 o1 r1 => q.nx _ s1 h1 G1 H1 _ e1 ((en.mono e1).set r1) o1⟩
theorem ds_setM {i : Nat} {x : Str} {pos' : Pos} (hN : X.N.Nodup) (hi : X.N[i]? = some x) (hx : Loc X.env.scope x) (he : DEL X e wl) (hs : swapsWith e (some (.Name x pos')) pos.line X.env = pure false := by rfl) (hf : X.fn x = true ∨ X.env.scope.names.lookup x = some .local := by first | exact .inl rfl | exact .inr rfl | assumption) :
    DS X (.Assign [.Name x pos'] e pos) (wSetM i wl) :=
  PS.imp (ps_set hN hi hx he hs hf) fun D σ H ⟨F, G, δ, s, D', en, o, hw, q⟩ => ⟨F, G, δ, s, _, en, o, hw, fun ds s1 h1 G1 H1 p xs e1 o1 hp r1 => by
    obtain ⟨f1, f2⟩ := o1.fresh hp
    exact q.nx _ _ (h1 p f1 f2) G1 _ _ e1 ((en.mono e1).set (.ref p)) (o1.put hp r1)⟩
end

/-! ### loops -/
abbrev WI := Dn → S → (List D → S → Prop) → Prop
/-- the iterator J hands out ds -/
structure JOk (K : PySem.W.Frag) (G : Hp) (ds : List D) (J : It) : Prop where
  go : ∀ i F s G1 H, Ex G G1 → Own K F s G1 H → i < ds.length → J.go i H ∧ ∀ x H', J.yld i H x H' → ∃ d G2, ds[i]? = some d ∧ Ex G1 G2 ∧ Own K F s G2 H' ∧ Rep K G2 d x
  stop : ∀ i F s G1 H, Ex G G1 → Own K F s G1 H → ds.length ≤ i → J.stop i H
theorem JOk.mono {K : PySem.W.Frag} {G G' : Hp} {ds : List D} {J : It} (e : Ex G G') (h : JOk K G ds J) : JOk K G' ds J := ⟨fun i F s G1 H e1 => h.go i F s G1 H (e.trans e1), fun i F s G1 H e1 => h.stop i F s G1 H (e.trans e1)⟩
def lI (K : PySem.W.Frag) (w : WI) : TI := fun σ H R => ∃ F G δ s P, EnvOk K G δ σ ∧ Own K F s G H ∧ w δ s P ∧ ∀ ds s', P ds s' → ∀ G' H' J, Ex G G' → Own K F s' G' H' → JOk K G' ds J → R J H'
abbrev DI (X : Cx) (tg iter : Expr) (w : WI) : Prop := PI X tg iter (lI X.K w)
theorem PI.imp {X : Cx} {tg e : Expr} {t t' : TI} (h : PI X tg e t) (i : ∀ σ H Q, t' σ H Q → t σ H Q) : PI X tg e t' := ⟨fun pins s σ H Q I q => h.run pins s σ H Q I (i σ H Q q)⟩
/-- a list that stands still -/
def wiL (w : WE) : WI := fun δ s P => w δ s fun d s1 => match d with
  | .lst ds => P ds s1
  | _ => False
def wiT (w : WE) : WI := fun δ s P => w δ s fun d s1 => match d with
  | .tup ds => P ds s1
  | .tpw ds => P ds s1
  | _ => False
def rngD (lo : Int) (n : Nat) : List D := (List.range n).map fun (i : Nat) => D.int (lo + (i : Int))
def wiR1 (w : WA) : WI := fun δ s P => w δ s fun ds s1 => match ds with
  | [.int n] => (-(2 ^ 62) ≤ n ∧ n < 2 ^ 62) ∧ P (rngD 0 n.toNat) s1
  | _ => False
def wiR2 (w : WA) : WI := fun δ s P => w δ s fun ds s1 => match ds with
  | [.int lo, .int hi] => (-(2 ^ 62) ≤ lo ∧ lo < 2 ^ 62 ∧ -(2 ^ 62) ≤ hi ∧ hi < 2 ^ 62) ∧ P (rngD lo (hi - lo).toNat) s1
  | _ => False
section
variable {K : PySem.W.Frag} {G : Hp}
theorem jok_list {ds : List D} {xs : List V} {a : Addr} (h : G a = some (.lst xs)) (r : RepL K G ds xs) : JOk K G ds (Itl K a) := by
  have hl := r.length
  refine ⟨fun i F s G1 H e o hi => ?_, fun i F s G1 H e o hi => ⟨xs, .of (o.ex _ _ (e _ _ h)), by omega⟩⟩
  have hx : xs[i]? = some xs[i] := List.getElem?_eq_getElem (by omega)
  have hq : SqL K H a xs := .of (o.ex _ _ (e _ _ h))
  refine ⟨⟨xs, _, hq, hx⟩, fun x H' ⟨e1, y⟩ => ?_⟩
  subst e1
  obtain ⟨d, hd, rd⟩ := r.getV (y xs hq)
  exact ⟨d, G1, hd, Ex.refl _, o, rd.mono e⟩
theorem jok_tup {ds : List D} {xs : List V} {a : Addr} (h : SqT K G a xs) (r : RepL K G ds xs) : JOk K G ds (Itt K a) := by
  have hl := r.length
  refine ⟨fun i F s G1 H e o hi => ?_, fun i F s G1 H e o hi => ⟨xs, ex_t (e.trans o.ex) h, by omega⟩⟩
  have hx : xs[i]? = some xs[i] := List.getElem?_eq_getElem (by omega)
  have hq : SqT K H a xs := ex_t (e.trans o.ex) h
  refine ⟨⟨xs, _, hq, hx⟩, fun x H' ⟨e1, y⟩ => ?_⟩
  subst e1
  obtain ⟨d, hd, rd⟩ := r.getV (y xs hq)
  exact ⟨d, G1, hd, Ex.refl _, o, rd.mono e⟩
theorem rngD_length (lo : Int) (n : Nat) : (rngD lo n).length = n := by simp [rngD]
theorem jok_range (lo : Int) (n : Nat) : JOk K G (rngD lo n) (Itr lo n) := by
  refine ⟨fun i F s G1 H e o hi => ?_, fun i F s G1 H e o hi => by rw [rngD_length] at hi; exact hi⟩
  rw [rngD_length] at hi
  refine ⟨hi, fun x H' ⟨e1, y⟩ => ?_⟩
  subst e1 y
  exact ⟨.int (lo + i), G1, by simp [rngD, hi], Ex.refl _, o, .int _⟩
end
section
variable {X : Cx} {tg l a b : Expr} {p pos : Pos} {we : WE} {wa : WA}
theorem di_list (h : DE X l we) : DI X tg l (wiL we) :=
  PI.imp (pi_list h) fun σ H R ⟨F, G, δ, s, P, en, o, hw, q⟩ => ⟨F, G, δ, s, _, en, o, hw, fun d s1 h1 G1 H1 v e1 o1 r1 => by
    cases r1 <;> first | exact h1.elim | skip
    rename_i xs ds hx r
    exact ⟨_, rfl, ⟨xs, .of (o1.ex _ _ hx)⟩, q _ s1 h1 G1 H1 _ e1 o1 (jok_list hx r)⟩⟩
theorem di_tup (h : DE X l we) : DI X tg l (wiT we) :=
  PI.imp (pi_tup h) fun σ H R ⟨F, G, δ, s, P, en, o, hw, q⟩ => ⟨F, G, δ, s, _, en, o, hw, fun d s1 h1 G1 H1 v e1 o1 r1 => by
    cases r1 <;> first | exact h1.elim | skip
    · rename_i xs ds hx r
      exact ⟨_, rfl, ⟨xs, ex_t o1.ex hx.sq⟩, q _ s1 h1 G1 H1 _ e1 o1 (jok_tup hx.sq r)⟩
    · rename_i xs ds hx r
      exact ⟨_, rfl, ⟨xs, ex_t o1.ex hx⟩, q _ s1 h1 G1 H1 _ e1 o1 (jok_tup hx r)⟩⟩
theorem RepL.one {K : PySem.W.Frag} {G : Hp} {d : D} {vs : List V} (r : RepL K G [d] vs) : ∃ v, vs = [v] ∧ Rep K G d v := by
  cases r with
  | cons h r => cases r; exact ⟨_, rfl, h⟩
theorem RepL.two {K : PySem.W.Frag} {G : Hp} {d e : D} {vs : List V} (r : RepL K G [d, e] vs) : ∃ v u, vs = [v, u] ∧ Rep K G d v ∧ Rep K G e u := by
  cases r with
  | cons h r => obtain ⟨v, rfl, h'⟩ := r.one; exact ⟨_, _, rfl, h, h'⟩
theorem di_range1 (hg : Gl X "range") (hm : X.mg "range" = none) (ha : DA X [a] 1 wa) (hs : starEach [a] X.env = [(false, eval a X.env)] := by rfl) : DI X tg (.Call (.Name "range" p) [a] [] pos) (wiR1 wa) :=
  PI.imp (pi_range1 hg hm ha hs) fun σ H R ⟨F, G, δ, s, P, en, o, hw, q⟩ => ⟨F, G, δ, s, _, en, o, hw, fun ds s1 h1 hl G1 H1 vs e1 o1 r1 => by
    split at h1 <;> first | exact h1.elim | skip
    rename_i n
    obtain ⟨v, rfl, rv⟩ := r1.one
    cases rv
    exact ⟨n, rfl, h1.1.1, h1.1.2, q _ s1 h1.2 G1 H1 _ e1 o1 (jok_range 0 _)⟩⟩
theorem di_range2 (hg : Gl X "range") (hm : X.mg "range" = none) (ha : DA X [a, b] 2 wa) (hs : starEach [a, b] X.env = [(false, eval a X.env), (false, eval b X.env)] := by rfl) (hs2 : starEach [b] X.env = [(false, eval b X.env)] := by rfl) :
    DI X tg (.Call (.Name "range" p) [a, b] [] pos) (wiR2 wa) :=
  PI.imp (pi_range2 hg hm ha hs hs2) fun σ H R ⟨F, G, δ, s, P, en, o, hw, q⟩ => ⟨F, G, δ, s, _, en, o, hw, fun ds s1 h1 hl G1 H1 vs e1 o1 r1 => by
    split at h1 <;> first | exact h1.elim | skip
    rename_i lo hi
    obtain ⟨v, u, rfl, rv, ru⟩ := r1.two
    cases rv; cases ru
    exact ⟨lo, hi, rfl, h1.1, q _ s1 h1.2 G1 H1 _ e1 o1 (jok_range _ _)⟩⟩
end
/-- turn by turn -/
def loopW (g : WG) (b : WS) (E : DEnds) : List D → Dn → S → Prop
  | [], δ, s => E.nx δ s
  | d :: ds, δ, s => g d δ s fun δ1 s1 => b { nx := loopW g b E ds, rt := E.rt, bk := E.nx, ct := loopW g b E ds } δ1 s1
def wFor (wi : WI) (g : WG) (b : WS) : WS := fun D δ s => wi δ s fun ds s1 => loopW g b D ds δ s1
theorem drop_get {α : Type} {l : List α} {i : Nat} {x : α} (h : l[i]? = some x) : l.drop i = x :: l.drop (i + 1) := by
  obtain ⟨hl, e⟩ := List.getElem?_eq_some_iff.mp h
  rw [List.drop_eq_getElem_cons hl, e]
section
variable {X : Cx} {tg iter c : Expr} {body : List Stmt} {pos : Pos} {wi : WI} {g : WG} {b : WS} {wt : WT}
theorem ds_for (hp : PassesOwn (model X.prog X.w) X.A X.env X.xe) (hc : X.calm = true) (hi : DI X tg iter wi) {vs : List Nat} (hg : DG X tg vs g) (hb : DSs X body b)
    (hs : ∀ x, foldedSetIterable iter X.env x = pure x := by intro _; rfl) : DS X (.For tg iter body [] pos) (wFor wi g b) :=
  PS.imp (ps_for hp hc hi hg hb hs) fun D σ H ⟨F, G, δ, s, D', en, o, hw, q⟩ => ⟨F, G, δ, s, _, en, o, hw, fun ds s1 h1 G1 H1 J e1 o1 jk => by
    have q1 := q.mono e1
    refine ⟨fun i m σ H => m = ds.length - i ∧ i ≤ ds.length ∧ ∃ G δ s, Ex G1 G ∧ EnvOk X.K G δ σ ∧ Own X.K F s G H ∧ loopW g b D' (ds.drop i) δ s, ⟨ds.length, by simp, Nat.zero_le _, G1, δ, s1, Ex.refl _, en.mono e1, o1, h1⟩, ?_⟩
    rintro i m σ2 H2 ⟨rfl, hi, G2, δ2, s2, e2, en2, o2, h2⟩
    by_cases hlt : i < ds.length
    · refine .inr ?_
      obtain ⟨go, yl⟩ := jk.go i F s2 G2 H2 e2 o2 hlt
      refine ⟨go, fun σ' H' => ∃ G δ s, Ex G1 G ∧ EnvOk X.K G δ σ' ∧ Own X.K F s G H' ∧ loopW g b D' (ds.drop (i + 1)) δ s, fun σ' H' h => ⟨ds.length - (i + 1), by omega, rfl, hlt, h⟩, fun x H' y => ?_⟩
      obtain ⟨d, G3, hd, e3, o3, r3⟩ := yl x H' y
      rw [drop_get hd] at h2
      refine ⟨F, G3, δ2, s2, d, _, en2.mono e3, o3, r3, h2, fun δ4 s4 h4 G4 H4 σ4 e4 en4 o4 _ _ => ?_⟩
      have e14 := e2.trans (e3.trans e4)
      refine ⟨F, G4, δ4, s4, _, en4, o4, h4, ?_, q1.rt.mono e14, q1.nx.mono e14, ?_⟩
      · exact fun δ5 s5 h5 G5 H5 σ5 e5 en5 o5 => ⟨G5, δ5, s5, e14.trans e5, en5, o5, h5⟩
      · exact fun δ5 s5 h5 G5 H5 σ5 e5 en5 o5 => ⟨G5, δ5, s5, e14.trans e5, en5, o5, h5⟩
    · have e : i = ds.length := by omega
      subst e
      rw [List.drop_length] at h2
      exact .inl ⟨jk.stop _ F s2 G2 H2 e2 o2 (Nat.le_refl _), q1.nx δ2 s2 h2 G2 H2 σ2 e2 en2 o2⟩⟩
/-- at most n turns -/
def whileW (c : WT) (b : WS) (D : DEnds) : Nat → Dn → S → Prop
  | 0, _, _ => False
  | n + 1, δ, s => c δ s fun k s1 => match k with
    | true => b { nx := whileW c b D n, rt := D.rt, bk := D.nx, ct := whileW c b D n } δ s1
    | false => D.nx δ s1
def wWhile (c : WT) (b : WS) : WS := fun D δ s => ∃ n, whileW c b D n δ s
theorem ds_while (hp : PassesOwn (model X.prog X.w) X.A X.env X.xe) (hc : DT X c wt) (hb : DSs X body b) : DS X (.While c body [] pos) (wWhile wt b) :=
  PS.imp (ps_while hp hc hb) fun D σ H ⟨F, G, δ, s, D', en, o, ⟨n, hw⟩, q⟩ => by
    refine ⟨fun m σ H => ∃ G1 δ s, Ex G G1 ∧ EnvOk X.K G1 δ σ ∧ Own X.K F s G1 H ∧ whileW wt b D' m δ s, ⟨n, G, δ, s, Ex.refl _, en, o, hw⟩, ?_⟩
    rintro m σ1 H1 ⟨G1, δ1, s1, e1, en1, o1, h1⟩
    cases m with
    | zero => exact h1.elim
    | succ m =>
      refine ⟨F, G1, δ1, s1, _, en1, o1, h1, fun k s2 h2 G2 H2 e2 o2 => ?_⟩
      cases k with
      | true =>
        rw [if_pos rfl]
        have e12 := e1.trans e2
        refine ⟨fun σ' H' => ∃ G1 δ s, Ex G G1 ∧ EnvOk X.K G1 δ σ' ∧ Own X.K F s G1 H' ∧ whileW wt b D' m δ s, fun σ' H' h => ⟨m, Nat.lt_succ_self m, h⟩, F, G2, δ1, s2, _, en1.mono e2, o2, h2, ?_, q.rt.mono e12, q.nx.mono e12, ?_⟩
        · exact fun δ5 s5 h5 G5 H5 σ5 e5 en5 o5 => ⟨G5, δ5, s5, e12.trans e5, en5, o5, h5⟩
        · exact fun δ5 s5 h5 G5 H5 σ5 e5 en5 o5 => ⟨G5, δ5, s5, e12.trans e5, en5, o5, h5⟩
      | false =>
        rw [if_neg Bool.false_ne_true]
        exact q.nx δ1 s2 h2 G2 H2 σ1 (e1.trans e2) (en1.mono e2) o2
end

/-! ### comprehensions -/
def lcW (vs : List Nat) (g : WG) (t : WT) (w : WE) (δ : Dn) : List D → S → (List D → S → Prop) → Prop
  | [], s, P => P [] s
  | d :: ds, s, P => g d (wipeD δ vs) s fun δ1 s1 => t δ1 s1 fun k s2 => match k with
    | true => w δ1 s2 fun y s3 => lcW vs g t w δ ds s3 fun ys s4 => P (y :: ys) s4
    | false => lcW vs g t w δ ds s2 P
def wLc (vs : List Nat) (wi : WI) (g : WG) (t : WT) (w : WE) : WA := fun δ s P => wi δ s fun ds s1 => ds.length ≤ sizeLine ∧ lcW vs g t w δ ds s1 P
def wYes : WT := fun _ s P => P true s
abbrev DTs (X : Cx) (ifs : List Expr) (w : WT) : Prop := PTs X ifs (lT X.K w)
theorem dts_nil {X : Cx} : DTs X [] wYes := ⟨fun pins s σ H Q I ⟨F, G, δ, s', P, en, o, h, q⟩ => pts_nil.run pins s σ H Q I (q true s' h G H (Ex.refl G) o)⟩
theorem dts_one {X : Cx} {c : Expr} {w : WT} (h : DT X c w) : DTs X [c] w := pts_one h
theorem wipe_get (σ : St) : ∀ (vs : List Nat) (j : Nat), (L2.wipe σ vs)[j]? = if j ∈ vs ∧ j < σ.length then some none else σ[j]?
  | [], j => by simp [L2.wipe]
  | v :: vs, j => by
    unfold L2.wipe
    by_cases h : v = j
    · subst h
      by_cases hl : v < σ.length
      · rw [List.getElem?_set_self (by rw [wipe_length]; exact hl)]; simp [hl]
      · rw [List.getElem?_eq_none (by rw [List.length_set, wipe_length]; omega), if_neg (by simp [hl]), List.getElem?_eq_none (by omega)]
    · rw [List.getElem?_set_ne h, wipe_get σ vs j]
      have h' : ¬ j = v := fun z => h z.symm
      simp [h']
theorem wipe_same {σ σ2 : St} {vs us : List Nat} (hl : σ2.length = (L2.wipe σ vs).length) (ha : ∀ j : Nat, j ∉ us → σ2[j]? = (L2.wipe σ vs)[j]?) (hs : ∀ j ∈ us, j ∈ vs) : L2.wipe σ2 vs = L2.wipe σ vs := by
  rw [wipe_length] at hl
  apply List.ext_getElem?
  intro j
  rw [wipe_get, hl]
  by_cases hj : j ∈ vs
  · rw [wipe_get]
    by_cases h2 : j < σ.length
    · rw [if_pos ⟨hj, h2⟩, if_pos ⟨hj, h2⟩]
    · rw [if_neg (fun z => h2 z.2), if_neg (fun z => h2 z.2), List.getElem?_eq_none (by omega), List.getElem?_eq_none (by omega)]
  · rw [if_neg (fun z => hj z.1)]
    exact ha j fun z => hj (hs j z)
theorem Own.drop {K : PySem.W.Frag} {F F0 : Hp} {s : S} {G H : Hp} (o : Own K F s G H) {p : Addr} {u : HO} (h : F p = some u) (e : Ex F0 F) (h0 : F0 p = none) : Own K F0 s G (fun b => if b = p then none else H b) := by
  obtain ⟨h1, h2, h3⟩ := o.fr p u h
  have nd := o.noDk h
  have o0 := o.back e
  refine ⟨fun a v q => ?_, fun a v q => ?_, fun a m q => ?_, fun a n q => ?_⟩
  · have ha : a ≠ p := ne_of_none q h2
    simp only [if_neg ha]; exact o0.ex a v q
  · have ha : a ≠ p := ne_of_none q h0
    simp only [if_neg ha]; exact o0.fr a v q
  · have ha : a ≠ p := fun z => by rw [z, h3] at q; cases q
    simp only [if_neg ha]; exact o0.mu a m q
  · obtain ⟨a1, cells, mixed, k, g1, g2, g3, g4, g5, g6, g7, g8⟩ := (o0.dk a n q).ex
    obtain ⟨d1, d2⟩ := nd a n q _ _ _ g6
    exact ⟨a1, cells, mixed, k, g1, g2, g3, g4, g5, by simp only [if_neg d1.symm]; exact g6, by simp only [if_neg d2.symm]; exact g7, g8⟩
/-- the rows of W, as pe_lc asks -/
theorem lc_rows {K : PySem.W.Frag} {F G : Hp} {δ : Dn} {σ : St} {H1 : Hp} {s1 : S} {vs us : List Nat} {g : WG} {t : WT} {w : WE} {ds : List D} {J : It} {P : List D → S → Prop} {Q : VK} (hsz : ds.length ≤ sizeLine)
    (en : EnvOk K G δ σ) (o1 : Own K F s1 G H1) (jk : JOk K G ds J) (h1 : lcW vs g t w δ ds s1 P) (q : RetL K F G P Q) (hs : ∀ j ∈ us, j ∈ vs) (D : Addr) (hD : H1 D = none) :
    ∃ W : Nat → Nat → Hp → Prop, (∃ m, W 0 m (upd H1 D (.lst []))) ∧ ∀ i m H, W i m H →
      (J.stop i H ∧ Q (.ref D) H) ∨ (J.go i H ∧ ∃ Nx : Hp → Prop, (∀ H', Nx H' → ∃ m', m' < m ∧ W (i + 1) m' H') ∧ ∀ x H', J.yld i H x H' → lG K us g x (L2.wipe σ vs) H' fun σ2 H2 => L2.wipe σ2 vs = L2.wipe σ vs ∧ lT K t σ2 H2 fun b H3 =>
        if b = true then lE K w σ2 H3 fun y H4 => ∃ acc, H4 D = some (.lst acc) ∧ acc.length < sizeLine ∧ Nx (upd H4 D (.lst (acc ++ [y]))) else Nx H3) := by
  have fD := o1.freeF hD
  -- the word: what is made so far (acc stands for ys), what is left
  let Wd : Nat → Hp → Prop := fun i H => ∃ G2 s2 ys acc, Ex G G2 ∧ Own K (upd F D (.lst acc)) s2 G2 H ∧ RepL K G2 ys acc ∧ acc.length ≤ i ∧ lcW vs g t w δ (ds.drop i) s2 fun zs s' => P (ys ++ zs) s'
  have start : Wd 0 (upd H1 D (.lst [])) := by
    refine ⟨G, s1, [], [], Ex.refl _, ?_, .nil, Nat.le_refl _, h1⟩
    have op := o1.pass (u := .lst []) hD
    refine op.lend upd_same (o1.freeG hD) (o1.freeM hD) fun a n e a1 mx k h => ?_
    obtain ⟨a1', cells, mixed, k', _, _, _, _, _, h6, h7, _⟩ := (o1.dk a n e).ex
    have n1 : a ≠ D := ne_of_none h6 hD
    have n2 : a1' ≠ D := ne_of_none h7 hD
    rw [upd_ne n1, h6] at h
    cases h
    exact ⟨n1.symm, n2.symm⟩
  refine ⟨fun i m H => m = ds.length - i ∧ i ≤ ds.length ∧ Wd i H, ⟨ds.length, by simp, Nat.zero_le _, start⟩, ?_⟩
  rintro i m H ⟨rfl, hi, G2, s2, ys, acc, e2, o2, r2, hl2, h2⟩
  have exF : ∀ u, Ex F (upd F D u) := fun u => Ex.new fD
  by_cases hlt : i < ds.length
  · refine .inr ?_
    obtain ⟨go, yl⟩ := jk.go i _ s2 G2 H e2 o2 hlt
    refine ⟨go, fun H' => Wd (i + 1) H', fun H' h => ⟨ds.length - (i + 1), by omega, rfl, hlt, h⟩, fun x H' y => ?_⟩
    obtain ⟨d, G3, hd, e3, o3, r3⟩ := yl x H' y
    rw [drop_get hd] at h2
    have en3 := ((en.mono e2).mono e3).wipe vs
    refine ⟨_, G3, wipeD δ vs, s2, d, _, en3, o3, r3, h2, fun δ4 s4 h4 G4 H4 σ4 e4 en4 o4 l4 a4 => ⟨wipe_same l4 a4 hs, _, G4, δ4, s4, _, en4, o4, h4, fun k s5 h5 G5 H5 e5 o5 => ?_⟩⟩
    have e25 := e3.trans (e4.trans e5)
    cases k with
    | false =>
      dsimp only
      rw [if_neg Bool.false_ne_true]
      exact ⟨G5, s5, ys, acc, e2.trans e25, o5, r2.mono e25, by omega, h5⟩
    | true =>
      dsimp only
      rw [if_pos rfl]
      refine ⟨_, G5, δ4, s5, _, en4.mono e5, o5, h5, fun y s6 h6 G6 H6 v6 e6 o6 r6 => ?_⟩
      have e26 := e25.trans e6
      obtain ⟨f1, f2, f3⟩ := o6.fr D _ upd_same
      refine ⟨acc, f1, by omega, G6, s6, ys ++ [y], acc ++ [v6], e2.trans e26, ?_, (r2.mono e26).append (.cons r6 .nil), by rw [List.length_append]; simp; omega, ?_⟩
      · have nd := o6.noDk (p := D) upd_same
        have ot := (o6.back (exF _)).turn (u := .lst (acc ++ [v6])) fD f2 f3 nd
        refine ot.lend upd_same f2 f3 fun a n e a1 mx k h => ?_
        obtain ⟨a1', cells, mixed, k', _, g2, g3, _, _, g6, g7, _⟩ := (o6.dk a n e).ex
        have n1 : a ≠ D := fun z => by rw [z, upd_same] at g2; cases g2.2
        have n2 : a1' ≠ D := fun z => by rw [z, upd_same] at g3; cases g3.2
        rw [upd_ne n1, g6] at h
        cases h
        exact ⟨n1.symm, n2.symm⟩
      · have ea : ∀ zs : List DL.D, (ys ++ [y]) ++ zs = ys ++ (y :: zs) := fun zs => by simp
        simp only [ea]
        exact h6
  · have e : i = ds.length := by omega
    subst e
    rw [List.drop_length] at h2
    obtain ⟨f1, f2, f3⟩ := o2.fr D _ upd_same
    have h2' : P ys s2 := by have z : P (ys ++ []) s2 := h2; rw [List.append_nil] at z; exact z
    refine .inl ⟨jk.stop _ _ s2 G2 H e2 o2 (Nat.le_refl _), ?_⟩
    have od := o2.drop (p := D) upd_same (exF _) fD
    have z := q ys s2 h2' G2 _ D acc e2 od (by simp) r2
    have eH : upd (fun b => if b = D then none else H b) D (.lst acc) = H := by
      funext b
      by_cases hb : b = D
      · subst hb; rw [upd_same]; exact f1.symm
      · rw [upd_ne hb]; simp [hb]
    rw [eH] at z
    exact z
section
variable {X : Cx} {elt tg iter : Expr} {ifs : List Expr} {scope : Scope} {own : List (Str × Nat)} {pos : Pos} {wi : WI} {g : WG} {t : WT} {w : WE} {us : List Nat}
/-- [elt for tg in iter if ..], one for -/
theorem del_lc (own : List (Str × Nat)) (hc : X.calm = true) (hN : X.N.Nodup) (hi : DI X tg iter wi) (ok : BlkOk X.N X.env.scope scope own)
    (hg : ∀ (s : Shared) (H : Hp) (C : Addr) (cl : List (Str × Addr)) (fp : List Addr), DG (X.blk s H scope (compEnvC scope cl C X.env) fp) tg us g)
    (ht : ∀ (s : Shared) (H : Hp) (C : Addr) (cl : List (Str × Addr)) (fp : List Addr), DTs (X.blk s H scope (compEnvC scope cl C X.env) fp) ifs t)
    (he : ∀ (s : Shared) (H : Hp) (C : Addr) (cl : List (Str × Addr)) (fp : List Addr), DE (X.blk s H scope (compEnvC scope cl C X.env) fp) elt w)
    (hu : ∀ j ∈ us, j ∈ own.map (·.2) := by decide) (hs : ∀ x, foldedSetIterable iter X.env x = pure x := by intro _; rfl) :
    DEL X (.ListComp elt [⟨tg, iter, ifs, 0⟩] scope pos) (wLc (own.map (·.2)) wi g t w) :=
  PE.imp (pe_lc (own := own) hc hN hi ok hg ht he hs) fun σ H Q ⟨F, G, δ, s, P, en, o, hw, q⟩ => ⟨F, G, δ, s, _, en, o, hw, fun ds s1 h1 G1 H1 J e1 o1 jk D hD =>
    lc_rows h1.1 (en.mono e1) o1 jk h1.2 (q.mono e1) hu D hD⟩
/-- name = [..] -/
theorem ds_setLc {i : Nat} {y : Str} {py spos : Pos} (own : List (Str × Nat)) (hc : X.calm = true) (hN : X.N.Nodup) (hy : X.N[i]? = some y) (hyl : X.env.scope.names.lookup y = some .local)
    (hsw : swapsWith (.ListComp elt [⟨tg, iter, ifs, 0⟩] scope pos) (some (.Name y py)) spos.line X.env = pure true) (hi : DI X tg iter wi) (ok : BlkOk X.N X.env.scope scope own)
    (hg : ∀ (s : Shared) (H : Hp) (C : Addr) (cl : List (Str × Addr)) (fp : List Addr), DG (X.blk s H scope (compEnvC scope cl C X.env) fp) tg us g)
    (ht : ∀ (s : Shared) (H : Hp) (C : Addr) (cl : List (Str × Addr)) (fp : List Addr), DTs (X.blk s H scope (compEnvC scope cl C X.env) fp) ifs t)
    (he : ∀ (s : Shared) (H : Hp) (C : Addr) (cl : List (Str × Addr)) (fp : List Addr), DE (X.blk s H scope (compEnvC scope cl C X.env) fp) elt w)
    (hu : ∀ j ∈ us, j ∈ own.map (·.2) := by decide) (hs : ∀ x, foldedSetIterable iter X.env x = pure x := by intro _; rfl) :
    DS X (.Assign [.Name y py] (.ListComp elt [⟨tg, iter, ifs, 0⟩] scope pos) spos) (wAsg (wFz (wLc (own.map (·.2)) wi g t w)) (wgName i)) :=
  PS.imp (ps_setLc (own := own) hc hN hy hyl hsw hi ok hg ht he hs) fun D σ H ⟨F, G, δ, s, D', en, o, hw, q⟩ => ⟨F, G, δ, s, _, en, o, hw, fun ds s1 h1 G1 H1 J e1 o1 jk L hL =>
    lc_rows (Q := fun x H1 => gName i x σ H1 D.nx) h1.1 (en.mono e1) o1 jk h1.2 (fun ds2 s2 h2 G2 H2 p xs e2 o2 hp r2 => by
      have e3 := Ex.new (o := .lst xs) (o2.freeG hp)
      exact q.nx _ s2 h2 _ _ _ (e1.trans (e2.trans e3)) (((en.mono e1).mono (e2.trans e3)).set (.lst upd_same (r2.mono e3))) (o2.lay hp)) hu L hL⟩
/-- the same, a list that will change -/
theorem ds_setLcM {i : Nat} {y : Str} {py spos : Pos} (own : List (Str × Nat)) (hc : X.calm = true) (hN : X.N.Nodup) (hy : X.N[i]? = some y) (hyl : X.env.scope.names.lookup y = some .local)
    (hsw : swapsWith (.ListComp elt [⟨tg, iter, ifs, 0⟩] scope pos) (some (.Name y py)) spos.line X.env = pure true) (hi : DI X tg iter wi) (ok : BlkOk X.N X.env.scope scope own)
    (hg : ∀ (s : Shared) (H : Hp) (C : Addr) (cl : List (Str × Addr)) (fp : List Addr), DG (X.blk s H scope (compEnvC scope cl C X.env) fp) tg us g)
    (ht : ∀ (s : Shared) (H : Hp) (C : Addr) (cl : List (Str × Addr)) (fp : List Addr), DTs (X.blk s H scope (compEnvC scope cl C X.env) fp) ifs t)
    (he : ∀ (s : Shared) (H : Hp) (C : Addr) (cl : List (Str × Addr)) (fp : List Addr), DE (X.blk s H scope (compEnvC scope cl C X.env) fp) elt w)
    (hu : ∀ j ∈ us, j ∈ own.map (·.2) := by decide) (hs : ∀ x, foldedSetIterable iter X.env x = pure x := by intro _; rfl) :
    DS X (.Assign [.Name y py] (.ListComp elt [⟨tg, iter, ifs, 0⟩] scope pos) spos) (wSetM i (wLc (own.map (·.2)) wi g t w)) :=
  PS.imp (ps_setLc (own := own) hc hN hy hyl hsw hi ok hg ht he hs) fun D σ H ⟨F, G, δ, s, D', en, o, hw, q⟩ => ⟨F, G, δ, s, _, en, o, hw, fun ds s1 h1 G1 H1 J e1 o1 jk L hL =>
    lc_rows (Q := fun x H1 => gName i x σ H1 D.nx) h1.1 (en.mono e1) o1 jk h1.2 (fun ds2 s2 h2 G2 H2 p xs e2 o2 hp r2 => by
      obtain ⟨f1, f2⟩ := o2.fresh hp
      exact q.nx _ _ (h2 p f1 f2) G2 _ _ (e1.trans e2) (((en.mono e1).mono e2).set (.ref p)) (o2.put hp r2)) hu L hL⟩
end
end DL

set_option Elab.async false
set_option linter.all false
set_option autoImplicit false
set_option maxRecDepth 100000
set_option maxHeartbeats 2000000
namespace DL
open PySem PySem.Spec PyProof.Rows L2
open Evl (Ex)

/-! ### a def's promise, where no repr runs around it -/
structure RoomG (k : Nat) (A : Around) : Prop where
  rm : Room k A
  gd : A.guards = some []
theorem RoomG.mono {j k : Nat} {A : Around} (r : RoomG k A) (h : j ≤ k) : RoomG j A := ⟨r.rm.mono h, r.gd⟩
theorem RoomG.deeper {k : Nat} {A : Around} (r : RoomG (k + 1) A) (env : Env) : RoomG k (A.deeper env) := ⟨r.rm.deeper env, r.gd⟩

/-- the function at f: at every entry with room its end is as sp tells -/
structure FnG (P : Program) (w : World) (K : PySem.W.Frag) (mg : Str → Option Value) (base : Heap) (CX : CXT) (k : Nat) (f : Addr) (fd : FuncData) (ps : List Str) (sp : Sp) : Prop where
  len : ∀ vs H Q E, sp vs H Q E → vs.length = ps.length
  run : ∀ (A : Around) (outer : List Env) (s : Shared) (H : Hp) (args : Args) (us : List Value) (vs : List V) (Q : VK) (E : XK), RoomG k A → Env0 P w K mg base A outer s H →
    BindsTo s fd args (ps.zip us) → Vals vs us → sp vs H Q E → codeAny (model P w) A (.call (.ref f) args) (CR CX outer P w H s Q E) s
section
variable {P : Program} {w : World} {K : PySem.W.Frag} {mg : Str → Option Value} {base : Heap} {CX : CXT} {k : Nat} {f : Addr} {fd : FuncData} {ps : List Str} {sp : Sp}
theorem FnG.mono {j : Nat} (F : FnG P w K mg base CX j f fd ps sp) (h : j ≤ k) : FnG P w K mg base CX k f fd ps sp :=
  ⟨F.len, fun A outer s H args us vs Q E hr => F.run A outer s H args us vs Q E (hr.mono h)⟩
theorem FnG.imp {sp' : Sp} (F : FnG P w K mg base CX k f fd ps sp) (h : ∀ vs H Q E, sp' vs H Q E → sp vs H Q E) : FnG P w K mg base CX k f fd ps sp' :=
  ⟨fun vs H Q E q => F.len vs H Q E (h _ _ _ _ q), fun A outer s H args us vs Q E hr e0 hb hv q => F.run A outer s H args us vs Q E hr e0 hb hv (h _ _ _ _ q)⟩
/-- a def by its body -/
theorem fnG_of {x qual : Str} {st : Stmt} {N : List Str} (Fu : Fun K x qual st f fd) (S : FnScope N ps (defScope st)) (len : ∀ vs H Q E, sp vs H Q E → vs.length = ps.length)
    (hbody : ∀ (cdv : Value) (A : Around) (outer : List Env) (s : Shared) (H : Hp) (vs : List V) (Q : VK) (E : XK), RoomG k (A.deeper (envOfC qual (defScope st) s.heap.objs.size f cdv)) → sp vs H Q E →
      ∃ t, PSs (cxOf CX P w K mg base N qual (defScope st) f cdv A outer s H E) (defBody st) t ∧ t { nx := fun _ H' => Q .non H', rt := Q } (start N vs) H) : FnG P w K mg base CX (k + 1) f fd ps sp := by
  obtain ⟨oc, od, kV, doc, pm, an, cdv, ct, osl, rfl, lk, hcd⟩ := Fu.ex
  refine ⟨len, fun A outer s H args us vs Q E hr e0 hb r hsp => ?_⟩
  have kp : ∀ b o, base.get? b = some o → s.heap.get? b = some o := fun b o e => (e0.bs b o e).1
  have hk : ∀ y ∈ ps.zip us, (defScope st).names.lookup y.1 = some .local ∨ ((defScope st).names.lookup y.1 = some .cell ∧ ((cellsFrom (s.heap.objs.size + 1) (defScope st).names []).lookup y.1).isSome = true) := by
    rintro ⟨n, v⟩ hy
    rcases S.par n (List.of_mem_zip hy).1 with q | q
    · exact Or.inl q
    · exact Or.inr ⟨q, PySem.W.cellsFrom_some _ _ _ (Or.inl q)⟩
  have KX : K.In s.heap := e0.mod.kin.keeps kp
  refine codeAny_call_function hr.rm.depth (KX _ _ lk) rfl S.co S.gen rfl (PySem.W.codeRec_of KX hcd) (hb _ _ _ _ (wpAny_newFunctionEnv_cells S.kind hk fun env he s1 x => ?_))
  subst he
  refine ⟨(e0.mod.nolimit.keeps kp).keeps x.toInCall.keep, codeAny_func ?_⟩
  obtain ⟨t, ht, hq⟩ := hbody cdv A outer s H vs Q E (hr.deeper _) hsp
  refine wpAny_mono (ht.run [] s1 (start N vs) H _ (inv_start S hr.rm.hd e0 (len _ _ _ _ hsp) r x) hq) (fun fl s' hs => ?_) fun _ _ z => z
  cases fl with
  | ret u => obtain ⟨v, _, H', J, rv, q⟩ := hs; exact ⟨v, H', J.os, J.bare, J.base, J.hok, rv, q⟩
  | next => obtain ⟨_, H', J, q⟩ := hs; exact ⟨.non, H', J.os, J.bare, J.base, J.hok, rfl, q⟩
  | brk => obtain ⟨_, _, _, q⟩ := hs; exact q.elim
  | cont => obtain ⟨_, _, _, q⟩ := hs; exact q.elim
end
section
variable {X : Cx} {CX : CXT} {k : Nat} {f : Addr} {fd : FuncData} {ps ks : List Str} {sp : Sp} {dvs : List V} {ds : List Value} {E : XK} {x : Str} {p pos : Pos} {e : Expr} {es : List Expr} {kws : List Keyword} {t tk : TA}
/-- the call runs; what it leaves -/
theorem runG {pins : List (Addr × Obj)} {σ : L2.St} {H : Hp} {s : Shared} {Q : VK} {args : Args} {us : List Value} {vs : List V} (F : FnG X.prog X.w X.K X.mg X.base CX k f fd ps sp) (hr : RoomG k X.A) (hx : Passes CX X E)
    (I : Inv X pins σ H s) (hb : us.length = ps.length → BindsTo s fd args (ps.zip us)) (r : Vals vs us) (h : sp vs H Q E) : wpAny (model X.prog X.w) X.A (call (.ref f) args.pos args.kw) (EP X pins σ Q) X.xe s := by
  have hl : us.length = ps.length := r.length.symm.trans (F.len _ _ _ _ h)
  refine wpAny_call (codeAny_mono (F.run X.A X.stack s H args us vs Q E hr I.env0 (hb hl) r h) fun res s' hq => ?_)
  match res, hq with
  | .error e, hq => exact hx pins σ H s e s' I hq
  | .ok (.ret u), hq => exact I.after hq
  | .ok .next, hq => exact False.elim hq
  | .ok .brk, hq => exact False.elim hq
  | .ok .cont, hq => exact False.elim hq
theorem pe_callG (F : FnG X.prog X.w X.K X.mg X.base CX k f fd ps sp) (hr : RoomG k X.A) (hg : Gl X x) (hm : X.mg x = some (.ref f)) (hk : PySem.W.keepIn X.K (.ref f) = true) (hb : Binds X.K fd ps ds) (hd : Vals dvs ds) (hx : Passes CX X E)
    (ha : PA X (e :: es) t) (hdb : (x == ("__debug__" : Str)) = false := by decide) (he : starEach (e :: es) X.env = (false, eval e X.env) :: starEach es X.env := by rfl)
    (hpl : (backTo pos (starEach es X.env)).any (·.1) = false := by rfl) : PE X (.Call (.Name x p) (e :: es) [] pos) (fun σ H Q => t σ H fun vs H1 => sp (vs ++ dvs) H1 Q E) :=
  ⟨fun pins s σ H Q I h => wpAny_Call_Name_kw (ld_glob I hg hm (PySem.W.callWith_K (h₀ := X.base) I.ok.mod.kin hk (thn (ha.run pos pins s σ H _ I h) fun us s1 ⟨vs, H1, I1, r, q⟩ =>
    ⟨I1.kIn, runG (args := ⟨us, []⟩) F hr hx I1 (fun hl => hb s1 us I1.kIn hl) (r.append hd) q⟩) he hpl) hdb)⟩
theorem pe_callG0 (F : FnG X.prog X.w X.K X.mg X.base CX k f fd ps sp) (hr : RoomG k X.A) (hg : Gl X x) (hm : X.mg x = some (.ref f)) (hk : PySem.W.keepIn X.K (.ref f) = true) (hb : Binds X.K fd ps ds) (hd : Vals dvs ds) (hx : Passes CX X E)
    (hdb : (x == ("__debug__" : Str)) = false := by decide) : PE X (.Call (.Name x p) [] [] pos) (fun σ H Q => sp dvs H Q E) :=
  ⟨fun pins s σ H Q I h => wpAny_Call_Name_kw (ld_glob I hg hm (PySem.W.callWith_K0 I.kIn hk (runG (args := ⟨[], []⟩) (us := ds) F hr hx I (fun hl => hb s [] I.kIn hl) hd h)) hdb)⟩
variable {g : List Value → List Value → List Value} {gV : List V → List V → List V}
theorem pe_callGK (F : FnG X.prog X.w X.K X.mg X.base CX k f fd ps sp) (hr : RoomG k X.A) (hg : Gl X x) (hm : X.mg x = some (.ref f)) (hk : PySem.W.keepIn X.K (.ref f) = true) (hb : KBinds X.K fd ps ks g gV) (hx : Passes CX X E)
    (ha : PA X (e :: es) t) (hkw : PK X kws tk) (hall : (backToKw pos (keywordEach kws X.env)).all (·.1.isSome) = true := by rfl) (hks : (backToKw pos (keywordEach kws X.env)).filterMap (·.1) = ks := by rfl)
    (hdb : (x == ("__debug__" : Str)) = false := by decide) (he : starEach (e :: es) X.env = (false, eval e X.env) :: starEach es X.env := by rfl)
    (hpl : ((backTo pos (starEach (e :: es) X.env)).any (·.1) || (backToKw pos (keywordEach kws X.env)).any (·.1.isNone)) = false := by rfl) :
    PE X (.Call (.Name x p) (e :: es) kws pos) (fun σ H Q => t σ H fun vs H1 => tk σ H1 fun zs H2 => sp (gV vs zs) H2 Q E) := by
  refine ⟨fun pins s σ H Q I h => wpAny_Call_Name_kw (ld_glob I hg hm ?_ hdb)⟩
  refine PySem.W.callWith_KW (h₀ := X.base) I.ok.mod.kin hk hall (thn (ha.run pos pins s σ H _ I h) fun us s1 ⟨vs, H1, I1, r, q⟩ => thn (hkw.run pos pins s1 σ H1 _ I1 q) fun ws s2 ⟨zs, H2, I2, rz, q2⟩ => ⟨I2.kIn, ?_⟩) hpl he
  rw [hks]
  exact runG (args := ⟨us, ks.zip ws⟩) F hr hx I2 (fun hl => hb.to s2 us ws I2.kIn hl) (hb.rel r rz) q2
theorem pe_callGK0 (F : FnG X.prog X.w X.K X.mg X.base CX k f fd ps sp) (hr : RoomG k X.A) (hg : Gl X x) (hm : X.mg x = some (.ref f)) (hk : PySem.W.keepIn X.K (.ref f) = true) (hb : KBinds X.K fd ps ks g gV) (hx : Passes CX X E)
    (hkw : PK X kws tk) (hall : (backToKw pos (keywordEach kws X.env)).all (·.1.isSome) = true := by rfl) (hks : (backToKw pos (keywordEach kws X.env)).filterMap (·.1) = ks := by rfl)
    (hdb : (x == ("__debug__" : Str)) = false := by decide)
    (hpl : ((backTo pos (starEach [] X.env)).any (·.1) || (backToKw pos (keywordEach kws X.env)).any (·.1.isNone)) = false := by rfl) :
    PE X (.Call (.Name x p) [] kws pos) (fun σ H Q => tk σ H fun zs H2 => sp (gV [] zs) H2 Q E) := by
  refine ⟨fun pins s σ H Q I h => wpAny_Call_Name_kw (ld_glob I hg hm ?_ hdb)⟩
  refine PySem.W.callWith_KW0 (h₀ := X.base) I.ok.mod.kin hk hall (thn (hkw.run pos pins s σ H _ I h) fun ws s2 ⟨zs, H2, I2, rz, q2⟩ => ⟨I2.kIn, ?_⟩) hpl
  rw [hks]
  exact runG (args := ⟨[], ks.zip ws⟩) F hr hx I2 (fun hl => hb.to s2 [] ws I2.kIn hl) (hb.rel .nil rz) q2
end

/-! ### promises over data -/
abbrev SpD := List D → S → DK → Prop
def lSp (K : PySem.W.Frag) (sp : SpD) : Sp := fun vs H Q _ => ∃ F G ds s P, Own K F s G H ∧ RepL K G ds vs ∧ sp ds s P ∧ Ret K F G P Q
abbrev FnD (P : Program) (w : World) (K : PySem.W.Frag) (mg : Str → Option Value) (base : Heap) (k : Nat) (f : Addr) (fd : FuncData) (ps : List Str) (sp : SpD) : Prop := FnG P w K mg base CX0 k f fd ps (lSp K sp)
theorem FnD.imp {P : Program} {w : World} {K : PySem.W.Frag} {mg : Str → Option Value} {base : Heap} {k : Nat} {f : Addr} {fd : FuncData} {ps : List Str} {sp sp' : SpD} (F : FnD P w K mg base k f fd ps sp) (h : ∀ ds s P, sp' ds s P → sp ds s P) : FnD P w K mg base k f fd ps sp' :=
  FnG.imp F fun vs H Q E ⟨Fr, G, ds, s, Pd, o, r, hs, q⟩ => ⟨Fr, G, ds, s, Pd, o, r, h ds s Pd hs, q⟩
/-- a def by its body over data -/
theorem fnD_of {P : Program} {w : World} {K : PySem.W.Frag} {mg : Str → Option Value} {base : Heap} {k : Nat} {f : Addr} {fd : FuncData} {N ps : List Str} {x qual : Str} {st : Stmt} {sp : SpD} {wb : WS} (Fu : Fun K x qual st f fd) (S : FnScope N ps (defScope st))
    (len : ∀ ds s Pd, sp ds s Pd → ds.length = ps.length)
    (hbody : ∀ (cdv : Value) (A : Around) (outer : List Env) (s : Shared) (H : Hp) (E : XK), RoomG k (A.deeper (envOfC qual (defScope st) s.heap.objs.size f cdv)) →
      DSs (cxOf CX0 P w K mg base N qual (defScope st) f cdv A outer s H E).nox (defBody st) wb)
    (hw : ∀ ds s Pd, sp ds s Pd → wb { nx := fun _ s' => Pd .non s', rt := Pd } (startD N ds) s) : FnD P w K mg base (k + 1) f fd ps sp := by
  refine fnG_of Fu S (fun vs H Q E ⟨F, G, ds, s, Pd, o, r, hs, q⟩ => r.length.symm.trans (len ds s Pd hs)) fun cdv A outer s H vs Q E hr ⟨F, G, ds, s', Pd, o, r, hs, q⟩ => ?_
  refine ⟨_, (hbody cdv A outer s H E hr).nox, F, G, startD N ds, s', _, EnvOk.start r, o, hw ds s' Pd hs, ?_⟩
  exact ⟨fun δ s1 h1 G1 H1 σ1 e1 en1 o1 => q .non s1 h1 G1 H1 .non e1 o1 .non, q, fun _ _ h => h.elim, fun _ _ h => h.elim⟩

def wCall (sp : SpD) (wr : WA) : WE := fun δ s P => wr δ s fun ds s1 => sp ds s1 P
/-- positional, then keywords' values, put in the parameters' order by g -/
def wCallK (sp : SpD) (g : List D → List D → List D) (wr wk : WA) : WE := fun δ s P => wr δ s fun ds s1 => wk δ s1 fun es s2 => sp (g ds es) s2 P
abbrev DKw (X : Cx) (kws : List Keyword) (n : Nat) (w : WA) : Prop := PK X kws (lA X.K n w)
theorem PK.imp {X : Cx} {e : List Keyword} {t t' : TA} (h : PK X e t) (i : ∀ σ H Q, t' σ H Q → t σ H Q) : PK X e t' := ⟨fun pos pins s σ H Q I q => h.run pos pins s σ H Q I (i σ H Q q)⟩
section
variable {X : Cx} {k n m : Nat} {f : Addr} {fd : FuncData} {ps ks : List Str} {sp : SpD} {x : Str} {p pos kpos : Pos} {nm : Option Str} {e : Expr} {es : List Expr} {kws : List Keyword} {wr wk : WA} {w : WE}
theorem dk_nil : DKw X [] 0 wNil := PK.imp pk_nil fun _ H _ ⟨F, G, _, s, _, _, o, h, q⟩ => q [] s h rfl G H [] (Ex.refl G) o .nil
theorem dk_cons (ha : DE X e w) (hr : DKw X kws n wr) : DKw X (⟨nm, e, kpos⟩ :: kws) (n + 1) (wCons w wr) :=
  PK.imp (pk_cons ha hr) fun σ H Q ⟨F, G, δ, s, P, en, o, h, q⟩ => ⟨F, G, δ, s, _, en, o, h, fun d s1 h1 G1 H1 v e1 o1 r1 =>
    ⟨F, G1, δ, s1, _, en.mono e1, o1, h1, fun ds s2 h2 hl G2 H2 vs e2 o2 r2 => q _ s2 h2 (by rw [List.length_cons, hl]) G2 H2 _ (e1.trans e2) o2 (.cons (r1.mono e2) r2)⟩⟩
theorem de_call (F : FnD X.prog X.w X.K X.mg X.base k f fd ps sp) (hr : RoomG k X.A) (hg : Gl X x) (hm : X.mg x = some (.ref f)) (hk : PySem.W.keepIn X.K (.ref f) = true) (hb : Binds X.K fd ps []) (ha : DA X (e :: es) n wr)
    (hdb : (x == ("__debug__" : Str)) = false := by decide) (he : starEach (e :: es) X.env = (false, eval e X.env) :: starEach es X.env := by rfl) (hpl : (backTo pos (starEach es X.env)).any (·.1) = false := by rfl) :
    DE X (.Call (.Name x p) (e :: es) [] pos) (wCall sp wr) :=
  PE.imp (pe_callG F hr hg hm hk hb .nil pass0 ha hdb he hpl) fun σ H Q ⟨F, G, δ, s, P, en, o, h, q⟩ => ⟨F, G, δ, s, _, en, o, h, fun ds s1 h1 hl G1 H1 vs e1 o1 r1 =>
    ⟨F, G1, ds, s1, P, o1, by rw [List.append_nil]; exact r1, h1, q.mono e1⟩⟩
theorem de_call0 (F : FnD X.prog X.w X.K X.mg X.base k f fd ps sp) (hr : RoomG k X.A) (hg : Gl X x) (hm : X.mg x = some (.ref f)) (hk : PySem.W.keepIn X.K (.ref f) = true) (hb : Binds X.K fd ps [])
    (hdb : (x == ("__debug__" : Str)) = false := by decide) : DE X (.Call (.Name x p) [] [] pos) (wCall sp wNil) :=
  PE.imp (pe_callG0 F hr hg hm hk hb .nil pass0 hdb) fun σ H Q ⟨F, G, δ, s, P, en, o, h, q⟩ => ⟨F, G, [], s, P, o, .nil, h, q⟩
/-- keywords: gD the same order over data -/
theorem de_callK {g : List Value → List Value → List Value} {gV : List V → List V → List V} {gD : List D → List D → List D} (F : FnD X.prog X.w X.K X.mg X.base k f fd ps sp) (hr : RoomG k X.A) (hg : Gl X x) (hm : X.mg x = some (.ref f)) (hk : PySem.W.keepIn X.K (.ref f) = true)
    (hb : KBinds X.K fd ps ks g gV) (hgD : ∀ {K : PySem.W.Frag} {G : Hp} {ds es : List D} {vs us : List V}, ds.length = n → es.length = m → RepL K G ds vs → RepL K G es us → RepL K G (gD ds es) (gV vs us))
    (ha : DA X (e :: es) n wr) (hkw : DKw X kws m wk) (hall : (backToKw pos (keywordEach kws X.env)).all (·.1.isSome) = true := by rfl) (hks : (backToKw pos (keywordEach kws X.env)).filterMap (·.1) = ks := by rfl)
    (hdb : (x == ("__debug__" : Str)) = false := by decide) (he : starEach (e :: es) X.env = (false, eval e X.env) :: starEach es X.env := by rfl)
    (hpl : ((backTo pos (starEach (e :: es) X.env)).any (·.1) || (backToKw pos (keywordEach kws X.env)).any (·.1.isNone)) = false := by rfl) :
    DE X (.Call (.Name x p) (e :: es) kws pos) (wCallK sp gD wr wk) :=
  PE.imp (pe_callGK F hr hg hm hk hb pass0 ha hkw hall hks hdb he hpl) fun σ H Q ⟨F, G, δ, s, P, en, o, h, q⟩ => ⟨F, G, δ, s, _, en, o, h, fun ds s1 h1 hl G1 H1 vs e1 o1 r1 =>
    ⟨F, G1, δ, s1, _, en.mono e1, o1, h1, fun es s2 h2 hl2 G2 H2 us e2 o2 r2 => ⟨F, G2, _, s2, P, o2, hgD hl hl2 (r1.mono e2) r2, h2, q.mono (e1.trans e2)⟩⟩⟩
theorem de_callK0 {g : List Value → List Value → List Value} {gV : List V → List V → List V} {gD : List D → List D → List D} (F : FnD X.prog X.w X.K X.mg X.base k f fd ps sp) (hr : RoomG k X.A) (hg : Gl X x) (hm : X.mg x = some (.ref f)) (hk : PySem.W.keepIn X.K (.ref f) = true)
    (hb : KBinds X.K fd ps ks g gV) (hgD : ∀ {K : PySem.W.Frag} {G : Hp} {ds es : List D} {vs us : List V}, ds.length = 0 → es.length = m → RepL K G ds vs → RepL K G es us → RepL K G (gD ds es) (gV vs us))
    (hkw : DKw X kws m wk) (hall : (backToKw pos (keywordEach kws X.env)).all (·.1.isSome) = true := by rfl) (hks : (backToKw pos (keywordEach kws X.env)).filterMap (·.1) = ks := by rfl)
    (hdb : (x == ("__debug__" : Str)) = false := by decide)
    (hpl : ((backTo pos (starEach [] X.env)).any (·.1) || (backToKw pos (keywordEach kws X.env)).any (·.1.isNone)) = false := by rfl) :
    DE X (.Call (.Name x p) [] kws pos) (wCallK sp gD wNil wk) :=
  PE.imp (pe_callGK0 F hr hg hm hk hb pass0 hkw hall hks hdb hpl) fun σ H Q ⟨F, G, δ, s, P, en, o, h, q⟩ => ⟨F, G, δ, s, _, en, o, h,
    fun es s2 h2 hl2 G2 H2 us e2 o2 r2 => ⟨F, G2, _, s2, P, o2, hgD rfl hl2 .nil r2, h2, q.mono e2⟩⟩
end
end DL

set_option Elab.async false
set_option linter.all false
set_option autoImplicit false
set_option maxRecDepth 100000
set_option maxHeartbeats 2000000
namespace DL
open PySem PySem.Spec PyProof.Rows L2
open Evl (Ex)

/-! ### subscripts -/
def roIx : R2D := fun x y s P => match y with
  | .int i => match view s x with
    | .lst ds => (match atI ds i with | some d => P d s | none => False)
    | .tup ds => (match atI ds i with | some d => P d s | none => False)
    | .tpw ds => (match atI ds i with | some d => P d s | none => False)
    | .str z => z.length ≤ sizeLine ∧ (match atI z.cps.toList i with | some c => P (.str ⟨#[c]⟩) s | none => False)
    | _ => False
  | _ => False
theorem RepL.atI {K : PySem.W.Frag} {G : Hp} {ds : List D} {xs : List V} {i : Int} {d : D} (r : RepL K G ds xs) (h : L2.atI ds i = some d) : ∃ v, L2.atI xs i = some v ∧ Rep K G d v := by
  unfold L2.atI at h ⊢
  rw [← r.length]
  cases q : ixN ds.length i with
  | none => rw [q] at h; cases h
  | some j => rw [q] at h; exact r.get h
section
variable {X : Cx}
theorem ixd : IxR X (lO X.K roIx) := by
  intro value slice pins s σ H x y v u Q I rx ry ⟨F, G, s', d, e, P, o, rd, re, hw, q⟩ hs
  cases re <;> first | exact hw.elim | skip
  unfold roIx at hw
  have vd := o.seen rd
  refine ix_seq value slice pins s σ H x _ v u Q I rx ry ?_ hs
  cases qd : view s' d <;> simp only [qd] at hw <;> first | exact hw.elim | skip
  · rw [qd] at vd
    cases vd
    obtain ⟨h1, hw⟩ := hw
    split at hw
    · rename_i c hc
      exact .inr (.inr ⟨_, _, c, rfl, rfl, h1, hc, q.val o hw (.str _)⟩)
    · exact hw.elim
  · split at hw
    · rename_i e he
      obtain ⟨a, xs, rfl, h1, r⟩ := rd.seqT (.inl (view_tup qd))
      obtain ⟨w, hv, rv⟩ := r.atI he
      exact .inr (.inl ⟨a, xs, _, w, rfl, rfl, ex_t o.ex h1, hv, q.val o hw rv⟩)
    · exact hw.elim
  · split at hw
    · rename_i e he
      obtain ⟨a, xs, rfl, h1, r⟩ := o.seqL rd qd
      obtain ⟨w, hv, rv⟩ := r.atI he
      exact .inl ⟨a, xs, _, w, rfl, rfl, .of h1, hv, q.val o hw rv⟩
    · exact hw.elim
  · split at hw
    · rename_i e he
      obtain ⟨a, xs, rfl, h1, r⟩ := rd.seqT (.inr (view_tpw qd))
      obtain ⟨w, hv, rv⟩ := r.atI he
      exact .inr (.inl ⟨a, xs, _, w, rfl, rfl, ex_t o.ex h1, hv, q.val o hw rv⟩)
    · exact hw.elim
end
abbrev WO := Dn → S → (Option Int → S → Prop) → Prop
def lP (K : PySem.W.Frag) (w : WO) : TO := fun σ H Q => ∃ F G δ s P, EnvOk K G δ σ ∧ Own K F s G H ∧ w δ s P ∧ ∀ i s', P i s' → ∀ G' H', Ex G G' → Own K F s' G' H' → Q i H'
abbrev DPO (X : Cx) (e : Option Expr) (w : WO) : Prop := PO X e (lP X.K w)
def woN : WO := fun _ s P => P none s
def woS (w : WE) : WO := fun δ s P => w δ s fun d s1 => match d with
  | .int i => P (some i) s1
  | _ => False
/-- a list's slice is a new list -/
def cutD (ds : List D) (lo hi : Option Int) : List D := (ds.drop (HT.sIx ds.length 0 lo)).take (HT.sIx ds.length ds.length hi - HT.sIx ds.length 0 lo)
def wSlL (w : WE) (l h : WO) : WA := fun δ s P => w δ s fun d s1 => l δ s1 fun lo s2 => h δ s2 fun hi s3 => match view s3 d with
  | .lst ds => P (cutD ds lo hi) s3
  | .lsk ds => P (cutD ds lo hi) s3
  | _ => False
def wSlS (w : WE) (l h : WO) : WE := fun δ s P => w δ s fun d s1 => l δ s1 fun lo s2 => h δ s2 fun hi s3 => match d with
  | .str z => z.length ≤ sizeLine ∧ P (.str (cutS z lo hi)) s3
  | _ => False
theorem view_lsk {s : S} {d : D} {ds : List D} (e : view s d = .lsk ds) : d = .lsk ds := by
  cases d with
  | ref a =>
    unfold DL.view at e
    cases q : s.M a with
    | none => simp only [q] at e; cases e
    | some m => cases m <;> simp only [q] at e <;> cases e
  | _ => exact e
theorem RepL.cut {K : PySem.W.Frag} {G : Hp} {ds : List D} {xs : List V} (r : RepL K G ds xs) (lo hi : Option Int) : RepL K G (cutD ds lo hi) (cutV xs lo hi) := by
  unfold cutD cutV
  rw [r.length]
  exact (r.drop _).take _
section
variable {X : Cx} {e : Expr} {lo hi : Option Expr} {p2 pos : Pos} {w : WE} {l h : WO}
theorem dpo_none : DPO X none woN := ⟨fun pins s σ H Q I ⟨F, G, δ, s', P, en, o, hw, q⟩ => po_none.run pins s σ H Q I (q none s' hw G H (Ex.refl G) o)⟩
theorem dpo_some (he : DE X e w) : DPO X (some e) (woS w) := ⟨fun pins s σ H Q I ⟨F, G, δ, s', P, en, o, hw, q⟩ => (po_some he).run pins s σ H Q I ⟨F, G, δ, s', _, en, o, hw, fun d s1 h1 G1 H1 v e1 o1 r1 => by
  cases r1 <;> first | exact h1.elim | skip
  exact ⟨_, rfl, q _ s1 h1 G1 H1 e1 o1⟩⟩⟩
theorem del_slice (he : DE X e w) (hl : DPO X lo l) (hh : DPO X hi h) : DEL X (.Subscript e (.Slice lo hi none p2) pos) (wSlL w l h) :=
  PE.imp (pe_slice sl_list he hl hh) fun σ H Q ⟨F, G, δ, s, P, en, o, hw, q⟩ => ⟨F, G, δ, s, _, en, o, hw, fun d s1 h1 G1 H1 v e1 o1 r1 => ⟨F, G1, δ, s1, _, en.mono e1, o1, h1, fun a s2 h2 G2 H2 e2 o2 =>
    ⟨F, G2, δ, s2, _, (en.mono e1).mono e2, o2, h2, fun b s3 h3 G3 H3 e3 o3 => by
      split at h3 <;> first | exact h3.elim | skip
      · rename_i ds hv
        obtain ⟨p, xs, rfl, hx, r⟩ := o3.seqL ((r1.mono e2).mono e3) hv
        exact ⟨p, xs, rfl, .of hx, fun p' hp' => q _ s3 h3 G3 H3 p' _ (e1.trans (e2.trans e3)) o3 hp' (r.cut _ _)⟩
      · rename_i ds hv
        have e := view_lsk hv
        subst e
        have r3 := (r1.mono e2).mono e3
        cases r3 with
        | lsk hx r => exact ⟨_, _, rfl, Evl.ex_l o3.ex hx, fun p' hp' => q _ s3 h3 G3 H3 p' _ (e1.trans (e2.trans e3)) o3 hp' (r.cut _ _)⟩⟩⟩⟩
theorem de_sliceS (he : DE X e w) (hl : DPO X lo l) (hh : DPO X hi h) : DE X (.Subscript e (.Slice lo hi none p2) pos) (wSlS w l h) :=
  PE.imp (pe_slice sl_str he hl hh) fun σ H Q ⟨F, G, δ, s, P, en, o, hw, q⟩ => ⟨F, G, δ, s, _, en, o, hw, fun d s1 h1 G1 H1 v e1 o1 r1 => ⟨F, G1, δ, s1, _, en.mono e1, o1, h1, fun a s2 h2 G2 H2 e2 o2 =>
    ⟨F, G2, δ, s2, _, (en.mono e1).mono e2, o2, h2, fun b s3 h3 G3 H3 e3 o3 => by
      cases r1 <;> first | exact h3.elim | skip
      exact ⟨_, rfl, h3.1, q _ s3 h3.2 G3 H3 _ (e1.trans (e2.trans e3)) o3 (.str _)⟩⟩⟩⟩
end

/-! ### in -/
def roIn : R2D := fun x y s P => match view s y with
  | .lst ds => (x.isData = true ∧ D.allData ds = true ∧ x.depth ≤ 60) ∧ P (.bl (ds.any fun d => d.eq x)) s
  | .tup ds => (x.isData = true ∧ D.allData ds = true ∧ x.depth ≤ 60) ∧ P (.bl (ds.any fun d => d.eq x)) s
  | .str z => (match x with
    | .str w => (match w.cps.toList with
      | [c] => P (.bl (decide (c ∈ z.cps.toList))) s
      | _ => False)
    | _ => False)
  | _ => False
def roNotIn : R2D := fun x y s P => match view s y with
  | .lst ds => (x.isData = true ∧ D.allData ds = true ∧ x.depth ≤ 60) ∧ P (.bl (!ds.any fun d => d.eq x)) s
  | .tup ds => (x.isData = true ∧ D.allData ds = true ∧ x.depth ≤ 60) ∧ P (.bl (!ds.any fun d => d.eq x)) s
  | .str z => (match x with
    | .str w => (match w.cps.toList with
      | [c] => P (.bl (!decide (c ∈ z.cps.toList))) s
      | _ => False)
    | _ => False)
  | _ => False
theorem one_sign {w : Str} {c : Nat} (h : w.cps.toList = [c]) : w = ⟨#[c]⟩ := by
  obtain ⟨a⟩ := w
  congr 1
  apply Array.ext'
  exact h
theorem pys_any (ds : List D) (x : D) : ((D.pys ds).any fun y => PyData.eqv y x.py) = ds.any fun d => d.eq x := by
  rw [pys_map, List.any_map]; rfl
section
variable {X : Cx}
theorem od_in (hu : X.A.units + 64 < cLine) : OpD X (compareOp .In) roIn := by
  intro pins s σ H x y v u Q I rx ry ⟨F, G, s', d, e, P, o, rd, re, hw, q⟩
  have ve := o.seen re
  have vd := Rep.mono o.ex rd
  unfold roIn at hw
  cases qe : view s' e <;> simp only [qe] at hw ve <;> first | exact hw.elim | skip
  · split at hw
    · rename_i w
      split at hw <;> first | exact hw.elim | skip
      rename_i c hc
      cases ve; cases rd
      exact op_in_sign pins s σ H _ _ v u Q I rx ry ⟨c, _, by rw [one_sign hc], rfl, q.val o hw (.bl _)⟩
    · exact hw.elim
  · obtain ⟨⟨h1, h2, h3⟩, hw⟩ := hw
    obtain ⟨as, r1⟩ := Dp.reads I _ _ _ (vd.dp h1) rx
    obtain ⟨bs, r2⟩ := Dp.reads I _ _ _ (ve.dp h2) ry
    refine SeqAt.in_tuple_data r2 r1 (pys_plain _) (py_plain _) ?_ ⟨.bl _, H, I, by rw [pys_any]; rfl, q.val o hw (.bl _)⟩
    have : d.py.depth ≤ 60 := h3
    omega
  · obtain ⟨⟨h1, h2, h3⟩, hw⟩ := hw
    obtain ⟨as, r1⟩ := Dp.reads I _ _ _ (vd.dp h1) rx
    obtain ⟨bs, r2⟩ := Dp.reads I _ _ _ (ve.dp h2) ry
    refine SeqAt.in_list_data r2 r1 (pys_plain _) (py_plain _) ?_ ⟨.bl _, H, I, by rw [pys_any]; rfl, q.val o hw (.bl _)⟩
    have : d.py.depth ≤ 60 := h3
    omega
theorem od_notin (hu : X.A.units + 64 < cLine) : OpD X (compareOp .NotIn) roNotIn := by
  intro pins s σ H x y v u Q I rx ry ⟨F, G, s', d, e, P, o, rd, re, hw, q⟩
  have ve := o.seen re
  have vd := Rep.mono o.ex rd
  unfold roNotIn at hw
  cases qe : view s' e <;> simp only [qe] at hw ve <;> first | exact hw.elim | skip
  · split at hw
    · rename_i w
      split at hw <;> first | exact hw.elim | skip
      rename_i c hc
      cases ve; cases rd
      exact op_notIn_sign pins s σ H _ _ v u Q I rx ry ⟨c, _, by rw [one_sign hc], rfl, q.val o hw (.bl _)⟩
    · exact hw.elim
  · obtain ⟨⟨h1, h2, h3⟩, hw⟩ := hw
    obtain ⟨as, r1⟩ := Dp.reads I _ _ _ (vd.dp h1) rx
    obtain ⟨bs, r2⟩ := Dp.reads I _ _ _ (ve.dp h2) ry
    refine SeqAt.notIn_tuple_data r2 r1 (pys_plain _) (py_plain _) ?_ ⟨.bl _, H, I, by rw [pys_any]; rfl, q.val o hw (.bl _)⟩
    have : d.py.depth ≤ 60 := h3
    omega
  · obtain ⟨⟨h1, h2, h3⟩, hw⟩ := hw
    obtain ⟨as, r1⟩ := Dp.reads I _ _ _ (vd.dp h1) rx
    obtain ⟨bs, r2⟩ := Dp.reads I _ _ _ (ve.dp h2) ry
    refine SeqAt.notIn_list_data r2 r1 (pys_plain _) (py_plain _) ?_ ⟨.bl _, H, I, by rw [pys_any]; rfl, q.val o hw (.bl _)⟩
    have : d.py.depth ≤ 60 := h3
    omega
theorem od_le : OpD X (compareOp .LtE) roLe := by
  intro pins s σ H x y v u Q I rx ry ⟨F, G, s', d, e, P, o, rd, re, hw, q⟩
  cases rd <;> cases re <;> first | exact hw.elim | skip
  · exact op_le pins s σ H _ _ v u Q I rx ry ⟨_, _, rfl, rfl, q.val o hw (.bl _)⟩
  · exact op_le_str pins s σ H _ _ v u Q I rx ry ⟨_, _, rfl, rfl, q.val o hw (.bl _)⟩
theorem ud_neg : UnR X (unaryOp .USub) (fun x H Q => ∃ F G s d P, Own X.K F s G H ∧ Rep X.K G d x ∧ (match d with | .int i => P (.int (-i)) s | _ => False) ∧ Ret X.K F G P Q) := by
  intro pins s σ H x v Q I rx ⟨F, G, s', d, P, o, rd, hw, q⟩
  cases rd <;> first | exact hw.elim | skip
  exact un_neg pins s σ H _ v Q I rx ⟨_, rfl, q.val o hw (.int _)⟩
def wNeg (w : WE) : WE := fun δ s P => w δ s fun d s1 => match d with
  | .int i => P (.int (-i)) s1
  | _ => False
theorem de_neg {a : Expr} {pos : Pos} {w : WE} (ha : DE X a w) : DE X (.UnaryOp .USub a pos) (wNeg w) :=
  PE.imp (pe_un ud_neg ha) fun σ H Q ⟨F, G, δ, s, P, en, o, hw, q⟩ => ⟨F, G, δ, s, _, en, o, hw, fun d s1 h1 G1 H1 v e1 o1 r1 => ⟨F, G1, s1, d, P, o1, r1, h1, q.mono e1⟩⟩
end

/-! ### built-in functions -/
abbrev RCD := List D → S → DK → Prop
abbrev RCLD := List D → S → (List D → S → Prop) → Prop
def lC (K : PySem.W.Frag) (r : RCD) : List V → Hp → VK → Prop := fun vs H Q => ∃ F G s ds P, Own K F s G H ∧ RepL K G ds vs ∧ r ds s P ∧ Ret K F G P Q
def lCL (K : PySem.W.Frag) (r : RCLD) : List V → Hp → VK → Prop := fun vs H Q => ∃ F G s ds P, Own K F s G H ∧ RepL K G ds vs ∧ r ds s P ∧ RetL K F G P Q
abbrev CallD (X : Cx) (f : Value) (r : RCD) : Prop := CallR X f (lC X.K r)
abbrev CallDL (X : Cx) (f : Value) (r : RCLD) : Prop := CallR X f (lCL X.K r)
def wCB (r : RCD) (w : WA) : WE := fun δ s P => w δ s fun ds s1 => r ds s1 P
def wCBL (r : RCLD) (w : WA) : WA := fun δ s P => w δ s fun ds s1 => r ds s1 P
section
variable {X : Cx} {x : Str} {p pos : Pos} {e : Expr} {es : List Expr} {n : Nat} {w : WA} {id T : String} {r : RCD} {rl : RCLD}
theorem de_callB (hc : CallD X (.builtin id) r) (hg : Gl X x) (hm : X.mg x = none) (hv : bootBuiltins x = some (.builtin id)) (ha : DA X (e :: es) n w) (hn : x ≠ "__name__" := by decide) (hdb : (x == ("__debug__" : Str)) = false := by decide)
    (he : starEach (e :: es) X.env = (false, eval e X.env) :: starEach es X.env := by rfl) (hpl : (backTo pos (starEach es X.env)).any (·.1) = false := by rfl) : DE X (.Call (.Name x p) (e :: es) [] pos) (wCB r w) :=
  PE.imp (pe_callB hc hg hm hv ha hn hdb he hpl) fun σ H Q ⟨F, G, δ, s, P, en, o, hw, q⟩ => ⟨F, G, δ, s, _, en, o, hw, fun ds s1 h1 hl G1 H1 vs e1 o1 r1 => ⟨F, G1, s1, ds, P, o1, r1, h1, q.mono e1⟩⟩
theorem de_callTy (hc : CallD X (.type T) r) (hg : Gl X x) (hm : X.mg x = none) (hv : bootBuiltins x = some (.type T)) (ha : DA X (e :: es) n w) (hn : x ≠ "__name__" := by decide) (hdb : (x == ("__debug__" : Str)) = false := by decide)
    (he : starEach (e :: es) X.env = (false, eval e X.env) :: starEach es X.env := by rfl) (hpl : (backTo pos (starEach es X.env)).any (·.1) = false := by rfl) : DE X (.Call (.Name x p) (e :: es) [] pos) (wCB r w) :=
  PE.imp (pe_callTy hc hg hm hv ha hn hdb he hpl) fun σ H Q ⟨F, G, δ, s, P, en, o, hw, q⟩ => ⟨F, G, δ, s, _, en, o, hw, fun ds s1 h1 hl G1 H1 vs e1 o1 r1 => ⟨F, G1, s1, ds, P, o1, r1, h1, q.mono e1⟩⟩
theorem del_callB (hc : CallDL X (.builtin id) rl) (hg : Gl X x) (hm : X.mg x = none) (hv : bootBuiltins x = some (.builtin id)) (ha : DA X (e :: es) n w) (hn : x ≠ "__name__" := by decide) (hdb : (x == ("__debug__" : Str)) = false := by decide)
    (he : starEach (e :: es) X.env = (false, eval e X.env) :: starEach es X.env := by rfl) (hpl : (backTo pos (starEach es X.env)).any (·.1) = false := by rfl) : DEL X (.Call (.Name x p) (e :: es) [] pos) (wCBL rl w) :=
  PE.imp (pe_callB hc hg hm hv ha hn hdb he hpl) fun σ H Q ⟨F, G, δ, s, P, en, o, hw, q⟩ => ⟨F, G, δ, s, _, en, o, hw, fun ds s1 h1 hl G1 H1 vs e1 o1 r1 => ⟨F, G1, s1, ds, P, o1, r1, h1, q.mono e1⟩⟩
theorem del_callTy (hc : CallDL X (.type T) rl) (hg : Gl X x) (hm : X.mg x = none) (hv : bootBuiltins x = some (.type T)) (ha : DA X (e :: es) n w) (hn : x ≠ "__name__" := by decide) (hdb : (x == ("__debug__" : Str)) = false := by decide)
    (he : starEach (e :: es) X.env = (false, eval e X.env) :: starEach es X.env := by rfl) (hpl : (backTo pos (starEach es X.env)).any (·.1) = false := by rfl) : DEL X (.Call (.Name x p) (e :: es) [] pos) (wCBL rl w) :=
  PE.imp (pe_callTy hc hg hm hv ha hn hdb he hpl) fun σ H Q ⟨F, G, δ, s, P, en, o, hw, q⟩ => ⟨F, G, δ, s, _, en, o, hw, fun ds s1 h1 hl G1 H1 vs e1 o1 r1 => ⟨F, G1, s1, ds, P, o1, r1, h1, q.mono e1⟩⟩
/-- a built-in class as a value -/
theorem dty (hg : Gl X x) (hm : X.mg x = none) (hv : bootBuiltins x = some (.type T)) (hn : x ≠ "__name__" := by decide) (hdb : (x == ("__debug__" : Str)) = false := by decide) : DE X (.Name x p) (wC (.ty T)) :=
  dcon (pe_bltn (v := .ty T) hg hm hv rfl hn hdb) fun _ => .ty T
end
def rcLen : RCD := fun ds s P => match ds with
  | [d] => (match view s d with
    | .lst es => P (.int (es.length : Nat)) s
    | .tup es => P (.int (es.length : Nat)) s
    | .tpw es => P (.int (es.length : Nat)) s
    | .str z => z.length ≤ sizeLine ∧ P (.int (z.length : Nat)) s
    | _ => False)
  | _ => False
def rcList : RCLD := fun ds s P => match ds with
  | [d] => (match seqD s d with
    | some es => P es s
    | none => False)
  | _ => False
def rcTuple : RCD := fun ds s P => match ds with
  | [d] => (match view s d with
    | .lst es => P (.tup es) s
    | .tup es => P (.tup es) s
    | _ => False)
  | _ => False
def rcAbs : RCD := fun ds s P => match ds with
  | [.int i] => P (.int (if i < 0 then -i else i)) s
  | _ => False
def rcMax2 : RCD := fun ds s P => match ds with
  | [.int i, .int j] => P (.int (if j > i then j else i)) s
  | _ => False
def rcMin2 : RCD := fun ds s P => match ds with
  | [.int i, .int j] => P (.int (if j < i then j else i)) s
  | _ => False
def rcInt : RCD := fun ds s P => match ds with
  | [.int i] => P (.int i) s
  | [.bl k] => P (.int (if k then 1 else 0)) s
  | _ => False
def rcStr : RCD := fun ds s P => match ds with
  | [.int i] => i.natAbs.log2 < 1920 ∧ P (.str (toString i)) s
  | _ => False
def D.shown (d : D) : Str := d.py.shown
def rcRepr : RCD := fun ds s P => match ds with
  | [d] => ((view s d).isData = true ∧ (view s d).py.showable = true ∧ (view s d).depth ≤ 60 ∧ (view s d).shown.length ≤ sizeLine) ∧ P (.str (view s d).shown) s
  | _ => False
/-- isinstance of data: bool, int, str, tuple, list -/
def isA (d : D) (T : String) : Bool := match d with
  | .bl _ => T == "bool" || T == "int"
  | .int _ => T == "int"
  | .str _ => T == "str"
  | .tup _ => T == "tuple"
  | .tpw _ => T == "tuple"
  | .lst _ => T == "list"
  | _ => false
def okT (T : String) : Bool := T == "bool" || T == "int" || T == "str" || T == "tuple" || T == "list"
def rcIsi : RCD := fun ds s P => match ds with
  | [d, .ty T] => ((view s d).isData = true ∧ okT T = true) ∧ P (.bl (isA (view s d) T)) s
  | [d, .tup [.ty T, .ty U]] => ((view s d).isData = true ∧ okT T = true ∧ okT U = true) ∧ P (.bl (isA (view s d) T || isA (view s d) U)) s
  | _ => False
def tyN : D → String
  | .non => "NoneType"
  | .bl _ => "bool"
  | .int _ => "int"
  | .str _ => "str"
  | .tup _ => "tuple"
  | .tpw _ => "tuple"
  | .lst _ => "list"
  | .lsk _ => ""
  | .dct _ _ => ""
  | .ref _ => ""
  | .ty _ => ""
theorem kit_isA : ∀ (d : D) (T : String), d.isData = true → okT T = true → kitB (tyN d) T = some (isA d T) := by
  have tab : ∀ a ∈ ["NoneType", "bool", "int", "str", "tuple", "list"], ∀ b ∈ ["bool", "int", "str", "tuple", "list"], kitB a b = some (match a with | "bool" => b == "bool" || b == "int" | "NoneType" => false | _ => b == a) := by decide +kernel
  intro d T hd hT
  have hm : T ∈ ["bool", "int", "str", "tuple", "list"] := by
    unfold okT at hT
    simp only [Bool.or_eq_true, beq_iff_eq] at hT
    simp only [List.mem_cons, List.not_mem_nil, or_false]
    rcases hT with (((h | h) | h) | h) | h <;> simp [h]
  cases d <;> first | exact tab _ (by simp [tyN]) T hm | exact nomatch hd
theorem Rep.tyX {K : PySem.W.Frag} {H : Hp} {d : D} {v : V} (r : Rep K H d v) (h : d.isData = true) : TyX K H v (.type (tyN d)) := by
  have tq : ∀ {a : Addr} {xs : List V}, SqT K H a xs → TyX K H (.ref a) (.type "tuple") := fun {a xs} q => by
    rcases q with (q | ⟨o, q⟩) | ⟨o, its, n, q, c, _⟩
    · exact .base (.tup q)
    · exact .fTuple q
    · exact .kTuple q c
  cases r with
  | non => exact .base .non
  | bl b => exact .base (.bl b)
  | int i => exact .base (.int i)
  | str x => exact .base (.str x)
  | tup t _ => exact tq t.sq
  | tpw t _ => exact tq t
  | lst t _ => exact .base (.lst t)
  | lsk _ _ => cases h
  | dct _ _ _ _ => cases h
  | ref a => cases h
  | ty n => cases h
theorem RepL.two' {K : PySem.W.Frag} {G : Hp} {d e : D} {vs : List V} (r : RepL K G [d, e] vs) : ∃ v u, vs = [v, u] ∧ Rep K G d v ∧ Rep K G e u := r.two
section
variable {X : Cx}
theorem cd_len : CallD X (.builtin "len") rcLen := by
  intro pins s σ H xs us Q I r ⟨F, G, s', ds, P, o, rd, hw, q⟩
  unfold rcLen at hw
  split at hw <;> first | exact hw.elim | skip
  rename_i d
  obtain ⟨v, rfl, rv⟩ := rd.one
  split at hw <;> first | exact hw.elim | skip
  · rename_i es hv
    obtain ⟨a, ys, rfl, h1, r1⟩ := o.seqL rv hv
    exact call_len_seq pins s σ H _ us Q I r ⟨a, ys, rfl, .inl (.of h1), by rw [← r1.length]; exact q.val o hw (.int _)⟩
  · rename_i es hv
    obtain ⟨a, ys, rfl, h1, r1⟩ := rv.seqT (.inl (view_tup hv))
    exact call_len_seq pins s σ H _ us Q I r ⟨a, ys, rfl, .inr (ex_t o.ex h1), by rw [← r1.length]; exact q.val o hw (.int _)⟩
  · rename_i es hv
    obtain ⟨a, ys, rfl, h1, r1⟩ := rv.seqT (.inr (view_tpw hv))
    exact call_len_seq pins s σ H _ us Q I r ⟨a, ys, rfl, .inr (ex_t o.ex h1), by rw [← r1.length]; exact q.val o hw (.int _)⟩
  · rename_i z hv
    have hs := o.seen rv
    rw [hv] at hs
    cases hs
    exact call_len_str pins s σ H _ us Q I r ⟨_, rfl, hw.1, q.val o hw.2 (.int _)⟩
theorem cd_list : CallDL X (.type "list") rcList := by
  intro pins s σ H xs us Q I r ⟨F, G, s', ds, P, o, rd, hw, q⟩
  unfold rcList at hw
  split at hw <;> first | exact hw.elim | skip
  rename_i d
  obtain ⟨v, rfl, rv⟩ := rd.one
  split at hw <;> first | exact hw.elim | skip
  rename_i es hv
  obtain ⟨a, ys, rfl, h1, r1⟩ := o.seq rv hv
  exact call_list_of pins s σ H _ us Q I r ⟨a, ys, rfl, h1, fun l hl => q _ s' hw G H l ys (Ex.refl G) o hl r1⟩
/-- tuple(list): a tuple whose object is known -/
theorem cd_tuple : CallD X (.type "tuple") rcTuple := by
  intro pins s σ H xs us Q I r ⟨F, G, s', ds, P, o, rd, hw, q⟩
  unfold rcTuple at hw
  split at hw <;> first | exact hw.elim | skip
  rename_i d
  obtain ⟨v, rfl, rv⟩ := rd.one
  obtain ⟨u, rfl, ru⟩ := vals1 r
  split at hw <;> first | exact hw.elim | skip
  · rename_i es hv
    obtain ⟨a, ys, rfl, h1, r1⟩ := o.seqL rv hv
    cases ru
    obtain ⟨its, r', pl, hz⟩ := I.list (.of h1)
    have hlen := r'.length
    refine call_tuple_list pl.isList (fun h' kp => ?_) (by simp only [List.size_toArray] <;> omega)
    have I1 : Inv X pins σ H { s with heap := h' } := I.kept (t' := s.toks) kp
    have I2 := I1.laid (t' := s.toks) (o := .frz { cls := .type "tuple", data := .seq its.toArray } (.tup ys)) (h' := h'.push { cls := .type "tuple", data := .seq its.toArray }) (fun b u e => Heap.get?_push_of_some _ e) (Nat.le_refl _)
      ⟨Heap.get?_push_size _ rfl, hz, its, r', IsTup.new _ _⟩
    exact ⟨.ref h'.objs.size, _, I2, rfl, q.newT (ob := { cls := .type "tuple", data := .seq its.toArray }) o hw r1 rfl (I1.hok.fresh (Nat.le_refl _))⟩
  · rename_i es hv
    have e := view_tup hv
    subst e
    cases rv with
    | tup t r1 =>
      exact call_tuple_of pins s σ H _ _ Q I (.cons ru .nil) ⟨_, _, rfl, .inr ⟨ex_t o.ex t.sq, q.val o hw (.tup t r1)⟩⟩
theorem cd_abs : CallD X (.builtin "abs") rcAbs := by
  intro pins s σ H xs us Q I r ⟨F, G, s', ds, P, o, rd, hw, q⟩
  unfold rcAbs at hw
  split at hw <;> first | exact hw.elim | skip
  obtain ⟨v, rfl, rv⟩ := rd.one
  cases rv
  exact call_abs pins s σ H _ us Q I r ⟨_, rfl, q.val o hw (.int _)⟩
theorem cd_max2 (hc : X.calm = true) : CallD X (.builtin "max") rcMax2 := by
  intro pins s σ H xs us Q I r ⟨F, G, s', ds, P, o, rd, hw, q⟩
  unfold rcMax2 at hw
  split at hw <;> first | exact hw.elim | skip
  obtain ⟨v, v', rfl, rv, rv'⟩ := rd.two
  cases rv; cases rv'
  exact call_max2 hc pins s σ H _ us Q I r ⟨_, _, rfl, q.val o hw (.int _)⟩
theorem cd_min2 (hc : X.calm = true) : CallD X (.builtin "min") rcMin2 := by
  intro pins s σ H xs us Q I r ⟨F, G, s', ds, P, o, rd, hw, q⟩
  unfold rcMin2 at hw
  split at hw <;> first | exact hw.elim | skip
  obtain ⟨v, v', rfl, rv, rv'⟩ := rd.two
  cases rv; cases rv'
  exact call_min2 hc pins s σ H _ us Q I r ⟨_, _, rfl, q.val o hw (.int _)⟩
theorem cd_int : CallD X (.type "int") rcInt := by
  intro pins s σ H xs us Q I r ⟨F, G, s', ds, P, o, rd, hw, q⟩
  unfold rcInt at hw
  split at hw <;> first | exact hw.elim | skip
  · obtain ⟨v, rfl, rv⟩ := rd.one
    cases rv
    exact call_int1 pins s σ H _ us Q I r (.inl ⟨_, rfl, q.val o hw (.int _)⟩)
  · obtain ⟨v, rfl, rv⟩ := rd.one
    cases rv
    exact call_int1 pins s σ H _ us Q I r (.inr ⟨_, rfl, q.val o hw (.int _)⟩)
theorem cd_str : CallD X (.type "str") rcStr := by
  intro pins s σ H xs us Q I r ⟨F, G, s', ds, P, o, rd, hw, q⟩
  unfold rcStr at hw
  split at hw <;> first | exact hw.elim | skip
  obtain ⟨v, rfl, rv⟩ := rd.one
  cases rv
  exact call_str_int pins s σ H _ us Q I r ⟨_, rfl, hw.1, q.val o hw.2 (.str _)⟩
theorem pys_noDict : (∀ d : D, d.py.hasDict = false) := by
  intro d
  refine D.rec (motive_1 := fun d => d.py.hasDict = false) (motive_2 := fun ds => PyData.hasDictAll (D.pys ds) = false) rfl (fun _ => rfl) (fun _ => rfl) (fun _ => rfl) (fun _ h => h) (fun _ h => h) (fun _ h => h) (fun _ _ => rfl) (fun _ _ _ => rfl) (fun _ => rfl) (fun _ => rfl) rfl (fun d ds h1 h2 => ?_) d
  show (d.py.hasDict || PyData.hasDictAll (D.pys ds)) = false
  rw [h1, h2]; rfl
theorem cd_repr (hg : X.A.guards = some []) (hu : X.A.units + 64 < cLine) : CallD X (.builtin "repr") rcRepr := by
  intro pins s σ H xs us Q I r ⟨F, G, s', ds, P, o, rd, hw, q⟩
  unfold rcRepr at hw
  split at hw <;> first | exact hw.elim | skip
  rename_i d
  obtain ⟨v, rfl, rv⟩ := rd.one
  obtain ⟨u, rfl, ru⟩ := vals1 r
  obtain ⟨⟨h1, h2, h3, h4⟩, hw⟩ := hw
  have h3' : (view s' d).py.depth ≤ 60 := h3
  have vs := o.seen rv
  obtain ⟨as, rr⟩ := Dp.reads I _ _ _ (vs.dp h1) ru
  have fin : ∀ (t : Tok) (s2 : Shared), Inv X pins σ H s2 → EP X pins σ Q (.str (view s' d).shown t) s2 := fun t s2 I2 => ⟨.str _, H, I2, ⟨t, rfl⟩, q.val o hw (.str _)⟩
  generalize view s' d = dd at *
  cases dd with
  | non => cases vs; cases ru; exact PySem.P.repr_of_none (fin _ _ (I.tok _))
  | bl b => cases vs; cases ru; exact PySem.P.repr_of_bool (fin _ _ (I.tok _))
  | int i =>
    cases vs
    obtain ⟨t, rfl⟩ := ru
    exact PySem.P.repr_of_int (of_decide_eq_true h2) (fin _ _ (I.tok _))
  | str x =>
    cases vs
    obtain ⟨t, rfl⟩ := ru
    exact PySem.P.repr_of_str (fin _ _ (I.tok _)) h4
  | tup es =>
    cases vs; cases ru
    exact repr_of_reads' rr h2 (PyData.noDict_hsm (pys_noDict (.tup es))) hg (by omega) (fun _ _ e => e) (fun h' t tk hk => fin _ _ (I.kept (t' := tk) hk)) h4
  | tpw es =>
    cases vs; cases ru
    exact repr_of_reads' rr h2 (PyData.noDict_hsm (pys_noDict (.tpw es))) hg (by omega) (fun _ _ e => e) (fun h' t tk hk => fin _ _ (I.kept (t' := tk) hk)) h4
  | lst es =>
    cases vs; cases ru
    exact repr_of_reads' rr h2 (PyData.noDict_hsm (pys_noDict (.lst es))) hg (by omega) (fun _ _ e => e) (fun h' t tk hk => fin _ _ (I.kept (t' := tk) hk)) h4
  | lsk es => cases h1
  | dct ks es => cases h1
  | ref a => cases h1
  | ty n => cases h1
theorem cd_isi : CallD X (.builtin "isinstance") rcIsi := by
  intro pins s σ H xs us Q I r ⟨F, G, s', ds, P, o, rd, hw, q⟩
  unfold rcIsi at hw
  split at hw <;> first | exact hw.elim | skip
  · rename_i d T
    obtain ⟨v, u, rfl, rv, ru⟩ := rd.two
    cases ru
    obtain ⟨⟨h1, h2⟩, hw⟩ := hw
    exact call_isi pins s σ H _ us Q I r ⟨v, _, _, _, _, rfl, .ty T, (o.seen rv).tyX h1, kit_ty (kit_isA _ T h1 h2), q.val o hw (.bl _)⟩
  · rename_i d T U
    obtain ⟨v, u, rfl, rv, ru⟩ := rd.two
    obtain ⟨⟨h1, h2, h3⟩, hw⟩ := hw
    obtain ⟨tp, cs, rfl, ht, rc⟩ := ru.seqT (.inl rfl)
    obtain ⟨c1, c2, rfl, r1, r2⟩ := rc.two
    cases r1; cases r2
    obtain ⟨u1, u2, rfl, q1, q2⟩ := vals2 r
    cases (show u2 = Value.ref tp from q2)
    obtain ⟨its, rI, ⟨ob, hob, hcl, n, hdt⟩, _⟩ := I.tuple (ex_t o.ex ht)
    obtain ⟨w1, w2, rfl, z1, z2⟩ := vals2 rI
    cases (show w1 = Value.type T from z1)
    cases (show w2 = Value.type U from z2)
    obtain ⟨oc, od, dt, sl⟩ := ob
    simp only at hcl hdt
    subst hcl hdt
    obtain ⟨Pk, Z, p, hx⟩ := kit_of I q1 ((o.seen rv).tyX h1)
    have ka : PySem.W.kitAny X.K (.type (tyN (view s' d))) [.type T, .type U] = some (isA (view s' d) T || isA (view s' d) U) :=
      kitAny_cons (kit_ty (kit_isA _ T h1 h2)) (fun e => by rw [e, Bool.false_or]; exact kitAny_cons (kit_ty (kit_isA _ U h1 h3)) (fun e2 => by rw [e2]; exact kitAny_nil) (fun e2 => e2)) (fun e => by rw [e]; rfl)
    exact PySem.W.kia_tup Z I.kIn p hob ka hx fun tk => ⟨.bl _, H, I.tok tk, rfl, q.val o hw (.bl _)⟩
end

/-! ### methods -/
abbrev RMD := D → List D → S → DK → Prop
def lM (K : PySem.W.Frag) (r : RMD) : V → List V → Hp → VK → Prop := fun x vs H Q => ∃ F G s d ds P, Own K F s G H ∧ Rep K G d x ∧ RepL K G ds vs ∧ r d ds s P ∧ Ret K F G P Q
/-- the receiver's kind -/
def hasTy (T : String) (s : S) (d : D) : Prop := match view s d with
  | .str _ => T = "str"
  | .int _ => T = "int"
  | .lst _ => T = "list"
  | _ => False
def wMeth (T : String) (r : RMD) (wo : WE) (wr : WA) : WE := fun δ s P => wo δ s fun d s1 => hasTy T s1 d ∧ wr δ s1 fun ds s2 => r d ds s2 P
theorem Own.tyV {K : PySem.W.Frag} {F : Hp} {s : S} {G H : Hp} {T : String} (o : Own K F s G H) {d : D} {v : V} (r : Rep K G d v) (h : hasTy T s d) : L2.tyV K T v H := by
  have vs := o.seen r
  unfold hasTy at h
  cases q : view s d <;> simp only [q] at h vs <;> first | exact h.elim | skip
  · cases vs; exact h
  · cases vs; exact h
  · cases vs with
    | lst t _ => exact .inl ⟨h, _, .of t⟩
section
variable {X : Cx} {o e : Expr} {es : List Expr} {n : Nat} {wo : WE} {wr : WA} {name : Str} {apos cpos : Pos} {T id : String} {r : RMD}
theorem de_meth (pa : PlainAttrs T) (slot : Slot T name id) (hty : typeOf (.builtin id) = pure (.type "method_descriptor")) (hm : MtR X id (lM X.K r)) (ho : DE X o wo) (ha : DA X (e :: es) n wr)
    (hbase : attributeBase o name X.env (eval o X.env) = eval o X.env := by rfl)
    (hfew : ((backTo cpos (starEach (e :: es) X.env)).all (fun x => !x.1) && (backToKw cpos (keywordEach [] X.env)).all (fun x => x.1.isSome) && decide ((e :: es).length + ([] : List Keyword).length + (if ([] : List Keyword).isEmpty then 0 else 1) < 30)) = true := by rfl)
    (hline : (apos.endLine == cpos.line) = true := by rfl) (hs : starEach (e :: es) X.env = (false, eval e X.env) :: starEach es X.env := by rfl) (hplain : (backTo cpos (starEach es X.env)).any (·.1) = false := by rfl) :
    DE X (.Call (.Attribute o name apos) (e :: es) [] cpos) (wMeth T r wo wr) :=
  PE.imp (pe_bm pa slot hty hm ho ha hbase hfew hline hs hplain) fun σ H Q ⟨F, G, δ, s, P, en, ow, hw, q⟩ => ⟨F, G, δ, s, _, en, ow, hw, fun d s1 h1 G1 H1 v e1 o1 r1 => ⟨o1.tyV r1 h1.1, F, G1, δ, s1, _, en.mono e1, o1, h1.2,
    fun ds s2 h2 hl G2 H2 vs e2 o2 r2 => ⟨F, G2, s2, d, ds, P, o2, r1.mono e2, r2, h2, q.mono (e1.trans e2)⟩⟩⟩
theorem de_meth0 (pa : PlainAttrs T) (slot : Slot T name id) (hty : typeOf (.builtin id) = pure (.type "method_descriptor")) (hm : MtR X id (lM X.K r)) (ho : DE X o wo)
    (hbase : attributeBase o name X.env (eval o X.env) = eval o X.env := by rfl) (hline : (apos.endLine == cpos.line) = true := by rfl) :
    DE X (.Call (.Attribute o name apos) [] [] cpos) (wMeth T r wo wNil) :=
  PE.imp (pe_bm0 pa slot hty hm ho hbase hline) fun σ H Q ⟨F, G, δ, s, P, en, ow, hw, q⟩ => ⟨F, G, δ, s, _, en, ow, hw, fun d s1 h1 G1 H1 v e1 o1 r1 => ⟨o1.tyV r1 h1.1,
    F, G1, s1, d, [], P, o1, r1, .nil, h1.2, q.mono e1⟩⟩
end
theorem Own.setL {K : PySem.W.Frag} {F : Hp} {s : S} {G H : Hp} (o : Own K F s G H) {p : Addr} {ds ds' : List D} {xs' : List V} (hM : s.M p = some (.lst ds)) (r : RepL K G ds' xs') : Own K F (s.put p (.lst ds')) G (upd H p (.lst xs')) := by
  obtain ⟨hG, u, hp, _⟩ := o.mu p _ hM
  refine ⟨fun a v e => ?_, fun a v e => ?_, fun a m e => ?_, fun a n e => ?_⟩
  · rw [upd_ne (ne_of_none e hG)]; exact o.ex a v e
  · obtain ⟨h1, h2, h3⟩ := o.fr a v e
    have ha : a ≠ p := fun z => by rw [z, hM] at h3; cases h3
    exact ⟨by rw [upd_ne ha]; exact h1, h2, by simp only [S.put, if_neg ha]; exact h3⟩
  · by_cases ha : a = p
    · subst ha
      simp only [S.put, if_pos] at e
      cases e
      exact ⟨hG, _, upd_same, xs', rfl, r⟩
    · simp only [S.put, if_neg ha] at e
      obtain ⟨g0, v, e1, r'⟩ := o.mu a m e
      exact ⟨g0, v, by rw [upd_ne ha]; exact e1, r'⟩
  · obtain ⟨a1, cells, mixed, k, h1, h2, h3, h4, h5, h6, h7, h8⟩ := (o.dk a n e).ex
    have ha : a ≠ p := fun z => by rw [z, hM] at h4; cases h4
    have ha1 : a1 ≠ p := fun z => by rw [z, hM] at h5; cases h5
    exact ⟨a1, cells, mixed, k, h1, h2, h3, by simp only [S.put, if_neg ha]; exact h4, by simp only [S.put, if_neg ha1]; exact h5, by rw [upd_ne ha]; exact h6, by rw [upd_ne ha1]; exact h7, h8⟩
def rmAppend : RMD := fun x ds s P => match x, ds with
  | .ref a, [d] => (match s.M a with
    | some (.lst es) => es.length < sizeLine ∧ P .non (s.put a (.lst (es ++ [d])))
    | _ => False)
  | _, _ => False
def rmInsert : RMD := fun x ds s P => match x, ds with
  | .ref a, [.int i, d] => (match s.M a with
    | some (.lst es) => (es.length < sizeLine ∧ 0 ≤ i ∧ i < 2 ^ 63) ∧ P .non (s.put a (.lst (es.take i.toNat ++ [d] ++ es.drop i.toNat)))
    | _ => False)
  | _, _ => False
def strsD : List D → Option (List Str)
  | [] => some []
  | .str x :: ds => (strsD ds).map (x :: ·)
  | _ :: _ => none
theorem strsD_of {ds : List D} : ∀ {ys : List Str}, strsD ds = some ys → ds = ys.map .str := by
  induction ds with
  | nil => intro ys h; cases h; rfl
  | cons d ds ih =>
    intro ys h
    cases d with
    | str x =>
      unfold strsD at h
      cases q : strsD ds with
      | none => rw [q] at h; cases h
      | some zs => rw [q] at h; cases h; rw [ih q]; rfl
    | _ => cases h
theorem strsD_map : ∀ ys : List Str, strsD (ys.map .str) = some ys
  | [] => rfl
  | y :: ys => by show (strsD (ys.map .str)).map (y :: ·) = _; rw [strsD_map ys]; rfl
theorem RepL.strs {K : PySem.W.Frag} {G : Hp} : ∀ {ys : List Str} {vs : List V}, RepL K G (ys.map .str) vs → vs = ys.map V.str
  | [], _, h => by cases h; rfl
  | y :: ys, _, h => by cases h with | cons a b => cases a; rw [RepL.strs b]; rfl
def rmJoin : RMD := fun x ds s P => match x, ds with
  | .str a, [d] => (match seqD s d with
    | some es => (match strsD es with
      | some ys => (ys.map (·.length)).sum + ys.length * a.length ≤ 16777216 ∧ P (.str (Txt.join a ys)) s
      | none => False)
    | none => False)
  | _, _ => False
section
variable {X : Cx}
theorem md_append : MtR X "list.append" (lM X.K rmAppend) := by
  intro pins s σ H x vs v us Q I rx rs ⟨F, G, s', d, ds, P, o, rd, rds, hw, q⟩
  unfold rmAppend at hw
  split at hw <;> first | exact hw.elim | skip
  rename_i a e
  split at hw <;> first | exact hw.elim | skip
  rename_i es hM
  cases rd
  obtain ⟨w, rfl, rw'⟩ := rds.one
  obtain ⟨_, u, hp, xs, rfl, r⟩ := o.mu a _ hM
  refine mt_append pins s σ H _ _ v us Q I rx rs ⟨a, xs, w, rfl, rfl, hp, by rw [← r.length]; exact hw.1, ?_⟩
  exact q _ _ hw.2 G _ _ (Ex.refl G) (o.setL hM (r.append (.cons rw' .nil))) .non
theorem md_insert : MtR X "list.insert" (lM X.K rmInsert) := by
  intro pins s σ H x vs v us Q I rx rs ⟨F, G, s', d, ds, P, o, rd, rds, hw, q⟩
  unfold rmInsert at hw
  split at hw <;> first | exact hw.elim | skip
  rename_i a i e
  split at hw <;> first | exact hw.elim | skip
  rename_i es hM
  cases rd
  obtain ⟨w0, w, rfl, rw0, rw'⟩ := rds.two
  cases rw0
  obtain ⟨_, u, hp, xs, rfl, r⟩ := o.mu a _ hM
  refine mt_insert pins s σ H _ _ v us Q I rx rs ⟨a, xs, i, w, rfl, rfl, hp, by rw [← r.length]; exact hw.1.1, hw.1.2.1, hw.1.2.2, ?_⟩
  exact q _ _ hw.2 G _ _ (Ex.refl G) (o.setL hM (((r.take _).append (.cons rw' .nil)).append (r.drop _))) .non
theorem md_join : MtR X "str.join" (lM X.K rmJoin) := by
  intro pins s σ H x vs v us Q I rx rs ⟨F, G, s', d, ds, P, o, rd, rds, hw, q⟩
  unfold rmJoin at hw
  split at hw <;> first | exact hw.elim | skip
  split at hw <;> first | exact hw.elim | skip
  rename_i es hs
  split at hw <;> first | exact hw.elim | skip
  rename_i ys hy
  obtain ⟨w, rfl, rw'⟩ := rds.one
  cases rd
  obtain ⟨a, zs, rfl, h1, r1⟩ := o.seq rw' hs
  rw [strsD_of hy] at r1
  have e := r1.strs
  subst e
  exact mt_join pins s σ H _ _ v us Q I rx rs ⟨_, a, ys, rfl, rfl, h1, hw.1, q.val o hw.2 (.str _)⟩
end
end DL

set_option Elab.async false
set_option linter.all false
set_option autoImplicit false
set_option maxRecDepth 100000
set_option maxHeartbeats 2000000
namespace DL
open PySem PySem.Spec PyProof.Rows L2
open Evl (Ex)

/-! ### match over written texts -/
abbrev WM := D → WS
/-- the cases from here on, for the subject's value -/
structure PM (X : Cx) (cs : List MatchCase) (w : WM) : Prop where
  run : ∀ (pins : List (Addr × Obj)) (s : Shared) (σ : L2.St) (H : Hp) (x : V) (v : Value) (first : Bool) (F G : Hp) (δ : Dn) (st : S) (d : D) (D' : DEnds) (E : Ends), Inv X pins σ H s → RelV x v → EnvOk X.K G δ σ → Own X.K F st G H → Rep X.K G d x → w d D' δ st → REnds X.K F G D' E →
    wpAny (model X.prog X.w) X.A (matchCases cs X.env v first) (SP X pins E) X.xe s
def wmNil : WM := fun _ => wNext
def wmStr (c : Str) (b : WS) (r : WM) : WM := fun d E δ s => match d with
  | .str z => if z = c then b E δ s else r d E δ s
  | _ => False
def wMatch (w : WE) (m : WM) : WS := fun E δ s => w δ s fun d s1 => m d E δ s1
section
variable {X : Cx} {cs : List MatchCase} {e : Expr} {pos p1 p2 : Pos} {body : List Stmt} {w : WE} {wb : WS} {m : WM} {c : Str} {j : Nat}
theorem dm_nil : PM X [] wmNil := ⟨fun pins s σ H x v first F G δ st d D' E I r en o rd hw q => wpAny_matchCases_nil ⟨σ, H, I, q.nx δ st hw G H σ (Ex.refl G) en o⟩⟩
theorem dm_str (hb : DSs X body wb) (hr : PM X cs m) : PM X (⟨.MatchValue (.Constant (.str c) j p1) p2, none, body⟩ :: cs) (wmStr c wb m) := by
  refine ⟨fun pins s σ H x v first F G δ st d D' E I r en o rd hw q => ?_⟩
  cases rd <;> first | exact hw.elim | skip
  rename_i z
  obtain ⟨t, rfl⟩ := id r
  refine wpAny_matchCases_cons (wpAny_matchPattern_Value (thn ((pe_str (X := X) (x := c) (j := j) (pos := p1)).run pins s σ H (fun y H' => y = .str c ∧ H' = H) I ⟨rfl, rfl⟩) fun y s1 ⟨yv, H1, I1, r1, e1, e2⟩ => ?_))
  subst e1 e2
  refine thn (op_eq pins s1 σ H1 (.str z) (.str c) (.str z t) y (fun k H' => k = .bl (decide (V.str z = V.str c)) ∧ H' = H1) I1 r r1 ⟨rfl, rfl, rfl⟩) fun k s2 ⟨kv, H2, I2, r2, e3, e4⟩ => ?_
  subst e3 e4
  cases r2
  refine wpAny_truthy_bool ?_
  have hw : if z = c then wb D' δ st else m (.str z) D' δ st := hw
  by_cases hz : z = c
  · rw [if_pos hz] at hw
    rw [show decide (V.str z = V.str c) = true from decide_eq_true (by rw [hz])]
    rw [if_pos rfl]
    refine wpAny_assignInOrder_none ?_
    exact hb.run pins _ σ _ E I2 ⟨F, G, δ, st, D', en, o, hw, q⟩
  · rw [if_neg hz] at hw
    rw [show decide (V.str z = V.str c) = false from decide_eq_false (fun h => hz (by cases h; rfl))]
    rw [if_neg Bool.false_ne_true]
    exact hr.run pins _ σ _ (.str z) _ false F G δ st (.str z) D' E I2 r en o (.str z) hw q
theorem ds_match (he : DE X e w) (hm : PM X cs m) : DS X (.Match e cs pos) (wMatch w m) := by
  refine ⟨fun pins s σ H E I ⟨F, G, δ, st, D', en, o, hw, q⟩ => ?_⟩
  refine wpAny_Match (thn (he.run pins s σ H (fun v H1 => ∃ G1 s1 d, Ex G G1 ∧ Own X.K F s1 G1 H1 ∧ Rep X.K G1 d v ∧ m d D' δ s1) I ⟨F, G, δ, st, _, en, o, hw, fun d s1 h1 G1 H1 v e1 o1 r1 => ⟨G1, s1, d, e1, o1, r1, h1⟩⟩) fun v s1 ⟨x, H1, I1, r1, G1, s2, d, e1, o1, rd, h1⟩ => ?_)
  exact hm.run pins s1 σ H1 x v true F G1 δ s2 d D' E I1 r1 (en.mono e1) o1 rd h1 (q.mono e1)
end

/-! ### t.index(x) of texts -/
def kTidx (ds : List D) (P : DK) : DK := fun e s => match e with
  | .str z => (match strsD ds with
    | some ys => z ∈ ys ∧ P (.int (ys.idxOf z : Nat)) s
    | none => False)
  | _ => False
def wTidx (wo we : WE) : WE := fun δ s P => wo δ s fun d s1 => match d with
  | .tup ds => we δ s1 (kTidx ds P)
  | _ => False
theorem idxOf_first {ys : List Str} {z : Str} (h : z ∈ ys) : ys[ys.idxOf z]? = some z ∧ ∀ m, m < ys.idxOf z → ys[m]? ≠ some z := by
  have hl : ys.idxOf z < ys.length := List.idxOf_lt_length_of_mem h
  refine ⟨by rw [List.getElem?_eq_getElem hl, List.getElem_idxOf hl], fun m hm e => ?_⟩
  have hml : m < ys.length := by omega
  rw [List.getElem?_eq_getElem hml] at e
  have e' := Option.some.inj e
  have q := List.not_of_lt_findIdx (show m < List.findIdx (· == z) ys from hm)
  simp [e'] at q
section
variable {X : Cx} {o e : Expr} {apos cpos : Pos} {wo we : WE}
theorem de_tidx (ho : DE X o wo) (he : DE X e we) (hbase : attributeBase o "index" X.env (eval o X.env) = eval o X.env := by rfl)
    (hline : (apos.endLine == cpos.line) = true := by rfl) (hs : starEach [e] X.env = [(false, eval e X.env)] := by rfl) : DE X (.Call (.Attribute o "index" apos) [e] [] cpos) (wTidx wo we) := by
  refine ⟨fun pins s σ H Q I ⟨F, G, δ, st, P, en, ow, hw, q⟩ => ?_⟩
  refine wpAny_Call_method1_late hbase hline (by rw [hs]; rfl) (thn (ho.run pins s σ H (fun v H1 => ∃ G1 s1 ds, Ex G G1 ∧ Own X.K F s1 G1 H1 ∧ Rep X.K G1 (.tup ds) v ∧ we δ s1 (kTidx ds P)) I ⟨F, G, δ, st, _, en, ow, hw, fun d s1 h1 G1 H1 v e1 o1 r1 => by
    cases d <;> first | exact h1.elim | skip
    exact ⟨G1, s1, _, e1, o1, r1, h1⟩⟩) fun v s1 ⟨x, H1, I1, rx, G1, st1, ds, e1, o1, rd, h1⟩ => ?_)
  cases rd with
  | @tup a xs _ t r =>
    obtain rfl : v = Value.ref a := rx
    have tIs : s1.TypeIs (.ref a) "tuple" ∧ ∀ b, Value.ref a = Value.ref b → ∃ ob, s1.heap.get? b = some ob ∧ ob.dict = none := by
      rcases t with ⟨ob, hd, hg⟩ | ⟨ob, its, n, hk, hc, hd, _⟩
      · obtain ⟨g1, _, _, _, ob2, g2, hc, _⟩ := I1.hok _ _ (o1.ex _ _ hg)
        exact ⟨⟨ob2, g2, hc⟩, fun b e => by cases e; exact ⟨ob, g1, hd⟩⟩
      · have g1 := I1.kIn _ ob hk
        exact ⟨⟨ob, g1, hc⟩, fun b e => by cases e; exact ⟨ob, g1, hd⟩⟩
    refine ⟨"tuple", "tuple.index", PySem.F.plainAttrs_tuple, PySem.F.slot_tuple_index, PySem.F.type_tuple_index, tIs.1, tIs.2, ?_⟩
    refine Calls.callWith_builtin rfl (Calls.evalArgs_plain ?_)
    have hA := (pa_cons he pa_nil (by rw [hs]; rfl)).run cpos pins s1 σ H1 (fun vs H2 => ∃ y G2 s2 f, vs = [y] ∧ Ex G1 G2 ∧ Own X.K F s2 G2 H2 ∧ Rep X.K G2 f y ∧ kTidx ds P f s2) I1
      ⟨F, G1, δ, st1, _, en.mono e1, o1, h1, fun f s2 h2 G2 H2 y e2 o2 r2 => ⟨y, G2, s2, f, rfl, e2, o2, r2, h2⟩⟩
    rw [hs] at hA
    refine thn hA fun us s2 ⟨vs, H2, I2, rvs, y, G2, st2, f, ev, e2, o2, rf, h2⟩ => ?_
    subst ev
    unfold kTidx at h2
    cases rf <;> first | exact h2.elim | skip
    rename_i z
    dsimp only at h2
    split at h2 <;> first | exact h2.elim | skip
    rename_i ys hy
    have e3 := strsD_of hy
    subst e3
    have r2 := r.mono e2
    have e4 := r2.strs
    subst e4
    obtain ⟨i1, i2⟩ := idxOf_first h2.1
    exact mt_tup_index pins s2 σ H2 (.ref a) _ _ us Q I2 rfl rvs ⟨_, ys, z, _, rfl, rfl, ex_t (e2.trans o2.ex) t.sq, i1, i2, q _ st2 h2.2 G2 H2 _ (e1.trans e2) o2 (.int _)⟩
end

/-! ### several names at once -/
def wPar (i j : Nat) (w : WA) : WS := fun E δ s => w δ s fun ds s1 => match ds with
  | [d, e] => E.nx ((δ.set i (some d)).set j (some e)) s1
  | _ => False
def wPar3 (i j l : Nat) (w : WA) : WS := fun E δ s => w δ s fun ds s1 => match ds with
  | [d, e, f] => E.nx (((δ.set i (some d)).set j (some e)).set l (some f)) s1
  | _ => False
theorem RepL.three {K : PySem.W.Frag} {G : Hp} {d e f : D} {vs : List V} (r : RepL K G [d, e, f] vs) : ∃ u v w, vs = [u, v, w] ∧ Rep K G d u ∧ Rep K G e v ∧ Rep K G f w := by
  cases r with
  | cons h r => obtain ⟨v, w, rfl, h1, h2⟩ := r.two; exact ⟨_, _, _, rfl, h, h1, h2⟩
section
variable {X : Cx} {x y z : Str} {a b c : Expr} {px py pz pt pos : Pos} {kt k2 : Nat} {pt2 : Pos} {w : WA} {i j l : Nat}
theorem ds_par (hc : X.calm = true) (hN : X.N.Nodup) (hi : X.N[i]? = some x) (hj : X.N[j]? = some y) (hij : i ≠ j) (hx : X.env.scope.names.lookup x = some .local) (hy : X.env.scope.names.lookup y = some .local) (ha : DA X [a, b] 2 w)
    (hw : swappedStores [.Tuple [.Name x px, .Name y py] kt pt] (.Tuple [a, b] k2 pt2) X.env = pure (some [x, y])) (hs : swapsWithSole [.Tuple [.Name x px, .Name y py] kt pt] (.Tuple [a, b] k2 pt2) pos.line X.env = pure false := by rfl) :
    DS X (.Assign [.Tuple [.Name x px, .Name y py] kt pt] (.Tuple [a, b] k2 pt2) pos) (wPar i j w) :=
  PS.imp (ps_par hc hN hi hj hij hx hy ha hw hs) fun E σ H ⟨F, G, δ, s, D', en, o, hw, q⟩ => ⟨F, G, δ, s, _, en, o, hw, fun ds s1 h1 hl G1 H1 vs e1 o1 r1 => by
    match ds, h1 with
    | [d, e], h1 =>
      obtain ⟨v, u, rfl, rv, ru⟩ := r1.two
      exact ⟨v, u, rfl, q.nx _ s1 h1 G1 H1 _ e1 (((en.mono e1).set rv).set ru) o1⟩⟩
theorem ds_par3 (hc : X.calm = true) (hN : X.N.Nodup) (hi : X.N[i]? = some x) (hj : X.N[j]? = some y) (hl : X.N[l]? = some z) (hij : i ≠ j) (hil : i ≠ l) (hjl : j ≠ l) (hx : X.env.scope.names.lookup x = some .local) (hy : X.env.scope.names.lookup y = some .local)
    (hz : X.env.scope.names.lookup z = some .local) (ha : DA X [a, b, c] 3 w) (hw : swappedStores [.Tuple [.Name x px, .Name y py, .Name z pz] kt pt] (.Tuple [a, b, c] k2 pt2) X.env = pure (some [x, y, z]))
    (hs : swapsWithSole [.Tuple [.Name x px, .Name y py, .Name z pz] kt pt] (.Tuple [a, b, c] k2 pt2) pos.line X.env = pure false := by rfl) :
    DS X (.Assign [.Tuple [.Name x px, .Name y py, .Name z pz] kt pt] (.Tuple [a, b, c] k2 pt2) pos) (wPar3 i j l w) :=
  PS.imp (ps_par3 hc hN hi hj hl hij hil hjl hx hy hz ha hw hs) fun E σ H ⟨F, G, δ, s, D', en, o, hw, q⟩ => ⟨F, G, δ, s, _, en, o, hw, fun ds s1 h1 hl G1 H1 vs e1 o1 r1 => by
    match ds, h1 with
    | [d, e, f], h1 =>
      obtain ⟨u, v, w, rfl, r1, r2, r3⟩ := r1.three
      exact ⟨u, v, w, rfl, q.nx _ s1 h1 G1 H1 _ e1 ((((en.mono e1).set r1).set r2).set r3) o1⟩⟩
/-- (a, b, ..) = a list of that length -/
def wgUnl (n : Nat) (g : WGs) : WG := fun d δ s P => match view s d with
  | .lst ds => ds.length = n ∧ g ds δ s P
  | _ => False
theorem dg_unl {es : List Expr} {k n : Nat} {vs : List Nat} {gs : WGs} (hc : X.calm = true) (h : DGs X es vs gs) (hn : (assignEach es X.env).length = n := by rfl) (hst : (assignEach es X.env).findIdx? (·.1) = none := by rfl) : DG X (.Tuple es k pos) vs (wgUnl n gs) :=
  PG.imp (pg_unl hc h hn hst) fun v σ H Q ⟨F, G, δ, s, d, P, en, o, r, hw, q⟩ => by
    unfold wgUnl at hw
    split at hw <;> first | exact hw.elim | skip
    rename_i ds hv
    obtain ⟨a, xs, rfl, h1, r1⟩ := o.seqL r hv
    exact ⟨a, xs, rfl, .of h1, by rw [← r1.length]; exact hw.1, F, G, δ, s, ds, P, en, o, r1, hw.2, q⟩
/-- xs[i] = e -/
def wSetIx (we wo wi : WE) : WS := fun E δ s => we δ s fun d s1 => wo δ s1 fun x s2 => wi δ s2 fun k s3 => match x, k with
  | .ref a, .int k => (match s3.M a with
    | some (.lst ds) => (match ixN ds.length k with
      | some j => E.nx δ (s3.put a (.lst (ds.set j d)))
      | none => False)
    | _ => False)
  | _, _ => False
theorem ds_setIx {o i e : Expr} {tpos : Pos} {we wo wi : WE} (he : DE X e we) (ho : DE X o wo) (hi : DE X i wi) (hs : swapsWithSole [.Subscript o i tpos] e pos.line X.env = pure false := by rfl) (hw : swappedStores [.Subscript o i tpos] e X.env = pure none := by rfl)
    (ha : ∀ v, assign (.Subscript o i tpos) X.env v = (do
      let ov ← holding [v] (eval o X.env)
      let iv ← holding [v, ov] (eval i X.env)
      standAt tpos
      holding [v, ov, iv] (setItem ov iv v)
      release [v, ov, iv] []) := by intro _; rfl) (h1 : (assignEach [.Subscript o i tpos] X.env).map (·.2) = [assign (.Subscript o i tpos) X.env] := by rfl) : DS X (.Assign [.Subscript o i tpos] e pos) (wSetIx we wo wi) :=
  PS.imp (ps_asg he (pg_sub ho hi set_list ha) hs hw h1) fun E σ H ⟨F, G, δ, s, D', en, o, hw, q⟩ => ⟨F, G, δ, s, _, en, o, hw, fun d s1 h1 G1 H1 v e1 o1 r1 => ⟨F, G1, δ, s1, _, en.mono e1, o1, h1, fun x s2 h2 G2 H2 vo e2 o2 r2 =>
    ⟨F, G2, δ, s2, _, (en.mono e1).mono e2, o2, h2, fun k s3 h3 G3 H3 vi e3 o3 r3 => by
      have r2' := r2.mono e3
      cases r2' <;> cases r3 <;> first | exact h3.elim | skip
      rename_i a k
      dsimp only at h3
      split at h3 <;> first | exact h3.elim | skip
      rename_i ds hM
      split at h3 <;> first | exact h3.elim | skip
      rename_i j hj
      obtain ⟨_, u, hp, xs, rfl, r⟩ := o3.mu a _ hM
      exact ⟨a, xs, k, j, rfl, rfl, hp, by rw [← r.length]; exact hj, q.nx _ _ h3 G3 _ _ (e1.trans (e2.trans e3)) (((en.mono e1).mono e2).mono e3) (o3.setL hM (r.set j ((r1.mono e2).mono e3)))⟩⟩⟩⟩
end
def rmPop : RMD := fun x ds s P => match x, ds with
  | .ref a, [] => (match s.M a with
    | some (.lst es) => (match es[es.length - 1]? with
      | some d => P d (s.put a (.lst es.dropLast))
      | none => False)
    | _ => False)
  | _, _ => False
/-- sorted of texts, of whole numbers (fewer than 64) -/
def intsD : List D → Option (List Int)
  | [] => some []
  | .int x :: ds => (intsD ds).map (x :: ·)
  | _ :: _ => none
theorem intsD_of {ds : List D} : ∀ {ys : List Int}, intsD ds = some ys → ds = ys.map .int := by
  induction ds with
  | nil => intro ys h; cases h; rfl
  | cons d ds ih =>
    intro ys h
    cases d with
    | int x =>
      unfold intsD at h
      cases q : intsD ds with
      | none => rw [q] at h; cases h
      | some zs => rw [q] at h; cases h; rw [ih q]; rfl
    | _ => cases h
theorem intsD_map : ∀ ys : List Int, intsD (ys.map .int) = some ys
  | [] => rfl
  | y :: ys => by show (intsD (ys.map .int)).map (y :: ·) = _; rw [intsD_map ys]; rfl
theorem RepL.intsV {K : PySem.W.Frag} {G : Hp} : ∀ {ys : List Int} {vs : List V}, RepL K G (ys.map .int) vs → vs = ys.map V.int
  | [], _, h => by cases h; rfl
  | y :: ys, _, h => by cases h with | cons a b => cases a; rw [RepL.intsV b]; rfl
theorem RepL.ofInts {K : PySem.W.Frag} {G : Hp} : ∀ (ys : List Int), RepL K G (ys.map .int) (ys.map V.int)
  | [] => .nil
  | y :: ys => .cons (.int y) (RepL.ofInts ys)
theorem RepL.ofStrs {K : PySem.W.Frag} {G : Hp} : ∀ (ys : List Str), RepL K G (ys.map .str) (ys.map V.str)
  | [] => .nil
  | y :: ys => .cons (.str y) (RepL.ofStrs ys)
def rcSortI : RCLD := fun ds s P => match ds with
  | [d] => (match view s d with
    | .lst es => (match intsD es with
      | some ns => ns.length < 64 ∧ ∀ ns' : List Int, ns'.Perm ns → ns'.Pairwise (· ≤ ·) → P (ns'.map .int) s
      | none => (match strsD es with
        | some ys => ys.length < 64 ∧ ∀ zs : List Str, zs.Perm ys → sortedS zs = true → P (zs.map .str) s
        | none => False))
    | _ => False)
  | _ => False
section
variable {X : Cx}
theorem md_pop : MtR X "list.pop" (lM X.K rmPop) := by
  intro pins s σ H x vs v us Q I rx rs ⟨F, G, s', d, ds, P, o, rd, rds, hw, q⟩
  unfold rmPop at hw
  split at hw <;> first | exact hw.elim | skip
  rename_i a
  split at hw <;> first | exact hw.elim | skip
  rename_i es hM
  split at hw <;> first | exact hw.elim | skip
  rename_i e he
  cases rd; cases rds
  obtain ⟨_, u, hp, xs, rfl, r⟩ := o.mu a _ hM
  obtain ⟨y, hy, ry⟩ := r.get he
  refine mt_pop pins s σ H _ _ v us Q I rx rs ⟨a, xs, y, rfl, rfl, hp, by rw [← r.length]; exact hy, ?_⟩
  exact q _ _ hw G _ _ (Ex.refl G) (o.setL hM r.dropLast) ry
theorem cd_sortI : CallDL X (.builtin "sorted") rcSortI := by
  intro pins s σ H xs us Q I r ⟨F, G, s', ds, P, o, rd, hw, q⟩
  unfold rcSortI at hw
  split at hw <;> first | exact hw.elim | skip
  rename_i d
  obtain ⟨v, rfl, rv⟩ := rd.one
  split at hw <;> first | exact hw.elim | skip
  rename_i es hv
  obtain ⟨a, ys, rfl, h1, r1⟩ := o.seqL rv hv
  split at hw
  · rename_i ns hn
    have e := intsD_of hn
    subst e
    have e2 := r1.intsV
    subst e2
    exact cr_sorted pins s σ H _ us Q I r ⟨a, ns, rfl, .of h1, hw.1, fun ns' p hp hs hH => q _ s' (hw.2 ns' hp hs) G H p _ (Ex.refl G) o hH (RepL.ofInts ns')⟩
  · split at hw <;> first | exact hw.elim | skip
    rename_i zs hz
    have e := strsD_of hz
    subst e
    have e2 := r1.strs
    subst e2
    exact cr_sortedS pins s σ H _ us Q I r ⟨a, zs, rfl, .of h1, hw.1, fun ns' p hp hs hH => q _ s' (hw.2 ns' hp hs) G H p _ (Ex.refl G) o hH (RepL.ofStrs ns')⟩
end
end DL

set_option Elab.async false
set_option linter.all false
set_option autoImplicit false
set_option maxRecDepth 100000
set_option maxHeartbeats 2000000
namespace DL
open PySem PySem.Spec PyProof.Rows L2
open Evl (Ex)

/-! ### the deck, opened and shut -/
/-- the deck's two lists as lists that may change -/
def S.opened (s : S) (a a1 : Addr) (cells : List Int) (mixed : Int) (k : Nat) : S :=
  ⟨none, fun b => if b = a then some (.lst [.ref a1, .int mixed, .int (k : Int)]) else if b = a1 then some (.lst (cells.map .int)) else s.M b⟩
theorem Own.open_ {K : PySem.W.Frag} {F : Hp} {s : S} {G H : Hp} {a : Addr} {n : Nat} (o : Own K F s G H) (h : s.dk = some (a, n)) : ∃ (a1 : Addr) (cells : List Int) (mixed : Int) (k : Nat),
    a ≠ a1 ∧ s.M a = none ∧ s.M a1 = none ∧ cells.length ≤ 63 ∧ 0 ≤ mixed ∧ mixed < 2147483587 ∧ k + n ≤ deckMax ∧ Own K F (s.opened a a1 cells mixed k) G H := by
  obtain ⟨a1, cells, mixed, k, h1, h2, h3, h4, h5, h6, h7, h8, h9, h10, h11⟩ := (o.dk a n h).ex
  refine ⟨a1, cells, mixed, k, h1, h4, h5, h8, h9, h10, h11, o.ex, fun p u q => ?_, fun p m q => ?_, fun _ _ q => nomatch q⟩
  · obtain ⟨g1, g2, g3⟩ := o.fr p u q
    have e1 : p ≠ a := fun z => by rw [z, h2.2] at q; cases q
    have e2 : p ≠ a1 := fun z => by rw [z, h3.2] at q; cases q
    exact ⟨g1, g2, by simp only [S.opened, if_neg e1, if_neg e2]; exact g3⟩
  · by_cases e1 : p = a
    · subst e1
      simp only [S.opened, if_pos] at q
      cases q
      exact ⟨h2.1, _, h6, _, rfl, .cons (.ref _) (.cons (.int _) (.cons (.int _) .nil))⟩
    · by_cases e2 : p = a1
      · subst e2
        simp only [S.opened, if_neg e1, if_pos] at q
        cases q
        exact ⟨h3.1, _, h7, _, rfl, RepL.ofInts cells⟩
      · simp only [S.opened, if_neg e1, if_neg e2] at q
        exact o.mu p m q
/-- a state in which the deck's lists stand, shut again -/
theorem Own.shut {K : PySem.W.Frag} {F : Hp} {s s2 : S} {G H : Hp} {a a1 : Addr} {cells : List Int} {mixed : Int} {k n : Nat} (o : Own K F s2 G H) (hne : a ≠ a1) (h4 : s.M a = none) (h5 : s.M a1 = none)
    (h1 : s2.M a = some (.lst [.ref a1, .int mixed, .int (k : Int)])) (h2 : s2.M a1 = some (.lst (cells.map .int))) (h3 : ∀ b, b ≠ a → b ≠ a1 → s2.M b = s.M b) (hc : cells.length ≤ 63) (m0 : 0 ≤ mixed) (m1 : mixed < 2147483587) (hk : k + n ≤ deckMax) :
    Own K F (s.fuel a n) G H := by
  obtain ⟨ga, u, pa, xs, rfl, ra⟩ := o.mu a _ h1
  obtain ⟨gb, u, pb, ys, rfl, rb⟩ := o.mu a1 _ h2
  have fa : F a = none := by
    cases q : F a with
    | none => rfl
    | some v => rw [(o.fr a v q).2.2] at h1; cases h1
  have fb : F a1 = none := by
    cases q : F a1 with
    | none => rfl
    | some v => rw [(o.fr a1 v q).2.2] at h2; cases h2
  have eb := rb.intsV
  subst eb
  obtain ⟨x1, x2, x3, rfl, r1, r2, r3⟩ := ra.three
  cases r1; cases r2; cases r3
  refine ⟨o.ex, fun p u q => ?_, fun p m q => ?_, fun b j q => ?_⟩
  · obtain ⟨g1, g2, g3⟩ := o.fr p u q
    have e1 : p ≠ a := fun z => by rw [z, fa] at q; cases q
    have e2 : p ≠ a1 := fun z => by rw [z, fb] at q; cases q
    exact ⟨g1, g2, (h3 p e1 e2).symm.trans g3⟩
  · have q : s.M p = some m := q
    have e1 : p ≠ a := fun z => by rw [z, h4] at q; cases q
    have e2 : p ≠ a1 := fun z => by rw [z, h5] at q; cases q
    exact o.mu p m ((h3 p e1 e2).trans q)
  · have q : some (a, n) = some (b, j) := q
    cases q
    exact ⟨a1, cells, mixed, k, hne, ⟨ga, fa⟩, ⟨gb, fb⟩, h4, h5, pa, pb, hc, m0, m1, hk⟩

/-- an integer below c is drawn -/
def spDraw : SpD := fun ds s P => ∃ a n c, ds = [.ref a, .int c] ∧ 0 < c ∧ c < 1073741824 ∧ s.dk = some (a, n + 1) ∧ ∀ r, 0 ≤ r → r < c → P (.int r) (s.fuel a n)
/-- the same over the deck's lists -/
def spDrawM : SpD := fun ds s P => ∃ (a a1 : Addr) (c : Int) (cells : List Int) (mixed : Int) (k : Nat), ds = [.ref a, .int c] ∧ 0 < c ∧ c < 1073741824 ∧ a ≠ a1 ∧ s.dk = none ∧
  s.M a = some (.lst [.ref a1, .int mixed, .int (k : Int)]) ∧ s.M a1 = some (.lst (cells.map .int)) ∧ cells.length ≤ 63 ∧ 0 ≤ mixed ∧ mixed < 2147483587 ∧ k < deckMax ∧
  ∀ r (s2 : S) (cells2 : List Int), 0 ≤ r → r < c → s2.M a = some (.lst [.ref a1, .int mixed, .int ((k + 1 : Nat) : Int)]) → s2.M a1 = some (.lst (cells2.map .int)) → cells2.length ≤ 63 → (∀ b, b ≠ a → b ≠ a1 → s2.M b = s.M b) → P (.int r) s2
theorem draw_shut {K : PySem.W.Frag} (vs : List V) (H : Hp) (Q : VK) (E : XK) (h : lSp K spDraw vs H Q E) : lSp K spDrawM vs H Q E := by
  obtain ⟨F, G, ds, s, P, o, r, ⟨a, n, c, rfl, c0, c1, hd, hP⟩, q⟩ := h
  obtain ⟨a1, cells, mixed, k, h1, h2, h3, h4, h5, h6, h7, o2⟩ := o.open_ hd
  refine ⟨F, G, _, _, fun d s2 => ∃ r cells2, d = .int r ∧ 0 ≤ r ∧ r < c ∧ s2.M a = some (.lst [.ref a1, .int mixed, .int ((k + 1 : Nat) : Int)]) ∧ s2.M a1 = some (.lst (cells2.map .int)) ∧ cells2.length ≤ 63 ∧ (∀ b, b ≠ a → b ≠ a1 → s2.M b = s.M b), o2, r,
    ⟨a, a1, c, cells, mixed, k, rfl, c0, c1, h1, rfl, by simp [S.opened], by simp [S.opened, h1.symm], h4, h5, h6, by omega, fun r s2 cells2 r0 r1 e1 e2 e3 e4 => ⟨r, cells2, rfl, r0, r1, e1, e2, e3, fun b b1 b2 => (e4 b b1 b2).trans (by simp [S.opened, b1, b2])⟩⟩, ?_⟩
  rintro d s2 ⟨r, cells2, rfl, r0, r1, e1, e2, e3, e4⟩ G' H' v ex o3 rv
  exact q _ _ (hP r r0 r1) G' H' v ex (o3.shut h1 h2 h3 e1 e2 e4 e3 h5 h6 (by omega)) rv

/-! ### making the deck -/
/-- [cells, mixed, 0], the cells a new list: it is the deck from here on -/
def wDeck (w1 : WA) (w2 w3 : WE) : WE := fun δ s P => w1 δ s fun cs s1 => w2 δ s1 fun m s2 => w3 δ s2 fun z s3 => match intsD cs, m, z with
  | some ns, .int mixed, .int 0 => (ns.length ≤ 63 ∧ 0 ≤ mixed ∧ mixed < 2147483587 ∧ s3.dk = none) ∧ ∀ a, P (.ref a) (s3.fuel a deckMax)
  | _, _, _ => False
section
variable {X : Cx} {a b c : Expr} {pos : Pos} {w1 : WA} {w2 w3 : WE}
theorem de_deck (ha : DEL X a w1) (hb : DE X b w2) (hc : DE X c w3) (hs : starEach [a, b, c] X.env = [(false, eval a X.env), (false, eval b X.env), (false, eval c X.env)] := by rfl)
    (hs2 : starEach [b, c] X.env = [(false, eval b X.env), (false, eval c X.env)] := by rfl) (hs3 : starEach [c] X.env = [(false, eval c X.env)] := by rfl) : DE X (.List [a, b, c] pos) (wDeck w1 w2 w3) := by
  refine PE.imp (pe_lst (pa_cons ha (pa_cons hb (pa_cons hc pa_nil (by rw [hs3]; rfl)) (by rw [hs2, hs3])) (by rw [hs, hs2]))) fun σ H Q ⟨F, G, δ, s, P, en, o, hw, q⟩ => ?_
  refine ⟨F, G, δ, s, _, en, o, hw, fun cs s1 h1 G1 H1 p xs e1 o1 hp rc => ?_⟩
  have fp := o1.freeF hp
  have op := (o1.pass (u := .lst xs) hp).lend (p := p) (u := .lst xs) upd_same (o1.freeG hp) (o1.freeM hp) (fun d n e a1 mx k h => by
    obtain ⟨a1', cells, mixed, k', _, _, _, _, _, g6, g7, _⟩ := (o1.dk d n e).ex
    have n1 : d ≠ p := ne_of_none g6 hp
    have n2 : a1' ≠ p := ne_of_none g7 hp
    rw [upd_ne n1, g6] at h
    cases h
    exact ⟨n1.symm, n2.symm⟩)
  refine ⟨_, G1, δ, s1, _, en.mono e1, op, h1, fun m s2 h2 G2 H2 v2 e2 o2 r2 => ⟨_, G2, δ, s2, _, (en.mono e1).mono e2, o2, h2, fun z s3 h3 G3 H3 v3 e3 o3 r3 => ?_⟩⟩
  split at h3 <;> first | exact h3.elim | skip
  rename_i ns mixed hns
  have ei := intsD_of hns
  subst ei
  have ex := rc.intsV
  subst ex
  have r2' := r2.mono e3
  cases r2'
  cases r3
  obtain ⟨⟨c1, c2, c3, c4⟩, hP⟩ := h3
  refine ⟨by show 3 ≤ sizeLine; decide, fun d hd => ?_⟩
  obtain ⟨f1, f2, f3⟩ := o3.fr p _ upd_same
  have hdp : d ≠ p := fun z => by rw [z, f1] at hd; cases hd
  have o4 := o3.back (Ex.new fp)
  refine q _ _ (hP d) G3 _ _ (e1.trans (e2.trans e3)) ?_ (.ref d)
  have o5 := o4.pass (u := .lst [.ref p, .int mixed, .int 0]) hd
  refine ⟨o5.ex, o5.fr, o5.mu, fun b n hb => ?_⟩
  have hb : some (d, deckMax) = some (b, n) := hb
  cases hb
  exact ⟨p, ns, mixed, 0, hdp, ⟨o4.freeG hd, o4.freeF hd⟩, ⟨f2, fp⟩, o4.freeM hd, f3, upd_same, by rw [upd_ne hdp.symm]; exact f1, c1, c2, c3, by simp⟩
/-- xs[::-1] -/
def wRevL (w : WE) : WA := fun δ s P => w δ s fun d s1 => match view s1 d with
  | .lst ds => P ds.reverse s1
  | _ => False
theorem del_rev {e : Expr} {w : WE} {k : Nat} {p1 p2 p3 pos : Pos} (he : DE X e w) : DEL X (.Subscript e (.Slice none none (some (.UnaryOp .USub (.Constant (.int 1) k p1) p2)) p3) pos) (wRevL w) :=
  PE.imp (pe_revL he) fun σ H Q ⟨F, G, δ, s, P, en, o, hw, q⟩ => ⟨F, G, δ, s, _, en, o, hw, fun d s1 h1 G1 H1 v e1 o1 r1 => by
    split at h1 <;> first | exact h1.elim | skip
    rename_i ds hv
    obtain ⟨a, xs, rfl, hx, r⟩ := o1.seqL r1 hv
    exact ⟨a, xs, rfl, .of hx, fun p hp => q _ s1 h1 G1 H1 p _ e1 o1 hp r.reverse⟩⟩
end

/-! ### the law's own call -/
/-- the law's promise: a list of at most 63 ints is handed in, True comes out -/
def spLaw : SpD := fun ds s P => ∃ ns : List Int, ds = [.lsk (ns.map .int)] ∧ ns.length ≤ 63 ∧ s.dk = none ∧ (∀ b, s.M b = none) ∧ ∀ s', P (.bl true) s'
theorem roomG0 {k : Nat} (h : Room k callerA) : RoomG k callerA := ⟨h, rfl⟩
theorem law_run {P : Program} {w : World} {K : PySem.W.Frag} {mg mb : Str → Option Value} {k : Nat} {fa a : Addr} {fd : FuncData} {x : Str} {s : Shared} {vs : List Value} {ns : List Int} (KX : K.In s.heap) (hns : s.heap.Ns mainGlobals mg)
    (hb : s.heap.Ns builtinsNs mb) (hbb : ∀ x : Str, x ≠ "__name__" → mb x = bootBuiltins x) (hlim : s.heap.NoLimit) (hg : s.gens = #[]) (ha : s.heap.get? a = some { cls := .type "list", data := .seq vs.toArray }) (hi : IntsAre vs ns) (hl : ns.length ≤ 63)
    (hr : Room k callerA) (F : ∀ base : Heap, K.In base → base.Ns mainGlobals mg → FnD P w K mg base k fa fd [x] spLaw) (hbind : ∀ (s : Shared) (u : Value), BindsTo s fd ⟨[u], []⟩ [(x, u)])
    {H : Hp} (hq : SqL K H a (ns.map V.int)) (hA : ∀ b u, H b = some u → b = a ∧ K.lookup a = none ∧ u = .frz { cls := .type "list", data := .seq vs.toArray } (.lst (ns.map V.int))) (hok : HOk P w H s.heap) :
    codeAny (model P w) callerA (.call (.ref fa) ⟨[.ref a], []⟩) (fun r s' => r = .ok (.ret (.bool true)) ∧ OldK s.heap s'.heap ∧ s'.os = s.os ∧ AllBare s'.gens) s := by
  -- what is no list of the script's is in the base
  have inB : ∀ {b : Addr} {o : Obj}, s.heap.get? b = some o → H b = none → (hidT s.heap H).get? b = some o := fun e n => hidT_get e n
  have dictFree : ∀ {b : Addr} {m : Str → Option Value}, s.heap.Ns b m → (hidT s.heap H).Ns b m := fun {b m} ⟨o, es, ep, e, d, r⟩ => by
    refine ⟨o, es, ep, inB e ?_, d, r⟩
    cases q : H b with
    | none => rfl
    | some u =>
      obtain ⟨rfl, _, _⟩ := hA b u q
      rw [ha] at e; cases e
      have d' : Data.seq vs.toArray _ = Data.dict es ep := d
      cases d'
  have hK : K.In (hidT s.heap H) := fun b o e => inB (KX b o e) (by
    cases q : H b with
    | none => rfl
    | some u =>
      obtain ⟨rfl, h2, _⟩ := hA b u q
      rw [h2] at e; cases e)
  have md : Mod K mg (hidT s.heap H) := ⟨hK, dictFree hns, ⟨mb, dictFree hb, hbb⟩, let ⟨mc, h1, h2⟩ := hlim; ⟨mc, dictFree h1, h2⟩⟩
  have e0 : Env0 P w K mg (hidT s.heap H) callerA [] s H := ⟨rfl, md, fun b o e => of_hidT e, Nat.le_of_eq (hidT_size _ _), trivial, fun b hb => absurd hb (by simp [frs]), hok, .of_eq hg⟩
  have sp : lSp K spLaw [.ref a] H (fun v _ => v = .bl true) (fun _ _ _ => False) := by
    refine ⟨fun _ => none, H, [.lsk (ns.map .int)], ⟨none, fun _ => none⟩, fun d _ => d = .bl true, ⟨Evl.Ex.refl H, (fun _ _ h => by cases h), (fun _ _ h => by cases h), (fun _ _ h => by cases h)⟩, .cons (.lsk hq (RepL.ofInts ns)) .nil, ⟨ns, rfl, hl, rfl, fun _ => rfl, fun _ => rfl⟩, ?_⟩
    rintro d s' rfl G' H' v _ _ r
    cases r
    rfl
  refine codeAny_mono ((F _ hK (dictFree hns)).run callerA [] s H ⟨[.ref a], []⟩ [.ref a] [.ref a] _ _ (roomG0 hr) e0 (hbind s (.ref a)) (.cons rfl .nil) sp) fun r s' h => ?_
  match r, h with
  | .error e, h => exact False.elim h
  | .ok .next, h => exact False.elim h
  | .ok .brk, h => exact False.elim h
  | .ok .cont, h => exact False.elim h
  | .ok (.ret u), ⟨v, H', os, bare, un, hok', r', q⟩ =>
    have q' : v = .bl true := q
    subst q'
    obtain rfl : u = Value.bool true := r'
    refine ⟨rfl, OldK.of_keep fun b o e => ?_, os, bare⟩
    cases q2 : H b with
    | none => exact un.keep b o e q2 (fun z => absurd z (by simp [frs])) (by simp)
    | some u =>
      obtain ⟨rfl, _, rfl⟩ := hA b u q2
      have z2 := un.frzs _ _ _ q2
      obtain ⟨g1, _⟩ := hok _ _ q2
      obtain ⟨g2, _⟩ := hok' _ _ z2
      rw [e] at g1; cases g1
      exact g2
/-- the goal that k_head leaves -/
theorem walkD {l : PySem.W.OpenLaw} {k : Nat} {q : Program} {loose : List Str} {XP : (Str → Option Value) → Heap → Prop} {YP : World → Heap → Prop} {d : DefRec} {K : Params → PySem.W.Frag} {x : Str}
    (hn : l.most = some 63) (hdf : d.params.defaults = []) (hr : Room k callerA) (hY : ∀ (w : World) (h : Heap), YP w h → (K w.params).In h)
    (F : ∀ (w : World) (mg : Str → Option Value) (fa : Addr) (h : Heap), (K w.params).In h → h.Ns mainGlobals mg → mg d.name = some (.ref fa) →
      ∃ fd : FuncData, (∀ (s : Shared) (u : Value), BindsTo s fd ⟨[u], []⟩ [(x, u)]) ∧ ∀ base : Heap, (K w.params).In base → base.Ns mainGlobals mg → FnD l.prog w (K w.params) mg base k fa fd [x] spLaw) :
    PySem.W.WalkO q loose XP YP l.row.toRowW d [] (fun f vs => PySem.call f vs) := by
  refine Att.attach_call hn hdf fun w s₀ s₁ mg mb fa o pm cd doc a vs ns G Y ho hd hcd hmg hobj hints hlen hg => ?_
  have KX := hY w _ Y
  obtain ⟨fd, hb, hF⟩ := F w mg fa _ KX G.T.g hmg
  have rv := vals_ints hints
  have hz : (ns.map V.int).length ≤ sizeLine := by rw [List.length_map, sizeLine_eq]; omega
  cases hk : (K w.params).lookup a with
  | some o =>
    have e := KX a o hk
    rw [hobj] at e
    cases e
    exact law_run KX G.T.g G.T.b G.T.builtins G.T.nolimit hg hobj hints hlen hr hF hb (H := fun _ => none) (.inr ⟨_, vs.toArray, _, hk, rfl, rfl, rfl, by rw [List.size_toArray, hints.length, sizeLine_eq]; omega, by simpa using rv⟩) (fun _ _ h => by cases h) (fun _ _ h => by cases h)
  | none =>
    refine law_run KX G.T.g G.T.b G.T.builtins G.T.nolimit hg hobj hints hlen hr hF hb (H := fun b => if b = a then some (.frz { cls := .type "list", data := .seq vs.toArray } (.lst (ns.map V.int))) else none) (.inl (.inr ⟨_, if_pos rfl⟩)) (fun b u h => ?_) (fun b u h => ?_)
    · by_cases hb : b = a
      · simp only [if_pos hb] at h; cases h; exact ⟨hb, hk, rfl⟩
      · simp only [if_neg hb] at h; cases h
    · by_cases hb : b = a
      · simp only [if_pos hb] at h; cases h; subst hb; exact ⟨hobj, hz, vs, _, rv, hobj⟩
      · simp only [if_neg hb] at h; cases h
end DL

set_option Elab.async false
set_option linter.all false
set_option autoImplicit false
set_option maxRecDepth 100000
set_option maxHeartbeats 2000000
namespace DL
open PySem PySem.Spec PyProof.Rows L2
open Evl (Ex)

/-- a list or a tuple that stands still, walked -/
def wiSeq (w : WE) : WI := fun δ s P => w δ s fun d s1 => match d with
  | .lst ds => P ds s1
  | .tup ds => P ds s1
  | .tpw ds => P ds s1
  | .lsk ds => P ds s1
  | _ => False
/-- an iterator over a list, over a tuple, just made -/
theorem pie_list {X : Cx} {pins : List (Addr × Obj)} {σ : L2.St} {H : Hp} {s : Shared} {tg : Expr} {R : It → Hp → Prop} {a : Addr} {xs : List V} (I : L2.Inv X pins σ H s) (hq : SqL X.K H a xs) (q : R (Itl X.K a) H) :
    wpAny (model X.prog X.w) X.A (pyIter (.ref a)) (PIE X pins σ tg R) X.xe s := by
  obtain ⟨its, rv, p, hz⟩ := I.list hq
  refine wpAny_pyIter_list p.isList ⟨s.heap.objs.size, [s.heap.objs.size], _, _, H, rfl, I.kept (t' := s.toks) (fun b o e => Heap.get?_push_of_some _ e), turn_list a _, ⟨_, Heap.get?_push_size _ rfl, rfl, rfl⟩, fun b hb => ?_, q⟩
  rw [List.mem_singleton.mp hb]
  exact I.fpOk (Nat.le_refl _) (I.hok.fresh (Nat.le_refl _))
theorem pie_tup {X : Cx} {pins : List (Addr × Obj)} {σ : L2.St} {H : Hp} {s : Shared} {tg : Expr} {R : It → Hp → Prop} {a : Addr} {xs : List V} (I : L2.Inv X pins σ H s) (hq : SqT X.K H a xs) (q : R (Itt X.K a) H) :
    wpAny (model X.prog X.w) X.A (pyIter (.ref a)) (PIE X pins σ tg R) X.xe s := by
  obtain ⟨its, rv, p, hz⟩ := I.tuple hq
  refine wpAny_pyIter_tuple (show s.heap.IsTuple a its.toArray from p) ⟨s.heap.objs.size, [s.heap.objs.size], _, _, H, rfl, I.kept (t' := s.toks) (fun b o e => Heap.get?_push_of_some _ e), turn_tuple a _, ⟨_, Heap.get?_push_size _ rfl, rfl, rfl⟩, fun b hb => ?_, q⟩
  rw [List.mem_singleton.mp hb]
  exact I.fpOk (Nat.le_refl _) (I.hok.fresh (Nat.le_refl _))
theorem jok_lsk {K : PySem.W.Frag} {G : Hp} {ds : List D} {xs : List V} {a : Addr} (h : SqL K G a xs) (r : RepL K G ds xs) : JOk K G ds (Itl K a) := by
  have hl := r.length
  refine ⟨fun i F s G1 H e o hi => ?_, fun i F s G1 H e o hi => ⟨xs, Evl.ex_l (e.trans o.ex) h, by omega⟩⟩
  have hx : xs[i]? = some xs[i] := List.getElem?_eq_getElem (by omega)
  have hq : SqL K H a xs := Evl.ex_l (e.trans o.ex) h
  refine ⟨⟨xs, _, hq, hx⟩, fun x H' ⟨e1, y⟩ => ?_⟩
  subst e1
  obtain ⟨d, hd, rd⟩ := r.getV (y xs hq)
  exact ⟨d, G1, hd, Ex.refl _, o, rd.mono e⟩
theorem di_seq {X : Cx} {tg l : Expr} {we : WE} (h : DE X l we) : DI X tg l (wiSeq we) := by
  refine ⟨fun pins s σ H R I ⟨F, G, δ, s', P, en, o, hw, q⟩ => ?_⟩
  refine thn (h.run pins s σ H (fun v H1 => ∃ G1 s1 d, Ex G G1 ∧ Own X.K F s1 G1 H1 ∧ Rep X.K G1 d v ∧ (match d with
    | .lst ds => P ds s1
    | .tup ds => P ds s1
    | .tpw ds => P ds s1
    | .lsk ds => P ds s1
    | _ => False)) I ⟨F, G, δ, s', _, en, o, hw, fun d s1 h1 G1 H1 v e1 o1 r1 => ⟨G1, s1, d, e1, o1, r1, h1⟩⟩) fun v s1 ⟨x, H1, I1, rx, G1, st1, d, e1, o1, rd, h1⟩ => ?_
  cases rd with
  | lst hx r =>
    cases rx
    exact pie_list I1 (.of (o1.ex _ _ hx)) (q _ st1 h1 G1 H1 _ e1 o1 (jok_list hx r))
  | lsk hx r =>
    cases rx
    exact pie_list I1 (Evl.ex_l o1.ex hx) (q _ st1 h1 G1 H1 _ e1 o1 (jok_lsk hx r))
  | tup hx r =>
    cases rx
    exact pie_tup I1 (ex_t o1.ex hx.sq) (q _ st1 h1 G1 H1 _ e1 o1 (jok_tup hx.sq r))
  | tpw hx r =>
    cases rx
    exact pie_tup I1 (ex_t o1.ex hx) (q _ st1 h1 G1 H1 _ e1 o1 (jok_tup hx r))
  | _ => exact h1.elim
/-! ### keywords put in the parameters' order -/
def pgX {α : Type} (d : α) (np nk : Nat) (perm : List Nat) (us ws : List α) : List α := if us.length = np ∧ ws.length = nk then perm.map (fun i => (us ++ ws).getD i d) else []
theorem Vals.getD {xs : List V} {us : List Value} (r : Vals xs us) (i : Nat) : RelV (xs.getD i .non) (us.getD i .none) := by
  rw [List.getD_eq_getElem?_getD, List.getD_eq_getElem?_getD]
  cases e : xs[i]? with
  | none => rw [r.none_of e]; rfl
  | some x => obtain ⟨u, hu, ru⟩ := r.get e; rw [hu]; exact ru
theorem RepL.getD {K : PySem.W.Frag} {G : Hp} {ds : List D} {vs : List V} (r : RepL K G ds vs) (i : Nat) : Rep K G (ds.getD i .non) (vs.getD i .non) := by
  rw [List.getD_eq_getElem?_getD, List.getD_eq_getElem?_getD]
  cases e : ds[i]? with
  | none =>
    have hl := r.length
    rw [List.getElem?_eq_none (by have := List.getElem?_eq_none_iff.mp e; omega)]
    exact .non
  | some x => obtain ⟨u, hu, ru⟩ := r.get e; rw [hu]; exact ru
theorem kb_mk {K : PySem.W.Frag} {fd : FuncData} {ps ks : List Str} {np nk : Nat} {perm : List Nat} (h0 : 0 < ps.length) (h : ∀ (s : Shared) (us ws : List Value), us.length = np → ws.length = nk → BindsTo s fd ⟨us, ks.zip ws⟩ (ps.zip (perm.map fun i => (us ++ ws).getD i .none))) :
    KBinds K fd ps ks (pgX Value.none np nk perm) (pgX V.non np nk perm) := by
  refine ⟨fun s us ws _ hl => ?_, fun {vs us zs ws} r1 r2 => ?_⟩
  · unfold pgX at hl ⊢
    by_cases e : us.length = np ∧ ws.length = nk
    · rw [if_pos e]; exact h s us ws e.1 e.2
    · rw [if_neg e] at hl; exact absurd hl (by simp; omega)
  · unfold pgX
    rw [r1.length, r2.length]
    by_cases e : us.length = np ∧ ws.length = nk
    · rw [if_pos e, if_pos e]
      have ra := r1.append r2
      clear h
      induction perm with
      | nil => exact .nil
      | cons i is ih => exact .cons (Vals.getD ra i) ih
    · rw [if_neg e, if_neg e]; exact .nil
theorem kr_mk {np nk : Nat} {perm : List Nat} {K : PySem.W.Frag} {G : Hp} {ds es : List D} {vs us : List V} (h1 : ds.length = np) (h2 : es.length = nk) (r1 : RepL K G ds vs) (r2 : RepL K G es us) : RepL K G (pgX D.non np nk perm ds es) (pgX V.non np nk perm vs us) := by
  unfold pgX
  rw [if_pos ⟨h1, h2⟩, if_pos ⟨by rw [← r1.length]; exact h1, by rw [← r2.length]; exact h2⟩]
  have ra := r1.append r2
  induction perm with
  | nil => exact .nil
  | cons i is ih => exact .cons (RepL.getD ra i) ih
/-- the built-ins' names -/
theorem bb_len : bootBuiltins (Str.ofString "len") = some (.builtin "len") := by decide +kernel
theorem bb_list : bootBuiltins (Str.ofString "list") = some (.type "list") := by decide +kernel
theorem bb_tuple : bootBuiltins (Str.ofString "tuple") = some (.type "tuple") := by decide +kernel
theorem bb_int : bootBuiltins (Str.ofString "int") = some (.type "int") := by decide +kernel
theorem bb_str : bootBuiltins (Str.ofString "str") = some (.type "str") := by decide +kernel
theorem bb_bool : bootBuiltins (Str.ofString "bool") = some (.type "bool") := by decide +kernel
theorem bb_repr : bootBuiltins (Str.ofString "repr") = some (.builtin "repr") := by decide +kernel
theorem bb_isinstance : bootBuiltins (Str.ofString "isinstance") = some (.builtin "isinstance") := by decide +kernel
theorem bb_abs : bootBuiltins (Str.ofString "abs") = some (.builtin "abs") := by decide +kernel
theorem bb_max : bootBuiltins (Str.ofString "max") = some (.builtin "max") := by decide +kernel
theorem bb_min : bootBuiltins (Str.ofString "min") = some (.builtin "min") := by decide +kernel
theorem bb_sorted : bootBuiltins (Str.ofString "sorted") = some (.builtin "sorted") := by decide +kernel
end DL

set_option Elab.async false
set_option linter.all false
set_option autoImplicit false
set_option maxRecDepth 100000
set_option maxHeartbeats 2000000
namespace DL
open PySem PySem.Spec PyProof.Rows L2

/-! ### equality of data, by kinds -/
def D.scal : D → Bool
  | .non => true
  | .bl _ => true
  | .int _ => true
  | .str _ => true
  | _ => false
theorem eq_ii (i j : Int) : D.eq (.int i) (.int j) = decide (i = j) := by show (i == j) = _; rw [Bool.beq_eq_decide_eq]
theorem eq_ss (a b : Str) : D.eq (.str a) (.str b) = decide (a = b) := by show (a == b) = _; rw [Bool.beq_eq_decide_eq]
theorem eq_bb (a b : Bool) : D.eq (.bl a) (.bl b) = decide (a = b) := by show (a == b) = _; rw [Bool.beq_eq_decide_eq]
theorem eq_nn : D.eq .non .non = true := rfl
theorem eq_is (i : Int) (b : Str) : D.eq (.int i) (.str b) = false := rfl
theorem eq_si (i : Int) (b : Str) : D.eq (.str b) (.int i) = false := rfl
theorem eq_ni (i : Int) : D.eq .non (.int i) = false := rfl
theorem eq_in (i : Int) : D.eq (.int i) .non = false := rfl
theorem eq_ns (i : Str) : D.eq .non (.str i) = false := rfl
theorem eq_sn (i : Str) : D.eq (.str i) .non = false := rfl
theorem eq_tt (xs ys : List D) : D.eq (.tup xs) (.tup ys) = PyData.eqvAll (D.pys xs) (D.pys ys) := rfl
theorem eq_ll (xs ys : List D) : D.eq (.lst xs) (.lst ys) = PyData.eqvAll (D.pys xs) (D.pys ys) := rfl
theorem eqAll_nil : PyData.eqvAll (D.pys []) (D.pys []) = true := rfl
theorem eqAll_cons (x y : D) (xs ys : List D) : PyData.eqvAll (D.pys (x :: xs)) (D.pys (y :: ys)) = (D.eq x y && PyData.eqvAll (D.pys xs) (D.pys ys)) := rfl
theorem eqAll_nc (y : D) (ys : List D) : PyData.eqvAll (D.pys []) (D.pys (y :: ys)) = false := rfl
theorem eqAll_cn (y : D) (ys : List D) : PyData.eqvAll (D.pys (y :: ys)) (D.pys []) = false := rfl
theorem depth_scal {d : D} (h : d.scal = true) : d.depth = 0 := by cases d <;> first | rfl | exact absurd h (by simp [D.scal])
theorem data_scal {d : D} (h : d.scal = true) : d.isData = true := by cases d <;> first | rfl | exact absurd h (by simp [D.scal])
theorem view_scal {s : S} {d : D} (h : d.scal = true) : view s d = d := by cases d <;> first | rfl | exact absurd h (by simp [D.scal])
theorem eqOk_l {x y : D} (h : x.scal = true) (hy : y.isData = true) : EqOk x y := ⟨data_scal h, hy, by rw [depth_scal h]; exact Nat.le_trans (Nat.min_le_left _ _) (Nat.zero_le _)⟩
theorem eqOk_r {x y : D} (hx : x.isData = true) (h : y.scal = true) : EqOk x y := ⟨hx, data_scal h, by rw [depth_scal h]; exact Nat.le_trans (Nat.min_le_right _ _) (Nat.zero_le _)⟩
theorem roEq_sc {x y : D} {s : S} {P : DK} (hx : x.scal = true) (hy : y.scal = true) : roEq x y s P ↔ P (.bl (D.eq x y)) s := by
  unfold roEq
  rw [view_scal hx, view_scal hy]
  exact ⟨fun h => h.2, fun h => ⟨eqOk_l hx (data_scal hy), h⟩⟩
theorem roNe_sc {x y : D} {s : S} {P : DK} (hx : x.scal = true) (hy : y.scal = true) : roNe x y s P ↔ P (.bl (!D.eq x y)) s := by
  unfold roNe
  rw [view_scal hx, view_scal hy]
  exact ⟨fun h => h.2, fun h => ⟨eqOk_l hx (data_scal hy), h⟩⟩
theorem roEq_ss {a b : Str} {s : S} {P : DK} : roEq (.str a) (.str b) s P ↔ P (.bl (decide (a = b))) s := by rw [roEq_sc rfl rfl, eq_ss]
theorem roEq_ii {a b : Int} {s : S} {P : DK} : roEq (.int a) (.int b) s P ↔ P (.bl (decide (a = b))) s := by rw [roEq_sc rfl rfl, eq_ii]
theorem roEq_bb {a b : Bool} {s : S} {P : DK} : roEq (.bl a) (.bl b) s P ↔ P (.bl (decide (a = b))) s := by rw [roEq_sc rfl rfl, eq_bb]
theorem roNe_ss {a b : Str} {s : S} {P : DK} : roNe (.str a) (.str b) s P ↔ P (.bl (!decide (a = b))) s := by rw [roNe_sc rfl rfl, eq_ss]
theorem roNe_ii {a b : Int} {s : S} {P : DK} : roNe (.int a) (.int b) s P ↔ P (.bl (!decide (a = b))) s := by rw [roNe_sc rfl rfl, eq_ii]
theorem roNe_bb {a b : Bool} {s : S} {P : DK} : roNe (.bl a) (.bl b) s P ↔ P (.bl (!decide (a = b))) s := by rw [roNe_sc rfl rfl, eq_bb]
theorem roEq_is {a : Int} {b : Str} {s : S} {P : DK} : roEq (.int a) (.str b) s P ↔ P (.bl false) s := by rw [roEq_sc rfl rfl]; rfl
theorem roEq_si {a : Int} {b : Str} {s : S} {P : DK} : roEq (.str b) (.int a) s P ↔ P (.bl false) s := by rw [roEq_sc rfl rfl]; rfl
theorem roNe_is {a : Int} {b : Str} {s : S} {P : DK} : roNe (.int a) (.str b) s P ↔ P (.bl true) s := by rw [roNe_sc rfl rfl]; rfl
theorem roNe_si {a : Int} {b : Str} {s : S} {P : DK} : roNe (.str b) (.int a) s P ↔ P (.bl true) s := by rw [roNe_sc rfl rfl]; rfl
/-! ### isinstance, by kinds -/
theorem isi_int {i : Int} {T : String} {s : S} {P : DK} : rcIsi [.int i, .ty T] s P ↔ okT T = true ∧ P (.bl (T == "int")) s := ⟨fun h => ⟨h.1.2, h.2⟩, fun h => ⟨⟨rfl, h.1⟩, h.2⟩⟩
theorem isi_str {i : Str} {T : String} {s : S} {P : DK} : rcIsi [.str i, .ty T] s P ↔ okT T = true ∧ P (.bl (T == "str")) s := ⟨fun h => ⟨h.1.2, h.2⟩, fun h => ⟨⟨rfl, h.1⟩, h.2⟩⟩
theorem isi_bl {i : Bool} {T : String} {s : S} {P : DK} : rcIsi [.bl i, .ty T] s P ↔ okT T = true ∧ P (.bl (T == "bool" || T == "int")) s := ⟨fun h => ⟨h.1.2, h.2⟩, fun h => ⟨⟨rfl, h.1⟩, h.2⟩⟩
theorem isi_non {T : String} {s : S} {P : DK} : rcIsi [.non, .ty T] s P ↔ okT T = true ∧ P (.bl false) s := ⟨fun h => ⟨h.1.2, h.2⟩, fun h => ⟨⟨rfl, h.1⟩, h.2⟩⟩
theorem isi_tup {ds : List D} {T : String} {s : S} {P : DK} : rcIsi [.tup ds, .ty T] s P ↔ (D.allData ds = true ∧ okT T = true) ∧ P (.bl (T == "tuple")) s := ⟨fun h => h, fun h => h⟩
theorem okT_int : okT "int" = true := rfl
theorem okT_str : okT "str" = true := rfl
theorem okT_bool : okT "bool" = true := rfl
theorem okT_tuple : okT "tuple" = true := rfl
theorem okT_list : okT "list" = true := rfl
/-! ### fuel -/
theorem fuel_fuel (s : S) (a : Addr) (n m : Nat) : (s.fuel a n).fuel a m = s.fuel a m := rfl
theorem fuel_dk (s : S) (a : Addr) (n : Nat) : (s.fuel a n).dk = some (a, n) := rfl
theorem fuel_M (s : S) (a : Addr) (n : Nat) : (s.fuel a n).M = s.M := rfl
theorem fuel_self {s : S} {a : Addr} {n : Nat} (h : s.dk = some (a, n)) : s.fuel a n = s := by
  obtain ⟨d, M⟩ := s
  have h : d = some (a, n) := h
  rw [h]; rfl
end DL

set_option Elab.async false
set_option linter.all false
set_option autoImplicit false
set_option maxRecDepth 100000
set_option maxHeartbeats 2000000
namespace DL
open PySem PySem.Spec PyProof.Rows L2

/-! ### data that repr can show: leaves of at most B signs, at most N items in each, n deep -/
def Leaf (B : Nat) : D → Prop
  | .non => True
  | .bl _ => True
  | .int i => i.natAbs.log2 < 1920 ∧ i.natAbs < 10 ^ (B - 1)
  | .str x => (reprText x).length ≤ B
  | _ => False
def Fit (B N : Nat) : Nat → D → Prop
  | 0, d => Leaf B d
  | n + 1, d => Leaf B d ∨ ∃ ds : List D, (d = .tup ds ∨ d = .lst ds) ∧ ds.length ≤ N ∧ ∀ x ∈ ds, Fit B N n x
def bnd (B N : Nat) : Nat → Nat
  | 0 => B
  | n + 1 => B + (bnd B N n + 2) * N + 3
theorem leaf_fit {B N : Nat} {d : D} (h : Leaf B d) : ∀ n, Fit B N n d
  | 0 => h
  | _ + 1 => .inl h
theorem leaf_ok {B : Nat} (hB : 6 ≤ B) {d : D} (h : Leaf B d) : d.isData = true ∧ d.py.showable = true ∧ d.depth = 0 ∧ d.shown.length ≤ B := by
  cases d with
  | non => exact ⟨rfl, rfl, rfl, Nat.le_trans (by decide) hB⟩
  | bl b => exact ⟨rfl, rfl, rfl, by cases b <;> exact Nat.le_trans (by decide) hB⟩
  | int i =>
    refine ⟨rfl, decide_eq_true h.1, rfl, ?_⟩
    show (Str.ofString (toString i)).length ≤ B
    rw [PySem.ofString_length]
    have := int_text_length_le10 (k := B - 1) (by omega) h.2
    omega
  | str x => exact ⟨rfl, rfl, rfl, h⟩
  | _ => exact h.elim
theorem pys_sum (k : Nat) : ∀ (ds : List D), (∀ x ∈ ds, x.shown.length ≤ k) → ((PyData.shownAll (D.pys ds)).map (·.length)).sum ≤ k * ds.length ∧ (PyData.shownAll (D.pys ds)).length = ds.length
  | [], _ => ⟨Nat.le_refl _, rfl⟩
  | d :: ds, h => by
    obtain ⟨h1, h2⟩ := pys_sum k ds fun x hx => h x (List.mem_cons_of_mem _ hx)
    have h3 := h d (List.mem_cons_self ..)
    refine ⟨?_, congrArg (· + 1) h2⟩
    show d.shown.length + ((PyData.shownAll (D.pys ds)).map (·.length)).sum ≤ k * (ds.length + 1)
    rw [Nat.mul_succ]
    omega
theorem fit_ok {B N : Nat} (hB : 6 ≤ B) : ∀ {n : Nat} {d : D}, Fit B N n d → d.isData = true ∧ d.py.showable = true ∧ d.depth ≤ n ∧ d.shown.length ≤ bnd B N n
  | 0, d, h => by
    obtain ⟨h1, h2, h3, h4⟩ := leaf_ok hB h
    exact ⟨h1, h2, Nat.le_of_eq h3, h4⟩
  | n + 1, d, h => by
    rcases h with h | ⟨ds, hd, hl, hx⟩
    · obtain ⟨h1, h2, h3, h4⟩ := leaf_ok hB h
      exact ⟨h1, h2, by omega, Nat.le_trans h4 (by unfold bnd; omega)⟩
    · have ih := fun x hm => fit_ok hB (hx x hm)
      have a1 : D.allData ds = true := by
        rw [allData_all]; exact List.all_eq_true.mpr fun x hm => (ih x hm).1
      have a2 : PyData.showableAll (D.pys ds) = true := by
        clear a1 hd hl hx
        induction ds with
        | nil => rfl
        | cons d ds q =>
          show (d.py.showable && PyData.showableAll (D.pys ds)) = true
          rw [(ih d (List.mem_cons_self ..)).2.1, q fun x hm => ih x (List.mem_cons_of_mem _ hm)]; rfl
      have a3 : PyData.depthAll (D.pys ds) ≤ n := by
        clear a1 a2 hd hl hx
        induction ds with
        | nil => exact Nat.zero_le _
        | cons d ds q => exact Nat.max_le.mpr ⟨(ih d (List.mem_cons_self ..)).2.2.1, q fun x hm => ih x (List.mem_cons_of_mem _ hm)⟩
      obtain ⟨a4, a5⟩ := pys_sum (bnd B N n) ds fun x hm => (ih x hm).2.2.2
      have a6 : bnd B N n * ds.length + 2 * ds.length + 3 ≤ bnd B N (n + 1) := by
        have e1 : bnd B N n * ds.length ≤ bnd B N n * N := Nat.mul_le_mul_left _ hl
        have e2 : (bnd B N n + 2) * N = bnd B N n * N + 2 * N := Nat.add_mul _ _ _
        have e3 : bnd B N (n + 1) = B + (bnd B N n + 2) * N + 3 := rfl
        omega
      rcases hd with rfl | rfl
      · exact ⟨a1, a2, Nat.succ_le_succ a3, Nat.le_trans (tupleText_len_le _) (by rw [a5]; omega)⟩
      · exact ⟨a1, a2, Nat.succ_le_succ a3, Nat.le_trans (listText_len_le _) (by rw [a5]; omega)⟩
theorem fit_tup {B N n : Nat} {ds : List D} (hl : ds.length ≤ N) (h : ∀ x ∈ ds, Fit B N n x) : Fit B N (n + 1) (.tup ds) := .inr ⟨ds, .inl rfl, hl, h⟩
theorem fit_lst {B N n : Nat} {ds : List D} (hl : ds.length ≤ N) (h : ∀ x ∈ ds, Fit B N n x) : Fit B N (n + 1) (.lst ds) := .inr ⟨ds, .inr rfl, hl, h⟩
theorem fit_up {B N : Nat} : ∀ {n : Nat} {d : D}, Fit B N n d → Fit B N (n + 1) d
  | 0, _, h => .inl h
  | n + 1, _, .inl h => .inl h
  | n + 1, _, .inr ⟨ds, h1, h2, h3⟩ => .inr ⟨ds, h1, h2, fun x hm => fit_up (h3 x hm)⟩
theorem view_fit {B N n : Nat} {s : S} {d : D} (h : Fit B N n d) : view s d = d := by
  cases d with
  | ref a =>
    cases n with
    | zero => exact h.elim
    | succ n => rcases h with h | ⟨ds, h1 | h1, _⟩
                · exact h.elim
                · cases h1
                · cases h1
  | _ => rfl
/-- repr(d) -/
theorem repr_fit {B N n : Nat} {d : D} {s : S} {P : DK} (h : Fit B N n d) (hB : 6 ≤ B) (hn : n ≤ 60) (hb : bnd B N n ≤ sizeLine) (q : P (.str d.shown) s) : rcRepr [d] s P := by
  obtain ⟨h1, h2, h3, h4⟩ := fit_ok hB h
  show ((view s d).isData = true ∧ (view s d).py.showable = true ∧ (view s d).depth ≤ 60 ∧ (view s d).shown.length ≤ sizeLine) ∧ P (.str (view s d).shown) s
  rw [view_fit h]
  exact ⟨⟨h1, h2, by omega, by omega⟩, q⟩
/-- a text of at most n signs -/
theorem leaf_str {B n : Nat} {x : Str} (h : x.length ≤ n) (hc : ∀ c ∈ x.cps.toList, c < 16 ^ 8) (hB : 10 * n + 2 ≤ B) : Leaf B (.str x) := by
  have := PySem.StrLaws.reprText_len x hc
  show (reprText x).length ≤ B
  omega

/-! ### drawing -/
theorem draw_one {a : Addr} {m : Nat} {c : Int} {s : S} {P : DK} (hd : s.dk = some (a, m)) (hm : 0 < m) (c0 : 0 < c) (c1 : c < 1073741824) (h : ∀ r, 0 ≤ r → r < c → P (.int r) (s.fuel a (m - 1))) : spDraw [.ref a, .int c] s P :=
  ⟨a, m - 1, c, rfl, c0, c1, by rw [hd, Nat.sub_add_cancel hm], h⟩
end DL
namespace DL
open PySem PySem.Spec PyProof.Rows L2
theorem put_M (s : S) (a b : Addr) (o : MO) : (s.put a o).M b = if b = a then some o else s.M b := rfl
theorem put_dk (s : S) (a : Addr) (o : MO) : (s.put a o).dk = s.dk := rfl
theorem fmod_range (x : Int) {c : Int} (h : 0 < c) : 0 ≤ x.fmod c ∧ x.fmod c < c := ⟨Int.fmod_nonneg_of_pos x h, Int.fmod_lt_of_pos x h⟩
end DL

set_option Elab.async false
set_option linter.all false
set_option autoImplicit false
set_option maxRecDepth 100000
set_option maxHeartbeats 2000000
namespace DL
open PySem PySem.Spec PyProof.Rows L2

/-! ### the item at a place -/
theorem atD_nat {α : Type} (l : List α) (i : Nat) : atI l (i : Int) = l[i]? := by
  unfold atI ixN
  by_cases h : (i : Int) < (l.length : Int)
  · rw [if_pos (by omega), if_pos h]; show l[(i : Int).toNat]? = _; rw [Int.toNat_natCast]
  · rw [if_pos (by omega), if_neg h]; exact (List.getElem?_eq_none (by omega)).symm
theorem atI_pos {α : Type} (l : List α) {i : Int} (h : 0 ≤ i) : atI l i = l[i.toNat]? := by
  obtain ⟨n, rfl⟩ := Int.eq_ofNat_of_zero_le h
  exact atD_nat l n
theorem atI_z {α : Type} (x : α) (l : List α) : atI (x :: l) 0 = some x := atD_nat (x :: l) 0
theorem atI_o {α : Type} (x y : α) (l : List α) : atI (x :: y :: l) 1 = some y := atD_nat (x :: y :: l) 1
theorem atI_t {α : Type} (x y z : α) (l : List α) : atI (x :: y :: z :: l) 2 = some z := atD_nat (x :: y :: z :: l) 2
theorem atI_lt {α : Type} (l : List α) {i : Int} (h : 0 ≤ i) (h2 : i < l.length) : atI l i = some (l[i.toNat]'(by omega)) := by
  rw [atI_pos l h, List.getElem?_eq_getElem]
theorem ixN_z (n : Nat) : ixN (n + 1) 0 = some 0 := by unfold ixN; rw [if_pos (by omega), if_pos (by omega)]; rfl
theorem ixN_pos {n : Nat} {i : Int} (h : 0 ≤ i) (h2 : i < n) : ixN n i = some i.toNat := by unfold ixN; rw [if_pos h, if_pos h2]
theorem allData_strs : ∀ ys : List Str, D.allData (ys.map .str) = true
  | [] => rfl
  | y :: ys => by show (true && D.allData (ys.map .str)) = true; rw [allData_strs ys]; rfl
theorem allData_of {ds : List D} (h : ∀ d ∈ ds, d.isData = true) : D.allData ds = true := by rw [allData_all]; exact List.all_eq_true.mpr h
theorem sIx_pos {n d : Nat} {v : Int} (h : 0 ≤ v) : HT.sIx n d (some v) = min v.toNat n := by
  obtain ⟨k, rfl⟩ := Int.eq_ofNat_of_zero_le h
  rw [HT.sIx_nat]; rfl
theorem cutD_to {ds : List D} {v : Int} (h : 0 ≤ v) : cutD ds none (some v) = ds.take v.toNat := by
  unfold cutD
  rw [sIx_pos h, HT.sIx_none, List.drop_zero, Nat.sub_zero]
  by_cases q : v.toNat ≤ ds.length
  · rw [Nat.min_eq_left q]
  · rw [Nat.min_eq_right (by omega), List.take_of_length_le (Nat.le_refl _), List.take_of_length_le (by omega)]
theorem cutD_from {ds : List D} {v : Int} (h : 0 ≤ v) : cutD ds (some v) none = ds.drop v.toNat := by
  unfold cutD
  rw [sIx_pos h, HT.sIx_none]
  by_cases q : v.toNat ≤ ds.length
  · rw [Nat.min_eq_left q, List.take_of_length_le (by rw [List.length_drop]; omega)]
  · rw [Nat.min_eq_right (by omega), List.drop_eq_nil_of_le (Nat.le_refl _), List.drop_eq_nil_of_le (by omega), List.take_nil]
theorem put_put (s : S) (a : Addr) (o o' : MO) : (s.put a o).put a o' = s.put a o' := by
  simp only [S.put]
  congr 1
  funext b
  by_cases h : b = a <;> simp [h]
theorem ofS_eq {a b : String} : (Str.ofString a = Str.ofString b) = (a = b) := by
  refine propext ⟨fun h => ?_, fun h => by rw [h]⟩
  rw [Str.ofString_eq_toList, Str.ofString_eq_toList] at h
  injection h with h
  have h := congrArg Array.toList h
  simp only at h
  refine String.toList_inj.mp ((List.map_inj_right fun x y e => ?_).mp h)
  exact Char.toNat_inj.mp e
/-- a draw -/
theorem drawI {a : Addr} {m : Nat} {c : Int} {s : S} {P : DK} (hd : s.dk = some (a, m)) : (1 ≤ m ∧ 0 < c ∧ c < 1073741824 ∧ ∀ r : Int, 0 ≤ r → r < c → P (.int r) (s.fuel a (m - 1))) → spDraw [.ref a, .int c] s P :=
  fun ⟨h1, h2, h3, h4⟩ => draw_one hd h1 h2 h3 h4
end DL
namespace DL
open PySem PySem.Spec PyProof.Rows L2
theorem allData_ints : ∀ ys : List Int, D.allData (ys.map .int) = true
  | [] => rfl
  | y :: ys => by show (true && D.allData (ys.map .int)) = true; rw [allData_ints ys]; rfl
theorem eqAll_emp (ds : List D) : PyData.eqvAll (D.pys ds) (D.pys []) = ds.isEmpty := by cases ds <;> rfl
/-- xs != [] -/
theorem roNe_emp {s : S} {d : D} {ds : List D} {P : DK} (hv : view s d = .lst ds) (hd : D.allData ds = true) : roNe d (.lst []) s P ↔ P (.bl (!ds.isEmpty)) s := by
  unfold roNe
  rw [hv]
  show (EqOk (.lst ds) (.lst []) ∧ P (.bl (!PyData.eqvAll (D.pys ds) (D.pys []))) s) ↔ _
  rw [eqAll_emp]
  exact ⟨fun h => h.2, fun h => ⟨⟨hd, rfl, Nat.le_trans (Nat.min_le_right _ _) (by decide)⟩, h⟩⟩
theorem cpow_small {i j : Int} (h : 0 ≤ j) (h2 : j ≤ 1000000) (h3 : i.natAbs < 2 ^ 64) : CPow i j := ⟨h, h2, h3⟩
theorem cdiv_small {i j : Int} (h : 0 < j) (h2 : j < 1073741824) : CDivN i j := ⟨by omega, by omega⟩
end DL

set_option Elab.async false
set_option linter.all false
set_option autoImplicit false
set_option maxRecDepth 100000
set_option maxHeartbeats 2000000
namespace DL
open PySem PySem.Spec PyProof.Rows L2

/-! ### comprehensions -/
/-- no draw within: what is kept and what is made of it -/
theorem lcW_pure {vs : List Nat} {g : WG} {t : WT} {w : WE} {δ : Dn} {p : D → Bool} {f : D → D} : ∀ {ds : List D} {s : S} {P : List D → S → Prop},
    (∀ d ∈ ds, ∀ (R0 : S → Prop) (R1 : D → S → Prop), (p d = false → R0 s) → (p d = true → R1 (f d) s) → g d (wipeD δ vs) s fun δ1 s1 => t δ1 s1 fun k s2 => match k with | true => w δ1 s2 R1 | false => R0 s2) →
    P ((ds.filter p).map f) s → lcW vs g t w δ ds s P
  | [], s, P, _, h => h
  | d :: ds, s, P, st, h => by
    unfold lcW
    refine st d (List.mem_cons_self ..) (fun s2 => lcW vs g t w δ ds s2 P) (fun y s3 => lcW vs g t w δ ds s3 fun ys s4 => P (y :: ys) s4) (fun q => ?_) (fun q => ?_)
    · exact lcW_pure (fun d' hd => st d' (List.mem_cons_of_mem _ hd)) (by rw [List.filter_cons_of_neg (by simp [q])] at h; exact h)
    · exact lcW_pure (fun d' hd => st d' (List.mem_cons_of_mem _ hd)) (by rw [List.filter_cons_of_pos q] at h; exact h)
theorem lcW_map {vs : List Nat} {g : WG} {w : WE} {δ : Dn} {f : D → D} {ds : List D} {s : S} {P : List D → S → Prop}
    (st : ∀ d ∈ ds, ∀ (R1 : D → S → Prop), R1 (f d) s → g d (wipeD δ vs) s fun δ1 s1 => w δ1 s1 R1) (h : P (ds.map f) s) : lcW vs g wYes w δ ds s P :=
  lcW_pure (p := fun _ => true) (f := f) (fun d hd R0 R1 _ h1 => st d hd R1 (h1 rfl)) (by rw [List.filter_eq_self.mpr fun _ _ => rfl]; exact h)
/-- draws within: each item is a Q, each takes one of I's steps -/
theorem lcW_draw {vs : List Nat} {g : WG} {w : WE} {δ : Dn} {I : S → Nat → Prop} {Q : D → Prop} : ∀ {ds : List D} {s : S} {n : Nat} {P : List D → S → Prop},
    (∀ d ∈ ds, ∀ s n (R : D → S → Prop), I s (n + 1) → (∀ y s2, Q y → I s2 n → R y s2) → g d (wipeD δ vs) s fun δ1 s1 => w δ1 s1 R) →
    I s (n + ds.length) → (∀ ys s2, ys.length = ds.length → (∀ y ∈ ys, Q y) → I s2 n → P ys s2) → lcW vs g wYes w δ ds s P
  | [], s, n, P, _, hI, h => h [] s rfl (by simp) hI
  | d :: ds, s, n, P, st, hI, h => by
    unfold lcW
    exact st d (List.mem_cons_self ..) s (n + ds.length) (fun y s3 => lcW vs g wYes w δ ds s3 fun ys s4 => P (y :: ys) s4) (by rw [List.length_cons] at hI; exact hI) fun y s2 hy h2 =>
      lcW_draw (n := n) (fun d' hd => st d' (List.mem_cons_of_mem _ hd)) h2 fun ys s3 hl hq h3 => h (y :: ys) s3 (by simp [hl]) (fun z hz => by rcases List.mem_cons.mp hz with rfl | hz; exact hy; exact hq z hz) h3
theorem mem_rngD {lo : Int} {n : Nat} {d : D} (h : d ∈ rngD lo n) : ∃ i : Nat, i < n ∧ d = .int (lo + i) := by
  unfold rngD at h
  obtain ⟨i, hi, rfl⟩ := List.mem_map.mp h
  exact ⟨i, List.mem_range.mp hi, rfl⟩
theorem rngD_map {lo : Int} {n : Nat} (f : D → D) : (rngD lo n).map f = (List.range n).map fun (i : Nat) => f (.int (lo + (i : Int))) := by
  unfold rngD; rw [List.map_map]; rfl
theorem nodup_range_map {α : Type} {n : Nat} {f : Nat → α} (h : ∀ i j, i < n → j < n → f i = f j → i = j) : ((List.range n).map f).Nodup := by
  unfold List.Nodup
  rw [List.pairwise_map]
  refine List.Pairwise.imp_of_mem ?_ (List.nodup_range (n := n))
  intro a b ha hb hne e
  exact hne (h a b (List.mem_range.mp ha) (List.mem_range.mp hb) e)

/-- over items that are made of x's -/
theorem lcW_sel {α : Type} {vs : List Nat} {g : WG} {t : WT} {w : WE} {δ : Dn} {it : α → D} {p : α → Bool} {f : α → D} : ∀ {l : List α} {s : S} {P : List D → S → Prop},
    (∀ x ∈ l, ∀ (R0 : S → Prop) (R1 : D → S → Prop), (p x = false → R0 s) → (p x = true → R1 (f x) s) → g (it x) (wipeD δ vs) s fun δ1 s1 => t δ1 s1 fun k s2 => match k with | true => w δ1 s2 R1 | false => R0 s2) →
    P ((l.filter p).map f) s → lcW vs g t w δ (l.map it) s P
  | [], s, P, _, h => h
  | d :: ds, s, P, st, h => by
    rw [List.map_cons]
    unfold lcW
    refine st d (List.mem_cons_self ..) (fun s2 => lcW vs g t w δ (ds.map it) s2 P) (fun y s3 => lcW vs g t w δ (ds.map it) s3 fun ys s4 => P (y :: ys) s4) (fun q => ?_) (fun q => ?_)
    · exact lcW_sel (fun d' hd => st d' (List.mem_cons_of_mem _ hd)) (by rw [List.filter_cons_of_neg (by simp [q])] at h; exact h)
    · exact lcW_sel (fun d' hd => st d' (List.mem_cons_of_mem _ hd)) (by rw [List.filter_cons_of_pos q] at h; exact h)
theorem lcW_each {α : Type} {vs : List Nat} {g : WG} {w : WE} {δ : Dn} {it f : α → D} {l : List α} {s : S} {P : List D → S → Prop}
    (st : ∀ x ∈ l, ∀ (R1 : D → S → Prop), R1 (f x) s → g (it x) (wipeD δ vs) s fun δ1 s1 => w δ1 s1 R1) (h : P (l.map f) s) : lcW vs g wYes w δ (l.map it) s P :=
  lcW_sel (p := fun _ => true) (f := f) (fun d hd R0 R1 _ h1 => st d hd R1 (h1 rfl)) (by rw [List.filter_eq_self.mpr fun _ _ => rfl]; exact h)
theorem lcW_rng {vs : List Nat} {g : WG} {w : WE} {δ : Dn} {f : Nat → D} {lo : Int} {n : Nat} {s : S} {P : List D → S → Prop}
    (st : ∀ i, i < n → ∀ (R1 : D → S → Prop), R1 (f i) s → g (.int (lo + (i : Int))) (wipeD δ vs) s fun δ1 s1 => w δ1 s1 R1) (h : P ((List.range n).map f) s) : lcW vs g wYes w δ (rngD lo n) s P :=
  lcW_each (fun i hi => st i (List.mem_range.mp hi)) h
theorem drawF {a : Addr} {m : Nat} {c : Int} {s : S} {P : DK} (h : 1 ≤ m ∧ 0 < c ∧ c < 1073741824 ∧ ∀ r : Int, 0 ≤ r → r < c → P (.int r) (s.fuel a (m - 1))) : spDraw [.ref a, .int c] (s.fuel a m) P := drawI rfl h
theorem nodup_inj {α : Type} {l : List α} (h : l.Nodup) {i j : Nat} (hi : i < l.length) (hj : j < l.length) (e : l[i] = l[j]) : i = j := by
  have hp := List.pairwise_iff_getElem.mp h
  rcases Nat.lt_trichotomy i j with q | q | q
  · exact absurd e (hp i j hi hj q)
  · exact q
  · exact absurd e.symm (hp j i hj hi q)
/-! ### signs -/
abbrev sg (x : Str) : List Nat := x.cps.toList
theorem sg_len (x : Str) : x.length = (sg x).length := by simp [sg, Str.length]
theorem sg_app (x y : Str) : sg (x ++ y) = sg x ++ sg y := by show (x.cps ++ y.cps).toList = _; simp
theorem sg_cut (z : Str) (lo hi : Option Int) : sg (cutS z lo hi) = ((sg z).drop (HT.sIx z.length 0 lo)).take (HT.sIx z.length z.length hi - HT.sIx z.length 0 lo) := rfl
theorem sg_to {z : Str} {v : Int} (h : 0 ≤ v) : sg (cutS z none (some v)) = (sg z).take v.toNat := by
  rw [sg_cut, sIx_pos h, HT.sIx_none, List.drop_zero, Nat.sub_zero, sg_len]
  by_cases q : v.toNat ≤ (sg z).length
  · rw [Nat.min_eq_left q]
  · rw [Nat.min_eq_right (by omega), List.take_of_length_le (Nat.le_refl _), List.take_of_length_le (by omega)]
theorem sg_from {z : Str} {v : Int} (h : 0 ≤ v) : sg (cutS z (some v) none) = (sg z).drop v.toNat := by
  rw [sg_cut, sIx_pos h, HT.sIx_none, sg_len]
  by_cases q : v.toNat ≤ (sg z).length
  · rw [Nat.min_eq_left q, List.take_of_length_le (by rw [List.length_drop]; omega)]
  · rw [Nat.min_eq_right (by omega), List.drop_eq_nil_of_le (Nat.le_refl _), List.drop_eq_nil_of_le (by omega), List.take_nil]
/-- a name: one to eight small letters -/
def Nam (x : Str) : Prop := 1 ≤ x.length ∧ x.length ≤ 8 ∧ ∀ c ∈ sg x, 97 ≤ c ∧ c ≤ 122
theorem join_ones (l : List Nat) : sg (Txt.join (Str.ofString "") (l.map fun c => (⟨#[c]⟩ : Str))) = l := by
  rw [show ∀ ys, Txt.join (Str.ofString "") ys = Str.join (Str.ofString "") ys from fun ys => PySem.StrLaws.glued_eq_join _ ys]
  induction l with
  | nil => rfl
  | cons c l ih =>
    cases l with
    | nil => rfl
    | cons d l =>
      show sg ((⟨#[c]⟩ : Str) ++ Str.ofString "" ++ Str.join (Str.ofString "") ((d :: l).map fun c => (⟨#[c]⟩ : Str))) = _
      rw [sg_app, sg_app, ih]; rfl
theorem ones_of {ys : List D} {p : Nat → Prop} (h : ∀ y ∈ ys, ∃ c, y = .str ⟨#[c]⟩ ∧ p c) : ∃ l : List Nat, ys = (l.map fun c => (⟨#[c]⟩ : Str)).map .str ∧ (∀ c ∈ l, p c) ∧ l.length = ys.length := by
  induction ys with
  | nil => exact ⟨[], rfl, (fun _ h => nomatch h), rfl⟩
  | cons y ys ih =>
    obtain ⟨l, rfl, h2, h3⟩ := ih fun z hz => h z (List.mem_cons_of_mem _ hz)
    obtain ⟨c, rfl, hc⟩ := h y (List.mem_cons_self ..)
    exact ⟨c :: l, rfl, fun d hd => by rcases List.mem_cons.mp hd with rfl | hd; exact hc; exact h2 d hd, by simp [← h3]⟩
/-- a list of one kind -/
theorem strs_of {ys : List D} {p : Str → Prop} (h : ∀ y ∈ ys, ∃ x, y = .str x ∧ p x) : ∃ l : List Str, ys = l.map .str ∧ (∀ c ∈ l, p c) ∧ l.length = ys.length := by
  induction ys with
  | nil => exact ⟨[], rfl, (fun _ h => nomatch h), rfl⟩
  | cons y ys ih =>
    obtain ⟨l, rfl, h2, h3⟩ := ih fun z hz => h z (List.mem_cons_of_mem _ hz)
    obtain ⟨c, rfl, hc⟩ := h y (List.mem_cons_self ..)
    exact ⟨c :: l, rfl, fun d hd => by rcases List.mem_cons.mp hd with rfl | hd; exact hc; exact h2 d hd, by simp [← h3]⟩
/-- a name by its signs -/
theorem nam_of {x : Str} {l : List Nat} (h : sg x = l) (h1 : 1 ≤ l.length) (h2 : l.length ≤ 8) (h3 : ∀ c ∈ l, 97 ≤ c ∧ c ≤ 122) : Nam x := ⟨by rw [sg_len, h]; exact h1, by rw [sg_len, h]; exact h2, by rw [h]; exact h3⟩
def abc : Str := Str.ofString "abcdefghijklmnopqrstuvwxyz"
theorem sg_abc : sg abc = (List.range 26).map (97 + ·) := by decide +kernel
theorem abc_at {i : Nat} (h : i < 26) : (sg abc)[i]? = some (97 + i) := by
  rw [sg_abc, List.getElem?_map, List.getElem?_range h]; rfl
theorem abc_len : abc.length = 26 := by rw [sg_len, sg_abc]; simp
end DL

set_option Elab.async false
set_option linter.all false
set_option autoImplicit false
set_option maxRecDepth 100000
set_option maxHeartbeats 2000000
namespace DL
open PySem PySem.Spec PyProof.Rows L2
open Evl (Ex)
open PySem.W (EachIs AllAlike Sortable dataLe)

/-! ### sorted of any data of one shape -/
abbrev leD : D → D → Bool := dataLe false D.py
def srtD (ds : List D) : List D := ds.mergeSort leD
theorem srtD_perm (ds : List D) : (srtD ds).Perm ds := List.mergeSort_perm ds leD
def SortOk (ds : List D) : Prop := AllAlike (ds.map D.py) ∧ Sortable (ds.map D.py) ∧ (∀ d ∈ ds, d.isData = true ∧ d.depth ≤ 58)
def rcSort : RCLD := fun ds s P => match ds with
  | [d] => (match view s d with
    | .lst es => SortOk es ∧ P (srtD es) s
    | _ => False)
  | _ => False
section
variable {K : PySem.W.Frag} {G : Hp}
def AtD (K : PySem.W.Frag) (G : Hp) (v : Value) (d : D) : Prop := ∃ x, RelV x v ∧ Rep K G d x
theorem each_of : ∀ {ds : List D} {xs : List V} {us : List Value}, RepL K G ds xs → Vals xs us → EachIs (AtD K G) us ds
  | _, _, _, .nil, .nil => .nil
  | _, _, _, .cons h r, .cons hv rv => .cons ⟨_, hv, h⟩ (each_of r rv)
theorem each_back : ∀ {ds : List D} {us : List Value}, EachIs (AtD K G) us ds → ∃ xs, RepL K G ds xs ∧ Vals xs us
  | _, _, .nil => ⟨[], .nil, .nil⟩
  | _, _, .cons ⟨x, hv, h⟩ r => let ⟨xs, r1, r2⟩ := each_back r; ⟨x :: xs, .cons h r1, .cons hv r2⟩
end
section
variable {X : Cx}
theorem cd_sort (hu : X.A.units + 64 < cLine) : CallDL X (.builtin "sorted") rcSort := by
  intro pins s σ H xs us Q I r ⟨F, G, s', ds, P, o, rd, hw, q⟩
  unfold rcSort at hw
  split at hw <;> first | exact hw.elim | skip
  rename_i d
  obtain ⟨v, rfl, rv⟩ := rd.one
  split at hw <;> first | exact hw.elim | skip
  rename_i es hv
  obtain ⟨a, ys, rfl, h1, r1⟩ := o.seqL rv hv
  obtain ⟨its, rvs, hl, hz⟩ := I.list (.of h1)
  obtain ⟨u, rfl, ru⟩ := vals1 r
  obtain rfl : u = Value.ref a := ru
  obtain ⟨⟨k1, k2, k3⟩, hP⟩ := hw
  have hz2 : es.length ≤ sizeLine := by rw [r1.length]; exact hz
  have er : ∀ {ds : List D} {us : List Value}, EachIs (AtD X.K G) us ds → (∀ d ∈ ds, d.isData = true) → EachIs (fun v b => ∃ as, Reads s.heap v b.py as) us ds := fun {ds us} e => by
    induction e with
    | nil => intro _; exact .nil
    | cons h r ih =>
      intro hd
      obtain ⟨x, hx, rx⟩ := h
      exact .cons (Dp.reads I _ _ _ ((rx.mono o.ex).dp (hd _ (List.mem_cons_self ..))) hx) (ih fun d hd' => hd d (List.mem_cons_of_mem _ hd'))
  have e0 := each_of r1 rvs
  refine PySem.W.sorted_data (R := AtD X.K G) (enc := D.py) hl.isList e0 (er e0 fun d hd => (k3 d hd).1) k1 k2 hz2 (fun d hd => by have := (k3 d hd).2; unfold D.depth at this; omega) fun out hlen ho => ?_
  obtain ⟨zs, z1, z2⟩ := each_back ho
  obtain ⟨n, hn⟩ := PyProof.Rows.sortedAll_at s.heap its (List.toArray out)
  have hd : s.heap.objs.size ≤ s.heap.objs.size + 1 := Nat.le_succ _
  have hz3 : zs.length ≤ sizeLine := by rw [← z1.length]; exact (show (srtD es).length ≤ sizeLine from by rw [(srtD_perm es).length_eq]; exact hz2)
  refine ⟨.ref (s.heap.objs.size + 1), upd H (s.heap.objs.size + 1) (.lst zs), I.laid (t' := s.toks) (fun b o e => PyProof.Rows.sortedAll_old e) hd ⟨hz3, out, n, z2, hn⟩, rfl, ?_⟩
  exact q _ s' hP G H _ zs (Ex.refl G) o (I.hok.fresh hd) z1
end
end DL

set_option Elab.async false
set_option linter.all false
set_option autoImplicit false
set_option maxRecDepth 100000
set_option maxHeartbeats 4000000
/-! Sets of tuples of ints and texts: the table, a search, an addition. -/
namespace DS
open PySem PySem.Spec PyProof.Rows L2

/-- a tuple's key: its ints and texts -/
abbrev TKey := List Key
abbrev tKind (P : Program) (w : World) : HeapKind P w TKey := tupleKind (mixKind P w)
abbrev tH (P : Program) (w : World) (k : TKey) : Int := tupleKeyHash (mixKind P w) k
abbrev TAt (P : Program) (w : World) (h : Heap) (k : TKey) (b : Addr) : Prop := IsTupleKey (mixKind P w) h k b
section
variable {P : Program} {w : World} {A : Around} {E : Value → Shared → Prop} {s : Shared}
theorem mixed {k : TKey} {vs : List Value} (h : ItemsAre (mixKind P w) k vs) : ∀ v ∈ vs, (∃ i t, v = .int i t) ∨ ∃ x t, v = .str x t := by
  induction h with
  | nil => exact fun _ hv => nomatch hv
  | cons h1 _ ih =>
    intro v hv
    rcases List.mem_cons.mp hv with rfl | hv
    · rcases keyIs_shape h1 with ⟨i, t, _, e⟩ | ⟨x, t, _, e⟩
      · exact .inl ⟨i, t, e⟩
      · exact .inr ⟨x, t, e⟩
    · exact ih v hv
theorem cls_leaf (n : Nat) {v : Value} (h : (∃ i t, v = .int i t) ∨ ∃ x t, v = .str x t) : ofAClassStatement n v = pure false ∧ ∃ b, hashByValue n v = pure b := by
  rcases h with ⟨i, t, rfl⟩ | ⟨x, t, rfl⟩
  · cases n <;> exact ⟨rfl, true, rfl⟩
  · cases n <;> exact ⟨rfl, false, rfl⟩
/-- a walk over a tuple's items that answers by each item at once -/
theorem ask_all {items : Array Value} {G : Option Bool → Prop} {body : Value → Option Bool × Unit → Sem (ForInStep (Option Bool × Unit))} {Q : Option Bool × Unit → Shared → Prop} (g0 : G none)
    (hs : ∀ v ∈ items.toList, ∀ r : Option Bool × Unit, body v r = pure (.yield (none, ())) ∨ ∃ c, G (some c) ∧ body v r = pure (.done (some c, ()))) (h : ∀ r : Option Bool × Unit, G r.1 → Q r s) : wpAny (model P w) A (forIn items (none, ()) body) Q E s := by
  rw [← Array.forIn_toList]
  suffices H : ∀ (l : List Value) (r : Option Bool × Unit), (∀ v ∈ l, v ∈ items.toList) → G r.1 → wpAny (model P w) A (forIn l r body) Q E s from H _ _ (fun _ q => q) g0
  intro l
  induction l with
  | nil => exact fun r _ hr => wpAny_pure (h r hr)
  | cons v l ih =>
    intro r hm hr
    rw [List.forIn_cons]
    rcases hs v (hm v List.mem_cons_self) r with e | ⟨c, gc, e⟩
    · rw [e]
      exact wpAny_bind (wpAny_pure (ih _ (fun u q => hm u (List.mem_cons_of_mem _ q)) g0))
    · rw [e]
      exact wpAny_bind (wpAny_pure (wpAny_pure (h _ gc)))
theorem cls_tup {k : TKey} {b : Addr} {Q : Bool → Shared → Prop} (hk : TAt P w s.heap k b) (h : Q false s) : wpAny (model P w) A (ofAClassStatement 8 (.ref b)) Q E s := by
  have ty := hk.typeIs
  obtain ⟨ob, its, n, hob, _, hdat, hits⟩ := hk
  unfold ofAClassStatement
  refine wpAny_bind (wpAny_typeOf ty ?_)
  dsimp only
  simp only [show (("tuple" : String) == "tuple") = true from rfl, if_true, Bool.not_true, Bool.false_eq_true, if_false]
  try refine wpAny_bind (wpAny_pure ?_)
  try simp only [Bool.not_true, Bool.false_eq_true, if_false]
  refine wpAny_bind (wpAny_seqItems hob hdat ?_)
  refine wpAny_bind (ask_all (G := fun c => c = none) rfl (fun v hv r => .inl ?_) fun r hr => ?_)
  · rw [(cls_leaf 7 (mixed hits v hv)).1]; rfl
  · obtain ⟨r1, r2⟩ := r
    obtain rfl : r1 = none := hr
    exact wpAny_pure h
theorem byv_tup {k : TKey} {b : Addr} {Q : Bool → Shared → Prop} (hk : TAt P w s.heap k b) (h : ∀ c, Q c s) : wpAny (model P w) A (hashByValue 8 (.ref b)) Q E s := by
  have ty := hk.typeIs
  obtain ⟨ob, its, n, hob, _, hdat, hits⟩ := hk
  unfold hashByValue
  refine wpAny_bind (wpAny_specialOf ty F.slot_tuple_hash.lookup ?_)
  dsimp only
  refine wpAny_bind (wpAny_seqItems hob hdat ?_)
  refine wpAny_bind (ask_all (G := fun c => True) trivial (fun v hv r => ?_) fun r _ => ?_)
  · obtain ⟨c, hc⟩ := (cls_leaf 7 (mixed hits v hv)).2
    rw [hc]
    cases c
    · exact .inr ⟨false, trivial, rfl⟩
    · exact .inl rfl
  · obtain ⟨r1, r2⟩ := r
    cases r1
    · exact wpAny_pure (h _)
    · exact wpAny_pure (h _)
/-- a walk that says nothing -/
theorem ask_list {body : Value → Option Bool × Unit → Sem (ForInStep (Option Bool × Unit))} {Q : Option Bool × Unit → Shared → Prop} : ∀ {l : List Value},
    (∀ v ∈ l, ∀ (r : Option Bool × Unit) (K : ForInStep (Option Bool × Unit) → Shared → Prop), K (.yield (none, ())) s → wpAny (model P w) A (body v r) K E s) → Q (none, ()) s → wpAny (model P w) A (forIn l (none, ()) body) Q E s
  | [], _, h => wpAny_pure h
  | v :: l, hs, h => by
    rw [List.forIn_cons]
    exact wpAny_bind (hs v List.mem_cons_self _ _ (ask_list (fun u q => hs u (List.mem_cons_of_mem _ q)) h))
/-- a search among such tuples shows nothing -/
theorem seen_no {k : TKey} {b : Addr} {Q : Bool → Shared → Prop} (hk : TAt P w s.heap k b) {ys : List Value} (hy : ∀ y ∈ ys, ∃ k' c, y = Value.ref c ∧ TAt P w s.heap k' c) (h : Q false s) : wpAny (model P w) A (searchCouldBeSeen (.ref b) ys) Q E s := by
  unfold searchCouldBeSeen
  refine wpAny_bind (ask_list (fun v hv r R q => ?_) (wpAny_pure h))
  obtain ⟨k', c, rfl, hc⟩ := hy v hv
  dsimp only
  by_cases same : (b == c || (carriedByValue (.ref b) && carriedByValue (.ref c))) = true
  · exact wp_if_pos same (wpAny_pure q)
  · refine wp_if_neg same (wpAny_bind (wpAny_eqIsQuiet_tuple hk ?_)); simp only [Bool.not_true, Bool.false_eq_true, if_false]
    refine wpAny_bind (wpAny_eqIsQuiet_tuple hc ?_); simp only [Bool.not_true, Bool.false_eq_true, if_false]
    refine wpAny_bind (cls_tup hk ?_); simp only [Bool.false_eq_true, if_false]
    refine wpAny_bind (cls_tup hc ?_); simp only [Bool.false_eq_true, if_false]
    exact wpAny_pure q

/-! ### the set: its rows, its table -/
def rowsT (P : Program) (w : World) (L : List (Addr × TKey)) : List (Int × Value) := L.map fun p => (tH P w p.2, .ref p.1)
theorem rowsT_at {L : List (Addr × TKey)} {i : Nat} {p : Addr × TKey} (h : L[i]? = some p) : (rowsT P w L)[i]? = some (tH P w p.2, .ref p.1) := by
  unfold rowsT; rw [List.getElem?_map, h]; rfl
structure On (P : Program) (w : World) (h : Heap) (a : Addr) (L : List (Addr × TKey)) (es : Array (Int × Value)) (ep : Nat) (t : SetTable) : Prop where
  obj : ∃ o, h.get? a = some o ∧ o.ExactSet ∧ o.data = .set es ep t
  ent : es.toList = rowsT P w L
  tab : TabOk t (L.map fun p => tH P w p.2)
  uni : (L.map (·.2)).Nodup
  its : ∀ p ∈ L, TAt P w h p.2 p.1
  led : w.params.followText "set-order" = true ∨ t.led = true
  room : L.length * 5 < t.mask * 3
  few : L.length < 64
variable {a : Addr} {L : List (Addr × TKey)} {es : Array (Int × Value)} {ep : Nat} {t : SetTable}
theorem On.size (R : On P w s.heap a L es ep t) : es.size = L.length := by
  have q := congrArg List.length R.ent
  simpa [rowsT] using q
theorem On.fits (R : On P w s.heap a L es ep t) : t.fits es.size = true := by
  have q1 := R.tab.sz
  have q2 := R.size
  have q3 := R.room
  rw [List.length_map] at q1
  simp only [SetTable.fits, SetTable.fill, R.tab.dm, Bool.and_eq_true, beq_iff_eq, decide_eq_true_eq, List.size_toArray, List.length_nil]
  omega
theorem On.row (R : On P w s.heap a L es ep t) {i : Nat} {p : Addr × TKey} (h : L[i]? = some p) : es[i]? = some (tH P w p.2, .ref p.1) := by rw [← Array.getElem?_toList, R.ent]; exact rowsT_at h
theorem On.stays (R : On P w s.heap a L es ep t) : ¬ t.gaveWay = true := by unfold SetTable.gaveWay; rw [mask_odd R.tab.mok]; decide
/-- the probe after c steps -/
abbrev pr (m : Nat) (h : Int) (c : Nat) : SetTable.Probe := nth m (runAt m (SetTable.bits h % (m + 1)) (SetTable.bits h)) c
theorem pr_add (m : Nat) (h : Int) (c q : Nat) : nth m (pr m h c) q = pr m h (c + q) := (nth_add m c _ q).symm
theorem pr_dummy (m : Nat) : ∀ (n : Nat) (p : SetTable.Probe), p.dummy = none → (nth m p n).dummy = none
  | 0, _, h => h
  | n + 1, p, h => pr_dummy m n _ (by unfold adv; split <;> exact h)
end
end DS

set_option Elab.async false
set_option linter.all false
set_option autoImplicit false
set_option maxRecDepth 100000
set_option maxHeartbeats 4000000
namespace DS
open PySem PySem.Spec PyProof.Rows L2
section
variable {P : Program} {w : World} {A : Around} {E : Value → Shared → Prop} {s : Shared}
variable {a : Addr} {L : List (Addr × TKey)} {es : Array (Int × Value)} {ep : Nat} {t : SetTable}
/-- the search from its c-th step, K the first empty slot's step -/
theorem On.look (R : On P w s.heap a L es ep t) {x : Addr} {k : TKey} (hx : TAt P w s.heap k x) (hu : A.units < cLine) {K : Nat} (hKt : K < 10 * SetTable.turns t.mask) (hKn : way t.mask (tH P w k) K ∉ t.place.toList)
    (hKb : ∀ c, c < K → way t.mask (tH P w k) c ∈ t.place.toList) {Q : SetFound → Shared → Prop} (yes : k ∈ L.map (·.2) → Q (.there none) s) (no : k ∉ L.map (·.2) → Q (.free (way t.mask (tH P w k) K) false) s) :
    ∀ (f c : Nat) (from? : Option SetTable.Probe), from?.getD (t.probeStart (tH P w k)) = pr t.mask (tH P w k) c → c ≤ K → K - c < f →
      (∀ (i : Nat) p, L[i]? = some p → p.2 = k → ∃ d, c ≤ d ∧ d < K ∧ t.place.toList[i]? = some (way t.mask (tH P w k) d)) → wpAny (model P w) A (setSearchFrom a (.ref x) (tH P w k) true f from?) Q E s := by
  intro f
  induction f with
  | zero => exact fun c from? _ _ z _ => absurd z (Nat.not_lt_zero _)
  | succ f ih =>
    intro c from? hfrom hcK hf ahead
    obtain ⟨o, ho, hex, hd⟩ := R.obj
    have hashes : ∀ (i : Nat) p, L[i]? = some p → (es[i]?.map (·.1)).getD 0 = tH P w p.2 := fun i p hp => by rw [R.row hp]; rfl
    have jw : ∀ q, (nth t.mask (pr t.mask (tH P w k) c) q).j = way t.mask (tH P w k) (c + q) := fun q => congrArg SetTable.Probe.j (pr_add ..)
    have toK : c + (K - c) = K := by omega
    rw [setSearchFrom_succ]
    refine wpAny_bind (wpAny_setState_of ho hd R.fits (wp_if_neg R.stays ?_))
    try refine wpAny_bind (wpAny_pure ?_)
    rw [hfrom]
    have spec := go_spec t R.tab.ris R.tab.dm (fun i => (es[i]?.map (·.1)).getD 0) (tH P w k) (10 * SetTable.turns t.mask) (K - c) (pr t.mask (tH P w k) c) (pr_dummy _ _ _ rfl) (by omega) (fun q hq => by rw [jw]; exact hKb _ (by omega)) (by rw [jw, toK]; exact hKn)
    rcases spec with ⟨q, i, hq, hi, hh, before, found⟩ | ⟨none_, empty⟩
    · rw [jw, pr_add] at found
      rw [jw] at hi
      have found' : t.probe (fun i => (es[i]?.map (·.1)).getD 0) (tH P w k) (pr t.mask (tH P w k) c) = some (.candidate (way t.mask (tH P w k) (c + q)) i (pr t.mask (tH P w k) (c + (q + 1)))) := found
      rw [found']
      have hiL : i < L.length := by
        have q1 : i < t.place.toList.length := (List.getElem?_eq_some_iff.mp hi).1
        have q2 := R.tab.sz
        rw [List.length_map] at q2; rw [Array.length_toList] at q1; omega
      obtain ⟨p, hp⟩ : ∃ p, L[i]? = some p := ⟨_, List.getElem?_eq_getElem hiL⟩
      have hpL := List.mem_of_getElem? hp
      have slot := slot_live R.tab.ris hi
      have rest : wpAny (model P w) A (searchRest a (.ref x) (tH P w k) true f es t (way t.mask (tH P w k) (c + q)) i (pr t.mask (tH P w k) (c + (q + 1)))) Q E s := by
        unfold searchRest
        rw [R.row hp]
        refine wpAny_bind (wpAny_holding (wpAny_eqBool_tuple hu (R.its p hpL) hx (wpAny_bind (wpAny_setState_of ho hd R.fits ?_))))
        by_cases e : p.2 = k
        · exact wp_if_pos (by simp [e]) (wpAny_pure (yes (List.mem_map.mpr ⟨p, hpL, e⟩)))
        · refine wp_if_neg (by simp [e]) ?_
          try refine wpAny_bind (wpAny_pure ?_)
          rw [sameMem]
          simp only [if_true, slot, R.row hp]
          refine wpAny_bind (wpAny_isSame_ref_self (wpAny_bind (wpAny_pure ?_)))
          simp only [if_true]
          refine wp_if_neg (by simp [e]) (ih (c + (q + 1)) _ rfl (by omega) (by omega) fun i0 p0 h0 k0 => ?_)
          obtain ⟨d, d1, d2, d3⟩ := ahead i0 p0 h0 k0
          refine ⟨d, ?_, d2, d3⟩
          rcases Nat.lt_trichotomy d (c + q) with z | z | z
          · exact absurd ((hashes i0 p0 h0).trans (by rw [k0])) (before (d - c) i0 (by omega) (by rw [jw, show c + (d - c) = d by omega]; exact d3))
          · have s0 := slot_live R.tab.ris d3
            rw [z, slot] at s0
            injection s0 with s0
            rw [← s0, hp] at h0
            exact absurd ((congrArg Prod.snd (Option.some.inj h0)).trans k0) e
          · omega
      by_cases l : t.led = true
      · refine wp_if_neg (by simp [l]) ?_
        try refine wpAny_bind (wpAny_pure ?_)
        exact rest
      · refine wp_if_pos (by simp [l]) (wpAny_bind (seen_no hx (fun y hy => ?_) (wp_if_neg (by decide) ?_)))
        · obtain ⟨e, he, rfl⟩ := List.mem_map.mp hy
          have he2 : e ∈ es.toList := by
            have : e ∈ es ∧ e.1 = tH P w k := by simpa using he
            simpa using this.1
          rw [R.ent] at he2
          obtain ⟨p2, hp2, rfl⟩ := List.mem_map.mp he2
          exact ⟨p2.2, p2.1, rfl, R.its p2 hp2⟩
        · try refine wpAny_bind (wpAny_pure ?_)
          exact rest
    · rw [jw, toK] at empty
      have empty' : t.probe (fun i => (es[i]?.map (·.1)).getD 0) (tH P w k) (pr t.mask (tH P w k) c) = some (.empty (way t.mask (tH P w k) K) none) := empty
      rw [empty']
      refine wpAny_pure (no fun hm => ?_)
      obtain ⟨p0, h0, k0⟩ := List.mem_map.mp hm
      obtain ⟨i0, hi0, e0⟩ := List.getElem_of_mem h0
      have g0 : L[i0]? = some p0 := by rw [List.getElem?_eq_getElem hi0, e0]
      obtain ⟨d, d1, d2, d3⟩ := ahead i0 p0 g0 k0
      exact absurd ((hashes i0 p0 g0).trans (by rw [k0])) (none_ (d - c) i0 (by omega) (by rw [jw, show c + (d - c) = d by omega]; exact d3))
theorem On.search (R : On P w s.heap a L es ep t) {x : Addr} {k : TKey} (hx : TAt P w s.heap k x) (hu : A.units < cLine) {Q : SetFound → Shared → Prop} (yes : k ∈ L.map (·.2) → Q (.there none) s)
    (no : ∀ K, k ∉ L.map (·.2) → way t.mask (tH P w k) K ∉ t.place.toList → (∀ c, c < K → way t.mask (tH P w k) c ∈ t.place.toList) → Q (.free (way t.mask (tH P w k) K) false) s) :
    wpAny (model P w) A (setSearch a (.ref x) (tH P w k) true) Q E s := by
  have room := R.room
  obtain ⟨K, K1, K2, K3⟩ := R.tab.first (by rw [List.length_map]; omega) (tH P w k)
  have few : K < 100000 := by
    have : SetTable.turns t.mask ≤ 142 := by unfold SetTable.turns; rcases R.tab.mok with e | e | e <;> omega
    omega
  refine R.look hx hu K1 K2 K3 yes (fun n => no K n K2 K3) 100000 0 none rfl (Nat.zero_le _) (by omega) fun i p hp hk => ?_
  have hl : i < t.place.toList.length := by
    have q1 : i < L.length := (List.getElem?_eq_some_iff.mp hp).1
    have q2 := R.tab.sz
    rw [List.length_map] at q2; rw [Array.length_toList]; omega
  have hj := List.getElem?_eq_getElem hl
  obtain ⟨c, hc, e⟩ := R.tab.before K2 (by rw [List.getElem?_map, hp, ← hk]; rfl) hj
  exact ⟨c, Nat.zero_le _, hc, by rw [hj, e]⟩
end
end DS

set_option Elab.async false
set_option linter.all false
set_option autoImplicit false
set_option maxRecDepth 100000
set_option maxHeartbeats 4000000
namespace DS
open PySem PySem.Spec PyProof.Rows L2
section
variable {P : Program} {w : World} {A : Around} {E : Value → Shared → Prop} {s : Shared}
variable {a : Addr} {L : List (Addr × TKey)} {es : Array (Int × Value)} {ep : Nat} {t : SetTable}
/-- the rows in another order -/
theorem rowsT_turned {order : Array Nat} (he : es.toList = rowsT P w L) (hp : order.toList.Perm (List.range L.length)) :
    ∃ M, (order.filterMap (es[·]?)).toList = rowsT P w M ∧ M.Perm L ∧ (M.map fun p => tH P w p.2) = order.toList.map fun i => (es.map (·.1)).getD i 0 := by
  have look : ∀ i : Nat, es[i]? = (L[i]?).map fun p => (tH P w p.2, Value.ref p.1) := fun i => by rw [← Array.getElem?_toList, he]; unfold rowsT; rw [List.getElem?_map]
  refine ⟨order.toList.filterMap (L[·]?), ?_, ?_, ?_⟩
  · rw [Array.toList_filterMap]
    unfold rowsT
    rw [List.map_filterMap]
    exact congrArg (fun g => List.filterMap g order.toList) (funext look)
  · have q := hp.filterMap (L[·]?)
    rw [List.filterMap_getElem?_range_length] at q
    exact q
  · have bound : ∀ i ∈ order.toList, i < L.length := fun i hi => List.mem_range.mp (hp.mem_iff.mp hi)
    generalize order.toList = l at bound
    induction l with
    | nil => rfl
    | cons i l ih =>
      have hi := bound i List.mem_cons_self
      rw [List.filterMap_cons_some (List.getElem?_eq_getElem hi), List.map_cons, List.map_cons, ih fun j hj => bound j (List.mem_cons_of_mem _ hj)]
      have e : (es.map (·.1))[i]? = some (tH P w (L[i]).2) := by rw [Array.getElem?_map, look, List.getElem?_eq_getElem hi]; rfl
      simp [Array.getD_eq_getD_getElem?, e]
/-- a tuple is no set -/
theorem TAt.beside {h h' : Heap} {k : TKey} {b : Addr} {o : Obj} (x : TAt P w h k b) (ho : h.get? a = some o) (hd : o.data = .set es ep t) (hs : Heap.SameBut a h h') : TAt P w h' k b := by
  obtain ⟨u, items, n, hu, hc, hu', hi⟩ := x
  refine ⟨u, items, n, (hs.2 b fun e => ?_).trans hu, hc, hu', hi⟩
  rw [e, ho] at hu
  cases hu
  rw [hd] at hu'
  cases hu'
theorem TAt.keep {h h' : Heap} {k : TKey} {b : Addr} (x : TAt P w h k b) (hk : ∀ c o, h.get? c = some o → h'.get? c = some o) : TAt P w h' k b := let ⟨u, items, n, hu, r⟩ := x; ⟨u, items, n, hk b u hu, r⟩
theorem On.keep {h h' : Heap} (R : On P w h a L es ep t) (ha : ∀ o, h.get? a = some o → h'.get? a = some o) (hi : ∀ p ∈ L, TAt P w h' p.2 p.1) : On P w h' a L es ep t := let ⟨o, ho, r⟩ := R.obj; { R with obj := ⟨o, ha o ho, r⟩, its := hi }
/-- the table laid anew -/
theorem relay {o : Obj} (ho : s.heap.get? a = some o) (hex : o.ExactSet) (hd : o.data = .set es ep t) (he : es.toList = rowsT P w L) (hpl : t.place.size = es.size) (hdm : t.dummies = #[]) (hm : es.size ≤ t.mask) (uni : (L.map (·.2)).Nodup) (its : ∀ p ∈ L, TAt P w s.heap p.2 p.1)
    (led : w.params.followText "set-order" = true ∨ t.led = true) (few : L.length < 64) {n M : Nat} (hn : SetTable.sizeAbove n - 1 = M) (hM : MaskOk M) (h128 : SetTable.sizeAbove n ≤ 128) (room : L.length * 5 < M * 3) {Q : Unit → Shared → Prop}
    (hQ : ∀ h' L' es' ep' t', Heap.SameBut a s.heap h' → On P w h' a L' es' ep' t' → L'.Perm L → Q () { s with heap := h' }) : wpAny (model P w) A (setRelay a n) Q E s := by
  have size : es.size = L.length := by simpa [rowsT] using congrArg List.length he
  have fits : t.fits es.size = true := by
    simp only [SetTable.fits, SetTable.fill, hdm, Bool.and_eq_true, beq_iff_eq, decide_eq_true_eq, List.size_toArray, List.length_nil]
    omega
  obtain ⟨t', order, laid, perm, tab, mask, led', plain', _⟩ := relaid_ok t (hs := es.map (·.1)) (wanted := n) hn hM (by rw [Array.size_map, size]; omega)
  rw [Array.size_map, size] at perm
  obtain ⟨L', rows', perm', hashes⟩ := rowsT_turned he perm
  rw [← hashes] at tab
  have size' : (order.filterMap (es[·]?)).size = L.length := by
    have q := congrArg List.length rows'
    rw [Array.length_toList] at q
    rw [q]
    simp [rowsT, perm'.length_eq]
  rw [setRelay_eq]
  refine wpAny_bind (wpAny_setState_of ho hd fits (wp_if_neg (by rw [sizeLine_eq]; omega) ?_))
  try refine wpAny_bind (wpAny_pure ?_)
  rw [laid]
  refine wpAny_bind (wp_if_neg (by rw [size', size]; simp) ?_)
  try refine wpAny_bind (wpAny_pure ?_)
  refine wpAny_pure (wpAny_storeSet_of ho hd ?_ (by rw [size', sizeLine_eq]; omega))
  have same : Heap.SameBut a s.heap (s.heap.update a (Obj.putSet (order.filterMap (es[·]?)) t')) := Heap.SameBut.update ..
  exact hQ _ L' _ (ep + 1) t' same ⟨⟨_, store_at ho hd, ⟨hex.1, hex.2.1, hex.2.2⟩, rfl⟩, rows', tab, (perm'.map (·.2)).nodup_iff.mpr uni, fun p hp => (its p (perm'.mem_iff.mp hp)).beside ho hd same, by rw [led']; exact led, by rw [perm'.length_eq, mask]; exact room, by rw [perm'.length_eq]; exact few⟩ perm'
theorem tab_plain {hs : List Int} (T : TabOk t hs) (b : Bool) : TabOk (if b = true then t else { t with plain := false }) hs := by
  cases b
  · exact ⟨T.ris, T.dm, T.sz, T.mok, T.bd, T.reach⟩
  · exact T
/-- one more -/
theorem On.add (R : On P w s.heap a L es ep t) {x : Addr} {k : TKey} (hx : TAt P w s.heap k x) (hu : A.units < cLine) (few : L.length + 1 < 64) {Q : Bool → Shared → Prop}
    (hQ : ∀ b h' L' es' ep' t', Heap.SameBut a s.heap h' → On P w h' a L' es' ep' t' → (k ∈ L.map (·.2) → L' = L) → (k ∉ L.map (·.2) → L'.Perm ((x, k) :: L)) → Q b { s with heap := h' }) :
    wpAny (model P w) A (setAddHashed a (.ref x) (tH P w k)) Q E s := by
  obtain ⟨o, ho, hex, hd⟩ := R.obj
  have size := R.size
  have room := R.room
  unfold setAddHashed
  refine wpAny_holding ?_
  rw [show (100000 : Nat) = 99999 + 1 from rfl, setAddHashedIn_succ]
  refine wpAny_bind (wpAny_setState_of ho hd R.fits (wp_if_neg (by simp [byScan, Value.scannable]) ?_))
  try refine wpAny_bind (wpAny_pure ?_)
  refine wpAny_bind (R.search hx hu (fun hm => wpAny_pure (hQ false _ L es ep t (Heap.SameBut.refl a s.heap) R (fun _ => rfl) fun z => absurd hm z)) fun K hm hK hb => ?_)
  refine wpAny_bind (wpAny_setState_of ho hd R.fits ?_)
  obtain ⟨q1, q2, q3, q4, q5, q6, q7, q8, q9⟩ := R.tab.put hK hb
  dsimp only
  generalize t.put (way t.mask (tH P w k) K) = pt at q1 q3 q4 q5 q9 ⊢
  obtain ⟨u, p⟩ := pt
  dsimp only at q1 q3 q4 q5 q9 ⊢
  subst q1
  obtain ⟨p, hp⟩ : ∃ p, SetTable.below t.place (way t.mask (tH P w k) K) = p := ⟨_, rfl⟩
  rw [hp] at q3 ⊢
  -- whatever the hash is made of
  suffices go : ∀ b : Bool, wpAny (model P w) A (do
      storeSet a (SetTable.insertAt es p (tH P w k, .ref x)) (if b = true then u else { u with plain := false })
      if (!false && (if b = true then u else { u with plain := false }).tooFull) = true then do
        setRelay a (SetTable.grown (es.size + 1))
        pure true
      else pure true) Q E s by
    by_cases up : u.plain = true
    · refine wp_if_pos up (wpAny_bind (byv_tup hx fun c => ?_))
      cases c
      · exact go false
      · exact go true
    · exact wp_if_neg up (wpAny_bind (wpAny_pure (go true)))
  intro b
  have T1 := tab_plain q3 b
  obtain ⟨v, hv⟩ : ∃ v, (if b = true then u else { u with plain := false }) = v := ⟨_, rfl⟩
  have m1 : v.mask = t.mask := by rw [← hv]; cases b <;> exact q4
  have l1 : v.led = t.led := by rw [← hv]; cases b <;> exact q5
  have f1 : v.fill = L.length + 1 := by rw [List.length_map] at q9; rw [← hv]; cases b <;> exact q9
  rw [hv] at T1 ⊢
  have rows1 : (SetTable.insertAt es p (tH P w k, Value.ref x)).toList = rowsT P w (L.take p ++ (x, k) :: L.drop p) := by
    rw [SetTable.toList_insertAt, R.ent]
    simp [rowsT]
  have pm := put_perm L p (x, k)
  have hashes : (L.take p ++ (x, k) :: L.drop p).map (fun p => tH P w p.2) = (L.map fun p => tH P w p.2).take p ++ tH P w k :: (L.map fun p => tH P w p.2).drop p := by simp
  rw [← hashes] at T1
  generalize SetTable.insertAt es p (tH P w k, Value.ref x) = es1 at rows1 ⊢
  generalize L.take p ++ (x, k) :: L.drop p = L1 at pm T1 rows1
  have len1 : L1.length = L.length + 1 := pm.length_eq
  have size1 : es1.size = L.length + 1 := by
    have q := congrArg List.length rows1
    rw [Array.length_toList] at q
    rw [q]
    simp [rowsT, len1]
  have uni1 : (L1.map (·.2)).Nodup := (pm.map (·.2)).nodup_iff.mpr (by rw [List.map_cons]; exact List.nodup_cons.mpr ⟨hm, R.uni⟩)
  refine wpAny_bind (wpAny_storeSet_of ho hd ?_ (by rw [size1, sizeLine_eq]; omega))
  have same : Heap.SameBut a s.heap (s.heap.update a (Obj.putSet es1 v)) := Heap.SameBut.update ..
  have ho1 := store_at (es' := es1) (t' := v) ho hd
  generalize s.heap.update a (Obj.putSet es1 v) = h1 at same ho1 ⊢
  have its1 : ∀ p ∈ L1, TAt P w h1 p.2 p.1 := fun p hp => by
    rcases List.mem_cons.mp (pm.mem_iff.mp hp) with rfl | hp
    · exact hx.beside ho hd same
    · exact (R.its p hp).beside ho hd same
  have led1 : w.params.followText "set-order" = true ∨ v.led = true := by rw [l1]; exact R.led
  have place1 : v.place.size = es1.size := by have q := T1.sz; rw [List.length_map, len1] at q; rw [q, size1]
  by_cases full : v.tooFull = true
  · refine wp_if_pos (by simp [full]) (wpAny_bind ?_)
    have hfull : (L.length + 1) * 5 ≥ v.mask * 3 := by
      unfold SetTable.tooFull at full
      rwa [decide_eq_true_eq, f1] at full
    have two : (t.mask = 7 ∧ L.length = 4) ∨ (t.mask = 31 ∧ L.length = 18) := by
      rw [m1] at hfull
      rcases R.tab.mok with e | e | e <;> rw [e] at hfull room
      · exact .inl ⟨e, by omega⟩
      · exact .inr ⟨e, by omega⟩
      · omega
    rw [size]
    have run : ∀ M, SetTable.sizeAbove (SetTable.grown (L.length + 1)) - 1 = M → MaskOk M → SetTable.sizeAbove (SetTable.grown (L.length + 1)) ≤ 128 → (L.length + 1) * 5 < M * 3 →
        wpAny (model P w) A (setRelay a (SetTable.grown (L.length + 1))) (fun _ s' => wpAny (model P w) A (pure true) Q E s') E { s with heap := h1 } := fun M e1 e2 e3 e4 =>
      relay (s := { s with heap := h1 }) ho1 ⟨hex.1, hex.2.1, hex.2.2⟩ rfl rows1 place1 T1.dm (by rw [size1, m1]; rcases two with ⟨e, e'⟩ | ⟨e, e'⟩ <;> omega) uni1 its1 led1 (by omega) e1 e2 e3 (by rw [len1]; exact e4)
        fun h2 L2 es2 ep2 t2 sb2 R2 pm2 => wpAny_pure (hQ true h2 L2 es2 ep2 t2 (same.trans sb2) R2 (fun z => absurd z hm) fun _ => pm2.trans pm)
    rcases two with ⟨_, e⟩ | ⟨_, e⟩
    · exact run 31 (by rw [e, size_20]) (.inr (.inl rfl)) (by rw [e, size_20]; decide) (by omega)
    · exact run 127 (by rw [e, size_76]) (.inr (.inr rfl)) (by rw [e, size_76]; decide) (by omega)
  · refine wp_if_neg (by simp [full]) (wpAny_pure (hQ true h1 L1 es1 (ep + 1) v same ⟨⟨_, ho1, ⟨hex.1, hex.2.1, hex.2.2⟩, rfl⟩, rows1, T1, uni1, its1, led1, ?_, by omega⟩ (fun z => absurd z hm) fun _ => pm))
    unfold SetTable.tooFull at full
    rw [decide_eq_true_eq, f1] at full
    omega
end
end DS

set_option Elab.async false
set_option linter.all false
set_option autoImplicit false
set_option maxRecDepth 100000
set_option maxHeartbeats 4000000
namespace DS
open PySem PySem.Spec PyProof.Rows L2
/-- a set that grows: J i says what it holds behind i items; h0's objects stand still -/
structure Grows (P : Program) (w : World) (S : Addr) (h0 : Heap) (Pv : Nat → Value → Prop) (J : Nat → Heap → Prop) : Prop where
  keep : ∀ i h h', J i h → (∀ o, h.get? S = some o → h'.get? S = some o) → (∀ b o, h0.get? b = some o → h'.get? b = some o) → J i h'
  step : ∀ (A : Around) i v (s : Shared) (E : Value → Shared → Prop) (Q : Bool → Shared → Prop), A.units < cLine → Pv i v → J i s.heap → (∀ b o, h0.get? b = some o → s.heap.get? b = some o) →
    (∀ b h' tk, s.toks ≤ tk → Heap.SameBut S s.heap h' → J (i + 1) h' → Q b { s with heap := h', toks := tk }) → wpAny (model P w) A (setAdd S v) Q E s
section
variable {P : Program} {w : World} {A : Around} {E : Value → Shared → Prop} {s : Shared}
/-- set.update's own loop -/
theorem update_runs {I : Addr} {fp wr : List Addr} {G : Array GenState → Array GenState → Prop} {n : Nat} {Pv : Nat → Value → Prop} {St : Nat → Shared → Prop} {R : Result → Shared → Prop} (W : WalksS P w A.in1 I fp wr G n Pv St) {S : Addr} (hS : S ∉ fp) {h0 : Heap} {J : Nat → Heap → Prop}
    (g : Grows P w S h0 Pv J) (hu : A.in1.units < cLine) (hS0 : h0.get? S = none) (hw0 : ∀ b ∈ wr, h0.get? b = none) : ∀ (m i : Nat) (s : Shared), i + m = n → St i s → (∀ b o, h0.get? b = some o → s.heap.get? b = some o) → J i s.heap →
      (∀ s', Moved (S :: wr) G s s' → J n s'.heap → (∀ b o, h0.get? b = some o → s'.heap.get? b = some o) → R (.ok (.ret .none)) s') → codeAny (model P w) A (.builtin "set.update.loop" ⟨[.ref S, .ref I], []⟩) R s := by
  have hSw : S ∉ wr := fun z => hS (W.sub _ z)
  have wide : ∀ b ∈ wr, b ∈ S :: wr := fun b hb => List.mem_cons_of_mem _ hb
  have old : ∀ {s s' : Shared}, Moved wr G s s' → (∀ b o, h0.get? b = some o → s.heap.get? b = some o) → ∀ b o, h0.get? b = some o → s'.heap.get? b = some o := fun mv k b o e => mv.heap b o (fun hb => by rw [hw0 b hb] at e; cases e) (k b o e)
  intro m
  induction m with
  | zero =>
    intro i s hi st k0 hJ hR
    obtain rfl : i = n := hi
    refine codeAny_builtin F.entry_set_update_loop ?_
    rw [Around.under_plainId F.plain_set_update_loop _]
    show wpAny _ A.in1 (pyNext (.ref I) >>= _) _ _ s
    exact wpAny_bind (W.done s _ _ st fun s' mv => wpAny_pure (hR s' (mv.mono wide) (g.keep _ _ _ hJ (fun o e => mv.heap S o hSw e) (old mv k0)) (old mv k0)))
  | succ m ih =>
    intro i s hi st k0 hJ hR
    refine codeAny_builtin F.entry_set_update_loop ?_
    rw [Around.under_plainId F.plain_set_update_loop _]
    show wpAny _ A.in1 (pyNext (.ref I) >>= _) _ _ s
    refine wpAny_bind (W.item i s _ _ (by omega) st fun v s' hv st' mv => ?_)
    have k1 := old mv k0
    have hJ1 := g.keep _ _ s'.heap hJ (fun o e => mv.heap S o hSw e) k1
    show wpAny _ A.in1 (holding [v] (setAdd S v) >>= _) _ _ s'
    refine wpAny_bind (wpAny_holding (g.step A.in1 i v s' _ _ hu hv hJ1 k1 fun b h' tk le same hJ2 => ?_))
    have off : ∀ b, b ≠ S → h'.get? b = s'.heap.get? b := fun b hb => same.2 b hb
    have k2 : ∀ b o, h0.get? b = some o → h'.get? b = some o := fun b o e => (off b fun z => by rw [z, hS0] at e; cases e).trans (k1 b o e)
    refine wpAny_pure ⟨plainId_quiet F.plain_set_update_loop _, ih (i + 1) _ (by omega) (W.frame _ s' _ _ st' le fun b hb o e => by rw [off b fun z => hS (z ▸ hb)]; exact e) k2 hJ2 fun s'' mv2 hJ3 k3 => ?_⟩
    exact hR s'' (Moved.trans W.gtrans ((mv.mono wide).then_heap le fun b o hb e => by rw [off b fun z => hb (by rw [z]; exact List.mem_cons_self)]; exact e) mv2) hJ3 k3
/-- an empty set, just made -/
abbrev newSetObj (w : World) : Obj := { cls := .type "set", dict := none, data := .set #[] 0 (.fresh 0 0 (!w.params.followText "set-order")) }
/-- set(xs) -/
theorem set_of_list {l : Addr} {items : Array Value} {J : Nat → Heap → Prop} {Q : Value → Shared → Prop} (hh : A.handled = none) (hl : s.heap.IsList l items) (hu : A.units + 3 < cLine)
    (g : Grows P w s.heap.objs.size s.heap (fun i v => items[i]? = some v) J) (h0 : ∀ h, h.get? s.heap.objs.size = some (newSetObj w) → (∀ b o, s.heap.get? b = some o → h.get? b = some o) → J 0 h)
    (hQ : ∀ (h' : Heap) (tk : Nat), J items.size h' → (∀ b o, s.heap.get? b = some o → h'.get? b = some o) → Q (.ref s.heap.objs.size) { s with heap := h', toks := tk }) :
    wpAny (model P w) A (call (.type "set") [.ref l]) Q E s := by
  obtain ⟨c, tl, mro⟩ := F.called_set.mro
  have made := F.called_set.made; have sub := F.called_set.sub
  refine wpAny_call (codeAny_of_tree ?_)
  show wpAny _ _ (callAny (.type "set") _) _ _ _
  refine wpAny_pure ⟨Code.quiet_builtin _ (by decide +kernel), codeAny_builtin F.entry_type_call ?_⟩
  rw [Around.under_plain (weight_type_call_type "set" [.ref l] []) rfl]
  have nt := F.called_set.notType; have cc := F.called_set.canCreate; have tc := F.typeCall_set_1 (.ref l)
  repeat (any_goals (first | assumption | wp_step))
  refine codeAny_mono (code_set_led1 (.ref l) (E := E) (Q₁ := fun obj s₁ => obj = .ref s.heap.objs.size ∧ s₁ = { s with heap := s.heap.push (newSetObj w) }) ⟨rfl, rfl⟩) fun r s₁ hr => ?_
  match r, hr with
  | .error e, hr => exact hr
  | .ok .next, hr => exact hr.elim
  | .ok .brk, hr => exact hr.elim
  | .ok .cont, hr => exact hr.elim
  | .ok (.ret obj), ⟨e1, e2⟩ =>
    subst e1; subst e2
    have at1 : (s.heap.push (newSetObj w)).get? s.heap.objs.size = some (newSetObj w) := Heap.get?_push_size _ rfl
    have ty : Shared.TypeIs { s with heap := s.heap.push (newSetObj w) } (.ref s.heap.objs.size) "set" := ⟨_, at1, rfl⟩
    have li := F.called_set.init.lookup; have bi := F.called_set.init.bind (.ref s.heap.objs.size)
    repeat (any_goals (first | assumption | wp_step))
    refine codeAny_mono (codeAny_call_builtin (R := wants (fun r s₂ => r = .none ∧ ∃ h' tk, s₂ = { s with heap := h', toks := tk } ∧ J items.size h' ∧ (∀ b o, s.heap.get? b = some o → h'.get? b = some o)) E) F.called_set.init.plain F.entry_set_init (check_set_init_1 ty ?_)) fun r₂ s₂ hr₂ => ?_
    · obtain ⟨ol, hol, hcl, nl, hdl⟩ := hl
      obtain ⟨ocls, odict, odata, oslots⟩ := ol
      simp only at hcl hdl
      subst hcl; subst hdl
      have lt : l < s.heap.objs.size := Heap.lt_size hol
      have hol1 : (s.heap.push (newSetObj w)).get? l = some { cls := .type "list", dict := odict, data := .seq items nl, slots := oslots } := Heap.get?_push_of_some _ hol
      have isl : (s.heap.push (newSetObj w)).IsList l items := ⟨_, hol1, rfl, nl, rfl⟩
      have f1 := F.sub_list_set; have f2 := F.sub_list_frozenset
      have ne : (Value.type "list" == Value.type "dict") = false := by decide
      unfold Builtin.«set.__init__» noKeywords Builtin.Frozenset.updateFrom
      generalize hPI : pyIter = PI
      wp_walk
      subst hPI
      refine wpAny_pyIter_list isl (wpAny_bind (wpAny_runValue ?_))
      have hd3 : A.in1.in1.in1.handled = none := by simp [hh]
      have sz1 : (s.heap.push (newSetObj w)).objs.size = s.heap.objs.size + 1 := Heap.size_push ..
      have absent : ∀ b, s.heap.objs.size ≤ b → s.heap.get? b = none := fun b hb => by
        cases q : s.heap.get? b with
        | none => rfl
        | some o => exact absurd (Nat.lt_of_lt_of_le (Heap.lt_size q) hb) (Nat.lt_irrefl _)
      refine update_runs ((Walks.list hd3 _ l (by rw [sz1]; exact Nat.ne_of_lt (Nat.lt_succ_of_lt lt)) items).toS) (S := s.heap.objs.size) ?_ g hu (absent _ (Nat.le_refl _)) (fun b hb => absent b (by rw [List.mem_singleton.mp hb, sz1]; exact Nat.le_succ _)) items.size 0 _ (Nat.zero_add _)
        ⟨⟨_, Heap.get?_push_size _ rfl, rfl, rfl⟩, isl.push _⟩ (fun b o e => Heap.get?_push_of_some _ (Heap.get?_push_of_some _ e)) (h0 _ (Heap.get?_push_of_some _ at1) fun b o e => Heap.get?_push_of_some _ (Heap.get?_push_of_some _ e)) fun s' mv j k => ?_
      · rw [sz1]; simp only [List.mem_cons, List.mem_singleton, List.not_mem_nil, or_false, not_or]
        exact ⟨Nat.ne_of_lt (Nat.lt_succ_self _), Nat.ne_of_gt lt⟩
      · obtain ⟨h', g2, d', tk', os'⟩ := s'
        obtain rfl : g2 = s.gens := mv.gens
        obtain rfl : d' = s.drawn := mv.drawn
        obtain rfl : os' = s.os := mv.os
        show wpAny _ _ _ _ _ _
        refine wpAny_pure ?_
        show wpAny _ _ (ret Value.none) _ _ _
        exact wpAny_pure ⟨rfl, h', tk', rfl, j, k⟩
    · match r₂, hr₂ with
      | .error e, hr₂ => exact hr₂
      | .ok .next, hr₂ => exact hr₂.elim
      | .ok .brk, hr₂ => exact hr₂.elim
      | .ok .cont, hr₂ => exact hr₂.elim
      | .ok (.ret r), ⟨e1, h', tk, e2, j, k⟩ =>
        subst e1; subst e2
        repeat (any_goals (first | assumption | wp_step))
        exact hQ _ _ j k
end
end DS

set_option Elab.async false
set_option linter.all false
set_option autoImplicit false
set_option maxRecDepth 100000
set_option maxHeartbeats 4000000
namespace DS
open PySem PySem.Spec PyProof.Rows L2
open PySem.W (EachIs AllAlike Sortable dataLe)
section
variable {α β : Type} {R : α → β → Prop}
theorem EachIs.turn {as as' : List α} (p : as'.Perm as) : ∀ {bs : List β}, EachIs R as bs → ∃ bs', bs'.Perm bs ∧ EachIs R as' bs' := by
  induction p with
  | nil => exact fun {bs} e => ⟨bs, .refl _, e⟩
  | cons x _ ih =>
    intro bs e
    cases e with
    | cons h r => obtain ⟨b', p', e'⟩ := ih r; exact ⟨_, p'.cons _, .cons h e'⟩
  | swap x y l =>
    intro bs e
    cases e with
    | cons h r => cases r with
      | cons h2 r2 => exact ⟨_, .swap .., .cons h2 (.cons h r2)⟩
  | trans _ _ ih1 ih2 =>
    intro bs e
    obtain ⟨b1, p1, e1⟩ := ih2 e
    obtain ⟨b2, p2, e2⟩ := ih1 e1
    exact ⟨b2, p2.trans p1, e2⟩
theorem EachIs.both {R' : α → β → Prop} : ∀ {as : List α} {bs : List β}, EachIs R as bs → EachIs R' as bs → EachIs (fun a b => R a b ∧ R' a b) as bs
  | _, _, .nil, _ => .nil
  | _, _, .cons h r, .cons h' r' => .cons ⟨h, h'⟩ (EachIs.both r r')
end
section
variable {P : Program} {w : World} {A : Around} {E : Value → Shared → Prop} {s : Shared} {β : Type}
/-- list.sort of a list made just now, its items data that stood before -/
theorem sort_fresh {vs : List Value} {bs : List β} {enc : β → PyData} {R : Value → β → Prop} {Q : Value → Shared → Prop} (e : EachIs R vs bs) (er : EachIs (fun v b => ∃ as, Reads s.heap v (enc b) as) vs bs) (hal : AllAlike (bs.map enc)) (hk : Sortable (bs.map enc)) (hL : bs.length ≤ sizeLine)
    (hu : ∀ b ∈ bs, A.units + 1 + (enc b).depth < cLine)
    (h : ∀ out, EachIs R out (bs.mergeSort (dataLe false enc)) → Q .none { s with heap := sortedHeap (s.heap.push (seqObj "list" vs.toArray 0)) s.heap.objs.size vs (List.toArray out) }) :
    wpAny (model P w) A (call (.builtin "list.sort") [.ref s.heap.objs.size]) Q E { s with heap := s.heap.push (seqObj "list" vs.toArray 0) } := by
  have ho : (s.heap.push (seqObj "list" vs.toArray 0)).get? s.heap.objs.size = some (seqObj "list" vs.toArray 0) := Heap.get?_push_size _ rfl
  have er' : EachIs (fun v d => ∃ as, Reads (PySem.W.sortingHeap (s.heap.push (seqObj "list" vs.toArray 0)) s.heap.objs.size vs) v d as) vs (bs.map enc) := PySem.W.each_map (R := fun v d => ∃ as, Reads (PySem.W.sortingHeap (s.heap.push (seqObj "list" vs.toArray 0)) s.heap.objs.size vs) v d as) enc
    (er.mono fun _ _ ⟨as, r⟩ => ⟨as, PyProof.Rows.Reads.keeps (fun b o q => PySem.W.sortingHeap_old (Nat.ne_of_lt (Heap.lt_size q)) (Heap.get?_push_of_some _ q)) r⟩)
  refine wpAny_call_entry slot_list_sort ⟨_, ho, rfl⟩ entry_list_sort (PySem.W.list_sort_vals (κ := PySem.W.dataKind (PySem.W.sortingHeap (s.heap.push (seqObj "list" vs.toArray 0)) s.heap.objs.size vs) (bs.map enc)) ho ?_ (by rw [e.length]; exact hL) ⟨.none, rfl, ?_⟩) (args_list_sort _)
  · exact PySem.W.SortsAt.data (s := { s with heap := PySem.W.sortingHeap (s.heap.push (seqObj "list" vs.toArray 0)) s.heap.objs.size vs }) er' hal hk fun d hd => by
      obtain ⟨b, hb, rfl⟩ := List.mem_map.mp hd
      exact hu b hb
  · refine h _ (PySem.W.sortVals_data false e ?_ hal)
    exact er.mono fun _ _ ⟨as, r⟩ => ⟨as, PyProof.Rows.Reads.keeps (fun b o q => PySem.W.sortingHeap_old (Nat.ne_of_lt (Heap.lt_size q)) (Heap.get?_push_of_some _ q)) r⟩
/-- sorted of a set whose members read as data -/
theorem sorted_of_set {a : Addr} {es : Array (Int × Value)} {ep : Nat} {t : SetTable} {bs : List β} {enc : β → PyData} {R : Value → β → Prop} {Q : Value → Shared → Prop} (hh : A.handled = none) (ha : SetAt s.heap a es ep t) (hf : t.fits es.size = true) (few : es.size < scanBound) (ris : Ris t.place.toList)
    (led : w.params.followText "set-order" = true ∨ t.led = true) (e : EachIs R (es.toList.map (·.2)) bs) (er : EachIs (fun v b => ∃ as, Reads s.heap v (enc b) as) (es.toList.map (·.2)) bs) (hal : AllAlike (bs.map enc)) (hk : Sortable (bs.map enc))
    (hu : ∀ b ∈ bs, A.units + 2 + (enc b).depth < cLine)
    (hQ : ∀ s' p (out : List Value) (c : Nat) bs', (∀ b o, s.heap.get? b = some o → s'.heap.get? b = some o) → s'.gens = s.gens → s'.os = s.os → s.heap.objs.size ≤ p → s'.heap.get? p = some (seqObj "list" out.toArray c) →
      bs'.Perm bs → bs'.Pairwise (fun x y => dataLe false enc x y = true) → EachIs R out bs' → Q (.ref p) s') : wpAny (model P w) A (call (.builtin "sorted") [.ref a]) Q E s := by
  refine Calls.call_function_entry kind_sorted plain_sorted entry_sorted (args_sorted1 _) ?_
  unfold Builtin.«sorted»
  refine wpAny_bind (m := checkCount "sorted" 1 1 _) (wpAny_pure (wpAny_bind (collect_set (A := A.in1) hh ha hf few ris led fun s1 vs k1 sz g1 o1 pm => ?_)))
  obtain ⟨cs, pc, each⟩ := EachIs.turn pm (EachIs.both e er)
  have lv : vs.length = cs.length := each.length
  have lc : cs.length = es.size := by rw [pc.length_eq, ← e.length, List.length_map, Array.length_toList]
  have mem : ∀ c ∈ cs, c ∈ bs := fun c hc => pc.mem_iff.mp hc
  have sub : ∀ d ∈ cs.map enc, d ∈ bs.map enc := fun d hd => by
    obtain ⟨b, hb, rfl⟩ := List.mem_map.mp hd
    exact List.mem_map.mpr ⟨b, mem b hb, rfl⟩
  have small : cs.length ≤ sizeLine := by rw [lc, sizeLine_eq]; unfold scanBound at few; omega
  refine wpAny_bind (wpAny_newList (wpAny_bind (wpAny_holding (sort_fresh (s := s1) (enc := enc) (R := R) (each.mono fun _ _ q => q.1) (each.mono fun _ _ ⟨_, as, r⟩ => ⟨as, PyProof.Rows.Reads.keeps k1 r⟩) (fun d hd d' hd' => hal d (sub d hd) d' (sub d' hd'))
    (hk.imp (fun z d hd => z d (sub d hd)) fun z d hd => z d (sub d hd)) small (fun b hb => hu b (mem b hb)) fun out ho => ?_))) (by rw [lv]; exact small))
  obtain ⟨c, hc⟩ := sortedHeap_at (h := s1.heap.push (seqObj "list" vs.toArray 0)) (out := List.toArray out) (vs := vs) (Heap.get?_push_size _ rfl)
  refine wpAny_pure ⟨_, rfl, hQ _ s1.heap.objs.size out c (cs.mergeSort (dataLe false enc)) (fun b u q => ?_) g1 o1 sz hc ((List.mergeSort_perm _ _).trans pc) ?_ ho⟩
  · have q1 := k1 b u q
    have lt := Heap.lt_size q1
    show (sortedHeap (s1.heap.push (seqObj "list" vs.toArray 0)) s1.heap.objs.size vs (List.toArray out)).get? b = some u
    rw [sortedHeap_old (Nat.ne_of_lt lt) (by rw [size_push']; exact Nat.lt_succ_of_lt lt)]
    exact Heap.get?_push_of_some _ q1
  · exact PySem.W.sort_pairwise (PySem.W.sortLe_total _ _ _) cs
end
end DS

set_option Elab.async false
set_option linter.all false
set_option autoImplicit false
set_option maxRecDepth 100000
set_option maxHeartbeats 4000000
/-! Sets that grow: of tuples, of ints. -/
namespace DS
open PySem PySem.Spec PyProof.Rows L2
section
variable {P : Program} {w : World}
/-- what the set has of the first i of ks -/
structure Has {α κ : Type} (ks : List (α × κ)) (i : Nat) (L : List (α × κ)) : Prop where
  sub : ∀ p ∈ L, p ∈ ks.take i
  all : ∀ p ∈ ks.take i, p.2 ∈ L.map (·.2)
  len : L.length ≤ i
theorem Has.zero {α κ : Type} (ks : List (α × κ)) : Has ks 0 [] := ⟨fun _ h => (by cases h), fun _ h => (by simp at h), Nat.le_refl _⟩
theorem Has.next {α κ : Type} {ks L L' : List (α × κ)} {i : Nat} {x : α × κ} (g : Has ks i L) (h : ks[i]? = some x) (c : (x.2 ∈ L.map (·.2) ∧ L' = L) ∨ L'.Perm (x :: L)) : Has ks (i + 1) L' := by
  have e : ks.take (i + 1) = ks.take i ++ [x] := by rw [List.take_succ, h]; rfl
  rcases c with ⟨hm, rfl⟩ | pm
  · refine ⟨fun p hp => by rw [e]; exact List.mem_append_left _ (g.sub p hp), fun p hp => ?_, Nat.le_succ_of_le g.len⟩
    rw [e] at hp
    rcases List.mem_append.mp hp with z | z
    · exact g.all p z
    · rw [List.mem_singleton.mp z]; exact hm
  · refine ⟨fun p hp => ?_, fun p hp => ?_, by rw [pm.length_eq]; exact Nat.succ_le_succ g.len⟩
    · rw [e]
      rcases List.mem_cons.mp (pm.mem_iff.mp hp) with rfl | z
      · exact List.mem_append_right _ (List.mem_singleton.mpr rfl)
      · exact List.mem_append_left _ (g.sub p z)
    · rw [(pm.map (·.2)).mem_iff, List.map_cons]
      rw [e] at hp
      rcases List.mem_append.mp hp with z | z
      · exact List.mem_cons_of_mem _ (g.all p z)
      · rw [List.mem_singleton.mp z]; exact List.mem_cons_self
def JT (P : Program) (w : World) (S : Addr) (ks : List (Addr × TKey)) (i : Nat) (h : Heap) : Prop := ∃ L es ep t, On P w h S L es ep t ∧ Has ks i L
theorem grows_tup {S : Addr} {h0 : Heap} {ks : List (Addr × TKey)} (hk : ∀ p ∈ ks, TAt P w h0 p.2 p.1) (few : ks.length < 64) : Grows P w S h0 (fun i v => ∃ p, ks[i]? = some p ∧ v = .ref p.1) (JT P w S ks) where
  keep := fun i h h' ⟨L, es, ep, t, R, g⟩ hS h0' => ⟨L, es, ep, t, R.keep hS fun p hp => (hk p (List.mem_of_mem_take (g.sub p hp))).keep h0', g⟩
  step := fun A i v s E Q hu ⟨p, hp, hv⟩ ⟨L, es, ep, t, R, g⟩ k0 hQ => by
    subst hv
    have hx := (hk p (List.mem_of_getElem? hp)).keep k0
    have hi : i < ks.length := (List.getElem?_eq_some_iff.mp hp).1
    unfold setAdd
    refine wpAny_holding (wpAny_bind (wpAny_pyHash_tuple hu hx ?_))
    have R' : On P w ({ s with toks := s.toks + (p.2.length + 1) } : Shared).heap S L es ep t := R
    refine R'.add hx hu (by have := g.len; omega) fun b h' L' es' ep' t' same R2 c1 c2 => hQ b h' _ (Nat.le_add_right _ _) same ⟨L', es', ep', t', R2, g.next hp ?_⟩
    rcases Classical.em (p.2 ∈ L.map (·.2)) with c | c
    · exact .inl ⟨c, c1 c⟩
    · exact .inr (c2 c)
theorem fresh_tup {S : Addr} {h : Heap} {ks : List (Addr × TKey)} (ho : h.get? S = some (newSetObj w)) : JT P w S ks 0 h := by
  refine ⟨[], #[], 0, _, ⟨⟨_, ho, ⟨rfl, rfl, rfl⟩, rfl⟩, rfl, ⟨List.Pairwise.nil, rfl, rfl, .inl rfl, fun _ h => (by cases h), fun i h j hi => (by simp at hi)⟩, List.nodup_nil, fun _ h => (by cases h), ?_, by show 0 * 5 < 7 * 3; decide, by decide⟩, Has.zero ks⟩
  show _ ∨ (!w.params.followText "set-order") = true
  cases w.params.followText "set-order"
  · exact .inr rfl
  · exact .inl rfl
def JI (w : World) (S : Addr) (ns : List Int) (i : Nat) (h : Heap) : Prop := ∃ n, n ≤ i ∧ SetR w h S (fun k => decide (k ∈ ns.take i)) n
theorem grows_int {S : Addr} {h0 : Heap} {ns : List Int} (few : ns.length < 64) : Grows P w S h0 (fun i v => ∃ k t, ns[i]? = some k ∧ v = .int k t) (JI w S ns) where
  keep := fun i h h' ⟨n, hn, R⟩ hS _ => ⟨n, hn, R.at hS⟩
  step := fun A i v s E Q hu ⟨k, t, hk, hv⟩ ⟨n, hn, R⟩ k0 hQ => by
    subst hv
    have hi : i < ns.length := (List.getElem?_eq_some_iff.mp hk).1
    unfold setAdd
    refine wpAny_holding (wpAny_bind (wpAny_pyHash_int ?_))
    have R' : SetR w ({ s with toks := s.toks + 1 } : Shared).heap S (fun k => decide (k ∈ ns.take i)) n := R
    refine setR_add_hashed (P := P) R' (by unfold scanBound; omega) fun h' same R2 => hQ _ h' _ (Nat.le_add_right _ _) same ⟨_, ?_, R2.congr fun j => ?_⟩
    · split <;> omega
    · rw [List.take_succ, hk]
      show decide (j ∈ ns.take i ++ [k]) = _
      simp [List.mem_append]
theorem fresh_int {S : Addr} {h : Heap} {ns : List Int} (ho : h.get? S = some (newSetObj w)) : JI w S ns 0 h := by
  refine ⟨0, Nat.le_refl _, _, #[], 0, _, ho, ⟨rfl, rfl, rfl⟩, rfl, fun _ h => (by cases h), List.nodup_nil, fun k => by simp, by decide, rfl, rfl, List.Pairwise.nil, ?_⟩
  show _ ∨ (!w.params.followText "set-order") = true
  cases w.params.followText "set-order"
  · exact .inr rfl
  · exact .inl rfl
end
end DS

set_option Elab.async false
set_option linter.all false
set_option autoImplicit false
set_option maxRecDepth 100000
set_option maxHeartbeats 4000000
namespace DL
open PySem PySem.Spec PyProof.Rows L2
open Evl (Ex)
open PySem.W (EachIs AllAlike Sortable dataLe)
/-! ### sorted(set(xs)), sorted({.. for ..}) -/
def keyD : Key → D
  | .inl i => .int i
  | .inr x => .str x
def tupK (k : List Key) : D := .tup (k.map keyD)
theorem keyD_inj {a b : Key} (h : keyD a = keyD b) : a = b := by
  cases a <;> cases b <;> simp [keyD] at h <;> rw [h]
theorem tupK_inj {a b : List Key} (h : tupK a = tupK b) : a = b := by
  unfold tupK at h
  injection h with h
  exact (List.map_inj_right fun x y => keyD_inj).mp h
def SetOk (es : List D) : Prop := es.length < 64 ∧ SortOk es ∧ ((∃ ns : List Int, es = ns.map .int) ∨ ∃ ks : List (List Key), es = ks.map tupK)
def sortedSetP (es : List D) (s : S) (P : List D → S → Prop) : Prop := ∀ ys : List D, ys.Nodup → (∀ d, d ∈ ys ↔ d ∈ es) → ys.Pairwise (fun x y => leD x y = true) → P ys s
def wSortSet (w : WE) : WA := fun δ s P => w δ s fun d s1 => match view s1 d with
  | .lst es => SetOk es ∧ sortedSetP es s1 P
  | _ => False
section
variable {K : PySem.W.Frag} {G : Hp}
theorem keyed : ∀ {kk : List (List Key)} {xs : List V}, RepL K G (kk.map tupK) xs → ∃ ks : List (Addr × List Key), ks.map (·.2) = kk ∧ xs = ks.map (fun p => V.ref p.1) ∧ ∀ p ∈ ks, Rep K G (tupK p.2) (.ref p.1)
  | [], _, .nil => ⟨[], rfl, rfl, fun _ h => nomatch h⟩
  | k :: kk, _, .cons h r => by
    obtain ⟨ks, e1, e2, e3⟩ := keyed r
    obtain ⟨a, xs, rfl, _, _⟩ := Rep.seqT h (.inl rfl)
    exact ⟨(a, k) :: ks, by rw [List.map_cons, e1], by rw [List.map_cons, e2], fun p hp => by rcases List.mem_cons.mp hp with rfl | hp; exact h; exact e3 p hp⟩
theorem items_keys {P : Program} {w : World} : ∀ {k : List Key} {vs : List V} {us : List Value}, RepL K G (k.map keyD) vs → Vals vs us → ItemsAre (mixKind P w) k us
  | [], _, _, .nil, .nil => .nil
  | .inl i :: k, _, _, .cons h r, .cons hv rv => by
    cases h
    obtain ⟨t, rfl⟩ := hv
    exact .cons (mixKind_int P w i t) (items_keys r rv)
  | .inr x :: k, _, _, .cons h r, .cons hv rv => by
    cases h
    obtain ⟨t, rfl⟩ := hv
    exact .cons (mixKind_str P w x t) (items_keys r rv)
theorem vals_refs {α : Type} : ∀ {ks : List (Addr × α)} {us : List Value}, Vals (ks.map fun p => V.ref p.1) us → us = ks.map fun p => Value.ref p.1
  | [], _, .nil => rfl
  | p :: ks, _, .cons r t => by
    cases r
    rw [vals_refs t]; rfl
theorem ints_at : ∀ {ns : List Int} {us : List Value}, Vals (ns.map V.int) us → ∀ {i : Nat} {v : Value}, us[i]? = some v → ∃ k t, ns[i]? = some k ∧ v = Value.int k t
  | [], _, .nil, i, v, h => by cases i <;> cases h
  | n :: ns, _, .cons r t, 0, v, h => by
    obtain ⟨tk, e⟩ := r
    cases h
    exact ⟨n, tk, rfl, e⟩
  | n :: ns, _, .cons r t, i + 1, v, h => ints_at t (i := i) h
end
section
variable {X : Cx}
theorem tat_of {pins : List (Addr × Obj)} {σ : L2.St} {H G : Hp} {s : Shared} (I : L2.Inv X pins σ H s) (ex : Ex G H) {a : Addr} {k : List Key} (r : Rep X.K G (tupK k) (.ref a)) : DS.TAt X.prog X.w s.heap k a := by
  obtain ⟨b, xs, e, h, r2⟩ := Rep.seqT r (.inl rfl)
  cases e
  obtain ⟨its, rv, ⟨o, ho, hc, n, hd⟩, _⟩ := I.tuple (ex_t ex h)
  exact ⟨o, its.toArray, n, ho, hc, hd, by simpa using items_keys r2 rv⟩
/-- what sorted makes of a set, as the layer sees it -/
theorem sorted_set_end {pins : List (Addr × Obj)} {σ : L2.St} {H F G : Hp} {s s' : Shared} {sd : S} {bs' : List D} {P : List D → S → Prop} {Q : VK} {p : Addr} {out : List Value} {c : Nat} (I : L2.Inv X pins σ H s) (o : Own X.K F sd G H) (q : RetL X.K F G P Q)
    (k : ∀ b o, s.heap.get? b = some o → s'.heap.get? b = some o) (gg : s'.gens = s.gens) (os : s'.os = s.os) (hp : s.heap.objs.size ≤ p) (hl : s'.heap.get? p = some (seqObj "list" out.toArray c)) (few : bs'.length ≤ sizeLine) (e : EachIs (AtD X.K G) out bs') (h : P bs' sd) :
    EP X pins σ Q (.ref p) s' := by
  obtain ⟨zs, z1, z2⟩ := each_back e
  have hn : H p = none := I.hok.fresh hp
  have hz : zs.length ≤ sizeLine := by rw [← z1.length]; exact few
  have J : L2.Inv X pins σ (upd H p (.lst zs)) { s with heap := s'.heap, gens := s'.gens, drawn := s'.drawn, toks := s'.toks } :=
    I.call (ch := []) (Un.laid k hp hn) (I.hok.laid k hp ⟨hz, out, c, z2, hl⟩) (by rw [gg]; exact I.bare) (fun _ z => nomatch z)
  have eq : s' = { s with heap := s'.heap, gens := s'.gens, drawn := s'.drawn, toks := s'.toks } := by
    cases s'; cases s; cases os; rfl
  rw [eq]
  exact ⟨.ref p, _, J, rfl, q _ sd h G H p zs (Ex.refl G) o hn z1⟩
theorem each_refs {α : Type} {f : α → D} {ad : α → Addr} {K : PySem.W.Frag} {G : Hp} : ∀ {l : List α}, (∀ p ∈ l, Rep K G (f p) (.ref (ad p))) → EachIs (AtD K G) (l.map fun p => Value.ref (ad p)) (l.map f)
  | [], _ => .nil
  | p :: l, h => .cons ⟨.ref (ad p), rfl, h p List.mem_cons_self⟩ (each_refs fun q hq => h q (List.mem_cons_of_mem _ hq))
theorem reads_of {pins : List (Addr × Obj)} {σ : L2.St} {H G : Hp} {s : Shared} (I : L2.Inv X pins σ H s) (ex : Ex G H) : ∀ {ds : List D} {us : List Value}, EachIs (AtD X.K G) us ds → (∀ d ∈ ds, d.isData = true) → EachIs (fun v b => ∃ as, Reads s.heap v b.py as) us ds
  | _, _, .nil, _ => .nil
  | _, _, .cons ⟨x, hx, rx⟩ r, hd => .cons (Dp.reads I _ _ _ ((rx.mono ex).dp (hd _ List.mem_cons_self)) hx) (reads_of I ex r fun d h => hd d (List.mem_cons_of_mem _ h))
/-- sorted(S), S's members the data bs, each of them an item of es, each item among them -/
theorem sorted_set_run {pins : List (Addr × Obj)} {σ : L2.St} {H F G : Hp} {s : Shared} {sd : S} {es bs : List D} {P : List D → S → Prop} {Q : VK} {a : Addr} {rows : Array (Int × Value)} {ep : Nat} {t : SetTable} (hc : X.calm = true) (hu : X.A.units + 64 < cLine) (I : L2.Inv X pins σ H s) (o : Own X.K F sd G H) (q : RetL X.K F G P Q)
    (ok : SortOk es) (hP : sortedSetP es sd P) (ha : SetAt s.heap a rows ep t) (hf : t.fits rows.size = true) (few : rows.size < 64) (ris : Ris t.place.toList) (led : X.w.params.followText "set-order" = true ∨ t.led = true)
    (e : EachIs (AtD X.K G) (rows.toList.map (·.2)) bs) (nd : bs.Nodup) (mem : ∀ d, d ∈ bs ↔ d ∈ es) : wpAny (model X.prog X.w) X.A (call (.builtin "sorted") [.ref a]) (EP X pins σ Q) X.xe s := by
  have sub : ∀ d ∈ bs.map D.py, d ∈ es.map D.py := fun d hd => by
    obtain ⟨b, hb, rfl⟩ := List.mem_map.mp hd
    exact List.mem_map.mpr ⟨b, (mem b).mp hb, rfl⟩
  have hal : AllAlike (bs.map D.py) := fun d hd d' hd' => ok.1 d (sub d hd) d' (sub d' hd')
  have hk : Sortable (bs.map D.py) := ok.2.1.imp (fun z d hd => z d (sub d hd)) fun z d hd => z d (sub d hd)
  refine DS.sorted_of_set (enc := D.py) (R := AtD X.K G) (I.ok.hd hc) ha hf (by unfold scanBound; omega) ris led e (reads_of I o.ex e fun d hd => (ok.2.2 d ((mem d).mp hd)).1) hal hk (fun b hb => by have := (ok.2.2 b ((mem b).mp hb)).2; unfold D.depth at this; omega)
    fun s' p out c bs' k g os hp hl pm pw each => sorted_set_end (c := c) I o q k g os hp (by simpa using hl) ?_ each (hP bs' (pm.nodup_iff.mpr nd) (fun d => pm.mem_iff.trans (mem d)) pw)
  rw [pm.length_eq, ← e.length, List.length_map, Array.length_toList, sizeLine_eq]; omega
theorem set_tups {pins : List (Addr × Obj)} {σ : L2.St} {H F G : Hp} {s : Shared} {sd : S} {ks : List (Addr × List Key)} {P : List D → S → Prop} {Q : VK} {a : Addr} (hc : X.calm = true) (hu : X.A.units + 64 < cLine) (I : L2.Inv X pins σ H s) (o : Own X.K F sd G H) (q : RetL X.K F G P Q)
    (ok : SortOk (ks.map fun p => tupK p.2)) (hP : sortedSetP (ks.map fun p => tupK p.2) sd P) (hks : ∀ p ∈ ks, Rep X.K G (tupK p.2) (.ref p.1)) (J : DS.JT X.prog X.w a ks ks.length s.heap) : wpAny (model X.prog X.w) X.A (call (.builtin "sorted") [.ref a]) (EP X pins σ Q) X.xe s := by
  obtain ⟨L, es, ep, t, R, g⟩ := J
  obtain ⟨ob, h1, h2, h3⟩ := R.obj
  have sub : ∀ p ∈ L, p ∈ ks := fun p hp => List.mem_of_mem_take (g.sub p hp)
  have rows : es.toList.map (·.2) = L.map fun p => Value.ref p.1 := by rw [R.ent]; unfold DS.rowsT; rw [List.map_map]; rfl
  refine sorted_set_run (es := ks.map fun p => tupK p.2) (bs := L.map fun p => tupK p.2) hc hu I o q ok hP ⟨ob, h1, h2.1, h3⟩ R.fits (by rw [R.size]; exact R.few) R.tab.ris R.led (by rw [rows]; exact each_refs fun p hp => hks p (sub p hp)) ?_ fun d => ⟨fun h => ?_, fun h => ?_⟩
  · have e : (L.map fun p => tupK p.2) = (L.map (·.2)).map tupK := by rw [List.map_map]; rfl
    rw [e]
    exact List.pairwise_map.mpr (R.uni.imp fun hne e => hne (tupK_inj e))
  · obtain ⟨p, hp, rfl⟩ := List.mem_map.mp h
    exact List.mem_map.mpr ⟨p, sub p hp, rfl⟩
  · obtain ⟨p, hp, rfl⟩ := List.mem_map.mp h
    obtain ⟨p2, hp2, e2⟩ := List.mem_map.mp (g.all p (by rw [List.take_length]; exact hp))
    exact List.mem_map.mpr ⟨p2, hp2, by rw [e2]⟩
theorem set_ints {pins : List (Addr × Obj)} {σ : L2.St} {H F G : Hp} {s : Shared} {sd : S} {ns : List Int} {P : List D → S → Prop} {Q : VK} {a : Addr} (hc : X.calm = true) (hu : X.A.units + 64 < cLine) (I : L2.Inv X pins σ H s) (o : Own X.K F sd G H) (q : RetL X.K F G P Q)
    (ok : SortOk (ns.map D.int)) (few : ns.length < 64) (hP : sortedSetP (ns.map D.int) sd P) (J : DS.JI X.w a ns ns.length s.heap) : wpAny (model X.prog X.w) X.A (call (.builtin "sorted") [.ref a]) (EP X pins σ Q) X.xe s := by
  obtain ⟨n, hn, ob, es, ep, t, h1, h2, h3, good, nd, mem, sb, fits, size, ris, led⟩ := J
  have each : ∀ l : List (Int × Value), (∀ e ∈ l, GoodE e) → EachIs (AtD X.K G) (l.map (·.2)) ((l.map keyOf).map D.int) := by
    intro l
    induction l with
    | nil => exact fun _ => .nil
    | cons e l ih =>
      intro h
      obtain ⟨k, tk, e1, _⟩ := h e List.mem_cons_self
      refine .cons ⟨.int (keyOf e), ?_, .int _⟩ (ih fun x hx => h x (List.mem_cons_of_mem _ hx))
      show RelV (V.int (keyOf e)) e.2
      unfold keyOf; rw [e1]; exact ⟨tk, rfl⟩
  refine sorted_set_run (es := ns.map D.int) (bs := (es.toList.map keyOf).map D.int) hc hu I o q ok hP ⟨ob, h1, h2.1, h3⟩ fits (by omega) ris led (each _ good) ?_ fun d => ?_
  · exact List.pairwise_map.mpr (nd.imp fun hne e => hne (by injection e))
  · constructor
    · intro h
      obtain ⟨k, hk, rfl⟩ := List.mem_map.mp h
      have := (mem k).mpr hk
      rw [List.take_length, decide_eq_true_eq] at this
      exact List.mem_map.mpr ⟨k, this, rfl⟩
    · intro h
      obtain ⟨k, hk, rfl⟩ := List.mem_map.mp h
      exact List.mem_map.mpr ⟨k, (mem k).mp (by rw [List.take_length, decide_eq_true_eq]; exact hk), rfl⟩
variable {a : Expr} {p p2 pos q : Pos} {w : WE}
def okSortSet (d : D) (s : S) (P : List D → S → Prop) : Prop := match view s d with
  | .lst es => SetOk es ∧ sortedSetP es s P
  | _ => False
def tSortSet (K : PySem.W.Frag) (w : WE) : TE := fun σ H Q => lE K w σ H fun x H1 => ∃ F G s1 d P, Own K F s1 G H1 ∧ Rep K G d x ∧ okSortSet d s1 P ∧ RetL K F G P Q
theorem pe_sortSet (hc : X.calm = true) (hu : X.A.units + 64 < cLine) (hg : Gl X "sorted") (hm : X.mg "sorted" = none) (hg2 : Gl X "set") (hm2 : X.mg "set" = none) (ha : DE X a w)
    (na : starEach [a] X.env = (false, eval a X.env) :: starEach [] X.env := by rfl) : PE X (.Call (.Name "sorted" p) [.Call (.Name "set" p2) [a] [] q] [] pos) (tSortSet X.K w) := by
  refine ⟨fun pins s σ H Q I h => ?_⟩
  refine Call_ (ld_blt I hg hm bb_sorted ?_)
  refine PyProof.Rows.callWith_builtin1 (PyProof.Rows.args_cons ?_ rfl) rfl rfl
  refine Call_ (ld_blt I hg2 hm2 PyProof.Rows.boot_set ?_)
  refine PyProof.Rows.callWith_type1 (PyProof.Rows.args_cons (thn (ha.run pins s σ H _ I h) fun v s1 ⟨x, H1, I1, r1, q1⟩ => PyProof.Rows.args_nil ?_) na) na rfl
  obtain ⟨F, G, sd, d, P, o, rd, hw, ret⟩ := q1
  unfold okSortSet at hw
  split at hw <;> first | exact hw.elim | skip
  rename_i es hv
  obtain ⟨l, xs, rfl, hl, rl⟩ := o.seqL rd hv
  cases r1
  obtain ⟨its, rv, pl, hz⟩ := I1.list (.of hl)
  obtain ⟨⟨few, ok, kinds⟩, hP⟩ := hw
  have lits : its.length = es.length := by rw [← rv.length, ← rl.length]
  rcases kinds with ⟨ns, rfl⟩ | ⟨kk, rfl⟩
  · have e := rl.intsV
    subst e
    rw [List.length_map] at few lits
    have hi : ∀ (i : Nat) (v : Value), its.toArray[i]? = some v → ∃ k t, ns[i]? = some k ∧ v = Value.int k t := fun i v hv => by
      have hv : its[i]? = some v := by simpa using hv
      exact ints_at rv hv
    refine DS.set_of_list (J := DS.JI X.w s1.heap.objs.size ns) (I1.ok.hd hc) pl.isList (by omega) ⟨(DS.grows_int few (P := X.prog)).keep, fun A i v s E Q hu hv => (DS.grows_int few).step A i v s E Q hu (hi i v hv)⟩ (fun h e _ => DS.fresh_int e) fun h' tk J k => ?_
    refine PyProof.Rows.args_nil ?_
    rw [show its.toArray.size = ns.length by simpa using lits] at J
    have I2 : L2.Inv X pins σ H1 { s1 with heap := h', toks := tk } := I1.kept (t' := tk) k
    exact set_ints hc hu I2 o ret ok few hP J
  · obtain ⟨ks, e1, e2, e3⟩ := keyed rl
    subst e2
    rw [← e1, List.map_map] at ok hP
    rw [← e1, List.length_map, List.length_map] at few lits
    have ev := vals_refs rv
    subst ev
    have hi : ∀ (i : Nat) (v : Value), (ks.map fun p => Value.ref p.1).toArray[i]? = some v → ∃ p : Addr × List Key, ks[i]? = some p ∧ v = Value.ref p.1 := fun i v hv => by
      have hv : (ks.map fun p => Value.ref p.1)[i]? = some v := by simpa using hv
      rw [List.getElem?_map] at hv
      cases q : ks[i]? with
      | none => rw [q] at hv; cases hv
      | some p => rw [q] at hv; cases hv; exact ⟨p, rfl, rfl⟩
    have g := DS.grows_tup (P := X.prog) (w := X.w) (S := s1.heap.objs.size) (h0 := s1.heap) (ks := ks) (fun p hp => tat_of I1 o.ex (e3 p hp)) few
    refine DS.set_of_list (J := DS.JT X.prog X.w s1.heap.objs.size ks) (I1.ok.hd hc) pl.isList (by omega) ⟨g.keep, fun A i v s E Q hu hv => g.step A i v s E Q hu (hi i v hv)⟩ (fun h e _ => DS.fresh_tup e) fun h' tk J k => ?_
    refine PyProof.Rows.args_nil ?_
    rw [show (ks.map fun p => Value.ref p.1).toArray.size = ks.length by simp] at J
    have I2 : L2.Inv X pins σ H1 { s1 with heap := h', toks := tk } := I1.kept (t' := tk) k
    exact set_tups hc hu I2 o ret ok hP e3 J
/-- sorted(set(xs)) -/
theorem del_sortSet (hc : X.calm = true) (hu : X.A.units + 64 < cLine) (hg : Gl X "sorted") (hm : X.mg "sorted" = none) (hg2 : Gl X "set") (hm2 : X.mg "set" = none) (ha : DE X a w)
    (na : starEach [a] X.env = (false, eval a X.env) :: starEach [] X.env := by rfl) : DEL X (.Call (.Name "sorted" p) [.Call (.Name "set" p2) [a] [] q] [] pos) (wSortSet w) :=
  PE.imp (pe_sortSet hc hu hg hm hg2 hm2 ha na) fun σ H Q ⟨F, G, δ, s, P, en, o, hw, q⟩ => ⟨F, G, δ, s, _, en, o, hw, fun d s1 h1 G1 H1 v e1 o1 r1 => ⟨F, G1, s1, d, P, o1, r1, h1, q.mono e1⟩⟩
end
end DL

set_option Elab.async false
set_option linter.all false
set_option autoImplicit false
set_option maxRecDepth 100000
set_option maxHeartbeats 4000000
/-! {elt for tg in iter if ..}: a set of ints. -/
namespace DS
open PySem PySem.Spec PyProof.Rows L2 PpSet
/-- the set of the ints ns, n of them -/
abbrev SI (w : World) (D : Addr) (ns : List Int) (n : Nat) : HO := SetO w D (fun k => decide (k ∈ ns)) n
def tSi (w : World) (wi : TI) (g : TG) (tt : TT) (te : TE) (vs : List Nat) : TE := fun σ H Q => wi σ H fun J H1 => ∀ D, H1 D = none → ∃ W : Nat → Nat → Hp → Prop, (∃ m, W 0 m (upd H1 D (SI w D [] 0))) ∧ ∀ i m H, W i m H →
  (J.stop i H ∧ Q (.ref D) H) ∨ (J.go i H ∧ ∃ Nx : Hp → Prop, (∀ H', Nx H' → ∃ m', m' < m ∧ W (i + 1) m' H') ∧ ∀ x H', J.yld i H x H' → g x (wipe σ vs) H' fun σ2 H2 => wipe σ2 vs = wipe σ vs ∧ tt σ2 H2 fun b H3 =>
    if b = true then te σ2 H3 fun y H4 => ∃ (k : Int) (ns : List Int) (n : Nat), y = .int k ∧ H4 D = some (SI w D ns n) ∧ n + 1 < scanBound ∧ Nx (upd H4 D (SI w D (ns ++ [k]) (if k ∈ ns then n else n + 1))) else Nx H3)
section
variable {X : Cx} {pins : List (Addr × Obj)} {σ : L2.St} {H : Hp} {s : Shared}
theorem si_add {E : Value → Shared → Prop} {D : Addr} {ns : List Int} {n : Nat} {k : Int} {t : Tok} {Q : Value → Shared → Prop} (I : L2.Inv X pins σ H s) (hD : H D = some (SI X.w D ns n)) (room : n + 1 < scanBound)
    (h : ∀ s', L2.Inv X pins σ (upd H D (SI X.w D (ns ++ [k]) (if k ∈ ns then n else n + 1))) s' → Q .none s') : wpAny (model X.prog X.w) X.A (call (.builtin "set.add") [.ref D, .int k t]) Q E s := by
  refine setR_add (setO_get I hD) room fun h' sb new => h _ ?_
  have here : ∃ u, h'.get? D = some u := let ⟨o, _, _, _, ho, _⟩ := new; ⟨o, ho⟩
  have new2 : SetR X.w h' D (fun j => decide (j ∈ ns ++ [k])) (if k ∈ ns then n else n + 1) := by
    have := new.congr (S' := fun j => decide (j ∈ ns ++ [k])) fun j => by simp [List.mem_append]
    simpa using this
  exact I.write (e := D) (t' := s.toks + 1) (by rw [hD]; trivial) (.inl rfl) (fun b u hb hu => (sb.2 b hb).trans hu) here (setO_new new2)
variable {elt tg iter : Expr} {ifs : List Expr} {scope : Scope} {own : List (PySem.Str × Nat)} {pos : Pos} {wi : TI} {g : TG} {tt : TT} {te : TE}
theorem pe_si (hc : X.calm = true) (hN : X.N.Nodup) (hi : PI X tg iter wi) (ok : BlkOk X.N X.env.scope scope own)
    (hg : ∀ (s : Shared) (H : Hp) (C : Addr) (cl : List (PySem.Str × Addr)) (fp : List Addr), PG (X.blk s H scope (compEnvC scope cl C X.env) fp) tg g) (ht : ∀ (s : Shared) (H : Hp) (C : Addr) (cl : List (PySem.Str × Addr)) (fp : List Addr), PTs (X.blk s H scope (compEnvC scope cl C X.env) fp) ifs tt)
    (he : ∀ (s : Shared) (H : Hp) (C : Addr) (cl : List (PySem.Str × Addr)) (fp : List Addr), PE (X.blk s H scope (compEnvC scope cl C X.env) fp) elt te) (hs : ∀ x, foldedSetIterable iter X.env x = pure x := by intro _; rfl) :
    PE X (.SetComp elt [⟨tg, iter, ifs, 0⟩] scope pos) (tSi X.w wi g tt te (own.map (·.2))) := by
  refine ⟨fun pins s σ H Q I h => ?_⟩
  rw [eval_SetComp]
  have cells : ∀ y ∈ scope.names, y.2 = .free → ∃ c, X.env.cells.lookup y.1 = some c := fun y hy e => (ok.free y hy e).elim (fun k => I.ok.has _ (.inl k)) fun k => I.ok.has _ (.inr k)
  refine wpAny_comprehension_free rfl hs (closure_ok cells) ok.kind (fun y hy e => by rw [ok.uniq y hy, e]) (thn (hi.run pins s σ H _ I h) fun xv s1 hx => thn hx fun itv s2 h2 => ?_)
  obtain ⟨it, fp, tn, J, H2, rfl, I2, T, st2, f2, q⟩ := h2
  refine newSet_ok (newEnv_comp ?_)
  obtain ⟨D, hD⟩ : ∃ D, s2.heap.objs.size = D := ⟨_, rfl⟩
  rw [hD]
  have hDn : H2 D = none := I2.hok.fresh (Nat.le_of_eq hD)
  obtain ⟨W, ⟨m0, w0⟩, turn⟩ := q D hDn
  obtain ⟨s3, hs3⟩ : ∃ s3 : Shared, { s2 with heap := s2.heap.push (newSetObj X.w) } = s3 := ⟨_, rfl⟩
  have h3 : s3.heap = s2.heap.push (newSetObj X.w) := by rw [← hs3]
  have I3 : L2.Inv X pins σ (upd H2 D (SI X.w D [] 0)) s3 := by
    rw [← hs3]
    refine I2.laid (t' := s2.toks) (fun b o e => Heap.get?_push_of_some _ e) (Nat.le_of_eq hD) ?_
    rw [← hD]
    exact setO_new ((setR_fresh X.w).congr fun k => by simp)
  have below : ∀ b ∈ fp, b < s2.heap.objs.size := fun b hb => let ⟨o, e, _⟩ := T.obj _ _ st2 b hb; Heap.lt_size e
  have f3 : ∀ b ∈ fp, FpOk X pins (upd H2 D (SI X.w D [] 0)) b ∧ b < s3.heap.objs.size := fun b hb => ⟨⟨by rw [upd_ne (by rw [← hD]; exact Nat.ne_of_lt (below b hb))]; exact (f2 b hb).1, (f2 b hb).2⟩, by rw [h3, Heap.size_push]; exact Nat.lt_succ_of_lt (below b hb)⟩
  have st3 : tn 0 s3.heap := T.keep _ _ _ st2 fun b _ o e => by rw [h3]; exact Heap.get?_push_of_some _ e
  have I4 := block_start I3 ok hN f3
  have pg := hg s3 (upd H2 D (SI X.w D [] 0)) s3.heap.objs.size (cellsFrom (s3.heap.objs.size + 1) scope.names (cloFrom X.env.cells scope.names [])) fp
  have pt := ht s3 (upd H2 D (SI X.w D [] 0)) s3.heap.objs.size (cellsFrom (s3.heap.objs.size + 1) scope.names (cloFrom X.env.cells scope.names [])) fp
  have pe := he s3 (upd H2 D (SI X.w D [] 0)) s3.heap.objs.size (cellsFrom (s3.heap.objs.size + 1) scope.names (cloFrom X.env.cells scope.names [])) fp
  obtain ⟨ce, hce⟩ : ∃ ce, compEnvC scope (cellsFrom (s3.heap.objs.size + 1) scope.names (cloFrom X.env.cells scope.names [])) s3.heap.objs.size X.env = ce := ⟨_, rfl⟩
  rw [hce] at I4 pg pt pe
  have loc : ce.locals = s3.heap.objs.size := by rw [← hce]; rfl
  obtain ⟨s4, hs4⟩ : ∃ s4 : Shared, { s3 with heap := pushCells (s3.heap.push { cls := .type "dict", data := .dict #[] }) scope.names } = s4 := ⟨_, rfl⟩
  rw [hs4] at I4
  have st4 : tn 0 s4.heap := T.keep _ _ _ st3 fun b _ o e => by rw [← hs4]; exact pushCells_keeps _ _ _ _ (Heap.get?_push_of_some _ e)
  have off : ∀ b ∈ fp, (upd H2 D (SI X.w D [] 0)) b = none := fun b hb => (f3 b hb).1.1
  obtain ⟨H3, hH3⟩ : ∃ H3, upd H2 D (SI X.w D [] 0) = H3 := ⟨_, rfl⟩
  rw [hH3] at I3 I4 pg pt pe w0 off f3
  -- what the block may not touch
  have quiet : ∀ {σ' : L2.St} {H' : Hp} {s' : Shared}, L2.Inv (X.blk s3 H3 scope ce fp) [] σ' H' s' → (∀ b ∈ fp, H' b = none) → ∀ b ∈ fp, FpOk (X.blk s3 H3 scope ce fp) [] H' b := fun {σ' H' s'} I' hn b hb =>
    ⟨hn b hb, (I'.ok.exf b hb).1, I'.ok.exfs b hb, .inl hb, fun x c e => (I'.ok.exf b hb).2 x c e, fun p hp => absurd (show p ∈ ([] : List (Addr × Obj)) ++ [] from hp) (by simp)⟩
  have loop : ∀ R : Result → Shared → Prop, (∀ s6 H5, L2.Inv (X.blk s3 H3 scope ce fp) [] (wipe σ (own.map (·.2))) H5 s6 → Q (.ref D) H5 → R (.ok .next) s6) → codeAny (model X.prog X.w) X.A (.compLoop (.SetComp elt [⟨tg, iter, ifs, 0⟩] scope pos) 0 (.ref it) (.ref D) ce) R s4 := by
    intro R hR
    refine compLoopS_any (fun n s' => ∃ i H', L2.Inv (X.blk s3 H3 scope ce fp) [] (wipe σ (own.map (·.2))) H' s' ∧ tn i s'.heap ∧ (∀ b ∈ fp, H' b = none) ∧ W i n H') ?_ m0 ⟨0, H3, I4, st4, off, w0⟩
    rintro n s5 ⟨i, H5, I5, st5, n5, w5⟩
    rcases turn i n H5 w5 with ⟨stop, qq⟩ | ⟨go, Nx, less, step⟩
    · exact thnF (T.done (X.blk s3 H3 scope ce fp) rfl rfl rfl hc i [] s5 _ H5 (fun _ _ => False) I5 (quiet I5 n5) st5 stop) fun r s6 ⟨hr, I6⟩ => by
        subst hr
        exact hR s6 H5 I6 qq
    · refine thnF (T.item (X.blk s3 H3 scope ce fp) rfl rfl rfl hc i [] s5 _ H5 (fun _ _ => False) I5 (quiet I5 n5) st5 go) fun r s6 ⟨u, hr, h6⟩ => ?_
      subst hr
      refine thnF h6 fun _ s7 ⟨x, H7, I7, r7, y7, st7, n7⟩ => ?_
      refine thnF (pg.run _ s7 _ H7 x u _ (I7.pinned (quiet I7 n7) (T.obj _ _ st7)) r7 (step x H7 y7)) fun _ s8 ⟨σ8, H8, I8, hw8, q8⟩ => ?_
      refine thnF (pt.run _ s8 σ8 H8 _ I8 q8) fun b s9 ⟨H9, I9, q9⟩ => ?_
      have back : ∀ {s' : Shared} {H' : Hp}, L2.Inv (X.blk s3 H3 scope ce fp) ([] ++ pinsAt fp s7.heap) σ8 H' s' → Nx H' → ∃ m, m < n ∧ ∃ i H', L2.Inv (X.blk s3 H3 scope ce fp) [] (wipe σ (own.map (·.2))) H' s' ∧ tn i s'.heap ∧ (∀ b ∈ fp, H' b = none) ∧ W i m H' := fun {s' H'} I' nx => by
        obtain ⟨m', lt, w'⟩ := less H' nx
        have held : ∀ b ∈ fp, ∀ o, s7.heap.get? b = some o → s'.heap.get? b = some o ∧ H' b = none := fun b hb o e => let z := I'.pin (b, o) (List.mem_append_right _ (List.mem_append_right _ (mem_pinsAt hb e))); ⟨z.1, z.2.1⟩
        refine ⟨m', lt, i + 1, H', (I'.unpinned (pins := [])).weak (by rw [← hw8, wipe_length]) (fun j v e => by rw [← hw8] at e; exact (wipe_some e).1), T.keep _ _ _ st7 fun b hb o e => (held b hb o e).1, fun b hb => ?_, w'⟩
        obtain ⟨o, e, _⟩ := T.obj _ _ st7 b hb
        exact (held b hb o e).2
      cases b with
      | false =>
        simp only [Bool.false_eq_true, if_false] at q9 ⊢
        exact back I9 q9
      | true =>
        simp only [if_true] at q9 ⊢
        refine thnF (pe.run _ s9 σ8 H9 _ I9 q9) fun z s10 ⟨yv, H10, I10, r10, k, ns, m, ey, hat, room, nx⟩ => ?_
        subst ey
        obtain ⟨tk, rfl⟩ := r10
        exact si_add (X := X.blk s3 H3 scope ce fp) I10 hat room fun s11 I11 => back I11 nx
  have whole := fun R hR => codeAny_compStart_set (loop R hR) (T.self X.A 0 _ _ _ st4 (loop R hR))
  have leave : ∀ s6 H5, L2.Inv (X.blk s3 H3 scope ce fp) [] (wipe σ (own.map (·.2))) H5 s6 → Q (.ref D) H5 → compPost (model X.prog X.w) X.A X.xe none (EP X pins σ Q) (.ref D) s3.heap.objs.size (.ok .next) s6 := fun s6 H5 I6 qq => by
    have I7 : L2.Inv X pins σ H5 s6 := I3.call' (ch := fp) I6.os I6.base I6.hok I6.bare fun b hb => ⟨(f3 b hb).1.2.2.2.1, (f3 b hb).1.2.1, (f3 b hb).1.2.2.2.2.1, (f3 b hb).1.2.2.2.2.2⟩
    have free : H5 s3.heap.objs.size = none := by rw [← loc]; exact I6.free
    obtain ⟨m, hn, _⟩ := I6.loc
    have hn : s6.heap.Ns s3.heap.objs.size m := by rw [← loc]; exact hn
    obtain ⟨g0, g1, g2, g3, g4, g5⟩ := I3.fpOk (Nat.le_refl _) free
    exact ⟨m, hn, fun h'' sb => ⟨.ref D, H5, I7.turned (t' := s6.toks) (fun b o hb e => (sb.2 b hb).trans e) g0 g1 g3 g4 g5, rfl, qq⟩⟩
  have fin := whole _ leave
  subst hs4 hce hs3 hH3 hD
  exact fin
end
end DS

set_option Elab.async false
set_option linter.all false
set_option autoImplicit false
set_option maxRecDepth 100000
set_option maxHeartbeats 4000000
namespace DL
open PySem PySem.Spec PyProof.Rows L2
open Evl (Ex)
open PySem.W (EachIs AllAlike Sortable dataLe)
/-! ### sorted({elt for tg in iter if ..}), elt an int -/
def scW (vs : List Nat) (g : WG) (t : WT) (w : WE) (δ : Dn) : List D → S → (List Int → S → Prop) → Prop
  | [], s, P => P [] s
  | d :: ds, s, P => g d (wipeD δ vs) s fun δ1 s1 => t δ1 s1 fun k s2 => match k with
    | true => w δ1 s2 fun y s3 => match y with
      | .int n => scW vs g t w δ ds s3 fun ns s4 => P (n :: ns) s4
      | _ => False
    | false => scW vs g t w δ ds s2 P
def wSortSc (vs : List Nat) (wi : WI) (g : WG) (t : WT) (w : WE) : WA := fun δ s P => wi δ s fun ds s1 => ds.length < 64 ∧ scW vs g t w δ ds s1 fun ns s2 => sortedSetP (ns.map .int) s2 P
theorem sortOk_ints (ns : List Int) : SortOk (ns.map .int) := by
  refine ⟨?_, .inr ?_, ?_⟩
  · intro d hd d' hd'
    obtain ⟨x, hx, rfl⟩ := List.mem_map.mp hd
    obtain ⟨y, hy, rfl⟩ := List.mem_map.mp hd'
    obtain ⟨i, _, rfl⟩ := List.mem_map.mp hx
    obtain ⟨j, _, rfl⟩ := List.mem_map.mp hy
    rfl
  · intro d hd
    obtain ⟨x, hx, rfl⟩ := List.mem_map.mp hd
    obtain ⟨i, _, rfl⟩ := List.mem_map.mp hx
    exact ⟨(fun h => by cases h), fun xs h => by cases h⟩
  · intro d hd
    obtain ⟨i, _, rfl⟩ := List.mem_map.mp hd
    exact ⟨rfl, by show 0 ≤ 58; decide⟩
theorem sc_rows {K : PySem.W.Frag} {wd : World} {F G : Hp} {δ : Dn} {σ : L2.St} {H1 : Hp} {s1 : S} {vs us : List Nat} {g : WG} {t : WT} {w : WE} {ds : List D} {J : It} {P : List Int → S → Prop} (few : ds.length < 64)
    (en : EnvOk K G δ σ) (o1 : Own K F s1 G H1) (jk : JOk K G ds J) (h1 : scW vs g t w δ ds s1 P) (hs : ∀ j ∈ us, j ∈ vs) (D : Addr) (hD : H1 D = none) :
    ∃ W : Nat → Nat → Hp → Prop, (∃ m, W 0 m (upd H1 D (DS.SI wd D [] 0))) ∧ ∀ i m H, W i m H →
      (J.stop i H ∧ ∃ G2 s2 ns n, Ex G G2 ∧ Own K F s2 G2 H ∧ H D = some (DS.SI wd D ns n) ∧ n ≤ ns.length ∧ ns.length < 64 ∧ P ns s2) ∨ (J.go i H ∧ ∃ Nx : Hp → Prop, (∀ H', Nx H' → ∃ m', m' < m ∧ W (i + 1) m' H') ∧ ∀ x H', J.yld i H x H' → lG K us g x (L2.wipe σ vs) H' fun σ2 H2 => L2.wipe σ2 vs = L2.wipe σ vs ∧ lT K t σ2 H2 fun b H3 =>
        if b = true then lE K w σ2 H3 fun y H4 => ∃ (k : Int) (ns : List Int) (n : Nat), y = .int k ∧ H4 D = some (DS.SI wd D ns n) ∧ n + 1 < scanBound ∧ Nx (upd H4 D (DS.SI wd D (ns ++ [k]) (if k ∈ ns then n else n + 1))) else Nx H3) := by
  have fD := o1.freeF hD
  have lendD : ∀ {s : S} {G H : Hp} {u u' : HO}, Own K (upd F D u) s G H → Own K (upd F D u') s G (upd H D u') := fun {s G H u u'} o => by
    obtain ⟨f1, f2, f3⟩ := o.fr D _ upd_same
    have nd := o.noDk (p := D) upd_same
    have ot := (o.back (Ex.new fD)).turn (u := u') fD f2 f3 nd
    refine ot.lend upd_same f2 f3 fun a n e a1 mx k h => ?_
    obtain ⟨a1', cells, mixed, k', _, g2, g3, _, _, g6, g7, _⟩ := (o.dk a n e).ex
    have n1 : a ≠ D := fun z => by rw [z, upd_same] at g2; cases g2.2
    have n2 : a1' ≠ D := fun z => by rw [z, upd_same] at g3; cases g3.2
    rw [upd_ne n1, g6] at h
    cases h
    exact ⟨n1.symm, n2.symm⟩
  let Wd : Nat → Hp → Prop := fun i H => ∃ G2 s2 ns n, Ex G G2 ∧ Own K (upd F D (DS.SI wd D ns n)) s2 G2 H ∧ n ≤ ns.length ∧ ns.length ≤ i ∧ scW vs g t w δ (ds.drop i) s2 fun zs s' => P (ns ++ zs) s'
  have start : Wd 0 (upd H1 D (DS.SI wd D [] 0)) := by
    refine ⟨G, s1, [], 0, Ex.refl _, ?_, Nat.le_refl _, Nat.le_refl _, h1⟩
    refine (o1.pass (u := DS.SI wd D [] 0) hD).lend upd_same (o1.freeG hD) (o1.freeM hD) fun a n e a1 mx k h => ?_
    obtain ⟨a1', cells, mixed, k', _, _, _, _, _, h6, h7, _⟩ := (o1.dk a n e).ex
    have n1 : a ≠ D := ne_of_none h6 hD
    have n2 : a1' ≠ D := ne_of_none h7 hD
    rw [upd_ne n1, h6] at h
    cases h
    exact ⟨n1.symm, n2.symm⟩
  refine ⟨fun i m H => m = ds.length - i ∧ i ≤ ds.length ∧ Wd i H, ⟨ds.length, by simp, Nat.zero_le _, start⟩, ?_⟩
  rintro i m H ⟨rfl, hi, G2, s2, ns, n, e2, o2, hn, hl2, h2⟩
  by_cases hlt : i < ds.length
  · refine .inr ?_
    obtain ⟨go, yl⟩ := jk.go i _ s2 G2 H e2 o2 hlt
    refine ⟨go, fun H' => Wd (i + 1) H', fun H' h => ⟨ds.length - (i + 1), by omega, rfl, hlt, h⟩, fun x H' y => ?_⟩
    obtain ⟨d, G3, hd, e3, o3, r3⟩ := yl x H' y
    rw [drop_get hd] at h2
    have en3 := ((en.mono e2).mono e3).wipe vs
    refine ⟨_, G3, wipeD δ vs, s2, d, _, en3, o3, r3, h2, fun δ4 s4 h4 G4 H4 σ4 e4 en4 o4 l4 a4 => ⟨wipe_same l4 a4 hs, _, G4, δ4, s4, _, en4, o4, h4, fun k s5 h5 G5 H5 e5 o5 => ?_⟩⟩
    have e25 := e3.trans (e4.trans e5)
    cases k with
    | false =>
      dsimp only
      rw [if_neg Bool.false_ne_true]
      exact ⟨G5, s5, ns, n, e2.trans e25, o5, hn, by omega, h5⟩
    | true =>
      dsimp only
      rw [if_pos rfl]
      refine ⟨_, G5, δ4, s5, _, en4.mono e5, o5, h5, fun y s6 h6 G6 H6 v6 e6 o6 r6 => ?_⟩
      cases r6 <;> first | exact h6.elim | skip
      rename_i k
      obtain ⟨f1, f2, f3⟩ := o6.fr D _ upd_same
      refine ⟨k, ns, n, rfl, f1, by unfold scanBound; omega, G6, s6, ns ++ [k], _, e2.trans (e25.trans e6), lendD o6, ?_, ?_, ?_⟩
      · rw [List.length_append, List.length_singleton]; split <;> omega
      · rw [List.length_append, List.length_singleton]; omega
      · have ea : ∀ zs : List Int, (ns ++ [k]) ++ zs = ns ++ (k :: zs) := fun zs => by simp
        simp only [ea]
        exact h6
  · have e : i = ds.length := by omega
    subst e
    rw [List.drop_length] at h2
    obtain ⟨f1, f2, f3⟩ := o2.fr D _ upd_same
    have h2' : P ns s2 := by have z : P (ns ++ []) s2 := h2; rw [List.append_nil] at z; exact z
    exact .inl ⟨jk.stop _ _ s2 G2 H e2 o2 (Nat.le_refl _), G2, s2, ns, n, e2, o2.back (Ex.new fD), f1, hn, by omega, h2'⟩
section
variable {X : Cx} {elt tg iter : Expr} {ifs : List Expr} {scope : Scope} {pos p cpos : Pos} {wi : WI} {g : WG} {t : WT} {w : WE} {us : List Nat} {wi' : TI} {g' : TG} {tt : TT} {te : TE}
def tSortSi (K : PySem.W.Frag) (wd : World) (wi : TI) (g : TG) (tt : TT) (te : TE) (vs : List Nat) : TE := fun σ H Q => DS.tSi wd wi g tt te vs σ H fun x H1 => ∃ D F G sd ns n P, x = .ref D ∧ Own K F sd G H1 ∧ H1 D = some (DS.SI wd D ns n) ∧ n ≤ ns.length ∧ ns.length < 64 ∧ sortedSetP (ns.map .int) sd P ∧ RetL K F G P Q
theorem pe_sortSi (own : List (Str × Nat)) (hc : X.calm = true) (hu : X.A.units + 64 < cLine) (hgl : Gl X "sorted") (hm : X.mg "sorted" = none) (hN : X.N.Nodup) (hi : PI X tg iter wi') (ok : BlkOk X.N X.env.scope scope own)
    (hg : ∀ (s : Shared) (H : Hp) (C : Addr) (cl : List (Str × Addr)) (fp : List Addr), PG (X.blk s H scope (compEnvC scope cl C X.env) fp) tg g') (ht : ∀ (s : Shared) (H : Hp) (C : Addr) (cl : List (Str × Addr)) (fp : List Addr), PTs (X.blk s H scope (compEnvC scope cl C X.env) fp) ifs tt)
    (he : ∀ (s : Shared) (H : Hp) (C : Addr) (cl : List (Str × Addr)) (fp : List Addr), PE (X.blk s H scope (compEnvC scope cl C X.env) fp) elt te) (hs : ∀ x, foldedSetIterable iter X.env x = pure x := by intro _; rfl) :
    PE X (.Call (.Name "sorted" p) [.SetComp elt [⟨tg, iter, ifs, 0⟩] scope pos] [] cpos) (tSortSi X.K X.w wi' g' tt te (own.map (·.2))) := by
  refine ⟨fun pins s σ H Q I h => ?_⟩
  refine Call_ (ld_blt I hgl hm bb_sorted ?_)
  refine PyProof.Rows.callWith_builtin1 (PyProof.Rows.args_cons (thn ((DS.pe_si (own := own) hc hN hi ok hg ht he hs).run pins s σ H _ I h) fun v s1 ⟨x, H1, I1, r1, q1⟩ => PyProof.Rows.args_nil ?_) rfl) rfl rfl
  obtain ⟨D, F, G, sd, ns, n, P, rfl, o, hD, hn, few, hP, ret⟩ := q1
  cases r1
  have R := setO_get I1 hD
  exact set_ints hc hu I1 o ret (sortOk_ints ns) few hP ⟨n, hn, by rw [List.take_length]; exact R⟩
/-- sorted({elt for tg in iter if ..}) -/
theorem del_sortSc (own : List (Str × Nat)) (hc : X.calm = true) (hu : X.A.units + 64 < cLine) (hgl : Gl X "sorted") (hm : X.mg "sorted" = none) (hN : X.N.Nodup) (hi : DI X tg iter wi) (ok : BlkOk X.N X.env.scope scope own)
    (hg : ∀ (s : Shared) (H : Hp) (C : Addr) (cl : List (Str × Addr)) (fp : List Addr), DG (X.blk s H scope (compEnvC scope cl C X.env) fp) tg us g)
    (ht : ∀ (s : Shared) (H : Hp) (C : Addr) (cl : List (Str × Addr)) (fp : List Addr), DTs (X.blk s H scope (compEnvC scope cl C X.env) fp) ifs t)
    (he : ∀ (s : Shared) (H : Hp) (C : Addr) (cl : List (Str × Addr)) (fp : List Addr), DE (X.blk s H scope (compEnvC scope cl C X.env) fp) elt w)
    (hus : ∀ j ∈ us, j ∈ own.map (·.2) := by decide) (hs : ∀ x, foldedSetIterable iter X.env x = pure x := by intro _; rfl) :
    DEL X (.Call (.Name "sorted" p) [.SetComp elt [⟨tg, iter, ifs, 0⟩] scope pos] [] cpos) (wSortSc (own.map (·.2)) wi g t w) :=
  PE.imp (pe_sortSi own hc hu hgl hm hN hi ok hg ht he hs) fun σ H Q ⟨F, G, δ, s, P, en, o, hw, q⟩ => ⟨F, G, δ, s, _, en, o, hw, fun ds s1 h1 G1 H1 J e1 o1 jk D hD => by
    obtain ⟨W, st, tr⟩ := sc_rows (wd := X.w) h1.1 (en.mono e1) o1 jk h1.2 hus D hD
    refine ⟨W, st, fun i m H w0 => ?_⟩
    rcases tr i m H w0 with ⟨a, G2, s2, ns, n, e2, o2, hD2, hn, few, hP⟩ | b
    · exact .inl ⟨a, D, F, G2, s2, ns, n, P, rfl, o2, hD2, hn, few, hP, (q.mono e1).mono e2⟩
    · exact .inr b⟩
end
/-! ### evaluating -/
theorem scW_each {α : Type} {vs : List Nat} {g : WG} {w : WE} {δ : Dn} {it : α → D} {f : α → Int} : ∀ {l : List α} {s : S} {P : List Int → S → Prop},
    (∀ x ∈ l, ∀ (R : D → S → Prop), R (.int (f x)) s → g (it x) (wipeD δ vs) s fun δ1 s1 => w δ1 s1 R) → P (l.map f) s → scW vs g wYes w δ (l.map it) s P
  | [], _, _, _, h => h
  | x :: l, s, P, st, h => by
    rw [List.map_cons]
    unfold scW
    exact st x List.mem_cons_self _ (scW_each (fun y hy => st y (List.mem_cons_of_mem _ hy)) h)
theorem ints_ascend {ms : List Int} (h : (ms.map D.int).Pairwise fun x y => leD x y = true) : ms.Pairwise (· ≤ ·) := by
  refine (List.pairwise_map.mp h).imp fun {a b} q => ?_
  have e : leD (.int a) (.int b) = decide (a ≤ b) := congrFun (congrFun (PySem.W.dataLe_int (fun k : Int => k)) a) b
  rw [e] at q
  exact of_decide_eq_true q
/-- what sorted(set(..)) of ints can be -/
theorem sortedSet_ints {ns : List Int} {s : S} {P : List D → S → Prop} (h : ∀ ms : List Int, ms.Pairwise (· < ·) → (∀ k, k ∈ ms ↔ k ∈ ns) → P (ms.map .int) s) : sortedSetP (ns.map .int) s P := by
  intro ys nd mem pw
  have allI : ∀ y ∈ ys, ∃ k : Int, y = .int k := fun y hy => by
    obtain ⟨k, _, rfl⟩ := List.mem_map.mp ((mem y).mp hy)
    exact ⟨k, rfl⟩
  obtain ⟨ms, rfl⟩ : ∃ ms : List Int, ys = ms.map .int := by
    clear nd mem pw
    induction ys with
    | nil => exact ⟨[], rfl⟩
    | cons y ys ih =>
      obtain ⟨ms, rfl⟩ := ih fun z hz => allI z (List.mem_cons_of_mem _ hz)
      obtain ⟨k, rfl⟩ := allI y List.mem_cons_self
      exact ⟨k :: ms, rfl⟩
  have up := ints_ascend pw
  have nd2 : ms.Nodup := (List.pairwise_map.mp nd).imp fun hne e => hne (by rw [e])
  refine h ms ((up.and nd2).imp fun q => by omega) fun k => ?_
  have := mem (.int k)
  constructor
  · intro hk
    obtain ⟨j, hj, e⟩ := List.mem_map.mp (this.mp (List.mem_map.mpr ⟨k, hk, rfl⟩))
    cases e; exact hj
  · intro hk
    obtain ⟨j, hj, e⟩ := List.mem_map.mp (this.mpr (List.mem_map.mpr ⟨k, hk, rfl⟩))
    cases e; exact hj
end DL

set_option Elab.async false
set_option linter.all false
set_option autoImplicit false
set_option maxRecDepth 100000
set_option maxHeartbeats 4000000
namespace DL
open PySem PySem.Spec PyProof.Rows L2
open Evl (Ex)
/-! ### more expressions -/
/-- a new list that will change, as a value -/
def wMk (w : WA) : WE := fun δ s P => w δ s fun ds s1 => ∀ p, s1.M p = none → (∀ a n, s1.dk = some (a, n) → p ≠ a) → P (.ref p) (s1.put p (.lst ds))
def boolsD : List D → Option (List Bool)
  | [] => some []
  | .bl b :: ds => (boolsD ds).map (b :: ·)
  | _ :: _ => none
theorem boolsD_of {ds : List D} : ∀ {bs : List Bool}, boolsD ds = some bs → ds = bs.map .bl := by
  induction ds with
  | nil => intro bs h; cases h; rfl
  | cons d ds ih =>
    intro bs h
    cases d with
    | bl b =>
      unfold boolsD at h
      cases q : boolsD ds with
      | none => rw [q] at h; cases h
      | some cs => rw [q] at h; cases h; rw [ih q]; rfl
    | _ => exact nomatch h
theorem boolsD_map : ∀ bs : List Bool, boolsD (bs.map .bl) = some bs
  | [] => rfl
  | b :: bs => by show (boolsD (bs.map .bl)).map (b :: ·) = _; rw [boolsD_map bs]; rfl
def rcAnyB (f : List Bool → Bool) : RCD := fun ds s P => match ds with
  | [d] => (match view s d with
    | .lst es => (match boolsD es with
      | some bs => P (.bl (f bs)) s
      | none => False)
    | _ => False)
  | _ => False
abbrev rcAny : RCD := rcAnyB fun bs => bs.any id
abbrev rcAll : RCD := rcAnyB fun bs => bs.all id
theorem RepL.bools {K : PySem.W.Frag} {G : Hp} : ∀ {bs : List Bool} {xs : List V}, RepL K G (bs.map .bl) xs → xs = bs.map .bl
  | [], _, .nil => rfl
  | b :: bs, _, .cons h r => by cases h; rw [RepL.bools r]; rfl
section
variable {X : Cx} {e : Expr} {wr : WA}
theorem de_mk (h : DEL X e wr) : DE X e (wMk wr) :=
  PE.imp h fun σ H Q ⟨F, G, δ, s, P, en, o, hw, q⟩ => ⟨F, G, δ, s, _, en, o, hw, fun ds s1 h1 G1 H1 p xs e1 o1 hp r1 => by
    obtain ⟨f1, f2⟩ := o1.fresh hp
    exact q _ _ (h1 p f1 f2) G1 _ _ e1 (o1.put hp r1) (.ref p)⟩
theorem cd_any (hc : X.calm = true) : CallD X (.builtin "any") rcAny := by
  intro pins s σ H xs us Q I r ⟨F, G, s', ds, P, o, rd, hw, q⟩
  unfold rcAny rcAnyB at hw
  split at hw <;> first | exact hw.elim | skip
  obtain ⟨v, rfl, rv⟩ := rd.one
  split at hw <;> first | exact hw.elim | skip
  rename_i es hv
  obtain ⟨a, ys, rfl, h1, r1⟩ := o.seqL rv hv
  split at hw <;> first | exact hw.elim | skip
  rename_i bs hb
  have e := boolsD_of hb
  subst e
  have e2 := r1.bools
  subst e2
  exact cr_any hc pins s σ H _ us Q I r ⟨a, bs, rfl, .of h1, q.val o hw (.bl _)⟩
theorem cd_all (hc : X.calm = true) : CallD X (.builtin "all") rcAll := by
  intro pins s σ H xs us Q I r ⟨F, G, s', ds, P, o, rd, hw, q⟩
  unfold rcAll rcAnyB at hw
  split at hw <;> first | exact hw.elim | skip
  obtain ⟨v, rfl, rv⟩ := rd.one
  split at hw <;> first | exact hw.elim | skip
  rename_i es hv
  obtain ⟨a, ys, rfl, h1, r1⟩ := o.seqL rv hv
  split at hw <;> first | exact hw.elim | skip
  rename_i bs hb
  have e := boolsD_of hb
  subst e
  have e2 := r1.bools
  subst e2
  exact cr_all hc pins s σ H _ us Q I r ⟨a, bs, rfl, .of h1, q.val o hw (.bl _)⟩
end
/-! ### methods of lists -/
def rmExtend : RMD := fun x ds s P => match x, ds with
  | .ref a, [d] => (match s.M a, view s d with
    | some (.lst es), .lst zs => es.length + zs.length ≤ sizeLine ∧ P .non (s.put a (.lst (es ++ zs)))
    | _, _ => False)
  | _, _ => False
def rmRemove : RMD := fun x ds s P => match x, ds with
  | .ref a, [.int k] => (match s.M a with
    | some (.lst es) => (match intsD es with
      | some ns => k ∈ ns ∧ P .non (s.put a (.lst ((ns.erase k).map .int)))
      | none => False)
    | _ => False)
  | _, _ => False
section
variable {X : Cx}
theorem md_extend : MtR X "list.extend" (lM X.K rmExtend) := by
  intro pins s σ H x vs v us Q I rx rs ⟨F, G, s', d, ds, P, o, rd, rds, hw, q⟩
  unfold rmExtend at hw
  split at hw <;> first | exact hw.elim | skip
  rename_i a e
  split at hw <;> first | exact hw.elim | skip
  rename_i es zs hM hv
  cases rd
  obtain ⟨w, rfl, rw'⟩ := rds.one
  obtain ⟨_, u, hp, xs, rfl, r⟩ := o.mu a _ hM
  obtain ⟨b, ys, rfl, hb, rb⟩ := o.seqL rw' hv
  exact mt_extend pins s σ H _ _ v us Q I rx rs ⟨a, b, xs, ys, rfl, rfl, hp, hb, by rw [← r.length, ← rb.length]; exact hw.1, q _ _ hw.2 G _ _ (Ex.refl G) (o.setL hM (r.append rb)) .non⟩
theorem erase_idx {ns : List Int} {k : Int} (h : k ∈ ns) : ns[ns.idxOf k]? = some k ∧ (∀ m, m < ns.idxOf k → ns[m]? ≠ some k) ∧ ns.eraseIdx (ns.idxOf k) = ns.erase k := by
  have hl : ns.idxOf k < ns.length := List.idxOf_lt_length_of_mem h
  refine ⟨by rw [List.getElem?_eq_getElem hl, List.getElem_idxOf hl], fun m hm e => ?_, (List.erase_eq_eraseIdx_of_idxOf rfl).symm⟩
  have hml : m < ns.length := by omega
  rw [List.getElem?_eq_getElem hml] at e
  have q := List.not_of_lt_findIdx (show m < List.findIdx (· == k) ns from hm)
  simp [Option.some.inj e] at q
theorem md_remove : MtR X "list.remove" (lM X.K rmRemove) := by
  intro pins s σ H x vs v us Q I rx rs ⟨F, G, s', d, ds, P, o, rd, rds, hw, q⟩
  unfold rmRemove at hw
  split at hw <;> first | exact hw.elim | skip
  rename_i a k
  split at hw <;> first | exact hw.elim | skip
  rename_i es hM
  split at hw <;> first | exact hw.elim | skip
  rename_i ns hn
  have e := intsD_of hn
  subst e
  cases rd
  obtain ⟨w, rfl, rw'⟩ := rds.one
  cases rw'
  obtain ⟨_, u, hp, xs, rfl, r⟩ := o.mu a _ hM
  have ex := r.intsV
  subst ex
  obtain ⟨g1, g2, g3⟩ := erase_idx hw.1
  refine mt_remove pins s σ H _ _ v us Q I rx rs ⟨a, ns, k, ns.idxOf k, rfl, rfl, hp, g1, g2, ?_⟩
  rw [g3]
  exact q _ _ hw.2 G _ _ (Ex.refl G) (o.setL hM (RepL.ofInts _)) .non
end
end DL

set_option Elab.async false
set_option linter.all false
set_option autoImplicit false
set_option maxRecDepth 100000
set_option maxHeartbeats 4000000
namespace DL
open PySem PySem.Spec PyProof.Rows L2 StX
open Evl (Ex)
/-! ### x[lo:hi], a text, a list or a tuple -/
def wSl (w : WE) (l h : WO) : WE := fun δ s P => w δ s fun d s1 => l δ s1 fun lo s2 => h δ s2 fun hi s3 => match view s3 d with
  | .str z => z.length ≤ sizeLine ∧ P (.str (cutS z lo hi)) s3
  | .lst ds => P (.lst (cutD ds lo hi)) s3
  | .lsk ds => P (.lst (cutD ds lo hi)) s3
  | .tup ds => P (.tup (cutD ds lo hi)) s3
  | _ => False
/-- a tuple's slice, the new tuple's object known -/
def rSlF (K : PySem.W.Frag) : V → Option Int → Option Int → Hp → VK → Prop := fun x lo hi H Q => ∃ a xs, x = .ref a ∧ SqT K H a xs ∧
  (HT.sIx xs.length 0 lo = 0 ∧ HT.sIx xs.length xs.length hi = xs.length → Q (.ref a) H) ∧ (¬ (HT.sIx xs.length 0 lo = 0 ∧ HT.sIx xs.length xs.length hi = xs.length) → ∀ p (o : Obj), H p = none → o.dict = none → Q (.ref p) (upd H p (.frz o (.tup (cutV xs lo hi)))))
section
variable {X : Cx}
theorem sl_tupF : SlR X (rSlF X.K) := by
  intro pins s σ H x v vl vu lo hi sl Q I rx hs pl pu h
  obtain ⟨a, xs, rfl, hx, q1, q2⟩ := h
  cases rx
  obtain ⟨its, r, ht, hz⟩ := I.tuple hx
  have len : its.toArray.size = xs.length := by rw [List.size_toArray]; exact r.length.symm
  refine ⟨"tuple", _, PyProof.Rows.slot_tuple_getitem.lookup, ht.typeIs, ?_⟩
  by_cases whole : HT.sIx xs.length 0 lo = 0 ∧ HT.sIx xs.length xs.length hi = xs.length
  · exact getItem_tuple_whole ht hs pl pu (by rw [len]; exact whole) ⟨.ref a, H, I, rfl, q1 whole⟩
  · refine HT.getItem_tuple_cut ht hs pl pu (by rw [len]; exact whole) ?_ (by rw [len]; exact hz)
    rw [len]
    have hf : H s.heap.objs.size = none := I.hok.fresh (Nat.le_refl _)
    obtain ⟨ob, hob⟩ : ∃ ob : Obj, ({ cls := .type "tuple", data := .seq ((its.toArray.toList.drop (HT.sIx xs.length 0 lo)).take (HT.sIx xs.length xs.length hi - HT.sIx xs.length 0 lo)).toArray } : Obj) = ob := ⟨_, rfl⟩
    rw [hob]
    refine ⟨.ref s.heap.objs.size, upd H s.heap.objs.size (.frz ob (.tup (cutV xs lo hi))), I.laid (t' := s.toks) (fun b ob q => Heap.get?_push_of_some _ q) (Nat.le_refl _) ?_, rfl, q2 whole _ ob hf (by rw [← hob])⟩
    have nf : ob.isFreed = false := by rw [← hob]; rfl
    refine ⟨Heap.get?_push_size _ nf, Nat.le_trans (cutV_length xs lo hi) hz, _, (r.drop (HT.sIx xs.length 0 lo)).take (HT.sIx xs.length xs.length hi - HT.sIx xs.length 0 lo), ⟨ob, Heap.get?_push_size _ nf, by rw [← hob], 0, ?_⟩⟩
    rw [← hob]
variable {e : Expr} {lo hi : Option Expr} {p2 pos : Pos} {w : WE} {l h : WO}
theorem cutD_whole {ds : List D} {lo hi : Option Int} (h : HT.sIx ds.length 0 lo = 0 ∧ HT.sIx ds.length ds.length hi = ds.length) : cutD ds lo hi = ds := by
  unfold DL.cutD
  rw [h.1, h.2, List.drop_zero, Nat.sub_zero, List.take_length]
theorem de_sl (he : DE X e w) (hl : DPO X lo l) (hh : DPO X hi h) : DE X (.Subscript e (.Slice lo hi none p2) pos) (wSl w l h) :=
  PE.imp (pe_slice (SlR.or sl_str (SlR.or sl_list sl_tupF)) he hl hh) fun σ H Q ⟨F, G, δ, s, P, en, o, hw, q⟩ => ⟨F, G, δ, s, _, en, o, hw, fun d s1 h1 G1 H1 v e1 o1 r1 => ⟨F, G1, δ, s1, _, en.mono e1, o1, h1, fun a s2 h2 G2 H2 e2 o2 =>
    ⟨F, G2, δ, s2, _, (en.mono e1).mono e2, o2, h2, fun b s3 h3 G3 H3 e3 o3 => by
      have e13 := e1.trans (e2.trans e3)
      have r3 := (r1.mono e2).mono e3
      have q3 := q.mono e13
      split at h3 <;> first | exact h3.elim | skip
      · rename_i z hv
        have rz := o3.seen r3
        rw [hv] at rz
        cases rz
        exact .inl ⟨_, rfl, h3.1, q _ s3 h3.2 G3 H3 _ e13 o3 (.str _)⟩
      · rename_i ds hv
        obtain ⟨p, xs, rfl, hx, r⟩ := o3.seqL r3 hv
        exact .inr (.inl ⟨p, xs, rfl, .of hx, fun p' hp' => q3.newL o3 h3 (r.cut _ _) hp'⟩)
      · rename_i ds hv
        have e := view_lsk hv
        subst e
        cases r3 with
        | lsk hx r => exact .inr (.inl ⟨_, _, rfl, Evl.ex_l o3.ex hx, fun p' hp' => q3.newL o3 h3 (r.cut _ _) hp'⟩)
      · rename_i ds hv
        have e := view_tup hv
        subst e
        obtain ⟨p, xs, rfl, hx, r⟩ := r3.seqT (.inl rfl)
        refine .inr (.inr ⟨p, xs, rfl, ex_t o3.ex hx, fun z => ?_, fun _ p' ob hp' hd => q3.newT o3 h3 (r.cut _ _) hd hp'⟩)
        rw [← r.length] at z
        rw [cutD_whole z] at h3
        exact q _ s3 h3 G3 H3 _ e13 o3 r3⟩⟩⟩
/-! ### xs.index(text), xs a list of texts -/
def rmIndex : RMD := fun x ds s P => match view s x, ds with
  | .lst es, [.str z] => (match strsD es with
    | some ys => z ∈ ys ∧ P (.int (ys.idxOf z : Nat)) s
    | none => False)
  | _, _ => False
theorem md_index : MtR X "list.index" (lM X.K rmIndex) := by
  intro pins s σ H x vs v us Q I rx rs ⟨F, G, s', d, ds, P, o, rd, rds, hw, q⟩
  unfold rmIndex at hw
  split at hw <;> first | exact hw.elim | skip
  rename_i es z hv
  obtain ⟨w, rfl, rw'⟩ := rds.one
  cases rw'
  obtain ⟨a, xs, rfl, hx, r⟩ := o.seqL rd hv
  split at hw <;> first | exact hw.elim | skip
  rename_i ys hy
  have e := strsD_of hy
  subst e
  have e2 := r.strs
  subst e2
  obtain ⟨i1, i2⟩ := idxOf_first hw.1
  refine mt_index pins s σ H _ _ v us Q I rx rs ⟨a, ys.map .str, .str z, ys.idxOf z, .str z, rfl, rfl, .of hx, rfl, ?_, ?_, by show (z == z) = true; simp, fun m z' hm hz' => ?_, q.val o hw.2 (.int _)⟩
  · rw [List.all_eq_true]; intro y hy; obtain ⟨t, _, rfl⟩ := List.mem_map.mp hy; rfl
  · rw [List.getElem?_map, i1]; rfl
  · rw [List.getElem?_map] at hz'
    cases q : ys[m]? with
    | none => rw [q] at hz'; cases hz'
    | some t =>
      rw [q] at hz'; cases hz'
      have := i2 m hm
      rw [q] at this
      show (t == z) = false
      exact beq_false_of_ne fun e => this (by rw [e])
/-! ### [*xs, a, ..] -/
def wStar (w : WE) (wr : WA) : WA := fun δ s P => w δ s fun d s1 => match seqD s1 d with
  | some xs => wr δ s1 fun ys s2 => xs.length + ys.length ≤ sizeLine ∧ P (xs ++ ys) s2
  | none => False
variable {es : List Expr} {n : Nat} {wr : WA} {sp : Pos}
theorem del_star (he : DE X e w) (hr : DA X es n wr) (hs : starEach (.Starred e sp :: es) X.env = (true, eval e X.env) :: starEach es X.env := by rfl) : DEL X (.List (.Starred e sp :: es) pos) (wStar w wr) :=
  PE.imp (pe_lst (pa_star he hr hs)) fun σ H Q ⟨F, G, δ, s, P, en, o, hw, q⟩ => ⟨F, G, δ, s, _, en, o, hw, fun d s1 h1 G1 H1 v e1 o1 r1 => by
    split at h1 <;> first | exact h1.elim | skip
    rename_i xs hx
    obtain ⟨a, vs, rfl, hq, rx⟩ := o1.seq r1 hx
    exact ⟨a, vs, rfl, hq.symm, F, G1, δ, s1, _, en.mono e1, o1, h1, fun ys s2 h2 hl G2 H2 zs e2 o2 r2 => ⟨by rw [List.length_append, ← rx.length, ← r2.length]; exact h2.1, fun p hp => q _ s2 h2.2 G2 H2 p _ (e1.trans e2) o2 hp ((rx.mono e2).append r2)⟩⟩⟩
end
end DL

set_option Elab.async false
set_option linter.all false
set_option autoImplicit false
set_option maxRecDepth 100000
set_option maxHeartbeats 4000000
namespace DL
open PySem PySem.Spec PyProof.Rows L2
open Evl (Ex)
/-! ### while (x := e) op f: -/
def whN (i : Nat) (w : WE) (r : R2D) (wb : WE) (b : WS) (D : DEnds) : Nat → Dn → S → Prop
  | 0, _, _ => False
  | n + 1, δ, s => w δ s fun d s1 => wb (δ.set i (some d)) s1 fun e s2 => r d e s2 fun z s3 => match z with
    | .bl true => b { nx := whN i w r wb b D n, rt := D.rt, bk := D.nx, ct := whN i w r wb b D n } (δ.set i (some d)) s3
    | .bl false => D.nx (δ.set i (some d)) s3
    | _ => False
def wWhileN (i : Nat) (w : WE) (r : R2D) (wb : WE) (b : WS) : WS := fun D δ s => ∃ n, whN i w r wb b D n δ s
section
variable {X : Cx} {e f : Expr} {body : List Stmt} {x : Str} {i : Nat} {p npos cpos pos : Pos} {op : CmpOp} {w wb : WE} {r : R2D} {b : WS}
theorem ds_whileN (hp : PassesOwn (model X.prog X.w) X.A X.env X.xe) (hN : X.N.Nodup) (hi : X.N[i]? = some x) (hx : Loc X.env.scope x) (he : DE X e w) (ho : OpD X (compareOp op) r) (hb : DE X f wb) (hm : behindInMarks op f = false) (hbody : DSs X body b)
    (hf : X.fn x = true ∨ X.env.scope.names.lookup x = some .local := by first | exact .inl rfl | exact .inr rfl | assumption) : DS X (.While (.Compare (.NamedExpr (.Name x p) e npos) [op] [f] cpos) body [] pos) (wWhileN i w r wb b) :=
  PS.imp (ps_whileW hp (ptw_cmp ho (pew_named hN hi hx (pew_of he) hf) hb hm) hbody pss_nil) fun D σ H ⟨F, G, δ, s, D', en, o, ⟨n, hw⟩, q⟩ => by
    refine ⟨fun m σ H => ∃ G1 δ s, Ex G G1 ∧ EnvOk X.K G1 δ σ ∧ Own X.K F s G1 H ∧ whN i w r wb b D' m δ s, ⟨n, G, δ, s, Ex.refl _, en, o, hw⟩, ?_⟩
    rintro m σ1 H1 ⟨G1, δ1, s1, e1, en1, o1, h1⟩
    cases m with
    | zero => exact h1.elim
    | succ m =>
      unfold whN at h1
      refine ⟨F, G1, δ1, s1, _, en1, o1, h1, fun d s2 h2 G2 H2 v e2 o2 r2 => ?_⟩
      have en2 := (en1.mono e2).set (i := i) r2
      refine ⟨F, G2, _, s2, _, en2, o2, h2, fun c s3 h3 G3 H3 u e3 o3 r3 => ?_⟩
      refine ⟨F, G3, s3, d, c, _, o3, r2.mono e3, r3, h3, fun z s4 h4 G4 H4 y e4 o4 r4 => ?_⟩
      have e14 := e1.trans (e2.trans (e3.trans e4))
      have en4 := (en2.mono e3).mono e4
      cases r4 <;> first | exact h4.elim | skip
      rename_i k
      refine ⟨k, rfl, ?_⟩
      cases k with
      | true =>
        rw [if_pos rfl]
        refine ⟨fun σ' H' => ∃ G5 δ5 s5, Ex G G5 ∧ EnvOk X.K G5 δ5 σ' ∧ Own X.K F s5 G5 H' ∧ whN i w r wb b D' m δ5 s5, fun σ' H' h => ⟨m, Nat.lt_succ_self _, h⟩, F, G4, _, s4, _, en4, o4, h4, ?_⟩
        have q4 := q.mono e14
        exact ⟨fun δ5 s5 h5 G5 H5 σ5 e5 en5 o5 => ⟨G5, δ5, s5, e14.trans e5, en5, o5, h5⟩, q4.rt, q4.nx, fun δ5 s5 h5 G5 H5 σ5 e5 en5 o5 => ⟨G5, δ5, s5, e14.trans e5, en5, o5, h5⟩⟩
      | false =>
        rw [if_neg Bool.false_ne_true]
        exact q.nx _ s4 h4 G4 H4 _ e14 en4 o4
end
end DL

set_option Elab.async false
set_option linter.all false
set_option autoImplicit false
set_option maxRecDepth 100000
set_option maxHeartbeats 4000000
/-! enumerate over a tuple. -/
namespace DS
open PySem PySem.Spec PyProof.Rows L2
open AutoSeq1 (wpAny_loadPart')
theorem draws_tup {P : Program} {w : World} {A : Around} (hh : A.handled = none) (it t : Addr) (hne : t ≠ it) (items : Array Value) : Draws P w A it [it, t] items.size (fun i v => items[i]? = some v) (fun i h => h.IsTupleIter it t i ∧ h.IsTuple t items) where
  live := fun _ _ st => let ⟨o, ho, _⟩ := st.1; ⟨o, ho⟩
  frame := fun _ _ _ st k => ⟨st.1.at fun o e => k it (by simp) o e, let ⟨o, ho, r⟩ := st.2; ⟨o, k t (by simp) o ho, r⟩⟩
  item := fun i s Q E hi st hQ => RZ.nextOf_tuple_item st.1 st.2 (x := items[i]) (by simp [hi]) fun h' hit' same => hQ _ h' s.toks (by simp [hi]) ⟨hit', let ⟨o, ho, r⟩ := st.2; ⟨o, (same.2 t hne).trans ho, r⟩⟩ same
  done := fun s Q E st hE => RZ.nextOf_tuple_end hh st.1 st.2 (by simp) hE
theorem draws_end {P : Program} {w : World} {A : Around} (hh : A.handled = none) (it t : Addr) {i : Nat} {items : Array Value} (hx : items[i]? = none) : Draws P w A it [it, t] i (fun _ _ => False) (fun j h => j = i ∧ h.IsTupleIter it t i ∧ h.IsTuple t items) where
  live := fun _ _ st => let ⟨o, ho, _⟩ := st.2.1; ⟨o, ho⟩
  frame := fun _ _ _ st k => ⟨st.1, st.2.1.at fun o e => k it (by simp) o e, let ⟨o, ho, r⟩ := st.2.2; ⟨o, k t (by simp) o ho, r⟩⟩
  item := fun j s Q E hj st hQ => absurd st.1 (Nat.ne_of_lt hj)
  done := fun s Q E st hE => RZ.nextOf_tuple_end hh st.2.1 st.2.2 hx hE
theorem enum_made (l : Addr) (items : Array Value) (n : Nat) (dct : Option Addr) (sl : Array (Option Value)) :
    Meets (Builtin.«enumerate.__new__» ⟨[.type "enumerate", .ref l], []⟩) (fun _ R s => s.heap.get? l = some { cls := .type "tuple", dict := dct, data := .seq items n, slots := sl } ∧
      R (.ok (.ret (.ref (s.heap.push { cls := .type "tuple_iterator", data := .fields #[.ref l, .int 0 0] }).objs.size)))
        { s with heap := (s.heap.push { cls := .type "tuple_iterator", data := .fields #[.ref l, .int 0 0] }).push { cls := .type "enumerate", data := .fields #[.none, .bool false, .ref s.heap.objs.size, rawInt 0, .none, .none] } }) :=
  .of_wp fun prog w A R s h => by
    obtain ⟨hp, g, d, tk, os⟩ := s
    obtain ⟨hl, h⟩ := h
    have hsub := sub_enumerate
    have isT : Heap.IsTuple (Shared.heap ⟨hp, g, d, tk, os⟩) l items := ⟨_, hl, rfl, n, rfl⟩
    wp_walk using wpAny_loadPart' hl
    refine wpAny_stack_any fun st => wpAny_pure ?_
    split
    · rename_i c _ _ _ _ _
      cases (c == Value.type "enumerate") <;> (wp_walk using wpAny_loadPart' hl, wpAny_pyIter_tuple isT) <;> exact ⟨_, rfl, h⟩
    · wp_walk using wpAny_loadPart' hl, wpAny_pyIter_tuple isT
      exact ⟨_, rfl, h⟩
section
variable {P : Program} {w : World} {A : Around} {E : Value → Shared → Prop} {s : Shared}
theorem enum_of_tup {l : Addr} {items : Array Value} {Q : Value → Shared → Prop} (hL : s.heap.IsTuple l items)
    (h : ∀ h', IsEnum h' (s.heap.objs.size + 1) s.heap.objs.size 0 .none → h'.IsTupleIter s.heap.objs.size l 0 → h'.objs.size = s.heap.objs.size + 2 → (∀ b o, s.heap.get? b = some o → h'.get? b = some o) → Q (.ref (s.heap.objs.size + 1)) { s with heap := h' }) :
    wpAny (model P w) A (call (.type "enumerate") [.ref l]) Q E s := by
  obtain ⟨⟨c, dct, dt, sl⟩, hl, hc, n, hd⟩ := hL
  obtain rfl : c = .type "tuple" := hc
  obtain rfl : dt = .seq items n := hd
  refine callType_new F.called_enumerate (by decide) (F.typeCall_enumerate_1 _) (F.newCall_enumerate_1 _) (fun obj => F.args_object_init_2 obj _) F.entry_enumerate_new (enum_made l items n dct sl) ⟨hl, ?_⟩
  have sz : (s.heap.push { cls := .type "tuple_iterator", data := .fields #[.ref l, .int 0 0] }).objs.size = s.heap.objs.size + 1 := Heap.size_push ..
  show _ ∧ _
  rw [sz]
  have he : IsEnum ((s.heap.push { cls := .type "tuple_iterator", data := .fields #[.ref l, .int 0 0] }).push { cls := .type "enumerate", data := .fields #[.none, .bool false, .ref s.heap.objs.size, rawInt 0, .none, .none] }) (s.heap.objs.size + 1) s.heap.objs.size 0 .none := by
    have q := Heap.get?_push_size (s.heap.push { cls := .type "tuple_iterator", data := .fields #[.ref l, .int 0 0] }) (o := { cls := .type "enumerate", data := .fields #[.none, .bool false, .ref s.heap.objs.size, rawInt 0, .none, .none] }) rfl
    rwa [sz] at q
  exact ⟨⟨_, he, rfl⟩, h _ he ⟨_, Heap.get?_push_of_some _ (Heap.get?_push_size _ rfl), rfl, rfl⟩ (by rw [Heap.size_push, sz]) fun b o x => Heap.get?_push_of_some _ (Heap.get?_push_of_some _ x)⟩
end
def IteT (K : PySem.W.Frag) (a : Addr) : It :=
  ⟨fun i H => ∃ (xs : List V) (x : V), SqT K H a xs ∧ xs[i]? = some x, fun i H v H' => ∃ T x, v = .ref T ∧ H T = none ∧ H' = upd H T (.tup [.int (i : Nat), x]) ∧ ∀ xs, SqT K H a xs → xs[i]? = some x, fun i H => ∃ xs : List V, SqT K H a xs ∧ xs.length ≤ i⟩
theorem turn_enumT {P : Program} {w : World} {K : PySem.W.Frag} {elts : List Expr} {kk : Nat} {tpos : Pos} (a e it : Addr) :
    Turn P w K (.Tuple elts kk tpos) (IteT K a) [e, it] e (fun i h => (∃ old, IsEnum h e it ((i : Nat) : Int) old) ∧ h.IsTupleIter it a i ∧ e ≠ it ∧ a ≠ e ∧ a ≠ it) where
  mem := by simp
  obj := fun i h st b hb => by
    obtain ⟨⟨old, he⟩, ⟨o, ho, hc, hd⟩, _⟩ := st
    simp only [List.mem_cons, List.not_mem_nil, or_false] at hb
    rcases hb with rfl | rfl
    · exact ⟨_, he, fun v q => nomatch q⟩
    · exact ⟨o, ho, fun v q => by rw [hd] at q; cases q⟩
  keep := fun i h h' ⟨⟨old, he⟩, hi, ne⟩ k => ⟨⟨old, k e (by simp) _ he⟩, hi.at fun o q => k it (by simp) o q, ne⟩
  item := by
    intro X hP hw hK hc i pins s σ H E I hf st hg
    subst hP hw hK
    obtain ⟨⟨old, he⟩, hit, ne, nae, nai⟩ := st
    obtain ⟨xs, x, hq, hx⟩ := hg
    obtain ⟨its, rv, p, hz⟩ := I.tuple hq
    obtain ⟨u, hu, ru⟩ := rv.get hx
    have lt1 : e < s.heap.objs.size := Heap.lt_size he
    have lt2 : it < s.heap.objs.size := by obtain ⟨_, q, _⟩ := hit; exact Heap.lt_size q
    have hlen : i < its.toArray.size := by
      have := (List.getElem?_eq_some_iff.mp hu).1
      simpa using this
    refine wpAny_pyNext_enum_itemD (draws_tup (A := X.A.in1) (by simp [I.ok.hd hc]) it a nai its.toArray) he ⟨hit, p⟩ hlen ne (by simp only [List.mem_cons, List.not_mem_nil, or_false, not_or]; exact ⟨ne, Ne.symm nae⟩) fun v h' tk hv ho hst hT hsz hk => ?_
    obtain rfl : v = u := by
      have hv : its.toArray[i]? = some v := hv
      have : its[i]? = some v := by simpa using hv
      rw [hu] at this; exact (Option.some.inj this).symm
    refine ⟨_, rfl, wpAny_letOwnedTupleGo_enum (s := { s with heap := h', toks := tk + 1 }) ho fun h'' he' sb => ?_⟩
    have hT2 : h''.get? s.heap.objs.size = some { cls := .type "tuple", data := .seq #[.int i tk, v] } := (sb.2 _ (Nat.ne_of_gt lt1)).trans hT
    have new : ObjOk X.prog X.w (upd H s.heap.objs.size (.tup [.int (i : Nat), x])) h'' s.heap.objs.size (.tup [.int (i : Nat), x]) := ⟨by show 2 ≤ sizeLine; decide, [.int i tk, v], .cons ⟨_, rfl⟩ (.cons ru .nil), ⟨_, hT2, rfl, _, rfl⟩⟩
    have I1 : L2.Inv X pins σ (upd H s.heap.objs.size (.tup [.int (i : Nat), x])) { s with heap := h'', toks := tk + 1 } :=
      I.turnedNew (ch := [e, it]) (fun b ob hb q => (sb.2 b (fun z => hb (by simp [z]))).trans (hk b ob (fun z => hb (by simp [z])) (fun z => hb (by simp [z])) q)) hf (Nat.le_refl _) new
    refine ⟨.ref s.heap.objs.size, _, I1, rfl, ⟨_, x, rfl, I.hok.fresh (Nat.le_refl _), rfl, fun ys hy => by rw [I.tuple_inj hy hq]; exact hx⟩, ⟨⟨v, ?_⟩, hst.1.at fun o q => (sb.2 it (Ne.symm ne)).trans q, ne, nae, nai⟩, fun b hb => ?_⟩
    · rw [show ((i + 1 : Nat) : Int) = (i : Int) + 1 by omega]; exact he'
    · have lt : b < s.heap.objs.size := by
        simp only [List.mem_cons, List.not_mem_nil, or_false] at hb
        rcases hb with rfl | rfl
        · exact lt1
        · exact lt2
      rw [upd_ne (Nat.ne_of_lt lt)]
      exact (hf b hb).1
  done := by
    intro X hP hw hK hc i pins s σ H E I hf st hg
    subst hP hw hK
    obtain ⟨⟨old, he⟩, hit, ne, nae, nai⟩ := st
    obtain ⟨xs, hq, hx⟩ := hg
    obtain ⟨its, rv, p, hz⟩ := I.tuple hq
    obtain ⟨f0, f1, f2, f3, f4, f5⟩ := hf it (by simp)
    have len := rv.length
    have none_ : its.toArray[i]? = none := by simp; omega
    exact wpAny_pyNext_enum_endD (draws_end (A := X.A.in1) (by simp [I.ok.hd hc]) it a none_) he ⟨rfl, hit, p⟩ fun h' eb => ⟨rfl, I.turned (t' := s.toks) (fun b o hb q => eb b o hb q) f0 f1 f3 f4 f5⟩
  self := fun A i s Q E st h => let ⟨⟨_, he⟩, _⟩ := st; wpAny_pyIter_enum he h
def iEnumA (K : PySem.W.Frag) (ta : TA) : TI := fun σ H R => ta σ H fun vs H1 => ∃ a xs, vs = [.ref a] ∧ ((SqL K H1 a xs ∧ R (Ite K a) H1) ∨ (SqT K H1 a xs ∧ R (IteT K a) H1))
theorem pi_enumA {X : Cx} {e : Expr} {ta : TA} {p pos tpos : Pos} {elts : List Expr} {kk : Nat} (hg : Gl X "enumerate") (hm : X.mg "enumerate" = none) (ha : PA X [e] ta) (hs : starEach [e] X.env = [(false, eval e X.env)] := by rfl) : PI X (.Tuple elts kk tpos) (.Call (.Name "enumerate" p) [e] [] pos) (iEnumA X.K ta) := by
  refine ⟨fun pins s σ H R I h => Call_ (ld_blt I hg hm boot_enumerate (PyProof.Rows.callWith_type1 (thn (ha.run pos pins s σ H _ I h) fun us s1 ⟨vs, H1, I1, r1, a, xs, ex, q⟩ => ?_) hs rfl))⟩
  subst ex
  cases r1 with
  | cons r rr =>
    cases rr
    cases r
    have far : ∀ b, b ∈ [s1.heap.objs.size + 1, s1.heap.objs.size] → s1.heap.objs.size ≤ b := fun b hb => by
      simp only [List.mem_cons, List.not_mem_nil, or_false] at hb
      rcases hb with rfl | rfl
      · exact Nat.le_succ _
      · exact Nat.le_refl _
    rcases q with ⟨hq, q⟩ | ⟨hq, q⟩
    · obtain ⟨its, rv, p', hz⟩ := I1.list hq
      exact call_enumerate_list p'.isList fun h' he hit _ hk => wpAny_pyIter_enum he ⟨s1.heap.objs.size + 1, _, _, _, H1, rfl, I1.kept (t' := s1.toks) hk, turn_enum a (s1.heap.objs.size + 1) s1.heap.objs.size, ⟨⟨.none, he⟩, hit, Nat.succ_ne_self _⟩, fun b hb => I1.fpOk (far b hb) (I1.hok.fresh (far b hb)), q⟩
    · obtain ⟨its, rv, p', hz⟩ := I1.tuple hq
      have lt : a < s1.heap.objs.size := by obtain ⟨o, ho, _⟩ := p'; exact Heap.lt_size ho
      exact enum_of_tup p' fun h' he hit _ hk => wpAny_pyIter_enum he ⟨s1.heap.objs.size + 1, _, _, _, H1, rfl, I1.kept (t' := s1.toks) hk, turn_enumT a (s1.heap.objs.size + 1) s1.heap.objs.size, ⟨⟨.none, he⟩, hit, Nat.succ_ne_self _, Nat.ne_of_lt (Nat.lt_succ_of_lt lt), Nat.ne_of_lt lt⟩, fun b hb => I1.fpOk (far b hb) (I1.hok.fresh (far b hb)), q⟩
end DS

set_option Elab.async false
set_option linter.all false
set_option autoImplicit false
set_option maxRecDepth 100000
set_option maxHeartbeats 4000000
namespace DL
open PySem PySem.Spec PyProof.Rows L2
open Evl (Ex)
/-! ### for a, b in zip(xs, ys); for i, x in enumerate(xs) -/
def prD (p : D × D) : D := .tpw [p.1, p.2]
def zipD (xs ys : List D) : List D := (xs.zip ys).map prD
def enuD (xs : List D) : List D := ((List.range xs.length).zip xs).map fun p => .tpw [.int ((p.1 : Nat) : Int), p.2]
def wiEnum (w : WA) : WI := fun δ s P => w δ s fun ds s1 => match ds with
  | [.lst xs] => P (enuD xs) s1
  | [.tup xs] => P (enuD xs) s1
  | _ => False
def wiZip (w : WA) : WI := fun δ s P => w δ s fun ds s1 => match ds with
  | [d, e] => (match d, e with
    | .lst xs, .lst ys => P (zipD xs ys) s1
    | .tup xs, .tup ys => P (zipD xs ys) s1
    | _, _ => False)
  | _ => False
section
variable {K : PySem.W.Frag} {G : Hp}
/-- a pair that a turn lays anew -/
theorem Own.pair {F : Hp} {s : S} {G H : Hp} (o : Own K F s G H) {d1 d2 : D} {x y : V} {T : Addr} (hT : H T = none) (r1 : Rep K G d1 x) (r2 : Rep K G d2 y) :
    Ex G (upd G T (.tup [x, y])) ∧ Own K F s (upd G T (.tup [x, y])) (upd H T (.tup [x, y])) ∧ Rep K (upd G T (.tup [x, y])) (.tpw [d1, d2]) (.ref T) := by
  have e := Ex.new (o := .tup [x, y]) (o.freeG hT)
  exact ⟨e, o.lay hT, .tpw (.of upd_same) (.cons (r1.mono e) (.cons (r2.mono e) .nil))⟩
theorem jok_zip {ds es : List D} {xs ys : List V} {a b : Addr} (ha : G a = some (.lst xs)) (hb : G b = some (.lst ys)) (r1 : RepL K G ds xs) (r2 : RepL K G es ys) : JOk K G (zipD ds es) (Itz K a b) := by
  have l1 := r1.length
  have l2 := r2.length
  have len : (zipD ds es).length = min ds.length es.length := by simp [zipD]
  refine ⟨fun i F s G1 H e o hi => ?_, fun i F s G1 H e o hi => ⟨xs, ys, .of (o.ex _ _ (e _ _ ha)), .of (o.ex _ _ (e _ _ hb)), by omega⟩⟩
  have qa : SqL K H a xs := .of (o.ex _ _ (e _ _ ha))
  have qb : SqL K H b ys := .of (o.ex _ _ (e _ _ hb))
  have hx : xs[i]? = some xs[i] := List.getElem?_eq_getElem (by omega)
  have hy : ys[i]? = some ys[i] := List.getElem?_eq_getElem (by omega)
  refine ⟨⟨xs, ys, _, _, qa, qb, hx, hy⟩, fun v H' ⟨T, x, y, e1, hT, e2, kx, ky⟩ => ?_⟩
  subst e1; subst e2
  obtain ⟨d1, g1, q1⟩ := r1.getV (kx xs qa)
  obtain ⟨d2, g2, q2⟩ := r2.getV (ky ys qb)
  obtain ⟨u1, u2, u3⟩ := o.pair hT (q1.mono e) (q2.mono e)
  refine ⟨.tpw [d1, d2], _, ?_, u1, u2, u3⟩
  unfold zipD
  have z : (ds.zip es)[i]? = some (d1, d2) := List.getElem?_zip_eq_some.mpr ⟨g1, g2⟩
  rw [List.getElem?_map, z]; rfl
theorem jok_zipT {ds es : List D} {xs ys : List V} {a b : Addr} (ha : SqT K G a xs) (hb : SqT K G b ys) (r1 : RepL K G ds xs) (r2 : RepL K G es ys) : JOk K G (zipD ds es) (RZ.ItzT K a b) := by
  have l1 := r1.length
  have l2 := r2.length
  have len : (zipD ds es).length = min ds.length es.length := by simp [zipD]
  refine ⟨fun i F s G1 H e o hi => ?_, fun i F s G1 H e o hi => ⟨xs, ys, ex_t (e.trans o.ex) ha, ex_t (e.trans o.ex) hb, by omega⟩⟩
  have qa : SqT K H a xs := ex_t (e.trans o.ex) ha
  have qb : SqT K H b ys := ex_t (e.trans o.ex) hb
  have hx : xs[i]? = some xs[i] := List.getElem?_eq_getElem (by omega)
  have hy : ys[i]? = some ys[i] := List.getElem?_eq_getElem (by omega)
  refine ⟨⟨xs, ys, _, _, qa, qb, hx, hy⟩, fun v H' ⟨T, x, y, e1, hT, e2, kx, ky⟩ => ?_⟩
  subst e1; subst e2
  obtain ⟨d1, g1, q1⟩ := r1.getV (kx xs qa)
  obtain ⟨d2, g2, q2⟩ := r2.getV (ky ys qb)
  obtain ⟨u1, u2, u3⟩ := o.pair hT (q1.mono e) (q2.mono e)
  refine ⟨.tpw [d1, d2], _, ?_, u1, u2, u3⟩
  unfold zipD
  have z : (ds.zip es)[i]? = some (d1, d2) := List.getElem?_zip_eq_some.mpr ⟨g1, g2⟩
  rw [List.getElem?_map, z]; rfl
theorem enuD_at {ds : List D} {i : Nat} {d : D} (h : ds[i]? = some d) : (enuD ds)[i]? = some (.tpw [.int (i : Int), d]) := by
  have hl : i < ds.length := (List.getElem?_eq_some_iff.mp h).1
  have z : ((List.range ds.length).zip ds)[i]? = some (i, d) := List.getElem?_zip_eq_some.mpr ⟨by rw [List.getElem?_range hl], h⟩
  unfold enuD
  rw [List.getElem?_map, z]; rfl
theorem enuD_length (ds : List D) : (enuD ds).length = ds.length := by simp [enuD]
theorem jok_enum {ds : List D} {xs : List V} {a : Addr} (ha : G a = some (.lst xs)) (r1 : RepL K G ds xs) : JOk K G (enuD ds) (Ite K a) := by
  have l1 := r1.length
  refine ⟨fun i F s G1 H e o hi => ?_, fun i F s G1 H e o hi => ⟨xs, .of (o.ex _ _ (e _ _ ha)), by rw [enuD_length] at hi; omega⟩⟩
  rw [enuD_length] at hi
  have qa : SqL K H a xs := .of (o.ex _ _ (e _ _ ha))
  have hx : xs[i]? = some xs[i] := List.getElem?_eq_getElem (by omega)
  refine ⟨⟨xs, _, qa, hx⟩, fun v H' ⟨T, x, e1, hT, e2, kx⟩ => ?_⟩
  subst e1; subst e2
  obtain ⟨d1, g1, q1⟩ := r1.getV (kx xs qa)
  obtain ⟨u1, u2, u3⟩ := o.pair hT (.int (i : Int)) (q1.mono e)
  exact ⟨_, _, enuD_at g1, u1, u2, u3⟩
theorem jok_enumT {ds : List D} {xs : List V} {a : Addr} (ha : SqT K G a xs) (r1 : RepL K G ds xs) : JOk K G (enuD ds) (DS.IteT K a) := by
  have l1 := r1.length
  refine ⟨fun i F s G1 H e o hi => ?_, fun i F s G1 H e o hi => ⟨xs, ex_t (e.trans o.ex) ha, by rw [enuD_length] at hi; omega⟩⟩
  rw [enuD_length] at hi
  have qa : SqT K H a xs := ex_t (e.trans o.ex) ha
  have hx : xs[i]? = some xs[i] := List.getElem?_eq_getElem (by omega)
  refine ⟨⟨xs, _, qa, hx⟩, fun v H' ⟨T, x, e1, hT, e2, kx⟩ => ?_⟩
  subst e1; subst e2
  obtain ⟨d1, g1, q1⟩ := r1.getV (kx xs qa)
  obtain ⟨u1, u2, u3⟩ := o.pair hT (.int (i : Int)) (q1.mono e)
  exact ⟨_, _, enuD_at g1, u1, u2, u3⟩
end
section
variable {X : Cx} {a b : Expr} {elts : List Expr} {kk : Nat} {p pos tpos : Pos} {we : WE} {wa : WA}
theorem di_zip (hg : Gl X "zip") (hm : X.mg "zip" = none) (ha : DA X [a, b] 2 wa) (hs : starEach [a, b] X.env = (false, eval a X.env) :: starEach [b] X.env := by rfl) (hpl : (backTo pos (starEach [b] X.env)).any (·.1) = false := by rfl) :
    DI X (.Tuple elts kk tpos) (.Call (.Name "zip" p) [a, b] [] pos) (wiZip wa) :=
  PI.imp (RZ.pi_zipA hg hm ha hs hpl) fun σ H R ⟨F, G, δ, s, P, en, o, hw, q⟩ => ⟨F, G, δ, s, _, en, o, hw, fun ds s1 h1 hl G1 H1 vs e1 o1 r1 => by
    split at h1 <;> first | exact h1.elim | skip
    obtain ⟨v, u, rfl, rv, ru⟩ := r1.two
    split at h1 <;> first | exact h1.elim | skip
    · cases rv with
      | lst hv r => cases ru with
        | lst hu r' => exact ⟨_, _, _, _, rfl, .inl ⟨.of (o1.ex _ _ hv), .of (o1.ex _ _ hu), q _ s1 h1 G1 H1 _ e1 o1 (jok_zip hv hu r r')⟩⟩
    · obtain ⟨x, xs, rfl, hx, rx⟩ := rv.seqT (.inl rfl)
      obtain ⟨y, ys, rfl, hy, ry⟩ := ru.seqT (.inl rfl)
      exact ⟨x, y, xs, ys, rfl, .inr ⟨ex_t o1.ex hx, ex_t o1.ex hy, q _ s1 h1 G1 H1 _ e1 o1 (jok_zipT hx hy rx ry)⟩⟩⟩
theorem di_enum (hg : Gl X "enumerate") (hm : X.mg "enumerate" = none) (ha : DA X [a] 1 wa) (hs : starEach [a] X.env = [(false, eval a X.env)] := by rfl) : DI X (.Tuple elts kk tpos) (.Call (.Name "enumerate" p) [a] [] pos) (wiEnum wa) :=
  PI.imp (DS.pi_enumA hg hm ha hs) fun σ H R ⟨F, G, δ, s, P, en, o, hw, q⟩ => ⟨F, G, δ, s, _, en, o, hw, fun ds s1 h1 hl G1 H1 vs e1 o1 r1 => by
    split at h1 <;> first | exact h1.elim | skip
    · obtain ⟨v, rfl, rv⟩ := r1.one
      cases rv with
      | lst hv r => exact ⟨_, _, rfl, .inl ⟨.of (o1.ex _ _ hv), q _ s1 h1 G1 H1 _ e1 o1 (jok_enum hv r)⟩⟩
    · obtain ⟨v, rfl, rv⟩ := r1.one
      obtain ⟨x, xs, rfl, hx, rx⟩ := rv.seqT (.inl rfl)
      exact ⟨x, xs, rfl, .inr ⟨ex_t o1.ex hx, q _ s1 h1 G1 H1 _ e1 o1 (jok_enumT hx rx)⟩⟩⟩
end
end DL

set_option Elab.async false
set_option linter.all false
set_option autoImplicit false
set_option maxRecDepth 100000
set_option maxHeartbeats 4000000
namespace DL
open PySem PySem.Spec PyProof.Rows L2
open Evl (Ex)
/-! ### {k: v for ..}, d[k] -/
def keyOf? : D → Option Key
  | .int i => some (.inl i)
  | .str x => some (.inr x)
  | _ => none
def dcW (vs : List Nat) (g : WG) (t : WT) (wk wv : WE) (δ : Dn) : List D → S → List Key → (List Key → List D → S → Prop) → Prop
  | [], s, _, P => P [] [] s
  | d :: ds, s, seen, P => g d (wipeD δ vs) s fun δ1 s1 => t δ1 s1 fun b s2 => match b with
    | true => wk δ1 s2 fun x s3 => wv δ1 s3 fun y s4 => match keyOf? x with
      | some k => k ∉ seen ∧ dcW vs g t wk wv δ ds s4 (seen ++ [k]) fun ks ys s5 => P (k :: ks) (y :: ys) s5
      | none => False
    | false => dcW vs g t wk wv δ ds s2 seen P
def wDc (vs : List Nat) (wi : WI) (g : WG) (t : WT) (wk wv : WE) : WE := fun δ s P => wi δ s fun ds s1 => ds.length ≤ sizeLine ∧ dcW vs g t wk wv δ ds s1 [] fun ks ys s2 => P (.dct ks ys) s2
theorem putK_new {kvs : List (Key × V)} {k : Key} {v : V} (h : k ∉ kvs.map (·.1)) : putK kvs k v = kvs ++ [(k, v)] := by
  have : (kvs.any fun kv => decide (kv.1 = k)) = false := by
    rw [List.any_eq_false]
    intro kv hkv e
    exact h (List.mem_map.mpr ⟨kv, hkv, of_decide_eq_true e⟩)
  unfold putK
  rw [this]; simp
theorem keyOf_rep {K : PySem.W.Frag} {G : Hp} {d : D} {v : V} {k : Key} (r : Rep K G d v) (h : keyOf? d = some k) : v = kV k := by
  cases r <;> cases h <;> rfl
theorem dc_rows {K : PySem.W.Frag} {F G : Hp} {δ : Dn} {σ : L2.St} {H1 : Hp} {s1 : S} {vs us : List Nat} {g : WG} {t : WT} {wk wv : WE} {ds : List D} {J : It} {P : List Key → List D → S → Prop} {Q : VK} (hsz : ds.length ≤ sizeLine)
    (en : EnvOk K G δ σ) (o1 : Own K F s1 G H1) (jk : JOk K G ds J) (h1 : dcW vs g t wk wv δ ds s1 [] P) (q : ∀ ks ys s', P ks ys s' → ∀ G' H' p xs, Ex G G' → Own K F s' G' H' → H' p = none → ks.length = xs.length → ks.Nodup → RepL K G' ys xs → Q (.ref p) (upd H' p (.dK (ks.zip xs)))) (hs : ∀ j ∈ us, j ∈ vs) (D : Addr) (hD : H1 D = none) :
    ∃ W : Nat → Nat → Hp → Prop, (∃ m, W 0 m (upd H1 D (.dK []))) ∧ ∀ i m H, W i m H →
      (J.stop i H ∧ Q (.ref D) H) ∨ (J.go i H ∧ ∃ Nx : Hp → Prop, (∀ H', Nx H' → ∃ m', m' < m ∧ W (i + 1) m' H') ∧ ∀ x H', J.yld i H x H' → lG K us g x (L2.wipe σ vs) H' fun σ2 H2 => L2.wipe σ2 vs = L2.wipe σ vs ∧ lT K t σ2 H2 fun b H3 =>
        if b = true then lE K wk σ2 H3 fun y H4 => lE K wv σ2 H4 fun z H5 => ∃ kvs k, y = kV k ∧ H5 D = some (.dK kvs) ∧ kvs.length < sizeLine ∧ Nx (upd H5 D (.dK (putK kvs k z))) else Nx H3) := by
  have fD := o1.freeF hD
  have lendD : ∀ {s : S} {G H : Hp} {u u' : HO}, Own K (upd F D u) s G H → Own K (upd F D u') s G (upd H D u') := fun {s G H u u'} o => by
    obtain ⟨f1, f2, f3⟩ := o.fr D _ upd_same
    have nd := o.noDk (p := D) upd_same
    refine ((o.back (Ex.new fD)).turn (u := u') fD f2 f3 nd).lend upd_same f2 f3 fun a n e a1 mx k h => ?_
    obtain ⟨a1', cells, mixed, k', _, g2, g3, _, _, g6, g7, _⟩ := (o.dk a n e).ex
    have n1 : a ≠ D := fun z => by rw [z, upd_same] at g2; cases g2.2
    have n2 : a1' ≠ D := fun z => by rw [z, upd_same] at g3; cases g3.2
    rw [upd_ne n1, g6] at h
    cases h
    exact ⟨n1.symm, n2.symm⟩
  let Wd : Nat → Hp → Prop := fun i H => ∃ G2 s2 ks ys xs, Ex G G2 ∧ Own K (upd F D (.dK (ks.zip xs))) s2 G2 H ∧ RepL K G2 ys xs ∧ ks.length = xs.length ∧ ks.Nodup ∧ ks.length ≤ i ∧ dcW vs g t wk wv δ (ds.drop i) s2 ks fun ks' zs s' => P (ks ++ ks') (ys ++ zs) s'
  have start : Wd 0 (upd H1 D (.dK [])) := by
    refine ⟨G, s1, [], [], [], Ex.refl _, ?_, .nil, rfl, List.nodup_nil, Nat.le_refl _, h1⟩
    refine (o1.pass (u := .dK []) hD).lend upd_same (o1.freeG hD) (o1.freeM hD) fun a n e a1 mx k h => ?_
    obtain ⟨a1', cells, mixed, k', _, _, _, _, _, h6, h7, _⟩ := (o1.dk a n e).ex
    have n1 : a ≠ D := ne_of_none h6 hD
    have n2 : a1' ≠ D := ne_of_none h7 hD
    rw [upd_ne n1, h6] at h
    cases h
    exact ⟨n1.symm, n2.symm⟩
  refine ⟨fun i m H => m = ds.length - i ∧ i ≤ ds.length ∧ Wd i H, ⟨ds.length, by simp, Nat.zero_le _, start⟩, ?_⟩
  rintro i m H ⟨rfl, hi, G2, s2, ks, ys, xs, e2, o2, r2, hl, nd, hl2, h2⟩
  by_cases hlt : i < ds.length
  · refine .inr ?_
    obtain ⟨go, yl⟩ := jk.go i _ s2 G2 H e2 o2 hlt
    refine ⟨go, fun H' => Wd (i + 1) H', fun H' h => ⟨ds.length - (i + 1), by omega, rfl, hlt, h⟩, fun x H' y => ?_⟩
    obtain ⟨d, G3, hd, e3, o3, r3⟩ := yl x H' y
    rw [drop_get hd] at h2
    have en3 := ((en.mono e2).mono e3).wipe vs
    refine ⟨_, G3, wipeD δ vs, s2, d, _, en3, o3, r3, h2, fun δ4 s4 h4 G4 H4 σ4 e4 en4 o4 l4 a4 => ⟨wipe_same l4 a4 hs, _, G4, δ4, s4, _, en4, o4, h4, fun k s5 h5 G5 H5 e5 o5 => ?_⟩⟩
    have e25 := e3.trans (e4.trans e5)
    cases k with
    | false =>
      dsimp only
      rw [if_neg Bool.false_ne_true]
      exact ⟨G5, s5, ks, ys, xs, e2.trans e25, o5, r2.mono e25, hl, nd, by omega, h5⟩
    | true =>
      dsimp only
      rw [if_pos rfl]
      refine ⟨_, G5, δ4, s5, _, en4.mono e5, o5, h5, fun y s6 h6 G6 H6 v6 e6 o6 r6 => ⟨_, G6, δ4, s6, _, (en4.mono e5).mono e6, o6, h6, fun z s7 h7 G7 H7 v7 e7 o7 r7 => ?_⟩⟩
      split at h7 <;> first | exact h7.elim | skip
      rename_i kk hk
      have e27 := e25.trans (e6.trans e7)
      obtain ⟨f1, f2, f3⟩ := o7.fr D _ upd_same
      have notin : kk ∉ (ks.zip xs).map (·.1) := by
        rw [List.map_fst_zip (by omega)]; exact h7.1
      refine ⟨ks.zip xs, kk, keyOf_rep r6 hk, f1, by rw [List.length_zip]; omega, G7, s7, ks ++ [kk], ys ++ [z], xs ++ [v7], e2.trans e27, ?_, (r2.mono e27).append (.cons r7 .nil), by simp [hl], ?_, by simp; omega, ?_⟩
      · rw [putK_new notin]
        have e : (ks ++ [kk]).zip (xs ++ [v7]) = ks.zip xs ++ [(kk, v7)] := by rw [List.zip_append hl]; rfl
        rw [e]
        exact lendD o7
      · exact List.nodup_append.mpr ⟨nd, by simp, by intro a ha b hb e; simp only [List.mem_singleton] at hb; subst hb; subst e; exact h7.1 ha⟩
      · have ea : ∀ ks' : List Key, (ks ++ [kk]) ++ ks' = ks ++ (kk :: ks') := fun ks' => by simp
        have eb : ∀ zs : List DL.D, (ys ++ [z]) ++ zs = ys ++ (z :: zs) := fun zs => by simp
        simp only [ea, eb]
        exact h7.2
  · have e : i = ds.length := by omega
    subst e
    rw [List.drop_length] at h2
    obtain ⟨f1, f2, f3⟩ := o2.fr D _ upd_same
    have h2' : P ks ys s2 := by have z : P (ks ++ []) (ys ++ []) s2 := h2; rw [List.append_nil, List.append_nil] at z; exact z
    refine .inl ⟨jk.stop _ _ s2 G2 H e2 o2 (Nat.le_refl _), ?_⟩
    have od := o2.drop (p := D) upd_same (Ex.new fD) fD
    have z := q ks ys s2 h2' G2 _ D xs e2 od (by simp) hl nd r2
    have eH : upd (fun b => if b = D then none else H b) D (.dK (ks.zip xs)) = H := by
      funext b
      by_cases hb : b = D
      · subst hb; rw [upd_same]; exact f1.symm
      · rw [upd_ne hb]; simp [hb]
    rw [eH] at z
    exact z
section
variable {X : Cx} {kx vx tg iter : Expr} {ifs : List Expr} {scope : Scope} {pos : Pos} {wi : WI} {g : WG} {t : WT} {wk wv : WE} {us : List Nat}
/-- a new dict is locked for good: nothing writes it any more -/
theorem pe_locked {e : Expr} {te : TE} (h : PE X e te) : PE X e (fun σ H Q => te σ H fun v H1 => ∃ d u, v = .ref d ∧ H1 d = some u ∧ Mut (some u) ∧ ∀ od, Q v (upd H1 d (.frz od u))) :=
  ⟨fun pins s σ H Q I hw => thn (h.run pins s σ H _ I hw) fun v s1 ⟨x, H1, I1, r, d, u, ex, hd, mu, q⟩ => let ⟨od, I2⟩ := I1.lock hd mu; ⟨x, _, I2, r, q od⟩⟩
theorem locked_mk {H1 : Hp} {d : Addr} {u : HO} {Q : V → Hp → Prop} (hd : H1 d = some u) (mu : Mut (some u)) (q : ∀ od, Q (.ref d) (upd H1 d (.frz od u))) : ∃ d' u', V.ref d = .ref d' ∧ H1 d' = some u' ∧ Mut (some u') ∧ ∀ od, Q (.ref d) (upd H1 d' (.frz od u')) := ⟨d, u, rfl, hd, mu, q⟩
theorem de_dc (own : List (Str × Nat)) (hc : X.calm = true) (hN : X.N.Nodup) (hi : DI X tg iter wi) (ok : BlkOk X.N X.env.scope scope own)
    (hg : ∀ (s : Shared) (H : Hp) (C : Addr) (cl : List (Str × Addr)) (fp : List Addr), DG (X.blk s H scope (compEnvC scope cl C X.env) fp) tg us g)
    (ht : ∀ (s : Shared) (H : Hp) (C : Addr) (cl : List (Str × Addr)) (fp : List Addr), DTs (X.blk s H scope (compEnvC scope cl C X.env) fp) ifs t)
    (hk : ∀ (s : Shared) (H : Hp) (C : Addr) (cl : List (Str × Addr)) (fp : List Addr), DE (X.blk s H scope (compEnvC scope cl C X.env) fp) kx wk)
    (he : ∀ (s : Shared) (H : Hp) (C : Addr) (cl : List (Str × Addr)) (fp : List Addr), DE (X.blk s H scope (compEnvC scope cl C X.env) fp) vx wv)
    (hu : ∀ j ∈ us, j ∈ own.map (·.2) := by decide) (hs : ∀ x, foldedSetIterable iter X.env x = pure x := by intro _; rfl) :
    DE X (.DictComp kx vx [⟨tg, iter, ifs, 0⟩] scope pos) (wDc (own.map (·.2)) wi g t wk wv) :=
  PE.imp (pe_locked (pe_dc (own := own) hc hN hi ok hg ht hk he hs)) fun σ H Q ⟨F, G, δ, s, P, en, o, hw, q⟩ => ⟨F, G, δ, s, _, en, o, hw, fun ds s1 h1 G1 H1 J e1 o1 jk D hD =>
    dc_rows (Q := fun v H1 => ∃ d u, v = .ref d ∧ H1 d = some u ∧ Mut (some u) ∧ ∀ od, Q v (upd H1 d (.frz od u))) h1.1 (en.mono e1) o1 jk h1.2 (fun ks ys s2 h2 G2 H2 p xs e2 o2 hp hl nd r2 => by
      have e3 : ∀ od, Ex G2 (upd G2 p (.frz od (.dK (ks.zip xs)))) := fun od => Ex.new (o := .frz od (.dK (ks.zip xs))) (o2.freeG hp)
      refine locked_mk (u := .dK (ks.zip xs)) upd_same trivial fun od => ?_
      rw [upd_upd]
      exact q _ s2 h2 _ _ _ (e1.trans (e2.trans (e3 od))) (o2.lay hp) (.dct upd_same hl nd (r2.mono (e3 od)))) hu D hD⟩
/-- d[k], d a dict that stands still -/
def wDget (wd wk : WE) : WE := fun δ s P => wd δ s fun d s1 => wk δ s1 fun k s2 => match d, keyOf? k with
  | .dct ks ys, some kk => (match (ks.zip ys).find? fun p => decide (p.1 = kk) with
    | some p => P p.2 s2
    | none => False)
  | _, _ => False
theorem find_rep {K : PySem.W.Frag} {G : Hp} {kk : Key} : ∀ {ks : List Key} {ys : List D} {xs : List V} {p : Key × D}, RepL K G ys xs → ((ks.zip ys).find? fun p => decide (p.1 = kk)) = some p → ∃ v, valV (ks.zip xs) kk = some v ∧ Rep K G p.2 v
  | [], _, _, _, _, h => by simp at h
  | _ :: _, _, _, _, .nil, h => by simp at h
  | k :: ks, y :: ys, x :: xs, p, .cons h0 r, h => by
    by_cases e : k = kk
    · have h : ((k, y) :: ks.zip ys).find? (fun p => decide (p.1 = kk)) = some p := h
      rw [List.find?_cons_of_pos (by simp [e])] at h
      cases h
      exact ⟨x, by unfold valV; rw [List.zip_cons_cons, List.find?_cons_of_pos (by simp [e])]; rfl, h0⟩
    · have h : ((k, y) :: ks.zip ys).find? (fun p => decide (p.1 = kk)) = some p := h
      rw [List.find?_cons_of_neg (by simp [e])] at h
      obtain ⟨v, h1, h2⟩ := find_rep r h
      exact ⟨v, by unfold valV at h1 ⊢; rw [List.zip_cons_cons, List.find?_cons_of_neg (by simp [e])]; exact h1, h2⟩
variable {o i : Expr} {wd : WE}
theorem de_dget (hu : X.A.units + 64 < cLine) (ho : DE X o wd) (hi : DE X i wk) (hs : NoSl i) : DE X (.Subscript o i pos) (wDget wd wk) :=
  PE.imp (pe_dget (by omega) ho hi hs) fun σ H Q ⟨F, G, δ, s, P, en, ow, hw, q⟩ => ⟨F, G, δ, s, _, en, ow, hw, fun d s1 h1 G1 H1 v e1 o1 r1 => ⟨F, G1, δ, s1, _, en.mono e1, o1, h1, fun k s2 h2 G2 H2 y e2 o2 r2 => by
    split at h2 <;> first | exact h2.elim | skip
    rename_i ks ys kk hk
    split at h2 <;> first | exact h2.elim | skip
    rename_i p hp
    have r1' := r1.mono e2
    cases r1' with
    | dct hx hl nd r =>
      have ey := keyOf_rep r2 hk
      subst ey
      obtain ⟨v, hv, rv⟩ := find_rep r hp
      exact ⟨_, v, rfl, by rw [← hv]; exact .inl ⟨_, _, .inr ⟨_, o2.ex _ _ hx⟩, rfl, rfl⟩, q _ s2 h2 G2 H2 v (e1.trans e2) o2 rv⟩⟩⟩
end
end DL
namespace DL
open PySem PySem.Spec PyProof.Rows L2
theorem bb_any : bootBuiltins (Str.ofString "any") = some (.builtin "any") := by decide +kernel
theorem bb_all : bootBuiltins (Str.ofString "all") = some (.builtin "all") := by decide +kernel
end DL

set_option Elab.async false
set_option linter.all false
set_option autoImplicit false
set_option maxRecDepth 100000
set_option maxHeartbeats 4000000
/-! sorted(xs, key=f), f's calls known by an invariant of the state. -/
namespace DS
open PySem PySem.Calls PyProof.Rows PySem.W
section
variable {P : Program} {w : World} {A : Around} {E : Value → Shared → Prop} {s : Shared} {Fin' : PySem.Fin → Shared → Prop}
/-- what is known of the state behind j keys: the store kS, the emptied list a -/
structure Keys (P : Program) (w : World) (A : Around) (f : Value) (vs : List Value) (kz : List PyData) (a kS : Addr) (e1 : Nat) (Z : Nat → Array Value → Shared → Prop) : Prop where
  sz : ∀ j kA s, Z j kA s → kA.size = j
  st : ∀ j kA s, Z j kA s → (∃ e, s.heap.get? kS = some (seqObj "list" kA e)) ∧ s.heap.get? a = some (seqObj "list" #[] e1)
  turn : ∀ j v kA (s : Shared) (E : Value → Shared → Prop), vs[j]? = some v → Z j kA s → wpAny (model P w) A (call f [v]) (fun r s' => (∃ e, s'.heap.get? kS = some (seqObj "list" kA e)) ∧ ∀ tk, s'.toks ≤ tk → Z (j + 1) (kA.push r) { s' with heap := s'.heap.update kS (Obj.mapSeq (·.push r)), toks := tk }) (fun _ _ => False) s
  read : ∀ kA s, Z vs.length kA s → EachIs (fun v k => ∃ as, Reads s.heap v k as) kA.toList kz
theorem Keys.rest {f : Value} {vs : List Value} {kz : List PyData} {a kS : Addr} {e1 : Nat} {Z : Nat → Array Value → Shared → Prop} (T : Keys P w A f vs kz a kS e1 Z) (ne : kS ≠ a) (start : Z 0 #[] s) (hZ : vs.length ≤ sizeLine) (hal : AllAlike kz) (hsk : Sortable kz) (hu : ∀ d ∈ kz, A.units + d.depth < cLine)
    (fin : ∀ s' h' tk out c kA, Z vs.length kA s' → (∀ b o, b ≠ a → b ≠ kS → s'.heap.get? b = some o → h'.get? b = some o) → h'.get? a = some (seqObj "list" (List.toArray out) c) → KeyedOut false kz vs out → Fin' (.done (.ret .none)) { s' with heap := h', toks := tk }) :
    wpAny (model P w) A (ksk_rest a f false vs.toArray e1 (.ref kS)) Fin' E s := by
  unfold ksk_rest
  refine wpAny_bind (wpAny_rule ?_)
  first
    | rw [List.forIn_toArray]
    | (rw [← Array.forIn_toList]; simp only [List.toList_toArray])
  refine wpAny_bind (ksk_fold (fun j s' => ∃ kA, Z j kA s') vs 0 s ⟨#[], start⟩ ?one ?all)
  case one =>
    rintro j v s' hv ⟨kA, z⟩
    rw [Nat.zero_add] at z ⊢
    have lt := (List.getElem?_eq_some_iff.mp hv).1
    refine wpAny_bind (wpAny_attempt (wpAny_mono (T.turn j v kA s' (fun _ _ => False) hv z) (fun r s'' ⟨⟨e, at1⟩, z2⟩ => ?_) fun _ _ hF => hF.elim))
    have few : kA.size ≤ sizeLine := by rw [T.sz _ _ _ z]; omega
    refine wpAny_bind (PyProof.Rows.listUpdate_at at1 rfl ?_ few (by rw [Array.size_push]; omega))
    exact wpAny_pure ⟨rfl, kA.push r, z2 _ (Nat.le_refl _)⟩
  case all =>
    rintro s' ⟨kA, z⟩
    rw [Nat.zero_add] at z
    obtain ⟨⟨e, at1⟩, at2⟩ := T.st _ _ _ z
    obtain ⟨G, g1, g2⟩ := L2.restrict s'.heap fun b => decide (b ≠ kS)
    have kp : KeepsBut a G s'.heap := fun b o hb q => by
      by_cases hk : b = kS
      · rw [g2 b (by simp [hk])] at q; cases q
      · rw [← g1 b (by simp [hk])]; exact q
    have r := T.read kA s' z
    refine wpAny_bind (listItems_at at1 rfl ?_)
    refine keyH_end (κ := dataKind s'.heap kz) (h₁ := G) kp (g2 kS (by simp)) at1 at2 ne (SortsAt.data r hal hsk hu) (T.sz _ _ _ z) hZ fun h3 tk3 c k3 n3 => fin s' h3 tk3 _ c kA z (fun b o hb hk q => k3 b o hb ?_) n3 ⟨s'.heap, kA.toList, hal, rfl, r⟩
    rw [g1 b (by simp [hk])]; exact q
/-- sorted(xs, key=f) -/
theorem sorted_by {l f : Addr} {vs : List Value} {kz : List PyData} {Q : Value → Shared → Prop} (hl : s.heap.IsList l vs.toArray) (hlen : kz.length = vs.length) (hZ : vs.length ≤ sizeLine) (hal : AllAlike kz) (hsk : Sortable kz) (hu : ∀ d ∈ kz, A.units + 2 + d.depth < cLine)
    (start : ∀ a kS e1 h1, s.heap.objs.size ≤ a → s.heap.objs.size ≤ kS → kS ≠ a → (∀ b o, s.heap.get? b = some o → h1.get? b = some o) → h1.get? a = some (seqObj "list" #[] e1) → h1.get? kS = some (seqObj "list" #[] 0) →
      ∃ Z : Nat → Array Value → Shared → Prop, Keys P w A.in1.in1 (.ref f) vs kz a kS e1 Z ∧ Z 0 #[] { s with heap := h1 } ∧
        ∀ s' h' tk out c kA, Z vs.length kA s' → (∀ b o, b ≠ a → b ≠ kS → s'.heap.get? b = some o → h'.get? b = some o) → h'.get? a = some (seqObj "list" (List.toArray out) c) → KeyedOut false kz vs out → Q (.ref a) { s' with heap := h', toks := tk }) :
    wpAny (model P w) A (call (.builtin "sorted") [.ref l] [(Str.ofString "key", .ref f)]) Q E s := by
  refine sorted_of_sort hl hZ (ksk_s1 _ _) (fun _ => ksk_l1 _ _) fun E' => ?_
  rw [ksk_t1]
  have ho := copyHeap_at s.heap vs
  obtain ⟨a, ha⟩ : ∃ a, s.heap.objs.size + 1 = a := ⟨_, rfl⟩
  obtain ⟨H0, hH⟩ : ∃ H0, copyHeap s.heap vs = H0 := ⟨_, rfl⟩
  have old : ∀ b o, s.heap.get? b = some o → H0.get? b = some o := fun b o q => by rw [← hH]; exact copyHeap_old q
  rw [hH, ha] at ho ⊢
  have la : a < H0.objs.size := Heap.lt_size ho
  obtain ⟨e1, ho1⟩ : ∃ e1, (H0.update a (Obj.mapSeq fun _ => (#[] : Array Value))).get? a = some (seqObj "list" #[] e1) := ⟨_, get?_update_seq ho fun _ => #[]⟩
  obtain ⟨kS, hk⟩ : ∃ kS, ((H0.update a (Obj.mapSeq fun _ => (#[] : Array Value))).push (seqObj "tuple" vs.toArray 0)).objs.size = kS := ⟨_, rfl⟩
  have hk2 : kS = H0.objs.size + 1 := by rw [← hk, size_push', Heap.size_update]
  have ne : kS ≠ a := by rw [hk2]; exact Nat.ne_of_gt (Nat.lt_succ_of_lt la)
  have at1 : (((H0.update a (Obj.mapSeq fun _ => (#[] : Array Value))).push (seqObj "tuple" vs.toArray 0)).push (seqObj "list" #[] 0)).get? kS = some (seqObj "list" #[] 0) := by rw [← hk]; exact Heap.get?_push_size _ rfl
  have at2 := Heap.get?_push_of_some (seqObj "list" #[] 0) (Heap.get?_push_of_some (seqObj "tuple" vs.toArray 0) ho1)
  have keep : ∀ b o, s.heap.get? b = some o → (((H0.update a (Obj.mapSeq fun _ => (#[] : Array Value))).push (seqObj "tuple" vs.toArray 0)).push (seqObj "list" #[] 0)).get? b = some o := fun b o q =>
    Heap.get?_push_of_some _ (Heap.get?_push_of_some _ ((Heap.SameBut.update H0 a _).2 b (by rw [← ha]; exact Nat.ne_of_lt (Nat.lt_succ_of_lt (Heap.lt_size q))) |>.trans (old b o q)))
  obtain ⟨Z, T, z0, fin⟩ := start a kS e1 _ (by rw [← ha]; exact Nat.le_succ _) (by rw [hk2]; exact Nat.le_of_lt (Nat.lt_trans (by rw [← ha] at la; exact Nat.lt_of_succ_lt la) (Nat.lt_succ_self _))) ne keep at2 at1
  unfold ksk_tree
  refine wpAny_bind (listItems_at ho rfl (wpAny_bind (PyProof.Rows.listUpdate_at ho rfl ?_ (by rw [List.size_toArray]; exact hZ) (Nat.zero_le _))))
  refine wpAny_bind (seqEpoch_at ho1 rfl (wpAny_bind (wpAny_newTuple ?_ (by show vs.length ≤ _; exact hZ))))
  refine wpAny_bind (wpAny_newList (wpAny_holding ?_) (Nat.zero_le _))
  have go := T.rest (A := A.in1.in1) (E := E') (s := { s with heap := ((H0.update a (Obj.mapSeq fun _ => (#[] : Array Value))).push (seqObj "tuple" vs.toArray 0)).push (seqObj "list" #[] 0) }) (Fin' := fun f s' => f = .done (.ret .none) ∧ Q (.ref a) s') ne z0 hZ hal hsk hu
    fun s' h' tk out c kA z k n ko => ⟨rfl, fin s' h' tk out c kA z k n ko⟩
  rw [← hk] at go
  exact go
end
end DS

set_option Elab.async false
set_option linter.all false
set_option autoImplicit false
set_option maxRecDepth 100000
set_option maxHeartbeats 4000000
namespace DL
open PySem PySem.Spec PyProof.Rows L2
open Evl (Ex)
open PySem.W (EachIs AllAlike Sortable dataLe KeyedOut)
/-! ### sorted(xs, key=own def) -/
def KeyOk (key : D → D) (es : List D) : Prop := AllAlike ((es.map key).map D.py) ∧ Sortable ((es.map key).map D.py) ∧ ∀ d ∈ es.map key, d.isData = true ∧ d.depth ≤ 58
def wSortKey (sp : SpD) (w : WE) : WA := fun δ s P => w δ s fun d s1 => match view s1 d with
  | .lst es => ∃ key : D → D, KeyOk key es ∧ (∀ e ∈ es, ∀ R : DK, R (key e) s1 → sp [e] s1 R) ∧ P (es.mergeSort (dataLe false fun e => (key e).py)) s1
  | _ => False
section
variable {X : Cx} {pins : List (Addr × Obj)} {σ : L2.St} {H : Hp} {s : Shared} {k : Nat} {f : Addr} {fd : FuncData} {ps : List Str} {sp : SpD}
/-- a call of an own def out of a built-in -/
theorem run_in {A' : Around} {us : List Value} {vs : List V} {Q : VK} {E : Value → Shared → Prop} (F : FnD X.prog X.w X.K X.mg X.base k f fd ps sp) (hr : RoomG k A') (hf : A'.frames = X.A.frames) (I : L2.Inv X pins σ H s) (hb : Binds X.K fd ps []) (r : Vals vs us) (h : lSp X.K sp vs H Q E0) :
    wpAny (model X.prog X.w) A' (call (.ref f) us) (EP X pins σ Q) E s := by
  have hl : us.length = ps.length := r.length.symm.trans (F.len _ _ _ _ h)
  have e := I.env0
  refine wpAny_call (codeAny_mono (F.run A' X.stack s H ⟨us, []⟩ us vs Q E0 hr ⟨by rw [hf]; exact e.frames, e.mod, e.bs, e.bsz, e.funs, e.frf, e.hok, e.bare⟩ (by simpa using hb s us I.kIn (by simpa using hl)) r h) fun res s' hq => ?_)
  match res, hq with
  | .error e, hq => exact False.elim hq
  | .ok (.ret u), hq => exact I.after hq
  | .ok .next, hq => exact False.elim hq
  | .ok .brk, hq => exact False.elim hq
  | .ok .cont, hq => exact False.elim hq
theorem sort_key_run {F0 G : Hp} {sd : S} {es : List D} {its : List Value} {l : Addr} {key : D → D} {P : List D → S → Prop} {Q : VK} (F : FnD X.prog X.w X.K X.mg X.base k f fd ps sp) (hr : RoomG (k + 2) X.A) (hb : Binds X.K fd ps []) (I : L2.Inv X pins σ H s) (o : Own X.K F0 sd G H) (q : RetL X.K F0 G P Q)
    (hl : s.heap.IsList l its.toArray) (hz : its.length ≤ sizeLine) (e0 : EachIs (AtD X.K G) its es) (ok : KeyOk key es) (hsp : ∀ e ∈ es, ∀ R : DK, R (key e) sd → sp [e] sd R) (hP : P (es.mergeSort (dataLe false fun e => (key e).py)) sd) :
    wpAny (model X.prog X.w) X.A (call (.builtin "sorted") [.ref l] [(Str.ofString "key", .ref f)]) (EP X pins σ Q) X.xe s := by
  have len : es.length = its.length := e0.length.symm
  refine DS.sorted_by (kz := (es.map key).map D.py) hl (by simp [len]) hz ok.1 ok.2.1 (fun d hd => ?_) fun a kS e1 h1 ha hk ne keep at2 at1 => ?_
  · obtain ⟨y, hy, rfl⟩ := List.mem_map.mp hd
    have := (ok.2.2 y hy).2
    have := hr.rm.un
    unfold D.depth at *
    omega
  obtain ⟨n0a, c1a, c2a, c3a, c4a, c5a⟩ := I.fpOk ha (I.hok.fresh ha)
  obtain ⟨n0k, c1k, c2k, c3k, c4k, c5k⟩ := I.fpOk hk (I.hok.fresh hk)
  refine ⟨fun j kA s' => ∃ H' G', L2.Inv X pins σ H' s' ∧ Ex G G' ∧ Own X.K F0 sd G' H' ∧ H' kS = none ∧ H' a = none ∧ (∃ e, s'.heap.get? kS = some (seqObj "list" kA e)) ∧ s'.heap.get? a = some (seqObj "list" #[] e1) ∧ kA.size = j ∧ EachIs (AtD X.K G') kA.toList ((es.take j).map key), ?_, ?_, ?_⟩
  · refine ⟨fun j kA s' ⟨_, _, _, _, _, _, _, _, _, z, _⟩ => z, fun j kA s' ⟨_, _, _, _, _, _, _, z1, z2, _⟩ => ⟨z1, z2⟩, fun j v kA s' E hv ⟨H', G', I', ex, o', nk, na, ⟨e, hk1⟩, ha1, sz, ke⟩ => ?_, fun kA s' ⟨H', G', I', ex, o', nk, na, z1, z2, sz, ke⟩ => ?_⟩
    · have hj : j < es.length := by rw [len]; exact (List.getElem?_eq_some_iff.mp hv).1
      have hd : es[j]? = some es[j] := List.getElem?_eq_getElem hj
      have hm : es[j] ∈ es := List.getElem_mem hj
      have pairs : (v, es[j]) ∈ its.zip es := List.mem_of_getElem? (i := j) (by rw [List.getElem?_zip_eq_some]; exact ⟨hv, hd⟩)
      obtain ⟨x, rx, rd⟩ := e0.zip _ pairs
      have I2 : L2.Inv X ((kS, seqObj "list" kA e) :: (a, seqObj "list" #[] e1) :: pins) σ H' s' := I'.pins_of fun p hp => by
        rcases List.mem_cons.mp hp with rfl | hp
        · exact ⟨hk1, nk, c1k, c2k, fun v z => nomatch z⟩
        · rcases List.mem_cons.mp hp with rfl | hp
          · exact ⟨ha1, na, c1a, c2a, fun v z => nomatch z⟩
          · exact I'.pin p (List.mem_append_right _ hp)
      refine wpAny_mono (run_in (A' := X.A.in1.in1) (vs := [x]) (Q := fun y H2 => ∃ G2, Ex G' G2 ∧ Own X.K F0 sd G2 H2 ∧ Rep X.K G2 (key es[j]) y) F ⟨hr.rm.in1.in1, hr.gd⟩ rfl I2 hb (.cons rx .nil) ⟨F0, G', [es[j]], sd, fun d s2 => d = key es[j] ∧ s2 = sd, o', .cons (rd.mono ex) .nil, hsp _ hm _ ⟨rfl, rfl⟩, ?_⟩) (fun r s'' ⟨y, H2, I3, ry, G2, ex2, o2, r2⟩ => ?_) fun _ _ z => z
      · rintro d s2 ⟨rfl, rfl⟩ G2 H2 y ex2 o2 r2
        exact ⟨G2, ex2, o2, r2⟩
      · obtain ⟨p1, p2, _⟩ := I3.pin (kS, seqObj "list" kA e) (List.mem_append_right _ (List.mem_cons_self ..))
        obtain ⟨p3, p4, _⟩ := I3.pin (a, seqObj "list" #[] e1) (List.mem_append_right _ (List.mem_cons_of_mem _ (List.mem_cons_self ..)))
        refine ⟨⟨e, p1⟩, fun tk _ => ?_⟩
        have I4 : L2.Inv X pins σ H2 s'' := I3.pins_of fun p hp => I3.pin p (List.mem_append_right _ (List.mem_cons_of_mem _ (List.mem_cons_of_mem _ hp)))
        have sb := Heap.SameBut.update s''.heap kS (Obj.mapSeq (·.push r))
        refine ⟨H2, G2, I4.turned (t' := tk) (it := kS) (fun b o hb e => (sb.2 b hb).trans e) p2 c1k c3k c4k c5k, ex.trans ex2, o2, p2, p4, ⟨_, get?_update_seq p1 (·.push r)⟩, (sb.2 a ne.symm).trans p3, by simp [sz], ?_⟩
        have et : es.take (j + 1) = es.take j ++ [es[j]] := by rw [List.take_add_one, hd]; rfl
        rw [et, List.map_append, show (kA.push r).toList = kA.toList ++ [r] by simp]
        have grow : ∀ {ds : List D} {us : List Value}, EachIs (AtD X.K G') us ds → EachIs (AtD X.K G2) us ds := fun e => e.mono fun _ _ ⟨x, h1, h2⟩ => ⟨x, h1, h2.mono ex2⟩
        have snoc : ∀ {ds : List D} {us : List Value} {d : D} {u : Value}, EachIs (AtD X.K G2) us ds → AtD X.K G2 u d → EachIs (AtD X.K G2) (us ++ [u]) (ds ++ [d]) := fun {ds us d u} h hu => by
          induction h with
          | nil => exact .cons hu .nil
          | cons h _ ih => exact .cons h ih
        exact snoc (grow ke) ⟨y, ry, r2⟩
    · have ke' : EachIs (AtD X.K G') kA.toList (es.map key) := by rw [← len, List.take_length] at ke; exact ke
      exact PySem.W.each_map (R := fun v d => ∃ as, Reads s'.heap v d as) D.py (reads_of I' o'.ex ke' fun d hd => (ok.2.2 d hd).1)
  · exact ⟨H, G, I.kept (t' := s.toks) keep, Ex.refl G, o, n0k, n0a, ⟨0, at1⟩, at2, rfl, .nil⟩
  · rintro s' h' tk out c kA ⟨H', G', I', ex, o', nk, na, ⟨e, hk1⟩, ha1, sz, ke⟩ kp hout ko
    obtain ⟨g1, r1, r2⟩ := restrict s'.heap fun b => decide (b ≠ kS)
    obtain ⟨g2, t1, t2⟩ := restrict g1 fun b => decide (b ≠ a)
    have J1 : L2.Inv X pins σ H' { s' with heap := g1, toks := s'.toks } := I'.turned (it := kS) (fun b o hb e => by rw [r1 b (by simp [hb])]; exact e) nk c1k c3k c4k c5k
    have J2 : L2.Inv X pins σ H' { s' with heap := g2, toks := s'.toks } := Inv.turned (s := { s' with heap := g1, toks := s'.toks }) (h' := g2) (t' := s'.toks) (it := a) J1 (fun b o hb e => by rw [t1 b (by simp [hb])]; exact e) na c1a c3a c4a c5a
    have up : ∀ b u, g2.get? b = some u → h'.get? b = some u := fun b u e => by
      have hba : b ≠ a := fun z => by rw [t2 b (by simp [z])] at e; cases e
      rw [t1 b (by simp [hba])] at e
      have hbk : b ≠ kS := fun z => by rw [r2 b (by simp [z])] at e; cases e
      rw [r1 b (by simp [hbk])] at e
      exact kp b u hba hbk e
    have ko' : KeyedOut false (es.map fun e => (key e).py) its out := by rw [List.map_map] at ko; exact ko
    obtain ⟨zs, z1, z2⟩ := each_back (PySem.W.keyedOut_each (fun e => (key e).py) ko' e0)
    have hz3 : zs.length ≤ sizeLine := by rw [← z1.length, (List.mergeSort_perm _ _).length_eq, len]; exact hz
    refine ⟨.ref a, upd H' a (.lst zs), J2.laidN (t' := tk) up (t2 a (by simp)) na ⟨hz3, out, c, z2, hout⟩, rfl, q _ sd hP G' H' a zs ex o' na (z1.mono ex)⟩
variable {a : Expr} {x : Str} {p p2 kp pos : Pos} {w : WE}
def tSortKey (K : PySem.W.Frag) (sp : SpD) (w : WE) : TE := fun σ H Q => lE K w σ H fun v H1 => ∃ F G s1 d P, Own K F s1 G H1 ∧ Rep K G d v ∧ (match view s1 d with
  | .lst es => ∃ key : D → D, KeyOk key es ∧ (∀ e ∈ es, ∀ R : DK, R (key e) s1 → sp [e] s1 R) ∧ P (es.mergeSort (dataLe false fun e => (key e).py)) s1
  | _ => False) ∧ RetL K F G P Q
theorem pe_sortKey (F : FnD X.prog X.w X.K X.mg X.base k f fd ps sp) (hr : RoomG (k + 2) X.A) (hgx : Gl X x) (hmx : X.mg x = some (.ref f)) (hb : Binds X.K fd ps []) (hg : Gl X "sorted") (hm : X.mg "sorted" = none) (ha : DE X a w) (hdx : (x == ("__debug__" : Str)) = false := by decide)
    (he : backTo pos (starEach [a] X.env) = (false, eval a X.env) :: backTo pos (starEach [] X.env) := by rfl) (hpl : (backTo pos (starEach [a] X.env)).any (·.1) = false := by rfl)
    (hall : (backToKw pos (keywordEach [⟨some "key", .Name x p2, kp⟩] X.env)).all (·.1.isSome) = true := by rfl) (hnone : (backToKw pos (keywordEach [⟨some "key", .Name x p2, kp⟩] X.env)).any (·.1.isNone) = false := by rfl) (hks : (backToKw pos (keywordEach [⟨some "key", .Name x p2, kp⟩] X.env)).filterMap (·.1) = [Str.ofString "key"] := by rfl)
    (hs1 : starEach [a] X.env = (false, eval a X.env) :: starEach [] X.env := by rfl) : PE X (.Call (.Name "sorted" p) [a] [⟨some "key", .Name x p2, kp⟩] pos) (tSortKey X.K sp w) := by
  refine ⟨fun pins s σ H Q I h => ?_⟩
  refine wpAny_Call_Name_kw (ld_blt I hg hm bb_sorted ?_)
  have fnE : PE X (.Name x p2) (fun σ H Q => Q (.ref f) H) := ⟨fun pins s σ H Q I h => ld_glob I hgx hmx ⟨.ref f, H, I, rfl, h⟩ hdx⟩
  have pa1 := pa_cons ha pa_nil hs1
  refine PyProof.Rows.callWith_kw (thn (pa1.run pos pins s σ H (fun vs H1 => ∃ v, vs = [v] ∧ ∃ F G s1 d P, Own X.K F s1 G H1 ∧ Rep X.K G d v ∧ (match view s1 d with
    | .lst es => ∃ key : D → D, KeyOk key es ∧ (∀ e ∈ es, ∀ R : DK, R (key e) s1 → sp [e] s1 R) ∧ P (es.mergeSort (dataLe false fun e => (key e).py)) s1
    | _ => False) ∧ RetL X.K F G P Q) I ?_) fun us s1 ⟨vs, H1, I1, r1, v, ev, F0, G, sd, d, P, o, rd, hw, q⟩ => thn ((pk_cons fnE pk_nil).run pos pins s1 σ H1 (fun zs H2 => zs = [.ref f] ∧ H2 = H1) I1 ⟨rfl, rfl⟩) fun ws s2 ⟨zs, H2, I2, r2, ez, eH⟩ => ?_) he hpl hall hnone
  · obtain ⟨F0, G, δ, sd, P, en, o, hw, q⟩ := h
    exact ⟨F0, G, δ, sd, P, en, o, hw, fun d s1 h1 G1 H1 v e1 o1 r1 => ⟨v, rfl, q d s1 h1 G1 H1 v e1 o1 r1⟩⟩
  · rw [hks]
    subst ev ez eH
    obtain ⟨u, rfl, ru⟩ := vals1 r1
    obtain ⟨u2, rfl, ru2⟩ := vals1 r2
    obtain rfl : u2 = Value.ref f := ru2
    split at hw <;> first | exact hw.elim | skip
    rename_i es hv
    obtain ⟨key, ok, hsp, hP⟩ := hw
    obtain ⟨l, xs, rfl, hl, rl⟩ := o.seqL rd hv
    obtain rfl : u = Value.ref l := ru
    obtain ⟨its, rv, pl, hz⟩ := I2.list (.of hl)
    exact sort_key_run F hr hb I2 o q pl.isList (by rw [← rv.length]; exact hz) (each_of rl rv) ok hsp hP
theorem del_sortKey (F : FnD X.prog X.w X.K X.mg X.base k f fd ps sp) (hr : RoomG (k + 2) X.A) (hgx : Gl X x) (hmx : X.mg x = some (.ref f)) (hb : Binds X.K fd ps []) (hg : Gl X "sorted") (hm : X.mg "sorted" = none) (ha : DE X a w) (hdx : (x == ("__debug__" : Str)) = false := by decide)
    (he : backTo pos (starEach [a] X.env) = (false, eval a X.env) :: backTo pos (starEach [] X.env) := by rfl) (hpl : (backTo pos (starEach [a] X.env)).any (·.1) = false := by rfl)
    (hall : (backToKw pos (keywordEach [⟨some "key", .Name x p2, kp⟩] X.env)).all (·.1.isSome) = true := by rfl) (hnone : (backToKw pos (keywordEach [⟨some "key", .Name x p2, kp⟩] X.env)).any (·.1.isNone) = false := by rfl) (hks : (backToKw pos (keywordEach [⟨some "key", .Name x p2, kp⟩] X.env)).filterMap (·.1) = [Str.ofString "key"] := by rfl)
    (hs1 : starEach [a] X.env = (false, eval a X.env) :: starEach [] X.env := by rfl) : DEL X (.Call (.Name "sorted" p) [a] [⟨some "key", .Name x p2, kp⟩] pos) (wSortKey sp w) :=
  PE.imp (pe_sortKey F hr hgx hmx hb hg hm ha hdx he hpl hall hnone hks hs1) fun σ H Q ⟨F0, G, δ, s, P, en, o, hw, q⟩ => ⟨F0, G, δ, s, _, en, o, hw, fun d s1 h1 G1 H1 v e1 o1 r1 => ⟨F0, G1, s1, d, P, o1, r1, h1, q.mono e1⟩⟩
end
end DL

set_option Elab.async false
set_option linter.all false
set_option autoImplicit false
set_option maxRecDepth 100000
set_option maxHeartbeats 4000000
namespace DL
open PySem PySem.Spec PyProof.Rows L2
open Evl (Ex)
/-! ### turns over a list that may change, but does not -/
structure JOkR (K : PySem.W.Frag) (G : Hp) (r : Addr) (ds : List D) (J : It) : Prop where
  go : ∀ i F s G1 H, Ex G G1 → Own K F s G1 H → s.M r = some (.lst ds) → i < ds.length → J.go i H ∧ ∀ x H', J.yld i H x H' → ∃ d G2, ds[i]? = some d ∧ Ex G1 G2 ∧ Own K F s G2 H' ∧ Rep K G2 d x
  stop : ∀ i F s G1 H, Ex G G1 → Own K F s G1 H → s.M r = some (.lst ds) → ds.length ≤ i → J.stop i H
abbrev WIR := Dn → S → (Addr → List D → S → Prop) → Prop
def lIR (K : PySem.W.Frag) (w : WIR) : TI := fun σ H R => ∃ F G δ s P, EnvOk K G δ σ ∧ Own K F s G H ∧ w δ s P ∧ ∀ r ds s', P r ds s' → ∀ G' H' J, Ex G G' → Own K F s' G' H' → JOkR K G' r ds J → R J H'
abbrev DIR (X : Cx) (tg iter : Expr) (w : WIR) : Prop := PI X tg iter (lIR X.K w)
def wiRef (w : WE) : WIR := fun δ s P => w δ s fun d s1 => match d with
  | .ref a => (match s1.M a with
    | some (.lst ds) => P a ds s1
    | _ => False)
  | _ => False
theorem jok_ref {K : PySem.W.Frag} {G : Hp} {ds : List D} {a : Addr} : JOkR K G a ds (Itl K a) := by
  refine ⟨fun i F s G1 H e o hM hi => ?_, fun i F s G1 H e o hM hi => ?_⟩
  · obtain ⟨_, u, hp, xs, rfl, r⟩ := o.mu a _ hM
    have hl := r.length
    have hx : xs[i]? = some xs[i] := List.getElem?_eq_getElem (by omega)
    have hq : SqL K H a xs := .of hp
    refine ⟨⟨xs, _, hq, hx⟩, fun x H' ⟨e1, y⟩ => ?_⟩
    subst e1
    obtain ⟨d, hd, rd⟩ := r.getV (y xs hq)
    exact ⟨d, G1, hd, Ex.refl _, o, rd⟩
  · obtain ⟨_, u, hp, xs, rfl, r⟩ := o.mu a _ hM
    exact ⟨xs, .of hp, by rw [← r.length]; exact hi⟩
theorem di_ref {X : Cx} {tg l : Expr} {we : WE} (h : DE X l we) : DIR X tg l (wiRef we) :=
  PI.imp (pi_list h) fun σ H R ⟨F, G, δ, s, P, en, o, hw, q⟩ => ⟨F, G, δ, s, _, en, o, hw, fun d s1 h1 G1 H1 v e1 o1 r1 => by
    split at h1 <;> first | exact h1.elim | skip
    rename_i a
    split at h1 <;> first | exact h1.elim | skip
    rename_i ds hM
    cases r1
    obtain ⟨_, u, hp, xs, rfl, r⟩ := o1.mu a _ hM
    exact ⟨_, rfl, ⟨xs, .of hp⟩, q _ _ s1 h1 G1 H1 _ e1 o1 jok_ref⟩⟩
def loopR (r : Addr) (all : List D) (g : WG) (b : WS) (E : DEnds) : List D → Dn → S → Prop
  | [], δ, s => s.M r = some (.lst all) ∧ E.nx δ s
  | d :: ds, δ, s => s.M r = some (.lst all) ∧ g d δ s fun δ1 s1 => b { nx := loopR r all g b E ds, rt := E.rt, bk := E.nx, ct := loopR r all g b E ds } δ1 s1
def wForR (wi : WIR) (g : WG) (b : WS) : WS := fun D δ s => wi δ s fun r ds s1 => loopR r ds g b D ds δ s1
section
variable {X : Cx} {tg iter c : Expr} {body : List Stmt} {pos : Pos} {wi : WIR} {g : WG} {b : WS} {wt : WT}
theorem ds_forR (hp : PassesOwn (model X.prog X.w) X.A X.env X.xe) (hc : X.calm = true) (hi : DIR X tg iter wi) {vs : List Nat} (hg : DG X tg vs g) (hb : DSs X body b)
    (hs : ∀ x, foldedSetIterable iter X.env x = pure x := by intro _; rfl) : DS X (.For tg iter body [] pos) (wForR wi g b) :=
  PS.imp (ps_for hp hc hi hg hb hs) fun D σ H ⟨F, G, δ, s, D', en, o, hw, q⟩ => ⟨F, G, δ, s, _, en, o, hw, fun r ds s1 h1 G1 H1 J e1 o1 jk => by
    have q1 := q.mono e1
    refine ⟨fun i m σ H => m = ds.length - i ∧ i ≤ ds.length ∧ ∃ G δ s, Ex G1 G ∧ EnvOk X.K G δ σ ∧ Own X.K F s G H ∧ loopR r ds g b D' (ds.drop i) δ s, ⟨ds.length, by simp, Nat.zero_le _, G1, δ, s1, Ex.refl _, en.mono e1, o1, h1⟩, ?_⟩
    rintro i m σ2 H2 ⟨rfl, hi, G2, δ2, s2, e2, en2, o2, h2⟩
    by_cases hlt : i < ds.length
    · refine .inr ?_
      obtain ⟨go, yl⟩ := jk.go i F s2 G2 H2 e2 o2 (by rw [drop_get (List.getElem?_eq_getElem hlt)] at h2; exact h2.1) hlt
      refine ⟨go, fun σ' H' => ∃ G δ s, Ex G1 G ∧ EnvOk X.K G δ σ' ∧ Own X.K F s G H' ∧ loopR r ds g b D' (ds.drop (i + 1)) δ s, fun σ' H' h => ⟨ds.length - (i + 1), by omega, rfl, hlt, h⟩, fun x H' y => ?_⟩
      obtain ⟨d, G3, hd, e3, o3, r3⟩ := yl x H' y
      rw [drop_get hd] at h2
      refine ⟨F, G3, δ2, s2, d, _, en2.mono e3, o3, r3, h2.2, fun δ4 s4 h4 G4 H4 σ4 e4 en4 o4 _ _ => ?_⟩
      have e14 := e2.trans (e3.trans e4)
      refine ⟨F, G4, δ4, s4, _, en4, o4, h4, ?_, q1.rt.mono e14, q1.nx.mono e14, ?_⟩
      · exact fun δ5 s5 h5 G5 H5 σ5 e5 en5 o5 => ⟨G5, δ5, s5, e14.trans e5, en5, o5, h5⟩
      · exact fun δ5 s5 h5 G5 H5 σ5 e5 en5 o5 => ⟨G5, δ5, s5, e14.trans e5, en5, o5, h5⟩
    · have e : i = ds.length := by omega
      subst e
      rw [List.drop_length] at h2
      exact .inl ⟨jk.stop _ F s2 G2 H2 e2 o2 h2.1 (Nat.le_refl _), q1.nx δ2 s2 h2.2 G2 H2 σ2 e2 en2 o2⟩⟩
end
def lcR (r : Addr) (all : List D) (vs : List Nat) (g : WG) (t : WT) (w : WE) (δ : Dn) : List D → S → (List D → S → Prop) → Prop
  | [], s, P => s.M r = some (.lst all) ∧ P [] s
  | d :: ds, s, P => s.M r = some (.lst all) ∧ g d (wipeD δ vs) s fun δ1 s1 => t δ1 s1 fun k s2 => match k with
    | true => w δ1 s2 fun y s3 => lcR r all vs g t w δ ds s3 fun ys s4 => P (y :: ys) s4
    | false => lcR r all vs g t w δ ds s2 P
def wLcR (vs : List Nat) (wi : WIR) (g : WG) (t : WT) (w : WE) : WA := fun δ s P => wi δ s fun r ds s1 => ds.length ≤ sizeLine ∧ lcR r ds vs g t w δ ds s1 P
theorem lc_rowsR {K : PySem.W.Frag} {F G : Hp} {δ : Dn} {σ : L2.St} {H1 : Hp} {s1 : S} {vs us : List Nat} {g : WG} {t : WT} {w : WE} {ds : List D} {J : It} {r : Addr} {P : List D → S → Prop} {Q : VK} (hsz : ds.length ≤ sizeLine)
    (en : EnvOk K G δ σ) (o1 : Own K F s1 G H1) (jk : JOkR K G r ds J) (h1 : lcR r ds vs g t w δ ds s1 P) (q : RetL K F G P Q) (hs : ∀ j ∈ us, j ∈ vs) (D : Addr) (hD : H1 D = none) :
    ∃ W : Nat → Nat → Hp → Prop, (∃ m, W 0 m (upd H1 D (.lst []))) ∧ ∀ i m H, W i m H →
      (J.stop i H ∧ Q (.ref D) H) ∨ (J.go i H ∧ ∃ Nx : Hp → Prop, (∀ H', Nx H' → ∃ m', m' < m ∧ W (i + 1) m' H') ∧ ∀ x H', J.yld i H x H' → lG K us g x (L2.wipe σ vs) H' fun σ2 H2 => L2.wipe σ2 vs = L2.wipe σ vs ∧ lT K t σ2 H2 fun b H3 =>
        if b = true then lE K w σ2 H3 fun y H4 => ∃ acc, H4 D = some (.lst acc) ∧ acc.length < sizeLine ∧ Nx (upd H4 D (.lst (acc ++ [y]))) else Nx H3) := by
  have fD := o1.freeF hD
  -- the word: what is made so far (acc stands for ys), what is left
  let Wd : Nat → Hp → Prop := fun i H => ∃ G2 s2 ys acc, Ex G G2 ∧ Own K (upd F D (.lst acc)) s2 G2 H ∧ RepL K G2 ys acc ∧ acc.length ≤ i ∧ lcR r ds vs g t w δ (ds.drop i) s2 fun zs s' => P (ys ++ zs) s'
  have start : Wd 0 (upd H1 D (.lst [])) := by
    refine ⟨G, s1, [], [], Ex.refl _, ?_, .nil, Nat.le_refl _, h1⟩
    have op := o1.pass (u := .lst []) hD
    refine op.lend upd_same (o1.freeG hD) (o1.freeM hD) fun a n e a1 mx k h => ?_
    obtain ⟨a1', cells, mixed, k', _, _, _, _, _, h6, h7, _⟩ := (o1.dk a n e).ex
    have n1 : a ≠ D := ne_of_none h6 hD
    have n2 : a1' ≠ D := ne_of_none h7 hD
    rw [upd_ne n1, h6] at h
    cases h
    exact ⟨n1.symm, n2.symm⟩
  refine ⟨fun i m H => m = ds.length - i ∧ i ≤ ds.length ∧ Wd i H, ⟨ds.length, by simp, Nat.zero_le _, start⟩, ?_⟩
  rintro i m H ⟨rfl, hi, G2, s2, ys, acc, e2, o2, r2, hl2, h2⟩
  have exF : ∀ u, Ex F (upd F D u) := fun u => Ex.new fD
  by_cases hlt : i < ds.length
  · refine .inr ?_
    obtain ⟨go, yl⟩ := jk.go i _ s2 G2 H e2 o2 (by rw [drop_get (List.getElem?_eq_getElem hlt)] at h2; exact h2.1) hlt
    refine ⟨go, fun H' => Wd (i + 1) H', fun H' h => ⟨ds.length - (i + 1), by omega, rfl, hlt, h⟩, fun x H' y => ?_⟩
    obtain ⟨d, G3, hd, e3, o3, r3⟩ := yl x H' y
    rw [drop_get hd] at h2
    have en3 := ((en.mono e2).mono e3).wipe vs
    refine ⟨_, G3, wipeD δ vs, s2, d, _, en3, o3, r3, h2.2, fun δ4 s4 h4 G4 H4 σ4 e4 en4 o4 l4 a4 => ⟨wipe_same l4 a4 hs, _, G4, δ4, s4, _, en4, o4, h4, fun k s5 h5 G5 H5 e5 o5 => ?_⟩⟩
    have e25 := e3.trans (e4.trans e5)
    cases k with
    | false =>
      dsimp only
      rw [if_neg Bool.false_ne_true]
      exact ⟨G5, s5, ys, acc, e2.trans e25, o5, r2.mono e25, by omega, h5⟩
    | true =>
      dsimp only
      rw [if_pos rfl]
      refine ⟨_, G5, δ4, s5, _, en4.mono e5, o5, h5, fun y s6 h6 G6 H6 v6 e6 o6 r6 => ?_⟩
      have e26 := e25.trans e6
      obtain ⟨f1, f2, f3⟩ := o6.fr D _ upd_same
      refine ⟨acc, f1, by omega, G6, s6, ys ++ [y], acc ++ [v6], e2.trans e26, ?_, (r2.mono e26).append (.cons r6 .nil), by rw [List.length_append]; simp; omega, ?_⟩
      · have nd := o6.noDk (p := D) upd_same
        have ot := (o6.back (exF _)).turn (u := .lst (acc ++ [v6])) fD f2 f3 nd
        refine ot.lend upd_same f2 f3 fun a n e a1 mx k h => ?_
        obtain ⟨a1', cells, mixed, k', _, g2, g3, _, _, g6, g7, _⟩ := (o6.dk a n e).ex
        have n1 : a ≠ D := fun z => by rw [z, upd_same] at g2; cases g2.2
        have n2 : a1' ≠ D := fun z => by rw [z, upd_same] at g3; cases g3.2
        rw [upd_ne n1, g6] at h
        cases h
        exact ⟨n1.symm, n2.symm⟩
      · have ea : ∀ zs : List DL.D, (ys ++ [y]) ++ zs = ys ++ (y :: zs) := fun zs => by simp
        simp only [ea]
        exact h6
  · have e : i = ds.length := by omega
    subst e
    rw [List.drop_length] at h2
    obtain ⟨f1, f2, f3⟩ := o2.fr D _ upd_same
    have h2' : P ys s2 := by have z : P (ys ++ []) s2 := h2.2; rw [List.append_nil] at z; exact z
    refine .inl ⟨jk.stop _ _ s2 G2 H e2 o2 h2.1 (Nat.le_refl _), ?_⟩
    have od := o2.drop (p := D) upd_same (exF _) fD
    have z := q ys s2 h2' G2 _ D acc e2 od (by simp) r2
    have eH : upd (fun b => if b = D then none else H b) D (.lst acc) = H := by
      funext b
      by_cases hb : b = D
      · subst hb; rw [upd_same]; exact f1.symm
      · rw [upd_ne hb]; simp [hb]
    rw [eH] at z
    exact z
section
variable {X : Cx} {elt tg iter : Expr} {ifs : List Expr} {scope : Scope} {own : List (Str × Nat)} {pos : Pos} {wi : WIR} {g : WG} {t : WT} {w : WE} {us : List Nat}
theorem del_lcR (own : List (Str × Nat)) (hc : X.calm = true) (hN : X.N.Nodup) (hi : DIR X tg iter wi) (ok : BlkOk X.N X.env.scope scope own)
    (hg : ∀ (s : Shared) (H : Hp) (C : Addr) (cl : List (Str × Addr)) (fp : List Addr), DG (X.blk s H scope (compEnvC scope cl C X.env) fp) tg us g)
    (ht : ∀ (s : Shared) (H : Hp) (C : Addr) (cl : List (Str × Addr)) (fp : List Addr), DTs (X.blk s H scope (compEnvC scope cl C X.env) fp) ifs t)
    (he : ∀ (s : Shared) (H : Hp) (C : Addr) (cl : List (Str × Addr)) (fp : List Addr), DE (X.blk s H scope (compEnvC scope cl C X.env) fp) elt w)
    (hu : ∀ j ∈ us, j ∈ own.map (·.2) := by decide) (hs : ∀ x, foldedSetIterable iter X.env x = pure x := by intro _; rfl) :
    DEL X (.ListComp elt [⟨tg, iter, ifs, 0⟩] scope pos) (wLcR (own.map (·.2)) wi g t w) :=
  PE.imp (pe_lc (own := own) hc hN hi ok hg ht he hs) fun σ H Q ⟨F, G, δ, s, P, en, o, hw, q⟩ => ⟨F, G, δ, s, _, en, o, hw, fun r ds s1 h1 G1 H1 J e1 o1 jk D hD =>
    lc_rowsR h1.1 (en.mono e1) o1 jk h1.2 (q.mono e1) hu D hD⟩
theorem ds_setLcR {i : Nat} {y : Str} {py spos : Pos} (own : List (Str × Nat)) (hc : X.calm = true) (hN : X.N.Nodup) (hy : X.N[i]? = some y) (hyl : X.env.scope.names.lookup y = some .local)
    (hsw : swapsWith (.ListComp elt [⟨tg, iter, ifs, 0⟩] scope pos) (some (.Name y py)) spos.line X.env = pure true) (hi : DIR X tg iter wi) (ok : BlkOk X.N X.env.scope scope own)
    (hg : ∀ (s : Shared) (H : Hp) (C : Addr) (cl : List (Str × Addr)) (fp : List Addr), DG (X.blk s H scope (compEnvC scope cl C X.env) fp) tg us g)
    (ht : ∀ (s : Shared) (H : Hp) (C : Addr) (cl : List (Str × Addr)) (fp : List Addr), DTs (X.blk s H scope (compEnvC scope cl C X.env) fp) ifs t)
    (he : ∀ (s : Shared) (H : Hp) (C : Addr) (cl : List (Str × Addr)) (fp : List Addr), DE (X.blk s H scope (compEnvC scope cl C X.env) fp) elt w)
    (hu : ∀ j ∈ us, j ∈ own.map (·.2) := by decide) (hs : ∀ x, foldedSetIterable iter X.env x = pure x := by intro _; rfl) :
    DS X (.Assign [.Name y py] (.ListComp elt [⟨tg, iter, ifs, 0⟩] scope pos) spos) (wAsg (wFz (wLcR (own.map (·.2)) wi g t w)) (wgName i)) :=
  PS.imp (ps_setLc (own := own) hc hN hy hyl hsw hi ok hg ht he hs) fun D σ H ⟨F, G, δ, s, D', en, o, hw, q⟩ => ⟨F, G, δ, s, _, en, o, hw, fun r ds s1 h1 G1 H1 J e1 o1 jk L hL =>
    lc_rowsR (Q := fun x H1 => gName i x σ H1 D.nx) h1.1 (en.mono e1) o1 jk h1.2 (fun ds2 s2 h2 G2 H2 p xs e2 o2 hp r2 => by
      have e3 := Ex.new (o := .lst xs) (o2.freeG hp)
      exact q.nx _ s2 h2 _ _ _ (e1.trans (e2.trans e3)) (((en.mono e1).mono (e2.trans e3)).set (.lst upd_same (r2.mono e3))) (o2.lay hp)) hu L hL⟩
end
end DL

set_option Elab.async false
set_option linter.all false
set_option autoImplicit false
set_option maxRecDepth 100000
set_option maxHeartbeats 4000000
namespace DL
open PySem PySem.Spec PyProof.Rows L2
open Evl (Ex)
/-! ### small data -/
abbrev Col := Str × Str
def colD (c : Col) : D := .tup [.str c.1, .str c.2]
abbrev natD (i : Nat) : D := .int (i : Int)
def natsT (l : List Nat) : D := .tup (l.map natD)
def natsL (l : List Nat) : D := .lst (l.map natD)
theorem dcW_each {α : Type} {vs : List Nat} {g : WG} {wk wv : WE} {δ : Dn} {it vf : α → D} {kf : α → Key} : ∀ {l : List α} {s : S} {seen : List Key} {P : List Key → List D → S → Prop},
    (∀ x ∈ l, ∀ (R : D → D → S → Prop), R (keyD (kf x)) (vf x) s → g (it x) (wipeD δ vs) s fun δ1 s1 => wk δ1 s1 fun y s3 => wv δ1 s3 fun z s4 => R y z s4) →
    (l.map kf).Nodup → (∀ x ∈ l, kf x ∉ seen) → P (l.map kf) (l.map vf) s → dcW vs g wYes wk wv δ (l.map it) s seen P
  | [], _, _, _, _, _, _, h => h
  | x :: l, s, seen, P, st, nd, hs, h => by
    rw [List.map_cons] at nd
    obtain ⟨n1, n2⟩ := List.nodup_cons.mp nd
    rw [List.map_cons]
    unfold dcW wYes
    refine st x List.mem_cons_self _ ?_
    have hk : keyOf? (keyD (kf x)) = some (kf x) := by cases kf x <;> rfl
    simp only [hk]
    refine ⟨hs x List.mem_cons_self, dcW_each (fun y hy => st y (List.mem_cons_of_mem _ hy)) n2 (fun y hy q => ?_) h⟩
    rcases List.mem_append.mp q with q | q
    · exact hs y (List.mem_cons_of_mem _ hy) q
    · rw [List.mem_singleton] at q
      exact n1 (q ▸ List.mem_map_of_mem hy)
theorem enuD_map {α : Type} (l : List α) (it : α → D) : enuD (l.map it) = ((List.range l.length).zip l).map fun p => .tpw [.int ((p.1 : Nat) : Int), it p.2] := by
  unfold enuD
  rw [List.length_map, List.zip_map_right, List.map_map]
  rfl
theorem zip_snd {α β : Type} (l : List α) (f : α → β) : ((List.range l.length).zip l).map (fun p => f p.2) = l.map f := by
  show List.map (f ∘ Prod.snd) _ = _
  rw [← List.map_map, List.map_snd_zip (by simp)]
theorem zip_fst {α β : Type} (l : List α) (f : Nat → β) : ((List.range l.length).zip l).map (fun p => f p.1) = (List.range l.length).map f := by
  show List.map (f ∘ Prod.fst) _ = _
  rw [← List.map_map, List.map_fst_zip (by simp)]
/-! ### data that is equal just if it is the same -/
structure Same {α : Type} (it : α → D) : Prop where
  eq : ∀ x y, D.eq (it x) (it y) = true ↔ x = y
  data : ∀ x, (it x).isData = true
  depth : ∀ x, (it x).depth ≤ 8
theorem same_nat : Same natD := ⟨fun x y => by rw [eq_ii, decide_eq_true_eq]; exact Int.ofNat_inj, fun _ => rfl, fun _ => by rw [show D.depth (natD _) = 0 from rfl]; omega⟩
theorem same_col : Same colD := ⟨fun x y => by
    unfold colD
    rw [eq_tt, eqAll_cons, eqAll_cons, eq_ss, eq_ss, show PyData.eqvAll (D.pys []) (D.pys []) = true from rfl, Bool.and_true, Bool.and_eq_true, decide_eq_true_eq, decide_eq_true_eq]
    exact ⟨fun h => Prod.ext h.1 h.2, fun h => by rw [h]; exact ⟨rfl, rfl⟩⟩, fun _ => rfl, fun _ => by rw [show D.depth (colD _) = 1 from rfl]; omega⟩
theorem allData_it {α : Type} {it : α → D} (h : ∀ x, (it x).isData = true) : ∀ l : List α, D.allData (l.map it) = true
  | [] => rfl
  | x :: l => by rw [List.map_cons]; unfold D.allData; rw [h x, allData_it h l]; rfl
theorem any_it {α : Type} [DecidableEq α] {it : α → D} (h : Same it) (x : α) (l : List α) : ((l.map it).any fun d => d.eq (it x)) = decide (x ∈ l) := by
  rw [Bool.eq_iff_iff, List.any_eq_true, decide_eq_true_eq]
  constructor
  · rintro ⟨d, hd, e⟩
    obtain ⟨y, hy, rfl⟩ := List.mem_map.mp hd
    exact (h.eq _ _).mp e ▸ hy
  · exact fun hx => ⟨_, List.mem_map_of_mem hx, (h.eq _ _).mpr rfl⟩
theorem in_it {α : Type} [DecidableEq α] {it : α → D} (h : Same it) {x : α} {l : List α} {d : D} {s : S} {P : DK} (hv : view s d = .lst (l.map it) ∨ view s d = .tup (l.map it)) (hP : P (.bl (decide (x ∈ l))) s) : roIn (it x) d s P := by
  unfold roIn
  have h3 := h.depth x
  rcases hv with e | e <;> rw [e] <;> exact ⟨⟨h.data x, allData_it h.data l, by omega⟩, by rw [any_it h]; exact hP⟩
theorem notIn_it {α : Type} [DecidableEq α] {it : α → D} (h : Same it) {x : α} {l : List α} {d : D} {s : S} {P : DK} (hv : view s d = .lst (l.map it) ∨ view s d = .tup (l.map it)) (hP : P (.bl (decide (x ∉ l))) s) : roNotIn (it x) d s P := by
  unfold roNotIn
  have h3 := h.depth x
  have e0 : decide (x ∉ l) = !decide (x ∈ l) := by by_cases q : x ∈ l <;> simp [q]
  rw [e0] at hP
  rcases hv with e | e <;> rw [e] <;> exact ⟨⟨h.data x, allData_it h.data l, by omega⟩, by rw [any_it h]; exact hP⟩
theorem lcR_sel {α : Type} {r : Addr} {all : List D} {vs : List Nat} {g : WG} {t : WT} {w : WE} {δ : Dn} {it : α → D} {p : α → Bool} {f : α → D} : ∀ {l : List α} {s : S} {P : List D → S → Prop}, s.M r = some (.lst all) →
    (∀ x ∈ l, ∀ (R0 : S → Prop) (R1 : D → S → Prop), (p x = false → R0 s) → (p x = true → R1 (f x) s) → g (it x) (wipeD δ vs) s fun δ1 s1 => t δ1 s1 fun k s2 => match k with | true => w δ1 s2 R1 | false => R0 s2) →
    P ((l.filter p).map f) s → lcR r all vs g t w δ (l.map it) s P
  | [], s, P, hM, _, h => ⟨hM, h⟩
  | d :: ds, s, P, hM, st, h => by
    rw [List.map_cons]
    unfold lcR
    refine ⟨hM, st d (List.mem_cons_self ..) (fun s2 => lcR r all vs g t w δ (ds.map it) s2 P) (fun y s3 => lcR r all vs g t w δ (ds.map it) s3 fun ys s4 => P (y :: ys) s4) (fun q => ?_) (fun q => ?_)⟩
    · exact lcR_sel hM (fun d' hd => st d' (List.mem_cons_of_mem _ hd)) (by rw [List.filter_cons_of_neg (by simp [q])] at h; exact h)
    · exact lcR_sel hM (fun d' hd => st d' (List.mem_cons_of_mem _ hd)) (by rw [List.filter_cons_of_pos q] at h; exact h)
theorem lcR_each {α : Type} {r : Addr} {all : List D} {vs : List Nat} {g : WG} {w : WE} {δ : Dn} {it : α → D} {f : α → D} {l : List α} {s : S} {P : List D → S → Prop} (hM : s.M r = some (.lst all))
    (st : ∀ x ∈ l, ∀ R : D → S → Prop, R (f x) s → g (it x) (wipeD δ vs) s fun δ1 s1 => w δ1 s1 R) (h : P (l.map f) s) : lcR r all vs g wYes w δ (l.map it) s P :=
  lcR_sel (p := fun _ => true) hM (fun x hx R0 R1 _ r1 => st x hx R1 (r1 rfl)) (by rw [List.filter_eq_self.mpr fun _ _ => rfl]; exact h)
theorem dec_nat (i j : Nat) : decide ((i : Int) = (j : Int)) = decide (i = j) := decide_eq_decide.mpr (by omega)
theorem boolsD_ofF {α : Type} (l : List α) (f : α → Bool) : boolsD (l.map fun x => .bl (f x)) = some (l.map f) := by
  rw [show (fun x => D.bl (f x)) = D.bl ∘ f from rfl, ← List.map_map, boolsD_map]
theorem S.same {s t : S} (h1 : s.dk = t.dk) (h2 : ∀ a, s.M a = t.M a) : s = t := by
  cases s; cases t
  simp only [S.mk.injEq]
  exact ⟨h1, funext h2⟩
theorem put_swap {s : S} {a b : Addr} {x y z : MO} (h : a ≠ b) : ((s.put a x).put b y).put a z = (s.put a z).put b y :=
  S.same rfl fun c => by
    simp only [put_M]
    by_cases h1 : c = a
    · subst h1; simp [h]
    · simp [h1]
theorem put_del {s : S} {a : Addr} {x : MO} (h : s.M a = none) : (s.put a x).del a = s :=
  S.same rfl fun c => by
    simp only [S.put, S.del]
    by_cases h1 : c = a
    · subst h1; simp [h]
    · simp [h1]
theorem put_del2 {s : S} {a b : Addr} {x y : MO} (ha : s.M a = none) (hb : s.M b = none) : (((s.put a x).put b y).del a).del b = s :=
  S.same rfl fun c => by
    simp only [S.put, S.del]
    by_cases h1 : c = b
    · subst h1; simp [hb]
    · by_cases h2 : c = a
      · subst h2; simp [ha, h1]
      · simp [h1, h2]
theorem intsD_nat (l : List Nat) : intsD (l.map natD) = some (l.map fun (i : Nat) => (i : Int)) := by
  rw [show natD = D.int ∘ fun (i : Nat) => (i : Int) from rfl, ← List.map_map, intsD_map]
theorem erase_nat (l : List Nat) (i : Nat) : ((l.map fun (i : Nat) => (i : Int)).erase (i : Int)).map D.int = (l.erase i).map natD := by
  rw [show natD = D.int ∘ fun (i : Nat) => (i : Int) from rfl, ← List.map_map]
  congr 1
  induction l with
  | nil => rfl
  | cons a l ih =>
    rw [List.map_cons, List.erase_cons, List.erase_cons]
    by_cases h : a = i
    · simp [h]
    · have h2 : ((a : Int) == (i : Int)) = false := by rw [beq_eq_false_iff_ne]; omega
      have h3 : (a == i) = false := by rw [beq_eq_false_iff_ne]; exact h
      rw [h2, h3]; simp [ih]
theorem asc_eq : ∀ {l m : List Int}, l.Pairwise (· < ·) → m.Pairwise (· < ·) → (∀ k, k ∈ l ↔ k ∈ m) → l = m
  | [], [], _, _, _ => rfl
  | [], b :: m, _, _, h => nomatch (h b).mpr List.mem_cons_self
  | a :: l, [], _, _, h => nomatch (h a).mp List.mem_cons_self
  | a :: l, b :: m, hl, hm, h => by
    obtain ⟨l1, l2⟩ := List.pairwise_cons.mp hl
    obtain ⟨m1, m2⟩ := List.pairwise_cons.mp hm
    have e : a = b := by
      rcases List.mem_cons.mp ((h a).mp List.mem_cons_self) with e | e
      · exact e
      · rcases List.mem_cons.mp ((h b).mpr List.mem_cons_self) with e2 | e2
        · exact e2.symm
        · have := m1 _ e; have := l1 _ e2; omega
    subst e
    rw [asc_eq l2 m2 fun k => ⟨fun hk => ?_, fun hk => ?_⟩]
    · rcases List.mem_cons.mp ((h k).mp (List.mem_cons_of_mem _ hk)) with e | e
      · subst e; have := l1 _ hk; omega
      · exact e
    · rcases List.mem_cons.mp ((h k).mpr (List.mem_cons_of_mem _ hk)) with e | e
      · subst e; have := m1 _ hk; omega
      · exact e
/-- sorted(set(..)) of small numbers -/
theorem sortedSet_nat {js : List Nat} {n : Nat} {s : S} {P : List D → S → Prop} (hn : ∀ j ∈ js, j < n) (h : P (((List.range n).filter fun i => decide (i ∈ js)).map natD) s) : sortedSetP (js.map natD) s P := by
  rw [show natD = D.int ∘ fun (i : Nat) => (i : Int) from rfl, ← List.map_map] at h ⊢
  refine sortedSet_ints fun ms h1 h2 => ?_
  rw [show ms = ((List.range n).filter fun i => decide (i ∈ js)).map (fun (i : Nat) => (i : Int)) from asc_eq h1 ?_ fun k => ?_]
  · exact h
  · rw [List.pairwise_map]
    exact (List.Pairwise.filter _ List.pairwise_lt_range).imp fun h => by omega
  · rw [h2]
    simp only [List.mem_map, List.mem_filter, List.mem_range, decide_eq_true_eq]
    exact ⟨fun ⟨j, hj, e⟩ => ⟨j, ⟨hn j hj, hj⟩, e⟩, fun ⟨j, ⟨_, hj⟩, e⟩ => ⟨j, hj, e⟩⟩
theorem setOk_nat {js : List Nat} (h : js.length < 64) : SetOk (js.map natD) := by
  rw [show natD = D.int ∘ fun (i : Nat) => (i : Int) from rfl, ← List.map_map]
  exact ⟨by simpa using h, sortOk_ints _, .inl ⟨_, rfl⟩⟩
theorem find_al {al : List Str} {x : Str} (nd : al.Nodup) (h : x ∈ al) : (((al.map Sum.inr : List Key).zip ((List.range al.length).map natD)).find? fun p => decide (p.1 = Sum.inr x)) = some (.inr x, natD (al.idxOf x)) := by
  suffices H : ∀ (k : Nat) (al : List Str), x ∈ al → (((al.map Sum.inr : List Key).zip ((List.range' k al.length).map natD)).find? fun p => decide (p.1 = Sum.inr x)) = some (.inr x, natD (k + al.idxOf x)) by
    rw [List.range_eq_range']
    have := H 0 al h
    rw [Nat.zero_add] at this
    exact this
  intro k al
  induction al generalizing k with
  | nil => intro h; cases h
  | cons a al ih =>
    intro h
    rw [List.map_cons, List.length_cons, List.range'_succ, List.map_cons, List.zip_cons_cons]
    by_cases e : a = x
    · subst e
      rw [List.find?_cons_of_pos (by simp)]
      simp
    · rw [List.find?_cons_of_neg (by simpa using e), ih (k + 1) ((List.mem_cons.mp h).resolve_left fun z => e z.symm), show (a :: al).idxOf x = al.idxOf x + 1 by rw [List.idxOf_cons, show (a == x) = false from beq_eq_false_iff_ne.mpr e]; rfl]
      rw [show k + 1 + al.idxOf x = k + (al.idxOf x + 1) by omega]
theorem view_ref {s : S} {p : Addr} {ds : List D} (h : s.M p = some (.lst ds)) : view s (.ref p) = .lst ds := by
  show (match s.M p with | some (.lst ds) => D.lst ds | _ => .ref p) = _
  rw [h]
/-! ### turns of a loop, by an invariant -/
theorem loopW_inv {α : Type} {g : WG} {b : WS} {E : DEnds} {it : α → D} {I : List α → Dn → S → Prop}
    (st : ∀ x r δ s, I (x :: r) δ s → ∀ N : Dn → S → Prop, (∀ δ s, I r δ s → N δ s) → g (it x) δ s fun δ1 s1 => b { nx := N, rt := E.rt, bk := E.nx, ct := N } δ1 s1)
    (fin : ∀ δ s, I [] δ s → E.nx δ s) : ∀ {l : List α} {δ : Dn} {s : S}, I l δ s → loopW g b E (l.map it) δ s
  | [], δ, s, h => fin δ s h
  | x :: l, δ, s, h => by
    rw [List.map_cons]
    unfold loopW
    exact st x l δ s h _ fun δ s h => loopW_inv st fin h
theorem loopW_rng {g : WG} {b : WS} {E : DEnds} {lo : Int} {n : Nat} {I : Nat → Dn → S → Prop} {δ : Dn} {s : S}
    (st : ∀ i δ s, i < n → I i δ s → ∀ N : Dn → S → Prop, (∀ δ s, I (i + 1) δ s → N δ s) → g (.int (lo + (i : Int))) δ s fun δ1 s1 => b { nx := N, rt := E.rt, bk := E.nx, ct := N } δ1 s1)
    (fin : ∀ δ s, I n δ s → E.nx δ s) (h : I 0 δ s) : loopW g b E (rngD lo n) δ s := by
  have e : rngD lo n = (List.range n).map fun (i : Nat) => D.int (lo + (i : Int)) := by
    have := rngD_map (lo := lo) (n := n) id
    rw [List.map_id] at this
    exact this
  rw [e]
  have st2 : ∀ (x : Nat) (r : List Nat) (δ : Dn) (s : S), (∃ i, i + (x :: r).length = n ∧ x :: r = (List.range n).drop i ∧ I i δ s) → ∀ N : Dn → S → Prop, (∀ δ s, (∃ i, i + r.length = n ∧ r = (List.range n).drop i ∧ I i δ s) → N δ s) →
      g (D.int (lo + (x : Int))) δ s fun δ1 s1 => b { nx := N, rt := E.rt, bk := E.nx, ct := N } δ1 s1 := by
    rintro x r δ s ⟨i, hl, hr, hI⟩ N hN
    rw [List.length_cons] at hl
    have hi : i < n := by omega
    rw [List.drop_eq_getElem_cons (by simpa using hi)] at hr
    simp only [List.getElem_range, List.cons.injEq] at hr
    obtain ⟨rfl, hr⟩ := hr
    exact st x δ s hi hI N fun δ s h => hN δ s ⟨x + 1, by omega, hr, h⟩
  exact loopW_inv (I := fun r δ s => ∃ i, i + r.length = n ∧ r = (List.range n).drop i ∧ I i δ s) st2 (fun δ s ⟨i, hl, _, hI⟩ => fin δ s ((show i = n by simpa using hl) ▸ hI)) ⟨0, by simp, by simp, h⟩
theorem items_of {α : Type} {f : α → D} {p : α → Prop} : ∀ {ys : List D}, (∀ y ∈ ys, ∃ x, y = f x ∧ p x) → ∃ l : List α, ys = l.map f ∧ (∀ x ∈ l, p x) ∧ l.length = ys.length
  | [], _ => ⟨[], rfl, (fun _ h => nomatch h), rfl⟩
  | y :: ys, h => by
    obtain ⟨x, rfl, hx⟩ := h y List.mem_cons_self
    obtain ⟨l, rfl, h1, h2⟩ := items_of fun z hz => h z (List.mem_cons_of_mem _ hz)
    exact ⟨x :: l, rfl, fun z hz => by rcases List.mem_cons.mp hz with rfl | hz; exact hx; exact h1 z hz, by simp⟩
theorem cutD_mid {ds : List D} {i j : Nat} (h1 : i ≤ ds.length) (h2 : j ≤ ds.length) : cutD ds (some (i : Int)) (some (j : Int)) = (ds.drop i).take (j - i) := by
  unfold DL.cutD
  rw [sIx_pos (by omega), sIx_pos (by omega), Int.toNat_natCast, Int.toNat_natCast, Nat.min_eq_left h1, Nat.min_eq_left h2]
theorem steps_up : ∀ {k : List Nat}, k.Pairwise (· < ·) → ∀ p ∈ k.zip (k.drop 1), p.1 < p.2 ∧ p.1 ∈ k ∧ p.2 ∈ k
  | [], _, _, h => nomatch h
  | [a], _, p, h => by simp at h
  | a :: b :: l, hp, p, h => by
    rw [List.drop_succ_cons, List.drop_zero, List.zip_cons_cons] at h
    obtain ⟨h1, h2⟩ := List.pairwise_cons.mp hp
    rcases List.mem_cons.mp h with rfl | h
    · exact ⟨h1 b List.mem_cons_self, List.mem_cons_self, List.mem_cons_of_mem _ List.mem_cons_self⟩
    · obtain ⟨q1, q2, q3⟩ := steps_up h2 p (by rw [List.drop_succ_cons, List.drop_zero]; exact h)
      exact ⟨q1, List.mem_cons_of_mem _ q2, List.mem_cons_of_mem _ q3⟩
theorem zipD_map {α β : Type} (f : α → D) (g : β → D) (l : List α) (m : List β) : zipD (l.map f) (m.map g) = (l.zip m).map fun p => .tpw [f p.1, g p.2] := by
  unfold zipD
  rw [List.zip_map, List.map_map]; rfl
theorem ne_it {α : Type} [DecidableEq α] {it : α → D} (h : Same it) {x y : α} {s : S} {P : DK} (hx : view s (it x) = it x) (hy : view s (it y) = it y) (hP : P (.bl (decide (x ≠ y))) s) : roNe (it x) (it y) s P := by
  unfold roNe
  rw [hx, hy]
  have h3 := h.depth x
  refine ⟨⟨h.data x, h.data y, Nat.le_trans (Nat.min_le_left _ _) (by omega)⟩, ?_⟩
  have e : D.eq (it x) (it y) = decide (x = y) := by rw [Bool.eq_iff_iff, h.eq, decide_eq_true_eq]
  rw [e]
  have e2 : decide (x ≠ y) = !decide (x = y) := by by_cases q : x = y <;> simp [q]
  rw [← e2]
  exact hP
theorem ext_eq {s : S} {p : Addr} {d : D} {es zs : List D} {P : DK} (hM : s.M p = some (.lst es)) (hv : view s d = .lst zs) (hl : es.length + zs.length ≤ sizeLine) (h : P .non (s.put p (.lst (es ++ zs)))) : rmExtend (.ref p) [d] s P := by
  unfold rmExtend
  simp only [hM, hv]
  exact ⟨hl, h⟩
theorem app_eq {s : S} {p : Addr} {d : D} {es : List D} {P : DK} (hM : s.M p = some (.lst es)) (hl : es.length < sizeLine) (h : P .non (s.put p (.lst (es ++ [d])))) : rmAppend (.ref p) [d] s P := by
  unfold rmAppend
  simp only [hM]
  exact ⟨hl, h⟩
/-! ### the order of data -/
theorem leD_def (x y : D) : leD x y = !PyProof.Rows.lexLt PyProof.Rows.itemOrd (PySem.W.keyToks y.py) (PySem.W.keyToks x.py) := rfl
theorem leD_trans (a b c : D) (h1 : leD a b = true) (h2 : leD b c = true) : leD a c = true := by
  rw [leD_def, Bool.not_eq_true'] at *
  cases e : PyProof.Rows.lexLt PyProof.Rows.itemOrd (PySem.W.keyToks c.py) (PySem.W.keyToks a.py) with
  | false => rfl
  | true =>
    rcases PyProof.Rows.lex_negTrans (O := PyProof.Rows.itemOrd) _ (PySem.W.keyToks b.py) _ e with q | q
    · rw [h2] at q; cases q
    · rw [h1] at q; cases q
theorem leD_total (a b : D) : (leD a b || leD b a) = true := by
  rw [leD_def, leD_def]
  cases e1 : PyProof.Rows.lexLt PyProof.Rows.itemOrd (PySem.W.keyToks b.py) (PySem.W.keyToks a.py) with
  | false => rfl
  | true =>
    cases e2 : PyProof.Rows.lexLt PyProof.Rows.itemOrd (PySem.W.keyToks a.py) (PySem.W.keyToks b.py) with
    | false => rfl
    | true =>
      have := PyProof.Rows.lex_trans (O := PyProof.Rows.itemOrd) _ _ _ e1 e2
      rw [PyProof.Rows.lex_irrefl (O := PyProof.Rows.itemOrd)] at this
      cases this
theorem leD_anti {a b : D} (h1 : leD a b = true) (h2 : leD b a = true) : PySem.W.keyToks a.py = PySem.W.keyToks b.py := by
  rw [leD_def, Bool.not_eq_true'] at *
  exact PyProof.Rows.lex_total (O := PyProof.Rows.itemOrd) _ _ h2 h1
/-- two rows of the same things, both in order: the same row -/
theorem sorted_same {α : Type} {le : α → α → Bool} (anti : ∀ a b, le a b = true → le b a = true → a = b) : ∀ {l m : List α}, l.Perm m → l.Pairwise (fun x y => le x y = true) → m.Pairwise (fun x y => le x y = true) → l = m
  | [], m, h, _, _ => (List.nil_perm.mp h).symm ▸ rfl
  | a :: l, [], h, _, _ => absurd (List.perm_nil.mp h) (List.cons_ne_nil _ _)
  | a :: l, b :: m, h, h1, h2 => by
    obtain ⟨a1, l1⟩ := List.pairwise_cons.mp h1
    obtain ⟨b1, m1⟩ := List.pairwise_cons.mp h2
    have e : a = b := by
      rcases List.mem_cons.mp (h.mem_iff.mp List.mem_cons_self) with e | ha
      · exact e
      · rcases List.mem_cons.mp (h.mem_iff.mpr List.mem_cons_self) with e | hb
        · exact e.symm
        · exact anti _ _ (a1 _ hb) (b1 _ ha)
    subst e
    rw [sorted_same anti h.cons_inv l1 m1]
theorem nodup_perm {α : Type} [DecidableEq α] : ∀ {l m : List α}, l.Nodup → m.Nodup → (∀ x, x ∈ l ↔ x ∈ m) → l.Perm m := by
  intro l m h1 h2 h
  rw [List.perm_iff_count]
  intro a
  have c1 := List.nodup_iff_count.mp h1 a
  have c2 := List.nodup_iff_count.mp h2 a
  by_cases q : a ∈ l
  · have := List.count_pos_iff.mpr q
    have := List.count_pos_iff.mpr ((h a).mp q)
    omega
  · rw [List.count_eq_zero_of_not_mem q, List.count_eq_zero_of_not_mem fun z => q ((h a).mpr z)]
theorem nodup_le {α : Type} [DecidableEq α] : ∀ {l m : List α}, l.Nodup → (∀ x ∈ l, x ∈ m) → l.length ≤ m.length
  | [], _, _, _ => Nat.zero_le _
  | a :: l, m, h, hs => by
    obtain ⟨h1, h2⟩ := List.nodup_cons.mp h
    have ha := hs a List.mem_cons_self
    have := nodup_le (m := m.erase a) h2 fun x hx => (List.mem_erase_of_ne fun e => h1 (by rw [← e]; exact hx)).mpr (hs x (List.mem_cons_of_mem _ hx))
    rw [List.length_erase_of_mem ha] at this
    have := List.length_pos_of_mem ha
    rw [List.length_cons]
    omega
theorem srtD_map {α : Type} (f : α → D) (l : List α) : srtD (l.map f) = (l.mergeSort fun x y => leD (f x) (f y)).map f :=
  (List.map_mergeSort (r := fun x y => leD (f x) (f y)) (s := leD) (f := f) (fun _ _ _ _ => rfl)).symm
end DL

set_option Elab.async false
set_option linter.all false
set_option autoImplicit false
set_option maxRecDepth 100000
set_option maxHeartbeats 4000000
namespace DL
open PySem PySem.Spec PyProof.Rows L2
open Evl (Ex)
/-! ### questions as data -/
def eqnD (e : Col × Col) : D := .tup [colD e.1, colD e.2]
structure Ask where
  src : List Col
  eqs : List (Col × Col)
  fl : List D
  told : List Col
  once : Bool
  ord : List Col
abbrev Ask.al (q : Ask) : List Str := q.src.map (·.1)
def askD (q : Ask) : D := .tup [.tup (q.src.map colD), .tup (q.eqs.map eqnD), .tup q.fl, .tup (q.told.map colD), .bl q.once, .tup (q.ord.map colD)]
def ColOk (q : Ask) (c : Col) : Prop := c.1 ∈ q.al ∧ Nam c.2
def Cel (d : D) : Prop := d = .non ∨ (∃ i : Int, d = .int i ∧ i.natAbs ≤ 10 ^ 12) ∨ ∃ x : Str, d = .str x ∧ x.length ≤ 8 ∧ ∀ c ∈ x.cps.toList, c < 16 ^ 8
def isN : D → Bool
  | .non => true
  | _ => false
def FilOk (q : Ask) (d : D) : Prop := ∃ c w o, d = .tup [colD c, .str w, o] ∧ ColOk q c ∧
  (((w = "none" ∨ w = "some") ∧ o = .non) ∨
  (w = "among" ∧ ∃ os, o = .tup os ∧ os.length ≤ 12 ∧ ∀ e ∈ os, Cel e ∧ isN e = false) ∨
  ((w = "equal" ∨ w = "unlike" ∨ w = "less" ∨ w = "most") ∧ ((Cel o ∧ isN o = false) ∨ ∃ y, Nam y ∧ o = colD (c.1, y))))
structure AskOk (q : Ask) : Prop where
  n1 : 1 ≤ q.src.length
  n6 : q.src.length ≤ 6
  nd : q.al.Nodup
  nam : ∀ c ∈ q.src, Nam c.1 ∧ Nam c.2
  e16 : q.eqs.length ≤ 16
  eq : ∀ e ∈ q.eqs, e.1 ≠ e.2 ∧ ColOk q e.1 ∧ ColOk q e.2
  fl : q.fl.length ≤ 2 ∧ ∀ d ∈ q.fl, FilOk q d
  told : 1 ≤ q.told.length ∧ q.told.length ≤ 8 ∧ ∀ c ∈ q.told, ColOk q c
  ord : q.ord.length ≤ 8 ∧ ∀ c ∈ q.ord, c ∈ q.told
/-! ### join classes -/
def hitB (a b : Col) (cs : List Col) : Bool := decide (a ∈ cs) || decide (b ∈ cs)
def grow1 (a b : Col) (t cs : List Col) : List Col := if hitB a b cs then t ++ cs.filter (fun c => decide (c ∉ t)) else t
def withEq (F : List (List Col)) (a b : Col) : List (List Col) := F.filter (fun cs => !hitB a b cs) ++ [F.foldl (grow1 a b) [a, b]]
def clsOf (es : List (Col × Col)) : List (List Col) := es.foldl (fun F e => withEq F e.1 e.2) []
abbrev Tri := Nat × Str × Str
def numC (al : List Str) (c : Col) : Tri := (al.idxOf c.1, c.2, c.1)
def tri (t : Tri) : D := .tup [.int (t.1 : Int), .str t.2.1, .str t.2.2]
def rowD (l : List Tri) : D := .lst (l.map tri)
def srt3 (l : List Tri) : List Tri := l.mergeSort fun x y => leD (tri x) (tri y)
def srtR (l : List (List Tri)) : List (List Tri) := l.mergeSort fun x y => leD (rowD x) (rowD y)
def jrows (q : Ask) : List (List Tri) := srtR ((clsOf q.eqs).map fun cs => srt3 (cs.map (numC q.al)))
def jcls (q : Ask) : List (List Col) := (jrows q).map fun r => r.map fun t => (t.2.2, t.2.1)
def clsD (cs : List Col) : D := .tup (cs.map colD)
def memb (q : Ask) : List (List Nat) := (jcls q).map fun cs => (List.range q.src.length).filter fun i => decide (i ∈ cs.map fun c => q.al.idxOf c.1)
/-! ### taking apart -/
def shared (M : List (List Nat)) (L : List Nat) (a : Nat) : List (List Nat) := M.filter fun cs => decide (a ∈ cs) && L.any fun b => decide (b ≠ a) && decide (b ∈ cs)
def holders (M : List (List Nat)) (L : List Nat) (a : Nat) : List Nat := L.filter fun b => decide (b ≠ a) && (shared M L a).all fun cs => decide (b ∈ cs)
def firstEar (M : List (List Nat)) (L : List Nat) : Option (Nat × Nat) := L.findSome? fun a => (holders M L a).head?.map fun b => (a, b)
def apartN (M : List (List Nat)) : Nat → List Nat → List (Nat × Nat) × List Nat
  | 0, L => ([], L)
  | n + 1, L => match firstEar M L with
    | none => ([], L)
    | some p => let r := apartN M n (L.erase p.1); (p :: r.1, r.2)
def apart (M : List (List Nat)) (g : List Nat) : List (Nat × Nat) × List Nat := apartN M g.length g
def prN (p : Nat × Nat) : D := .tup [natD p.1, natD p.2]
def apartD (r : List (Nat × Nat) × List Nat) : D := .tup [.tup (r.1.map prN), natsT r.2]
/-! ### groups -/
def metN (g : List Nat) (met cs : List Nat) : List Nat := if (cs.filter fun a => decide (a ∈ met)) ≠ [] then met ++ cs.filter (fun a => decide (a ∈ g) && decide (a ∉ met)) else met
def metAll (M : List (List Nat)) (g : List Nat) : List Nat := g.foldl (fun met _ => M.foldl (metN g) met) [g.headD 0]
def linked (M : List (List Nat)) (g : List Nat) : Bool := decide ((metAll M g).length = g.length)
def subs (n : Nat) : List (List Nat) := (List.range n).foldl (fun ps a => ps ++ ps.map (· ++ [a])) [[]]
def rankD (g : List Nat) : D := .tup [natD g.length, natsT g]
def grps (n : Nat) (M : List (List Nat)) : List (List Nat) := ((subs n).filter fun p => decide (1 < p.length) && linked M p).mergeSort fun x y => leD (rankD x) (rankD y)
/-- lists of numbers of aliases -/
def MOk (M : List (List Nat)) : Prop := M.length ≤ 16 ∧ ∀ cs ∈ M, cs.length ≤ 6 ∧ ∀ i ∈ cs, i < 6
def GOk (g : List Nat) : Prop := g.Nodup ∧ g.length ≤ 6 ∧ ∀ i ∈ g, i < 6
def KnOk (n : Nat) (k : List Nat) : Prop := k.length ≤ 6 ∧ k.Pairwise (· < ·) ∧ ∀ i ∈ k, i < n
theorem firstEar_mem {M : List (List Nat)} {L : List Nat} {p : Nat × Nat} (h : firstEar M L = some p) : p.1 ∈ L ∧ p.2 ∈ L := by
  unfold firstEar at h
  obtain ⟨a, ha, h⟩ := List.exists_of_findSome?_eq_some h
  cases e : holders M L a with
  | nil => rw [e] at h; cases h
  | cons b bs =>
    rw [e] at h
    cases h
    have hb : b ∈ holders M L a := by rw [e]; exact List.mem_cons_self
    exact ⟨ha, (List.mem_filter.mp hb).1⟩
theorem gok_erase {L : List Nat} (h : GOk L) (i : Nat) : GOk (L.erase i) :=
  ⟨h.1.erase _, Nat.le_trans (List.length_erase_le) h.2.1, fun j hj => h.2.2 j (List.mem_of_mem_erase hj)⟩
theorem withEq_length (F : List (List Col)) (a b : Col) : (withEq F a b).length ≤ F.length + 1 := by
  unfold withEq
  rw [List.length_append, List.length_singleton]
  exact Nat.add_le_add_right (List.length_filter_le _ _) 1
theorem clsOf_length (es : List (Col × Col)) : (clsOf es).length ≤ es.length := by
  unfold clsOf
  suffices H : ∀ F : List (List Col), (es.foldl (fun F e => withEq F e.1 e.2) F).length ≤ F.length + es.length by simpa using H []
  induction es with
  | nil => intro F; simp
  | cons e es ih =>
    intro F
    rw [List.foldl_cons, List.length_cons]
    have := ih (withEq F e.1 e.2)
    have := withEq_length F e.1 e.2
    omega
theorem jcls_length (q : Ask) : (jcls q).length = (clsOf q.eqs).length := by
  unfold jcls jrows srtR
  rw [List.length_map, List.length_mergeSort, List.length_map]
theorem memb_ok {q : Ask} (h : AskOk q) : MOk (memb q) := by
  refine ⟨?_, fun cs hcs => ?_⟩
  · unfold memb
    rw [List.length_map, jcls_length]
    exact Nat.le_trans (clsOf_length _) h.e16
  · obtain ⟨c, _, rfl⟩ := List.mem_map.mp hcs
    have h6 := h.n6
    refine ⟨Nat.le_trans (List.length_filter_le _ _) (by rw [List.length_range]; exact h6), fun i hi => ?_⟩
    have := List.mem_range.mp (List.mem_filter.mp hi).1
    omega
theorem grow_len (a b : Col) : ∀ (F : List (List Col)) (t : List Col), (F.foldl (grow1 a b) t).length + ((F.filter fun cs => !hitB a b cs).map List.length).sum ≤ t.length + (F.map List.length).sum
  | [], t => by simp
  | cs :: F, t => by
    rw [List.foldl_cons]
    have ih := grow_len a b F (grow1 a b t cs)
    rw [List.map_cons, List.sum_cons]
    unfold grow1 at ih ⊢
    cases e : hitB a b cs
    · rw [e] at ih
      rw [List.filter_cons_of_pos (by simp [e]), List.map_cons, List.sum_cons]
      simp only [Bool.false_eq_true, if_false] at ih ⊢
      omega
    · rw [e] at ih
      rw [List.filter_cons_of_neg (by simp [e])]
      simp only [if_true] at ih ⊢
      rw [List.length_append] at ih
      have := List.length_filter_le (fun c => decide (c ∉ t)) cs
      omega
theorem withEq_sum (F : List (List Col)) (a b : Col) : ((withEq F a b).map List.length).sum ≤ (F.map List.length).sum + 2 := by
  unfold withEq
  have := grow_len a b F [a, b]
  rw [List.map_append, List.sum_append, List.map_singleton, List.sum_singleton]
  simp only [List.length_cons, List.length_nil] at this
  omega
theorem clsOf_sum (es : List (Col × Col)) : ((clsOf es).map List.length).sum ≤ 2 * es.length := by
  unfold clsOf
  suffices H : ∀ F : List (List Col), ((es.foldl (fun F e => withEq F e.1 e.2) F).map List.length).sum ≤ (F.map List.length).sum + 2 * es.length by simpa using H []
  induction es with
  | nil => intro F; simp
  | cons e es ih =>
    intro F
    rw [List.foldl_cons, List.length_cons]
    have := ih (withEq F e.1 e.2)
    have := withEq_sum F e.1 e.2
    omega
theorem mem_grow {a b c : Col} : ∀ {F : List (List Col)} {t : List Col}, c ∈ F.foldl (grow1 a b) t → c ∈ t ∨ ∃ cs ∈ F, hitB a b cs = true ∧ c ∈ cs
  | [], _, h => .inl h
  | cs :: F, t, h => by
    rw [List.foldl_cons] at h
    rcases mem_grow h with h | ⟨ds, h1, h2⟩
    · unfold grow1 at h
      cases e : hitB a b cs
      · rw [e] at h
        exact .inl (by simpa using h)
      · rw [e, if_pos rfl] at h
        rcases List.mem_append.mp h with h | h
        · exact .inl h
        · exact .inr ⟨cs, List.mem_cons_self, e, (List.mem_filter.mp h).1⟩
    · exact .inr ⟨ds, List.mem_cons_of_mem _ h1, h2⟩
theorem clsOf_all {Q : Col → Prop} {es : List (Col × Col)} (h : ∀ e ∈ es, Q e.1 ∧ Q e.2) : ∀ cs ∈ clsOf es, ∀ c ∈ cs, Q c := by
  unfold clsOf
  suffices H : ∀ F : List (List Col), (∀ cs ∈ F, ∀ c ∈ cs, Q c) → ∀ cs ∈ es.foldl (fun F e => withEq F e.1 e.2) F, ∀ c ∈ cs, Q c from H [] (fun _ h => nomatch h)
  induction es with
  | nil => exact fun F hF => hF
  | cons e es ih =>
    intro F hF
    rw [List.foldl_cons]
    refine ih (fun e he => h e (List.mem_cons_of_mem _ he)) _ fun cs hcs c hc => ?_
    unfold withEq at hcs
    rcases List.mem_append.mp hcs with hcs | hcs
    · exact hF cs (List.mem_filter.mp hcs).1 c hc
    · rw [List.mem_singleton] at hcs
      subst hcs
      rcases mem_grow hc with hc | ⟨ds, h1, _, h2⟩
      · rcases List.mem_cons.mp hc with rfl | hc
        · exact (h e List.mem_cons_self).1
        · rw [List.mem_singleton] at hc
          subst hc
          exact (h e List.mem_cons_self).2
      · exact hF ds h1 c h2
theorem mem_sum {l : List (List Col)} {x : List Col} (h : x ∈ l) : x.length ≤ (l.map List.length).sum := by
  induction l with
  | nil => cases h
  | cons y l ih =>
    rw [List.map_cons, List.sum_cons]
    rcases List.mem_cons.mp h with rfl | h
    · omega
    · have := ih h; omega
theorem jcls_mem {q : Ask} {cs : List Col} (h : cs ∈ jcls q) : ∃ ds ∈ clsOf q.eqs, cs.Perm ds := by
  unfold jcls jrows srtR at h
  obtain ⟨r, hr, rfl⟩ := List.mem_map.mp h
  rw [List.mem_mergeSort] at hr
  obtain ⟨ds, hds, rfl⟩ := List.mem_map.mp hr
  refine ⟨ds, hds, ?_⟩
  unfold srt3
  refine (List.Perm.map _ (List.mergeSort_perm _ _)).trans ?_
  rw [List.map_map]
  exact List.Perm.of_eq ((List.map_congr_left fun c _ => rfl).trans (List.map_id _))
theorem jcls_ok {q : Ask} (h : AskOk q) {cs : List Col} (hc : cs ∈ jcls q) : cs.length ≤ 32 ∧ ∀ c ∈ cs, ColOk q c := by
  obtain ⟨ds, h1, h2⟩ := jcls_mem hc
  have := clsOf_sum q.eqs
  have := mem_sum h1
  have := h.e16
  refine ⟨by rw [h2.length_eq]; omega, fun c hc => ?_⟩
  exact clsOf_all (fun e he => (h.eq e he).2) ds h1 c (h2.mem_iff.mp hc)
end DL

set_option Elab.async false
set_option linter.all false
set_option autoImplicit false
set_option maxRecDepth 100000
set_option maxHeartbeats 4000000
namespace DL
open PySem PySem.Spec PyProof.Rows L2
open PySem.W (AllAlike Sortable alike alikeAll keyToks)
/-! ### rows of tris -/
theorem alike_nil {l : List PyData} : alikeAll [] l = true := by cases l <;> rfl
theorem alike_nil2 {l : List PyData} : alikeAll l [] = true := by cases l <;> rfl
theorem alike_tri (a b : Tri) : alike (tri a).py (tri b).py = true := rfl
theorem alike_rows : ∀ (l m : List Tri), alikeAll (D.pys (l.map tri)) (D.pys (m.map tri)) = true
  | [], _ => alike_nil
  | _ :: _, [] => rfl
  | a :: l, b :: m => by
    show (alike (tri a).py (tri b).py && alikeAll (D.pys (l.map tri)) (D.pys (m.map tri))) = true
    rw [alike_tri, alike_rows l m]; rfl
theorem sortOk_of {es : List D} (h1 : ∀ x ∈ es, ∀ y ∈ es, alike x.py y.py = true) (h2 : (∀ x ∈ es, ∃ d ds, x = .tup (d :: ds)) ∨ ∀ x ∈ es, ∃ ds, x = .lst ds) (h3 : ∀ d ∈ es, d.isData = true ∧ d.depth ≤ 58) : SortOk es := by
  refine ⟨?_, ?_, h3⟩
  · intro d hd d' hd'
    obtain ⟨x, hx, rfl⟩ := List.mem_map.mp hd
    obtain ⟨y, hy, rfl⟩ := List.mem_map.mp hd'
    exact h1 x hx y hy
  · rcases h2 with h2 | h2
    · refine .inl fun d hd => ?_
      obtain ⟨x, hx, rfl⟩ := List.mem_map.mp hd
      obtain ⟨d, ds, rfl⟩ := h2 x hx
      exact ⟨_, _, rfl⟩
    · refine .inr fun d hd => ?_
      obtain ⟨x, hx, rfl⟩ := List.mem_map.mp hd
      obtain ⟨ds, rfl⟩ := h2 x hx
      exact ⟨(fun h => by cases h), fun xs h => by cases h⟩
theorem depthAll_le {n : Nat} : ∀ {ds : List D}, (∀ d ∈ ds, d.depth ≤ n) → PyData.depthAll (D.pys ds) ≤ n
  | [], _ => Nat.zero_le _
  | d :: ds, h => by
    show max (D.depth d) (PyData.depthAll (D.pys ds)) ≤ n
    exact Nat.max_le.mpr ⟨h d List.mem_cons_self, depthAll_le fun e he => h e (List.mem_cons_of_mem _ he)⟩
theorem data_tri (t : Tri) : (tri t).isData = true ∧ (tri t).depth ≤ 1 := ⟨rfl, Nat.le_refl _⟩
theorem fit_triU (t : Tri) : (tri t).depth = 1 := rfl
theorem sortOk_tri (l : List Tri) : SortOk (l.map tri) := by
  refine sortOk_of (fun x hx y hy => ?_) (.inl fun x hx => ?_) fun x hx => ?_
  · obtain ⟨a, _, rfl⟩ := List.mem_map.mp hx
    obtain ⟨b, _, rfl⟩ := List.mem_map.mp hy
    rfl
  · obtain ⟨a, _, rfl⟩ := List.mem_map.mp hx
    exact ⟨_, _, rfl⟩
  · obtain ⟨a, _, rfl⟩ := List.mem_map.mp hx
    exact ⟨rfl, by rw [fit_triU]; omega⟩
theorem sortOk_rowD (l : List (List Tri)) : SortOk (l.map rowD) := by
  refine sortOk_of (fun x hx y hy => ?_) (.inr fun x hx => ?_) fun x hx => ?_
  · obtain ⟨a, _, rfl⟩ := List.mem_map.mp hx
    obtain ⟨b, _, rfl⟩ := List.mem_map.mp hy
    exact alike_rows a b
  · obtain ⟨a, _, rfl⟩ := List.mem_map.mp hx
    exact ⟨_, rfl⟩
  · obtain ⟨a, _, rfl⟩ := List.mem_map.mp hx
    refine ⟨allData_it (fun _ => rfl) a, ?_⟩
    have h : PyData.depthAll (D.pys (a.map tri)) ≤ 1 := depthAll_le fun d hd => by
      obtain ⟨u, _, rfl⟩ := List.mem_map.mp hd
      exact Nat.le_refl _
    show PyData.depthAll (D.pys (a.map tri)) + 1 ≤ 58
    omega
theorem setOk_tri {l : List Tri} (h : l.length < 64) : SetOk (l.map tri) :=
  ⟨by simpa using h, sortOk_tri l, .inr ⟨l.map fun t => [.inl (t.1 : Int), .inr t.2.1, .inr t.2.2], by rw [List.map_map]; rfl⟩⟩
theorem toks_tri {a b : Tri} (h : keyToks (tri a).py = keyToks (tri b).py) : a = b := by
  have e : ∀ t : Tri, keyToks (tri t).py = [.inl 1, .inl (t.1 : Int), .inl 1, .inr t.2.1.cps.toList, .inl 1, .inr t.2.2.cps.toList, .inl 0] := fun _ => rfl
  rw [e, e] at h
  simp only [List.cons.injEq, Sum.inl.injEq, Sum.inr.injEq, true_and, and_true] at h
  obtain ⟨h1, h2, h3⟩ := h
  exact Prod.ext (by omega) (Prod.ext (PySem.W.str_of_cps h2) (PySem.W.str_of_cps h3))
theorem nodup_of_map {α β : Type} {f : α → β} : ∀ {l : List α}, (l.map f).Nodup → l.Nodup
  | [], _ => List.nodup_nil
  | a :: l, h => by
    rw [List.map_cons] at h
    obtain ⟨h1, h2⟩ := List.nodup_cons.mp h
    exact List.nodup_cons.mpr ⟨fun q => h1 (List.mem_map_of_mem q), nodup_of_map h2⟩
theorem srtD_tri (l : List Tri) : srtD (l.map tri) = (srt3 l).map tri := srtD_map tri l
theorem srtD_rowD (l : List (List Tri)) : srtD (l.map rowD) = (srtR l).map rowD := srtD_map rowD l
/-- sorted(set(..)) of tris -/
theorem sortedSet_tri {l m : List Tri} {s : S} {P : List D → S → Prop} (nd : m.Nodup) (h : ∀ t, t ∈ l ↔ t ∈ m) (hP : P ((srt3 m).map tri) s) : sortedSetP (l.map tri) s P := by
  intro ys n mem pw
  have : ys = (srt3 m).map tri := by
    have all : ∀ y ∈ ys, ∃ t, y = tri t := fun y hy => by
      obtain ⟨t, _, e⟩ := List.mem_map.mp ((mem y).mp hy)
      exact ⟨t, e.symm⟩
    obtain ⟨zs, rfl⟩ : ∃ zs : List Tri, ys = zs.map tri := by
      clear n mem pw
      induction ys with
      | nil => exact ⟨[], rfl⟩
      | cons y ys ih =>
        obtain ⟨zs, rfl⟩ := ih fun z hz => all z (List.mem_cons_of_mem _ hz)
        obtain ⟨t, rfl⟩ := all y List.mem_cons_self
        exact ⟨t :: zs, rfl⟩
    have inj : ∀ a b : Tri, tri a = tri b → a = b := fun a b e => toks_tri (by rw [e])
    have mi : ∀ (t : Tri) (l : List Tri), tri t ∈ l.map tri ↔ t ∈ l := fun t l => ⟨fun h => by obtain ⟨u, hu, e⟩ := List.mem_map.mp h; exact inj _ _ e ▸ hu, List.mem_map_of_mem⟩
    congr 1
    refine sorted_same (le := fun x y => leD (tri x) (tri y)) (fun a b h1 h2 => toks_tri (leD_anti h1 h2)) ?_ (List.pairwise_map.mp pw) (List.pairwise_mergeSort (le := fun x y => leD (tri x) (tri y)) (fun a b c => leD_trans _ _ _) (fun a b => leD_total _ _) m)
    refine (nodup_perm (nodup_of_map n) nd fun t => ?_).trans (List.mergeSort_perm _ _).symm
    rw [← h, ← mi t zs, mem, mi]
  rw [this]
  exact hP
theorem eqAll_same {α : Type} {it : α → D} (h : Same it) : ∀ (l m : List α), PyData.eqvAll (D.pys (l.map it)) (D.pys (m.map it)) = true ↔ l = m
  | [], [] => by simp [eqAll_nil]
  | [], b :: m => by rw [List.map_cons, List.map_nil, eqAll_nc]; simp
  | a :: l, [] => by rw [List.map_cons, List.map_nil, eqAll_cn]; simp
  | a :: l, b :: m => by rw [List.map_cons, List.map_cons, eqAll_cons, Bool.and_eq_true, h.eq, eqAll_same h l m, List.cons.injEq]
theorem same_lst {α : Type} {it : α → D} (h : Same it) (hd : ∀ x, (it x).depth ≤ 7) : Same fun l : List α => .lst (l.map it) :=
  ⟨fun l m => by rw [eq_ll]; exact eqAll_same h l m, fun l => allData_it h.data l, fun l => by
    have : PyData.depthAll (D.pys (l.map it)) ≤ 7 := depthAll_le fun d hd' => by
      obtain ⟨x, _, rfl⟩ := List.mem_map.mp hd'
      exact hd x
    exact Nat.succ_le_succ this⟩
theorem same_tup {α : Type} {it : α → D} (h : Same it) (hd : ∀ x, (it x).depth ≤ 7) : Same fun l : List α => .tup (l.map it) :=
  ⟨fun l m => by rw [eq_tt]; exact eqAll_same h l m, fun l => allData_it h.data l, fun l => by
    have : PyData.depthAll (D.pys (l.map it)) ≤ 7 := depthAll_le fun d hd' => by
      obtain ⟨x, _, rfl⟩ := List.mem_map.mp hd'
      exact hd x
    exact Nat.succ_le_succ this⟩
theorem depth_col (c : Col) : (colD c).depth = 1 := rfl
theorem same_cls : Same fun cs : List Col => .lst (cs.map colD) := same_lst same_col fun c => by rw [depth_col]; omega
theorem roEq_emp {s : S} {d : D} {ds : List D} {P : DK} (hv : view s d = .lst ds) (hd : D.allData ds = true) : roEq d (.lst []) s P ↔ P (.bl ds.isEmpty) s := by
  unfold roEq
  rw [hv]
  show (EqOk (.lst ds) (.lst []) ∧ P (.bl (PyData.eqvAll (D.pys ds) (D.pys []))) s) ↔ _
  rw [eqAll_emp]
  exact ⟨fun h => h.2, fun h => ⟨⟨hd, rfl, Nat.le_trans (Nat.min_le_right _ _) (by decide)⟩, h⟩⟩
/-! ### groups -/
theorem alike_nats : ∀ l m : List Nat, alikeAll (D.pys (l.map natD)) (D.pys (m.map natD)) = true
  | [], _ => alike_nil
  | _ :: _, [] => rfl
  | a :: l, b :: m => by
    show (alike (natD a).py (natD b).py && alikeAll (D.pys (l.map natD)) (D.pys (m.map natD))) = true
    rw [alike_nats l m]; rfl
theorem depth_natsT (l : List Nat) : (natsT l).depth ≤ 1 := by
  have h : PyData.depthAll (D.pys (l.map natD)) ≤ 0 := depthAll_le fun d hd => by
    obtain ⟨u, _, rfl⟩ := List.mem_map.mp hd
    exact Nat.le_refl _
  exact Nat.succ_le_succ h
theorem data_natsT (l : List Nat) : (natsT l).isData = true := allData_it same_nat.data l
theorem keyOk_rank {key : D → D} {gs : List (List Nat)} (h : ∀ g ∈ gs, key (natsT g) = rankD g) : KeyOk key (gs.map natsT) := by
  have e : (gs.map natsT).map key = gs.map rankD := by
    rw [List.map_map]
    exact List.map_congr_left h
  have := sortOk_of (es := gs.map rankD) (fun x hx y hy => by
    obtain ⟨a, _, rfl⟩ := List.mem_map.mp hx
    obtain ⟨b, _, rfl⟩ := List.mem_map.mp hy
    show (true && (alikeAll (D.pys (a.map natD)) (D.pys (b.map natD)) && true)) = true
    rw [alike_nats]; rfl) (.inl fun x hx => by
    obtain ⟨a, _, rfl⟩ := List.mem_map.mp hx
    exact ⟨_, _, rfl⟩) (fun x hx => by
    obtain ⟨a, _, rfl⟩ := List.mem_map.mp hx
    refine ⟨?_, ?_⟩
    · show (true && (D.allData (a.map natD) && true)) = true
      rw [show D.allData (a.map natD) = true from data_natsT a]; rfl
    · have h2 := depth_natsT a
      have h3 : PyData.depthAll (D.pys [natD a.length, natsT a]) ≤ 1 := depthAll_le fun d hd => by
        simp only [List.mem_cons, List.not_mem_nil, or_false] at hd
        rcases hd with rfl | rfl
        · exact Nat.zero_le _
        · exact h2
      show PyData.depthAll (D.pys [natD a.length, natsT a]) + 1 ≤ 58
      omega)
  unfold KeyOk
  rw [e]
  exact this
theorem subs_ok {n : Nat} (hn : n ≤ 6) : ∀ g ∈ subs n, GOk g := by
  suffices H : ∀ k, k ≤ 6 → ∀ g ∈ subs k, g.Nodup ∧ g.length ≤ k ∧ ∀ i ∈ g, i < k from fun g hg => by
    obtain ⟨h1, h2, h3⟩ := H n hn g hg
    exact ⟨h1, by omega, fun i hi => by have := h3 i hi; omega⟩
  intro k
  induction k with
  | zero =>
    intro _ g hg
    rw [show subs 0 = [[]] from rfl, List.mem_singleton] at hg
    subst hg
    exact ⟨List.nodup_nil, Nat.le_refl _, fun _ h => nomatch h⟩
  | succ k ih =>
    intro hk g hg
    have e : subs (k + 1) = subs k ++ (subs k).map (· ++ [k]) := by unfold subs; rw [List.range_succ, List.foldl_append]; rfl
    rw [e] at hg
    rcases List.mem_append.mp hg with hg | hg
    · obtain ⟨h1, h2, h3⟩ := ih (by omega) g hg
      exact ⟨h1, by omega, fun i hi => by have := h3 i hi; omega⟩
    · obtain ⟨g2, hg2, rfl⟩ := List.mem_map.mp hg
      obtain ⟨h1, h2, h3⟩ := ih (by omega) g2 hg2
      refine ⟨?_, by rw [List.length_append, List.length_singleton]; omega, fun i hi => ?_⟩
      · rw [List.nodup_append]
        refine ⟨h1, by simp, fun a ha b hb e => ?_⟩
        rw [List.mem_singleton] at hb
        have := h3 a ha
        omega
      · rcases List.mem_append.mp hi with hi | hi
        · have := h3 i hi; omega
        · rw [List.mem_singleton] at hi; omega
theorem subs_length (n : Nat) : (subs n).length = 2 ^ n := by
  induction n with
  | zero => rfl
  | succ k ih =>
    have e : subs (k + 1) = subs k ++ (subs k).map (· ++ [k]) := by unfold subs; rw [List.range_succ, List.foldl_append]; rfl
    rw [e, List.length_append, List.length_map, ih, Nat.pow_succ]; omega
theorem subs_succ (k : Nat) : subs (k + 1) = subs k ++ (subs k).map (· ++ [k]) := by unfold subs; rw [List.range_succ, List.foldl_append]; rfl
theorem grps_ok {n : Nat} {M : List (List Nat)} (hn : n ≤ 6) : ∀ g ∈ grps n M, GOk g ∧ 1 < g.length ∧ linked M g = true := fun g hg => by
  unfold grps at hg
  rw [List.mem_mergeSort] at hg
  obtain ⟨h1, h2⟩ := List.mem_filter.mp hg
  rw [Bool.and_eq_true, decide_eq_true_eq] at h2
  exact ⟨subs_ok hn g h1, h2⟩
theorem mergeSort_nats (gs : List (List Nat)) {le : D → D → Bool} (h : ∀ a ∈ gs, ∀ b ∈ gs, le (natsT a) (natsT b) = leD (rankD a) (rankD b)) : (gs.map natsT).mergeSort le = (gs.mergeSort fun x y => leD (rankD x) (rankD y)).map natsT :=
  (List.map_mergeSort (r := fun x y => leD (rankD x) (rankD y)) (s := le) (f := natsT) fun a ha b hb => (h a ha b hb).symm).symm
def keyRank : D → D
  | .tup ds => .tup [.int (ds.length : Int), .tup ds]
  | d => d
theorem keyRank_nats (g : List Nat) : keyRank (natsT g) = rankD g := by
  unfold natsT rankD
  show D.tup [.int ((g.map natD).length : Int), .tup (g.map natD)] = _
  rw [List.length_map]; rfl
theorem le_rank (a b : List Nat) : PySem.W.dataLe false (fun e => (keyRank e).py) (natsT a) (natsT b) = leD (rankD a) (rankD b) := by
  rw [← keyRank_nats, ← keyRank_nats]; rfl
theorem leD_nat (x y : Nat) : leD (natD x) (natD y) = decide (x ≤ y) := by
  have e : leD (.int (x : Int)) (.int (y : Int)) = decide ((x : Int) ≤ (y : Int)) := congrFun (congrFun (PySem.W.dataLe_int (fun k : Int => k)) (x : Int)) (y : Int)
  rw [show natD x = .int (x : Int) from rfl, show natD y = .int (y : Int) from rfl, e]
  exact decide_eq_decide.mpr (by omega)
theorem srtD_nats {l m : List Nat} (hp : m.Perm l) (hs : m.Pairwise (· ≤ ·)) : srtD (l.map natD) = m.map natD := by
  rw [srtD_map]
  congr 1
  refine sorted_same (le := fun x y => leD (natD x) (natD y)) (fun a b h1 h2 => ?_) ((List.mergeSort_perm _ _).trans hp.symm) (List.pairwise_mergeSort (le := fun x y => leD (natD x) (natD y)) (fun a b c => leD_trans _ _ _) (fun a b => leD_total _ _) l) (hs.imp fun {a b} h => ?_)
  · rw [leD_nat, decide_eq_true_eq] at h1 h2; omega
  · rw [leD_nat, decide_eq_true_eq]; exact h
theorem sortOk_nats (l : List Nat) : SortOk (l.map natD) := by
  rw [show natD = D.int ∘ fun (i : Nat) => (i : Int) from rfl, ← List.map_map]
  exact sortOk_ints _
theorem fuel_put (s : S) (p a : Addr) (x : MO) (m : Nat) : (s.fuel a m).put p x = (s.put p x).fuel a m := rfl
theorem fuel_del (s : S) (p a : Addr) (m : Nat) : (s.fuel a m).del p = (s.del p).fuel a m := rfl
theorem sum_set (f : List Nat → Nat) : ∀ {l : List (List Nat)} {i : Nat} {y : List Nat} (h : i < l.length), f y ≤ f l[i] + 1 → ((l.set i y).map f).sum ≤ (l.map f).sum + 1
  | [], _, _, h, _ => absurd h (by simp)
  | x :: l, 0, y, _, h => by
    simp only [List.set_cons_zero, List.map_cons, List.sum_cons, List.getElem_cons_zero] at h ⊢
    omega
  | x :: l, i + 1, y, hi, h => by
    have := sum_set f (l := l) (i := i) (y := y) (by simpa using hi) (by simpa using h)
    simp only [List.set_cons_succ, List.map_cons, List.sum_cons]
    omega
theorem sum_filter (f : List Nat → Nat) (p : List Nat → Bool) : ∀ l : List (List Nat), ((l.filter p).map f).sum ≤ (l.map f).sum
  | [] => Nat.le_refl _
  | x :: l => by
    have := sum_filter f p l
    by_cases e : p x
    · rw [List.filter_cons_of_pos e]; simp only [List.map_cons, List.sum_cons]; omega
    · rw [List.filter_cons_of_neg e]; simp only [List.map_cons, List.sum_cons]; omega
theorem asc_set {n : Nat} (js : List Nat) (hn : n ≤ 6) : KnOk n ((List.range n).filter fun i => decide (i ∈ js)) ∧ ((List.range n).filter fun i => decide (i ∈ js)).length ≤ js.length := by
  refine ⟨⟨?_, List.Pairwise.filter _ List.pairwise_lt_range, fun i hi => List.mem_range.mp (List.mem_filter.mp hi).1⟩, nodup_le (List.nodup_range.filter _) fun i hi => by simpa using (List.mem_filter.mp hi).2⟩
  have := List.length_filter_le (fun i => decide (i ∈ js)) (List.range n)
  rw [List.length_range] at this
  omega
theorem filOk_al {q q2 : Ask} (e : q.al = q2.al) {d : D} (h : FilOk q d) : FilOk q2 d := by
  obtain ⟨c, w, o, h1, h2, h3⟩ := h
  exact ⟨c, w, o, h1, ⟨e ▸ h2.1, h2.2⟩, h3⟩
theorem apartN_ok {M : List (List Nat)} : ∀ {n : Nat} {L : List Nat}, GOk L → (apartN M n L).1.length ≤ L.length ∧ (∀ p ∈ (apartN M n L).1, p.1 < 6 ∧ p.2 < 6) ∧ (apartN M n L).2.length ≤ 6 ∧ ∀ i ∈ (apartN M n L).2, i < 6
  | 0, L, h => ⟨Nat.zero_le _, (fun _ h => nomatch h), h.2.1, h.2.2⟩
  | n + 1, L, h => by
    unfold apartN
    cases e : firstEar M L with
    | none => exact ⟨Nat.zero_le _, (fun _ h => nomatch h), h.2.1, h.2.2⟩
    | some p =>
      obtain ⟨hp1, hp2⟩ := firstEar_mem e
      obtain ⟨h1, h2, h3, h4⟩ := apartN_ok (M := M) (n := n) (gok_erase h p.1)
      have l1 := List.length_erase_of_mem hp1
      have l2 := List.length_pos_of_mem hp1
      refine ⟨?_, fun x hx => ?_, h3, h4⟩
      · show (p :: _).length ≤ _
        rw [List.length_cons]; omega
      · rcases List.mem_cons.mp hx with rfl | hx
        · exact ⟨h.2.2 _ hp1, h.2.2 _ hp2⟩
        · exact h2 x hx
theorem leaf_six {i : Nat} (h : i < 6) : Leaf 6 (natD i) := by
  have e : (i : Int).natAbs = i := by simp
  show (i : Int).natAbs.log2 < 1920 ∧ (i : Int).natAbs < 10 ^ (6 - 1)
  rw [e]
  have : i.log2 ≤ i := Nat.log2_le_self i
  omega
theorem apart_fit {M : List (List Nat)} {g : List Nat} (h : GOk g) : Fit 6 6 3 (apartD (apart M g)) := by
  obtain ⟨h1, h2, h3, h4⟩ := apartN_ok (M := M) (n := g.length) h
  have g6 := h.2.1
  refine fit_tup (by simp) fun e he => ?_
  simp only [List.mem_cons, List.not_mem_nil, or_false] at he
  rcases he with rfl | rfl
  · refine fit_tup (by rw [List.length_map]; unfold apart; omega) fun e he => ?_
    obtain ⟨p, hp, rfl⟩ := List.mem_map.mp he
    obtain ⟨q1, q2⟩ := h2 p hp
    refine fit_tup (by simp) fun e he => ?_
    simp only [List.mem_cons, List.not_mem_nil, or_false] at he
    rcases he with rfl | rfl
    · exact leaf_fit (leaf_six q1) _
    · exact leaf_fit (leaf_six q2) _
  · refine fit_up (fit_tup (by rw [List.length_map]; exact h3) fun e he => ?_)
    obtain ⟨i, hi, rfl⟩ := List.mem_map.mp he
    exact leaf_fit (leaf_six (h4 i hi)) _
/-! ### classes as the law makes them -/
def withEqL (F : List (List Col)) (a b : Col) : List (List Col) := F.filter (fun cs => !hitB a b cs) ++ [[a, b] ++ (F.filter (hitB a b)).flatten]
def clsL (es : List (Col × Col)) : List (List Col) := es.foldl (fun F e => withEqL F e.1 e.2) []
def dd : List Col → List Col
  | [] => []
  | c :: l => c :: (dd l).filter fun x => decide (x ≠ c)
theorem dd_cons (c : Col) (l : List Col) : dd (c :: l) = c :: (dd l).filter fun x => decide (x ≠ c) := rfl
theorem mem_dd {c : Col} : ∀ {l : List Col}, c ∈ dd l ↔ c ∈ l
  | [] => Iff.rfl
  | a :: l => by
    unfold dd
    rw [List.mem_cons, List.mem_cons, List.mem_filter, mem_dd (l := l), decide_eq_true_eq]
    by_cases e : c = a <;> simp [e]
theorem nodup_dd : ∀ l : List Col, (dd l).Nodup
  | [] => List.nodup_nil
  | a :: l => by
    unfold dd
    exact List.nodup_cons.mpr ⟨fun h => by simpa using (List.mem_filter.mp h).2, (nodup_dd l).filter _⟩
theorem dd_app : ∀ (x y : List Col), dd (x ++ y) = dd x ++ (dd y).filter fun c => decide (c ∉ x)
  | [], y => by
    rw [List.filter_eq_self.mpr fun c _ => by rfl]; rfl
  | a :: x, y => by
    rw [List.cons_append, dd_cons, dd_cons, dd_app x y, List.filter_append, List.filter_filter, List.cons_append]
    congr 2
    refine List.filter_congr fun c _ => ?_
    by_cases e : c = a <;> simp [e]
theorem hit_dd (a b : Col) (cs : List Col) : hitB a b (dd cs) = hitB a b cs := by
  unfold hitB
  rw [decide_eq_decide.mpr mem_dd, decide_eq_decide.mpr mem_dd]
theorem grow_dd (a b : Col) : ∀ (F : List (List Col)) (t : List Col), (F.map dd).foldl (grow1 a b) (dd t) = dd (t ++ (F.filter (hitB a b)).flatten)
  | [], t => by simp
  | cs :: F, t => by
    rw [List.map_cons, List.foldl_cons]
    rw [show grow1 a b (dd t) (dd cs) = if hitB a b cs then dd t ++ (dd cs).filter (fun c => decide (c ∉ dd t)) else dd t by unfold grow1; rw [hit_dd]]
    cases e : hitB a b cs
    · rw [if_neg Bool.false_ne_true, List.filter_cons_of_neg (by simp [e])]
      exact grow_dd a b F t
    · rw [if_pos rfl, List.filter_cons_of_pos e]
      have e2 : dd t ++ (dd cs).filter (fun c => decide (c ∉ dd t)) = dd (t ++ cs) := by
        rw [dd_app]
        congr 1
        exact List.filter_congr fun c _ => decide_eq_decide.mpr (not_congr mem_dd)
      rw [e2, grow_dd a b F (t ++ cs), List.flatten_cons, List.append_assoc]
theorem withEq_dd {a b : Col} (h : a ≠ b) (F : List (List Col)) : withEq (F.map dd) a b = (withEqL F a b).map dd := by
  unfold withEq withEqL
  have e : dd [a, b] = [a, b] := by
    simp only [dd, List.filter_nil]
    rw [List.filter_cons_of_pos (by simpa using fun z => h z.symm), List.filter_nil]
  have g := grow_dd a b F [a, b]
  rw [e] at g
  rw [g, List.map_append, List.map_singleton, List.filter_map]
  congr 2
  exact List.filter_congr fun cs _ => by show (!hitB a b (dd cs)) = _; rw [hit_dd]
theorem clsOf_dd {es : List (Col × Col)} (h : ∀ e ∈ es, e.1 ≠ e.2) : clsOf es = (clsL es).map dd := by
  unfold clsOf clsL
  suffices H : ∀ F : List (List Col), es.foldl (fun F e => withEq F e.1 e.2) (F.map dd) = (es.foldl (fun F e => withEqL F e.1 e.2) F).map dd from H []
  induction es with
  | nil => exact fun F => rfl
  | cons e es ih =>
    intro F
    rw [List.foldl_cons, List.foldl_cons, withEq_dd (h e List.mem_cons_self)]
    exact ih (fun e he => h e (List.mem_cons_of_mem _ he)) _
theorem withEqL_sum (F : List (List Col)) (a b : Col) : ((withEqL F a b).map List.length).sum = (F.map List.length).sum + 2 := by
  unfold withEqL
  rw [List.map_append, List.sum_append, List.map_singleton, List.sum_singleton, List.length_append, List.length_flatten]
  simp only [List.length_cons, List.length_nil]
  induction F with
  | nil => rfl
  | cons cs F ih =>
    cases e : hitB a b cs
    · rw [List.filter_cons_of_pos (by simp [e]), List.filter_cons_of_neg (by simp [e]), List.map_cons, List.sum_cons, List.map_cons, List.sum_cons]
      omega
    · rw [List.filter_cons_of_neg (by simp [e]), List.filter_cons_of_pos e, List.map_cons, List.sum_cons, List.map_cons, List.sum_cons]
      omega
theorem withEqL_length (F : List (List Col)) (a b : Col) : (withEqL F a b).length ≤ F.length + 1 := by
  unfold withEqL
  rw [List.length_append, List.length_singleton]
  exact Nat.add_le_add_right (List.length_filter_le _ _) 1
theorem numC_inj {al : List Str} {a b : Col} (h : numC al a = numC al b) : a = b := by
  unfold numC at h
  injection h with _ h
  injection h with h1 h2
  exact Prod.ext h2 h1
/-- a class as the law has it, its row -/
theorem row_dd {al : List Str} {cs : List Col} {s : S} {P : List D → S → Prop} (hP : P ((srt3 ((dd cs).map (numC al))).map tri) s) : sortedSetP ((cs.map (numC al)).map tri) s P := by
  refine sortedSet_tri ?_ (fun t => ?_) hP
  · exact List.Pairwise.map _ (fun a b h e => h (numC_inj e)) (nodup_dd cs)
  · simp only [List.mem_map, mem_dd]
/-! ### ears -/
theorem mem_holders {M : List (List Nat)} {L : List Nat} {a b : Nat} : b ∈ holders M L a ↔ b ∈ L ∧ b ≠ a ∧ ∀ cs ∈ M, a ∈ cs → (∃ c ∈ L, c ≠ a ∧ c ∈ cs) → b ∈ cs := by
  unfold holders shared
  simp only [List.mem_filter, Bool.and_eq_true, decide_eq_true_eq, List.all_eq_true, List.any_eq_true]
  exact ⟨fun ⟨h1, h2, h3⟩ => ⟨h1, h2, fun cs hcs ha hc => h3 cs ⟨hcs, ha, hc⟩⟩, fun ⟨h1, h2, h3⟩ => ⟨h1, h2, fun cs ⟨hcs, ha, hc⟩ => h3 cs hcs ha hc⟩⟩
theorem firstEar_some {M : List (List Nat)} {L : List Nat} {p : Nat × Nat} (h : firstEar M L = some p) : p.1 ∈ L ∧ p.2 ∈ holders M L p.1 := by
  unfold firstEar at h
  obtain ⟨a, ha, h⟩ := List.exists_of_findSome?_eq_some h
  cases e : holders M L a with
  | nil => rw [e] at h; cases h
  | cons b bs =>
    rw [e] at h
    cases h
    exact ⟨ha, by rw [e]; exact List.mem_cons_self⟩
theorem firstEar_none {M : List (List Nat)} {L : List Nat} (h : firstEar M L = none) {a : Nat} (ha : a ∈ L) : holders M L a = [] := by
  unfold firstEar at h
  have := List.findSome?_eq_none_iff.mp h a ha
  cases e : holders M L a with
  | nil => rfl
  | cons b bs => rw [e] at this; cases this
end DL

set_option Elab.async false
set_option linter.all false
set_option autoImplicit false
set_option maxRecDepth 100000
set_option maxHeartbeats 4000000
namespace DL
open PySem PySem.Spec PyProof.Rows L2
open Evl (Ex)
/-! ### list(range(..)) -/
def wRg1 (w : WE) : WA := fun δ s P => w δ s fun d s1 => match d with
  | .int n => RgOk 0 n ∧ P (rngD 0 n.toNat) s1
  | _ => False
def wRg2 (w w2 : WE) : WA := fun δ s P => w δ s fun d s1 => w2 δ s1 fun e s2 => match d, e with
  | .int m, .int n => RgOk m n ∧ P (rngD m (n - m).toNat) s2
  | _, _ => False
theorem repL_ints {K : PySem.W.Frag} {G : Hp} (lo : Int) : ∀ l : List Nat, RepL K G (l.map fun (i : Nat) => D.int (lo + (i : Int))) (l.map fun (i : Nat) => V.int (lo + (i : Int)))
  | [] => .nil
  | _ :: l => .cons (.int _) (repL_ints lo l)
section
variable {X : Cx} {a b : Expr} {p p2 pos pos2 : Pos} {wa wb : WE}
theorem del_listRg1 (hc : X.calm = true) (hg : Gl X "list") (hm : X.mg "list" = none) (hg2 : Gl X "range") (hm2 : X.mg "range" = none) (ha : DE X a wa) (na : starEach [a] X.env = (false, eval a X.env) :: starEach [] X.env := by rfl)
    (na2 : starEach [Expr.Call (.Name "range" p2) [a] [] pos2] X.env = (false, eval (Expr.Call (.Name "range" p2) [a] [] pos2) X.env) :: starEach [] X.env := by rfl) :
    DEL X (.Call (.Name "list" p) [.Call (.Name "range" p2) [a] [] pos2] [] pos) (wRg1 wa) :=
  PE.imp (pe_listRg hc hg hm (prg_1 hg2 hm2 ha na) na2) fun σ H Q ⟨F, G, δ, s, P, en, o, hw, q⟩ => ⟨F, G, δ, s, _, en, o, hw, fun d s1 h1 G1 H1 v e1 o1 r1 => by
    split at h1 <;> first | exact h1.elim | skip
    rename_i n
    cases r1
    refine ⟨n, rfl, h1.1, fun L hL => ?_⟩
    have e : rngD 0 n.toNat = (List.range (n - 0).toNat).map fun (i : Nat) => D.int (0 + (i : Int)) := by rw [Int.sub_zero]; rfl
    have z := q _ s1 h1.2 G1 H1 L (rgV 0 n) e1 o1 hL (by rw [e]; exact repL_ints 0 _)
    exact z⟩
end
/-! ### pop at a place -/
def rmPopAt : RMD := fun x ds s P => match x, ds with
  | .ref a, [.int i] => (match s.M a with
    | some (.lst es) => (0 ≤ i ∧ es.length < 2 ^ 62) ∧ (match es[i.toNat]? with
      | some d => P d (s.put a (.lst (es.eraseIdx i.toNat)))
      | none => False)
    | _ => False)
  | _, _ => False
theorem RepL.eraseAt {K : PySem.W.Frag} {G : Hp} : ∀ {ds : List D} {xs : List V} (i : Nat), RepL K G ds xs → RepL K G (ds.eraseIdx i) (xs.eraseIdx i)
  | _, _, _, .nil => .nil
  | _, _, 0, .cons _ r => r
  | _, _, i + 1, .cons h r => .cons h (RepL.eraseAt i r)
theorem md_popAt {X : Cx} : MtR X "list.pop" (lM X.K rmPopAt) := by
  intro pins s σ H x vs v us Q I rx rs ⟨F, G, s', d, ds, P, o, rd, rds, hw, q⟩
  unfold rmPopAt at hw
  split at hw <;> first | exact hw.elim | skip
  rename_i a i
  split at hw <;> first | exact hw.elim | skip
  rename_i es hM
  obtain ⟨⟨h0, hl⟩, hw⟩ := hw
  split at hw <;> first | exact hw.elim | skip
  rename_i e he
  cases rd
  obtain ⟨w, rfl, rw'⟩ := rds.one
  cases rw'
  obtain ⟨_, u, hp, xs, rfl, r⟩ := o.mu a _ hM
  obtain ⟨y, hy, ry⟩ := r.get he
  have hi : i.toNat < xs.length := by rw [← r.length]; exact (List.getElem?_eq_some_iff.mp he).1
  have hr := r.length
  refine mt_popAt pins s σ H _ _ v us Q I rx rs ⟨a, xs, i, i.toNat, y, rfl, rfl, hp, by omega, by omega, ?_, hy, ?_⟩
  · unfold seqIndex?
    rw [if_neg (by omega : ¬ i < 0)]
    simp; omega
  · exact q _ _ hw G _ _ (Ex.refl G) (o.setL hM (RepL.eraseAt _ r)) ry
/-! ### xs.index(int) -/
theorem idxOf_firstI {ns : List Int} {k : Int} (h : k ∈ ns) : ns[ns.idxOf k]? = some k ∧ ∀ m, m < ns.idxOf k → ns[m]? ≠ some k :=
  let ⟨h1, h2, _⟩ := erase_idx h
  ⟨h1, h2⟩
def rmIndexI : RMD := fun x ds s P => match view s x, ds with
  | .lst es, [.int z] => (match intsD es with
    | some ys => z ∈ ys ∧ P (.int (ys.idxOf z : Nat)) s
    | none => False)
  | _, _ => False
theorem md_indexI {X : Cx} : MtR X "list.index" (lM X.K rmIndexI) := by
  intro pins s σ H x vs v us Q I rx rs ⟨F, G, s', d, ds, P, o, rd, rds, hw, q⟩
  unfold rmIndexI at hw
  split at hw <;> first | exact hw.elim | skip
  rename_i es z hv
  obtain ⟨w, rfl, rw'⟩ := rds.one
  cases rw'
  obtain ⟨a, xs, rfl, hx, r⟩ := o.seqL rd hv
  split at hw <;> first | exact hw.elim | skip
  rename_i ys hy
  have e := intsD_of hy
  subst e
  have e2 := RepL.intsV r
  subst e2
  obtain ⟨i1, i2⟩ := idxOf_firstI hw.1
  refine mt_index pins s σ H _ _ v us Q I rx rs ⟨a, ys.map .int, .int z, ys.idxOf z, .int z, rfl, rfl, .of hx, rfl, ?_, ?_, by show (z == z) = true; simp, fun m z' hm hz' => ?_, q.val o hw.2 (.int _)⟩
  · rw [List.all_eq_true]; intro y hy; obtain ⟨t, _, rfl⟩ := List.mem_map.mp hy; rfl
  · rw [List.getElem?_map, i1]; rfl
  · rw [List.getElem?_map] at hz'
    cases q : ys[m]? with
    | none => rw [q] at hz'; cases hz'
    | some t =>
      rw [q] at hz'; cases hz'
      have := i2 m hm
      rw [q] at this
      show (t == z) = false
      exact beq_false_of_ne fun e => this (by rw [e])
theorem index_nat {s : S} {d : D} {l : List Nat} {i : Nat} {P : DK} (hv : view s d = .lst (l.map natD)) (hi : i ∈ l) (h : P (natD (l.idxOf i)) s) : rmIndexI d [natD i] s P := by
  unfold rmIndexI
  rw [hv]
  simp only [intsD_nat]
  refine ⟨List.mem_map_of_mem hi, ?_⟩
  have e : ∀ l : List Nat, (l.map fun (i : Nat) => (i : Int)).idxOf (i : Int) = l.idxOf i := fun l => by
    induction l with
    | nil => rfl
    | cons a l ih =>
      rw [List.map_cons, List.idxOf_cons, List.idxOf_cons, ih]
      have : ((a : Int) == (i : Int)) = (a == i) := by rw [Bool.eq_iff_iff, beq_iff_eq, beq_iff_eq]; omega
      rw [this]
  rw [e]
  exact h
theorem perm_map_inv {α β : Type} {f : α → β} : ∀ {l : List α} {ys : List β}, ys.Perm (l.map f) → ∃ l2 : List α, ys = l2.map f ∧ l2.Perm l
  | [], ys, h => ⟨[], List.perm_nil.mp h, List.Perm.refl _⟩
  | x :: l, ys, h => by
    rw [List.map_cons] at h
    obtain ⟨y1, y2, rfl⟩ := List.append_of_mem (h.mem_iff.mpr List.mem_cons_self)
    have h2 : (y1 ++ y2).Perm (l.map f) := (List.perm_middle.symm.trans h).cons_inv
    obtain ⟨l2, e, hp⟩ := perm_map_inv h2
    obtain ⟨l3, l4, rfl, rfl, rfl⟩ := List.map_eq_append_iff.mp e.symm
    exact ⟨l3 ++ x :: l4, by rw [List.map_append, List.map_cons], List.perm_middle.trans (hp.cons x)⟩
end DL

set_option Elab.async false
set_option linter.all false
set_option autoImplicit false
set_option maxRecDepth 100000
set_option maxHeartbeats 4000000
namespace DL
open PySem PySem.Spec PyProof.Rows L2
open Evl (Ex)
/-! ### sum(xs), xs a list of ints -/
def rcSum : RCD := fun ds s P => match ds with
  | [d] => (match view s d with
    | .lst es => (match intsD es with
      | some ns => P (.int ns.sum) s
      | none => False)
    | _ => False)
  | _ => False
theorem cd_sum {X : Cx} (hc : X.calm = true) : CallD X (.builtin "sum") rcSum := by
  intro pins s σ H xs us Q I r ⟨F, G, s', ds, P, o, rd, hw, q⟩
  unfold rcSum at hw
  split at hw <;> first | exact hw.elim | skip
  obtain ⟨v, rfl, rv⟩ := rd.one
  split at hw <;> first | exact hw.elim | skip
  rename_i es hv
  obtain ⟨a, ys, rfl, h1, r1⟩ := o.seqL rv hv
  split at hw <;> first | exact hw.elim | skip
  rename_i ns hn
  have e := intsD_of hn
  subst e
  have e2 := r1.intsV
  subst e2
  exact cr_sum hc pins s σ H _ us Q I r ⟨a, ns, rfl, .of h1, q.val o hw (.int _)⟩
theorem bb_sum : bootBuiltins (Str.ofString "sum") = some (.builtin "sum") := by decide +kernel
/-- turns over a list that may change, by an invariant -/
theorem loopR_inv {α : Type} {r : Addr} {all : List D} {g : WG} {b : WS} {E : DEnds} {it : α → D} {I : List α → Dn → S → Prop} (hI : ∀ l δ s, I l δ s → s.M r = some (.lst all))
    (st : ∀ x l δ s, I (x :: l) δ s → ∀ N : Dn → S → Prop, (∀ δ s, I l δ s → N δ s) → g (it x) δ s fun δ1 s1 => b { nx := N, rt := E.rt, bk := E.nx, ct := N } δ1 s1)
    (fin : ∀ δ s, I [] δ s → E.nx δ s) : ∀ {l : List α} {δ : Dn} {s : S}, I l δ s → loopR r all g b E (l.map it) δ s
  | [], δ, s, h => ⟨hI _ δ s h, fin δ s h⟩
  | x :: l, δ, s, h => by
    rw [List.map_cons]
    unfold loopR
    exact ⟨hI _ δ s h, st x l δ s h _ fun δ s h => loopR_inv hI st fin h⟩
theorem sum_nat (l : List Nat) : (l.map fun (i : Nat) => (i : Int)).sum = ((l.sum : Nat) : Int) := by
  induction l with
  | nil => rfl
  | cons a l ih => rw [List.map_cons, List.sum_cons, List.sum_cons, ih]; omega
end DL

set_option Elab.async false
set_option linter.all false
set_option autoImplicit false
set_option maxRecDepth 100000
set_option maxHeartbeats 4000000
/-! {elt for t0 in i0 if .. for t1 in i1 if ..}: a set made by two clauses. -/
namespace DS
open PySem PySem.Spec PyProof.Rows L2 PpSet
section
variable {P : Program} {w : World} {A : Around} {R : Result → Shared → Prop} {s : Shared} {elt t0 i0 t1 i1 : Expr} {f0 f1 : List Expr} {sc : Scope} {ps : Pos} {it acc : Value} {en : Env}
abbrev two (elt t0 i0 t1 i1 : Expr) (f0 f1 : List Expr) (sc : Scope) (ps : Pos) : Expr := .SetComp elt [⟨t0, i0, f0, 0⟩, ⟨t1, i1, f1, 0⟩] sc ps
theorem turn_o : compTurn (two elt t0 i0 t1 i1 f0 f1 sc ps) 0 it acc en = (do
    standAt i0.pos
    match ← pyNext it with
    | none => pure (.done .next)
    | some u =>
      letOwnedTupleGo t0 it u
      assign t0 en u
      let mut yes := true
      for c in f0 do
        if yes then yes ← isTrue c en (eval c en)
      if yes then
        let x ← eval i1 en
        standAt i1.pos
        let x ← foldedSetIterable i1 en x
        let _ ← runOwn (.compStart (two elt t0 i0 t1 i1 f0 f1 sc ps) 1 (← holding [x] (pyIter x)) acc en) en
      again (.compLoop (two elt t0 i0 t1 i1 f0 f1 sc ps) 0 it acc en)) := by rfl
theorem turn_i : compTurn (two elt t0 i0 t1 i1 f0 f1 sc ps) 1 it acc en = (do
    standAt i1.pos
    match ← pyNext it with
    | none => pure (.done .next)
    | some u =>
      letOwnedTupleGo t1 it u
      assign t1 en u
      let mut yes := true
      for c in f1 do
        if yes then yes ← isTrue c en (eval c en)
      if yes then
        (do let u ← eval elt en; standAt elt.pos; let _ ← call (.builtin "set.add") [acc, u])
      again (.compLoop (two elt t0 i0 t1 i1 f0 f1 sc ps) 1 it acc en)) := by rfl
abbrev nb (P : Program) (w : World) (A : Around) (en : Env) (R : Result → Shared → Prop) : Value → Shared → Prop := notedBy (model P w) A en fun e s' => R (.error e) s'
abbrev tests (fs : List Expr) (en : Env) : Sem Bool := forIn fs true fun c r => if r = true then do let ok ← isTrue c en (eval c en); pure (ForInStep.yield ok) else pure (ForInStep.yield r)
/-- the first clause's loop: each turn comes to a smaller number -/
theorem loop_o (hs : ∀ x, foldedSetIterable i1 en x = pure x) (I : Nat → Shared → Prop)
    (tu : ∀ n s, I n s → wpAny (model P w) A (pyNext it) (fun r a => match r with
      | none => R (.ok .next) a
      | some u => wpAny (model P w) A (letOwnedTupleGo t0 it u) (fun _ b => wpAny (model P w) A (assign t0 en u) (fun _ c => wpAny (model P w) A (tests f0 en) (fun ok d => if ok = true then
          wpAny (model P w) A (eval i1 en) (fun x e => wpAny (model P w) A (pyIter x) (fun j f => codeAny (model P w) A (.compStart (two elt t0 i0 t1 i1 f0 f1 sc ps) 1 j acc en) (fun r s' => match r with
            | .ok _ => ∃ m, m < n ∧ I m s'
            | .error _ => False) f) (nb P w A en R) e) (nb P w A en R) d else ∃ m, m < n ∧ I m d) (nb P w A en R) c) (nb P w A en R) b) (nb P w A en R) a) (nb P w A en R) s) (n : Nat) (h : I n s) :
    codeAny (model P w) A (.compLoop (two elt t0 i0 t1 i1 f0 f1 sc ps) 0 it acc en) R s := codeAny_loop rfl I (fun n s hI => by
  show wpAny _ A ((compTurn (two elt t0 i0 t1 i1 f0 f1 sc ps) 0 it acc en).onRaise fun x => do noteFrame x en; theTreesLotGoes x) _ _ s
  refine wpAny_noted ?_
  rw [turn_o]
  refine wpAny_bind (wpAny_standAt (wpAny_bind (wpAny_mono (tu n s hI) (fun r a ha => ?_) fun _ _ z => z)))
  cases r with
  | none => exact wpAny_pure ha
  | some u =>
    refine wpAny_bind (wpAny_mono ha (fun _ b hb => wpAny_bind (wpAny_mono hb (fun _ c hc => wpAny_bind (wpAny_mono hc (fun ok d hd => ?_) fun _ _ z => z)) fun _ _ z => z)) fun _ _ z => z)
    cases ok with
    | false => exact wpAny_pure ⟨rfl, hd⟩
    | true =>
      refine wpAny_bind (wpAny_mono hd (fun x e he => wpAny_bind (wpAny_standAt (wpAny_bind (wpAny_of_eq (hs x) (wpAny_bind (wpAny_holding (wpAny_mono he (fun j f hf => ?_) fun _ _ z => z))))))) fun _ _ z => z)
      refine wpAny_bind (wpAny_runOwn ?_)
      rw [Around.mark_none]
      refine codeAny_mono hf fun r s' hr => ?_
      cases r with
      | error e => exact hr.elim
      | ok v => first | exact wpAny_pure ⟨rfl, hr⟩ | exact wpAny_bind (wpAny_pure (wpAny_pure ⟨rfl, hr⟩))) n h
/-- the second clause's loop -/
theorem loop_i (I : Nat → Shared → Prop)
    (tu : ∀ n s, I n s → wpAny (model P w) A (pyNext it) (fun r a => match r with
      | none => R (.ok .next) a
      | some u => wpAny (model P w) A (letOwnedTupleGo t1 it u) (fun _ b => wpAny (model P w) A (assign t1 en u) (fun _ c => wpAny (model P w) A (tests f1 en) (fun ok d => if ok = true then
          wpAny (model P w) A (eval elt en) (fun x e => wpAny (model P w) A (call (.builtin "set.add") [acc, x]) (fun _ f => ∃ m, m < n ∧ I m f) (nb P w A en R) e) (nb P w A en R) d else ∃ m, m < n ∧ I m d) (nb P w A en R) c) (nb P w A en R) b) (nb P w A en R) a) (nb P w A en R) s) (n : Nat) (h : I n s) :
    codeAny (model P w) A (.compLoop (two elt t0 i0 t1 i1 f0 f1 sc ps) 1 it acc en) R s := codeAny_loop rfl I (fun n s hI => by
  show wpAny _ A ((compTurn (two elt t0 i0 t1 i1 f0 f1 sc ps) 1 it acc en).onRaise fun x => do noteFrame x en; theTreesLotGoes x) _ _ s
  refine wpAny_noted ?_
  rw [turn_i]
  refine wpAny_bind (wpAny_standAt (wpAny_bind (wpAny_mono (tu n s hI) (fun r a ha => ?_) fun _ _ z => z)))
  cases r with
  | none => exact wpAny_pure ha
  | some u =>
    refine wpAny_bind (wpAny_mono ha (fun _ b hb => wpAny_bind (wpAny_mono hb (fun _ c hc => wpAny_bind (wpAny_mono hc (fun ok d hd => ?_) fun _ _ z => z)) fun _ _ z => z)) fun _ _ z => z)
    cases ok with
    | false => exact wpAny_pure ⟨rfl, hd⟩
    | true => exact wpAny_bind (wpAny_bind (wpAny_mono hd (fun x e he => wpAny_bind (wpAny_standAt (wpAny_bind (wpAny_mono he (fun _ f hf => wpAny_pure (wpAny_pure ⟨rfl, hf⟩)) fun _ _ z => z)))) fun _ _ z => z))) n h
/-- the second clause's start -/
theorem start_i (h0 : codeAny (model P w) A (.compLoop (two elt t0 i0 t1 i1 f0 f1 sc ps) 1 it acc en) R s)
    (h : wpAny (model P w) A (pyIter it) (fun j s' => codeAny (model P w) A (.compLoop (two elt t0 i0 t1 i1 f0 f1 sc ps) 1 j acc en) R s') (nb P w A en R) s) :
    codeAny (model P w) A (.compStart (two elt t0 i0 t1 i1 f0 f1 sc ps) 1 it acc en) R s := codeAny_of_tree (by
  show wpAny _ _ ((compStart (two elt t0 i0 t1 i1 f0 f1 sc ps) 1 it acc en).onRaise fun x => do noteFrame x en; standAt theWindowsPlace) _ _ s
  refine wpAny_notedAt ?_
  unfold compStart
  show wpAny _ _ (ask >>= _) _ _ s
  refine wpAny_bind (wpAny_askSetting (wpAny_ite ?_))
  split
  · first | exact wpAny_bind (wpAny_pure (wpAny_pure (And.intro rfl h0))) | exact wpAny_pure (And.intro rfl h0)
  · refine wpAny_bind (wpAny_rule ?_)
    first
      | exact wpAny_bind (wpAny_standAt (wpAny_bind (wpAny_mono h (fun j s' hj => wpAny_pure (And.intro rfl hj)) fun _ _ z => z)))
      | (show wpAny _ _ (standAt i1.pos >>= _) _ _ s; exact wpAny_bind (wpAny_standAt (wpAny_bind (wpAny_mono h (fun j s' hj => wpAny_pure (And.intro rfl hj)) fun _ _ z => z)))))
end
section
variable {X : Cx}
/-- {elt for t0 in i0 if .. for t1 in i1 if ..}: Z0 D is the new set, AD y H D N: y can be added to it, and N is so then -/
def tS2 (Z0 : Addr → HO) (AD : V → Hp → Addr → (Hp → Prop) → Prop) (wi : TI) (g : TG) (tt : TT) (wj : TI) (gj : TG) (tj : TT) (te : TE) (vs us : List Nat) : TE := fun σ H Q => wi σ H fun J H1 => ∀ D, H1 D = none → ∃ W : Nat → Nat → Hp → Prop, (∃ m, W 0 m (upd H1 D (Z0 D))) ∧ ∀ i m H, W i m H →
  (J.stop i H ∧ Q (.ref D) H) ∨ (J.go i H ∧ ∃ Nx : Hp → Prop, (∀ H', Nx H' → ∃ m', m' < m ∧ W (i + 1) m' H') ∧ ∀ x H', J.yld i H x H' → g x (wipe σ vs) H' fun σ2 H2 => wipe σ2 vs = wipe σ vs ∧ tt σ2 H2 fun b H3 =>
    if b = true then wj σ2 H3 fun J1 H4 => ∃ W1 : Nat → Nat → Hp → Prop, (∃ m, W1 0 m H4) ∧ ∀ j k H, W1 j k H →
      (J1.stop j H ∧ Nx H) ∨ (J1.go j H ∧ ∃ Ny : Hp → Prop, (∀ H', Ny H' → ∃ k', k' < k ∧ W1 (j + 1) k' H') ∧ ∀ x H', J1.yld j H x H' → gj x (wipe σ2 us) H' fun σ3 H5 => wipe σ3 us = wipe σ2 us ∧ tj σ3 H5 fun b H6 =>
        if b = true then te σ3 H6 fun y H7 => AD y H7 D Ny else Ny H6) else Nx H3)
/-- an item can be added, in any block -/
def AddOk (X : Cx) (AD : V → Hp → Addr → (Hp → Prop) → Prop) : Prop := ∀ (s0 : Shared) (H0 : Hp) (sc : Scope) (ce : Env) (fp : List Addr) (pins : List (Addr × Obj)) (σ : L2.St) (H : Hp) (s : Shared) (D : Addr) (y : V) (u : Value) (N : Hp → Prop) (E : Value → Shared → Prop),
  L2.Inv (X.blk s0 H0 sc ce fp) pins σ H s → RelV y u → AD y H D N → wpAny (model X.prog X.w) X.A (call (.builtin "set.add") [.ref D, u]) (fun _ s' => ∃ H', L2.Inv (X.blk s0 H0 sc ce fp) pins σ H' s' ∧ N H') E s
theorem s2_core {pins : List (Addr × Obj)} {s : Shared} {σ : L2.St} {H : Hp} {Q : VK} {use : Option (Value → Sem Unit)} {Qf : Value → Shared → Prop} {pos' : Pos} {Z0 : Addr → HO} {AD : V → Hp → Addr → (Hp → Prop) → Prop} {elt tg iter tj ij : Expr} {ifs jfs : List Expr} {scope : Scope} {own : List (PySem.Str × Nat)} {us : List Nat} {pos : Pos} {wi wj : TI} {g gj : TG} {tt tt1 : TT} {te : TE} (hc : X.calm = true) (hN : X.N.Nodup)
    (hZ : ∀ (H : Hp) (h : Heap), ObjOk X.prog X.w H (h.push (newSetObj X.w)) h.objs.size (Z0 h.objs.size)) (hA : AddOk X AD) (hi : PI X tg iter wi) (ok : BlkOk X.N X.env.scope scope own) (hv : ∀ i ∈ us, i ∈ own.map (·.2))
    (hg : ∀ (s : Shared) (H : Hp) (C : Addr) (cl : List (PySem.Str × Addr)) (fp : List Addr), PG (X.blk s H scope (compEnvC scope cl C X.env) fp) tg g) (ht : ∀ (s : Shared) (H : Hp) (C : Addr) (cl : List (PySem.Str × Addr)) (fp : List Addr), PTs (X.blk s H scope (compEnvC scope cl C X.env) fp) ifs tt)
    (hj : ∀ (s : Shared) (H : Hp) (C : Addr) (cl : List (PySem.Str × Addr)) (fp : List Addr), PI (X.blk s H scope (compEnvC scope cl C X.env) fp) tj ij wj)
    (hgj : ∀ (s : Shared) (H : Hp) (C : Addr) (cl : List (PySem.Str × Addr)) (fp : List Addr), PG (X.blk s H scope (compEnvC scope cl C X.env) fp) tj gj) (htj : ∀ (s : Shared) (H : Hp) (C : Addr) (cl : List (PySem.Str × Addr)) (fp : List Addr), PTs (X.blk s H scope (compEnvC scope cl C X.env) fp) jfs tt1)
    (he : ∀ (s : Shared) (H : Hp) (C : Addr) (cl : List (PySem.Str × Addr)) (fp : List Addr), PE (X.blk s H scope (compEnvC scope cl C X.env) fp) elt te) (hs : ∀ x, foldedSetIterable iter X.env x = pure x) (hsj : ∀ en x, foldedSetIterable ij en x = pure x)
    (I : L2.Inv X pins σ H s) (h : tS2 Z0 AD wi g tt wj gj tt1 te (own.map (·.2)) us σ H Q)
    (fin : ∀ D C s' m H', L2.Inv X pins σ H' s' → Q (.ref D) H' → s'.heap.Ns C m → FpOk X pins H' C → compPost (model X.prog X.w) X.A X.xe use Qf (.ref D) C (.ok .next) s') :
    wpAny (model X.prog X.w) X.A (comprehension (two elt tg iter tj ij ifs jfs scope pos) scope X.env pos' (newSet (.type "set")) false (eval iter X.env) use) Qf X.xe s := by
  have cells : ∀ y ∈ scope.names, y.2 = .free → ∃ c, X.env.cells.lookup y.1 = some c := fun y hy e => (ok.free y hy e).elim (fun k => I.ok.has _ (.inl k)) fun k => I.ok.has _ (.inr k)
  refine wpAny_comprehension_free (use := use) rfl hs (closure_ok cells) ok.kind (fun y hy e => by rw [ok.uniq y hy, e]) (thn (hi.run pins s σ H _ I h) fun xv s1 hx => thn hx fun itv s2 h2 => ?_)
  obtain ⟨it, fp, tn, J, H2, rfl, I2, T, st2, f2, q⟩ := h2
  refine newSet_ok (newEnv_comp ?_)
  obtain ⟨D, hD⟩ : ∃ D, s2.heap.objs.size = D := ⟨_, rfl⟩
  rw [hD]
  have hDn : H2 D = none := I2.hok.fresh (Nat.le_of_eq hD)
  obtain ⟨W, ⟨m0, w0⟩, turn⟩ := q D hDn
  obtain ⟨s3, hs3⟩ : ∃ s3 : Shared, { s2 with heap := s2.heap.push (newSetObj X.w) } = s3 := ⟨_, rfl⟩
  have h3 : s3.heap = s2.heap.push (newSetObj X.w) := by rw [← hs3]
  have I3 : L2.Inv X pins σ (upd H2 D (Z0 D)) s3 := by
    rw [← hs3]
    refine I2.laid (t' := s2.toks) (fun b o e => Heap.get?_push_of_some _ e) (Nat.le_of_eq hD) ?_
    rw [← hD]
    exact hZ _ _
  have below : ∀ b ∈ fp, b < s2.heap.objs.size := fun b hb => let ⟨o, e, _⟩ := T.obj _ _ st2 b hb; Heap.lt_size e
  have f3 : ∀ b ∈ fp, FpOk X pins (upd H2 D (Z0 D)) b ∧ b < s3.heap.objs.size := fun b hb => ⟨⟨by rw [upd_ne (by rw [← hD]; exact Nat.ne_of_lt (below b hb))]; exact (f2 b hb).1, (f2 b hb).2⟩, by rw [h3, Heap.size_push]; exact Nat.lt_succ_of_lt (below b hb)⟩
  have st3 : tn 0 s3.heap := T.keep _ _ _ st2 fun b _ o e => by rw [h3]; exact Heap.get?_push_of_some _ e
  have I4 := block_start I3 ok hN f3
  have pg := hg s3 (upd H2 D (Z0 D)) s3.heap.objs.size (cellsFrom (s3.heap.objs.size + 1) scope.names (cloFrom X.env.cells scope.names [])) fp
  have pt := ht s3 (upd H2 D (Z0 D)) s3.heap.objs.size (cellsFrom (s3.heap.objs.size + 1) scope.names (cloFrom X.env.cells scope.names [])) fp
  have pj := hj s3 (upd H2 D (Z0 D)) s3.heap.objs.size (cellsFrom (s3.heap.objs.size + 1) scope.names (cloFrom X.env.cells scope.names [])) fp
  have pgj := hgj s3 (upd H2 D (Z0 D)) s3.heap.objs.size (cellsFrom (s3.heap.objs.size + 1) scope.names (cloFrom X.env.cells scope.names [])) fp
  have ptj := htj s3 (upd H2 D (Z0 D)) s3.heap.objs.size (cellsFrom (s3.heap.objs.size + 1) scope.names (cloFrom X.env.cells scope.names [])) fp
  have pe := he s3 (upd H2 D (Z0 D)) s3.heap.objs.size (cellsFrom (s3.heap.objs.size + 1) scope.names (cloFrom X.env.cells scope.names [])) fp
  obtain ⟨ce, hce⟩ : ∃ ce, compEnvC scope (cellsFrom (s3.heap.objs.size + 1) scope.names (cloFrom X.env.cells scope.names [])) s3.heap.objs.size X.env = ce := ⟨_, rfl⟩
  rw [hce] at I4 pg pt pj pgj ptj pe
  have loc : ce.locals = s3.heap.objs.size := by rw [← hce]; rfl
  obtain ⟨s4, hs4⟩ : ∃ s4 : Shared, { s3 with heap := pushCells (s3.heap.push { cls := .type "dict", data := .dict #[] }) scope.names } = s4 := ⟨_, rfl⟩
  rw [hs4] at I4
  have st4 : tn 0 s4.heap := T.keep _ _ _ st3 fun b _ o e => by rw [← hs4]; exact pushCells_keeps _ _ _ _ (Heap.get?_push_of_some _ e)
  have off : ∀ b ∈ fp, (upd H2 D (Z0 D)) b = none := fun b hb => (f3 b hb).1.1
  obtain ⟨H3, hH3⟩ : ∃ H3, upd H2 D (Z0 D) = H3 := ⟨_, rfl⟩
  rw [hH3] at I3 I4 pg pt pj pgj ptj pe w0 off f3
  have quiet : ∀ {σ' : L2.St} {H' : Hp} {s' : Shared}, L2.Inv (X.blk s3 H3 scope ce fp) [] σ' H' s' → (∀ b ∈ fp, H' b = none) → ∀ b ∈ fp, FpOk (X.blk s3 H3 scope ce fp) [] H' b := fun {σ' H' s'} I' hn b hb =>
    ⟨hn b hb, (I'.ok.exf b hb).1, I'.ok.exfs b hb, .inl hb, fun x c e => (I'.ok.exf b hb).2 x c e, fun p hp => absurd (show p ∈ ([] : List (Addr × Obj)) ++ [] from hp) (by simp)⟩
  have loop : ∀ R : Result → Shared → Prop, (∀ s6 H5, L2.Inv (X.blk s3 H3 scope ce fp) [] (wipe σ (own.map (·.2))) H5 s6 → Q (.ref D) H5 → R (.ok .next) s6) → codeAny (model X.prog X.w) X.A (.compLoop (two elt tg iter tj ij ifs jfs scope pos) 0 (.ref it) (.ref D) ce) R s4 := by
    intro R hR
    refine loop_o (hsj ce) (fun n s' => ∃ i H', L2.Inv (X.blk s3 H3 scope ce fp) [] (wipe σ (own.map (·.2))) H' s' ∧ tn i s'.heap ∧ (∀ b ∈ fp, H' b = none) ∧ W i n H') ?_ m0 ⟨0, H3, I4, st4, off, w0⟩
    rintro n s5 ⟨i, H5, I5, st5, n5, w5⟩
    rcases turn i n H5 w5 with ⟨stop, qq⟩ | ⟨go, Nx, less, step⟩
    · exact thnF (T.done (X.blk s3 H3 scope ce fp) rfl rfl rfl hc i [] s5 _ H5 (fun _ _ => False) I5 (quiet I5 n5) st5 stop) fun r s6 ⟨hr, I6⟩ => by
        subst hr
        exact hR s6 H5 I6 qq
    · refine thnF (T.item (X.blk s3 H3 scope ce fp) rfl rfl rfl hc i [] s5 _ H5 (fun _ _ => False) I5 (quiet I5 n5) st5 go) fun r s6 ⟨u, hr, h6⟩ => ?_
      subst hr
      refine thnF h6 fun _ s7 ⟨x, H7, I7, r7, y7, st7, n7⟩ => ?_
      refine thnF (pg.run _ s7 _ H7 x u _ (I7.pinned (quiet I7 n7) (T.obj _ _ st7)) r7 (step x H7 y7)) fun _ s8 ⟨σ8, H8, I8, hw8, q8⟩ => ?_
      refine thnF (pt.run _ s8 σ8 H8 _ I8 q8) fun b s9 ⟨H9, I9, q9⟩ => ?_
      have back : ∀ {σ' : L2.St} {s' : Shared} {H' : Hp}, L2.Inv (X.blk s3 H3 scope ce fp) ([] ++ pinsAt fp s7.heap) σ' H' s' → (wipe σ (own.map (·.2))).length = σ'.length → (∀ (j : Nat) v, (wipe σ (own.map (·.2)))[j]? = some (some v) → σ'[j]? = some (some v)) → Nx H' →
          ∃ m, m < n ∧ ∃ i H', L2.Inv (X.blk s3 H3 scope ce fp) [] (wipe σ (own.map (·.2))) H' s' ∧ tn i s'.heap ∧ (∀ b ∈ fp, H' b = none) ∧ W i m H' := fun {σ' s' H'} I' hl hk nx => by
        obtain ⟨m', lt, w'⟩ := less H' nx
        have held : ∀ b ∈ fp, ∀ o, s7.heap.get? b = some o → s'.heap.get? b = some o ∧ H' b = none := fun b hb o e => let z := I'.pin (b, o) (List.mem_append_right _ (List.mem_append_right _ (mem_pinsAt hb e))); ⟨z.1, z.2.1⟩
        refine ⟨m', lt, i + 1, H', (I'.unpinned (pins := [])).weak hl hk, T.keep _ _ _ st7 fun b hb o e => (held b hb o e).1, fun b hb => ?_, w'⟩
        obtain ⟨o, e, _⟩ := T.obj _ _ st7 b hb
        exact (held b hb o e).2
      have l8 : (wipe σ (own.map (·.2))).length = σ8.length := by rw [← hw8, wipe_length]
      have k8 : ∀ (j : Nat) v, (wipe σ (own.map (·.2)))[j]? = some (some v) → σ8[j]? = some (some v) := fun j v e => by rw [← hw8] at e; exact (wipe_some e).1
      have k9 : ∀ (j : Nat) v, (wipe σ (own.map (·.2)))[j]? = some (some v) → (wipe σ8 us)[j]? = some (some v) := fun j v e => by
        rw [← hw8] at e
        obtain ⟨e1, e2⟩ := wipe_some e
        rw [wipe_out fun z => e2 (hv j z)]
        exact e1
      cases b with
      | false =>
        simp only [Bool.false_eq_true, if_false] at q9 ⊢
        exact back I9 l8 k8 q9
      | true =>
        simp only [if_true] at q9 ⊢
        refine thnF (pj.run _ s9 σ8 H9 _ I9 q9) fun xv s10 hx => thnF hx fun itv s11 h11 => ?_
        obtain ⟨jt, fq, tm, J1, H11, rfl, I11, T1, st11, f11, W1, ⟨m1, w1⟩, turn1⟩ := h11
        have quiet1 : ∀ {H' : Hp}, (∀ b ∈ fq, H' b = none) → ∀ b ∈ fq, FpOk (X.blk s3 H3 scope ce fp) ([] ++ pinsAt fp s7.heap) H' b := fun hn b hb => ⟨hn b hb, (f11 b hb).2⟩
        have inner : codeAny (model X.prog X.w) X.A (.compLoop (two elt tg iter tj ij ifs jfs scope pos) 1 (.ref jt) (.ref D) ce) (fun r s' => match r with
            | .ok _ => ∃ m, m < n ∧ ∃ i H', L2.Inv (X.blk s3 H3 scope ce fp) [] (wipe σ (own.map (·.2))) H' s' ∧ tn i s'.heap ∧ (∀ b ∈ fp, H' b = none) ∧ W i m H'
            | .error _ => False) s11 := by
          refine loop_i (fun k s' => ∃ j H', L2.Inv (X.blk s3 H3 scope ce fp) ([] ++ pinsAt fp s7.heap) (wipe σ8 us) H' s' ∧ tm j s'.heap ∧ (∀ b ∈ fq, H' b = none) ∧ W1 j k H') ?_ m1 ⟨0, H11, I11.weak (wipe_length _ _) (fun j v e => (wipe_some e).1), st11, fun b hb => (f11 b hb).1, w1⟩
          rintro k s12 ⟨j, H12, I12, st12, n12, w12⟩
          rcases turn1 j k H12 w12 with ⟨stop1, nx1⟩ | ⟨go1, Ny, less1, step1⟩
          · exact thnF (T1.done (X.blk s3 H3 scope ce fp) rfl rfl rfl hc j _ s12 (wipe σ8 us) H12 (fun _ _ => False) I12 (quiet1 n12) st12 stop1) fun r s13 ⟨hr, I13⟩ => by
              subst hr
              exact back I13 (l8.trans (wipe_length σ8 us).symm) k9 nx1
          · refine thnF (T1.item (X.blk s3 H3 scope ce fp) rfl rfl rfl hc j _ s12 (wipe σ8 us) H12 (fun _ _ => False) I12 (quiet1 n12) st12 go1) fun r s13 ⟨u1, hr, h13⟩ => ?_
            subst hr
            refine thnF h13 fun _ s14 ⟨x1, H14, I14, r14, y14, st14, n14⟩ => ?_
            refine thnF (pgj.run _ s14 (wipe σ8 us) H14 x1 u1 _ (I14.pinned (quiet1 n14) (T1.obj _ _ st14)) r14 (step1 x1 H14 y14)) fun _ s15 ⟨σ15, H15, I15, hw15, q15⟩ => ?_
            refine thnF (ptj.run _ s15 σ15 H15 _ I15 q15) fun b1 s16 ⟨H16, I16, q16⟩ => ?_
            have back1 : ∀ {s' : Shared} {H' : Hp}, L2.Inv (X.blk s3 H3 scope ce fp) (([] ++ pinsAt fp s7.heap) ++ pinsAt fq s14.heap) σ15 H' s' → Ny H' → ∃ m, m < k ∧ ∃ j H', L2.Inv (X.blk s3 H3 scope ce fp) ([] ++ pinsAt fp s7.heap) (wipe σ8 us) H' s' ∧ tm j s'.heap ∧ (∀ b ∈ fq, H' b = none) ∧ W1 j m H' := fun {s' H'} I' nx => by
              obtain ⟨m', lt, w'⟩ := less1 H' nx
              have held : ∀ b ∈ fq, ∀ o, s14.heap.get? b = some o → s'.heap.get? b = some o ∧ H' b = none := fun b hb o e => let z := I'.pin (b, o) (List.mem_append_right _ (List.mem_append_right _ (mem_pinsAt hb e))); ⟨z.1, z.2.1⟩
              refine ⟨m', lt, j + 1, H', I'.unpinned.weak (by rw [← hw15, wipe_length]) (fun j v e => by rw [← hw15] at e; exact (wipe_some e).1), T1.keep _ _ _ st14 fun b hb o e => (held b hb o e).1, fun b hb => ?_, w'⟩
              obtain ⟨o, e, _⟩ := T1.obj _ _ st14 b hb
              exact (held b hb o e).2
            cases b1 with
            | false =>
              simp only [Bool.false_eq_true, if_false] at q16 ⊢
              exact back1 I16 q16
            | true =>
              simp only [if_true] at q16 ⊢
              refine thnF (pe.run _ s16 σ15 H16 _ I16 q16) fun z s17 ⟨yv, H17, I17, r17, ad⟩ => ?_
              exact thnF (hA s3 H3 scope ce fp _ σ15 H17 s17 D yv z Ny (fun _ _ => False) I17 r17 ad) fun _ s18 ⟨H18, I18, nx⟩ => back1 I18 nx
        exact start_i inner (T1.self X.A 0 _ _ _ st11 inner)
  have whole := fun R hR => codeAny_compStart_set (loop R hR) (T.self X.A 0 _ _ _ st4 (loop R hR))
  have leave : ∀ s6 H5, L2.Inv (X.blk s3 H3 scope ce fp) [] (wipe σ (own.map (·.2))) H5 s6 → Q (.ref D) H5 → compPost (model X.prog X.w) X.A X.xe use Qf (.ref D) s3.heap.objs.size (.ok .next) s6 := fun s6 H5 I6 qq => by
    have I7 : L2.Inv X pins σ H5 s6 := I3.call' (ch := fp) I6.os I6.base I6.hok I6.bare fun b hb => ⟨(f3 b hb).1.2.2.2.1, (f3 b hb).1.2.1, (f3 b hb).1.2.2.2.2.1, (f3 b hb).1.2.2.2.2.2⟩
    have free : H5 s3.heap.objs.size = none := by rw [← loc]; exact I6.free
    obtain ⟨m, hn, _⟩ := I6.loc
    have hn : s6.heap.Ns s3.heap.objs.size m := by rw [← loc]; exact hn
    exact fin D _ s6 m H5 I7 qq hn (I3.fpOk (Nat.le_refl _) free)
  have all := whole _ leave
  subst hs4 hce hs3 hH3 hD
  exact all
theorem pe_s2 {Z0 : Addr → HO} {AD : V → Hp → Addr → (Hp → Prop) → Prop} {elt tg iter tj ij : Expr} {ifs jfs : List Expr} {scope : Scope} {own : List (PySem.Str × Nat)} {us : List Nat} {pos : Pos} {wi wj : TI} {g gj : TG} {tt tt1 : TT} {te : TE} (hc : X.calm = true) (hN : X.N.Nodup)
    (hZ : ∀ (H : Hp) (h : Heap), ObjOk X.prog X.w H (h.push (newSetObj X.w)) h.objs.size (Z0 h.objs.size)) (hA : AddOk X AD) (hi : PI X tg iter wi) (ok : BlkOk X.N X.env.scope scope own) (hv : ∀ i ∈ us, i ∈ own.map (·.2))
    (hg : ∀ (s : Shared) (H : Hp) (C : Addr) (cl : List (PySem.Str × Addr)) (fp : List Addr), PG (X.blk s H scope (compEnvC scope cl C X.env) fp) tg g) (ht : ∀ (s : Shared) (H : Hp) (C : Addr) (cl : List (PySem.Str × Addr)) (fp : List Addr), PTs (X.blk s H scope (compEnvC scope cl C X.env) fp) ifs tt)
    (hj : ∀ (s : Shared) (H : Hp) (C : Addr) (cl : List (PySem.Str × Addr)) (fp : List Addr), PI (X.blk s H scope (compEnvC scope cl C X.env) fp) tj ij wj)
    (hgj : ∀ (s : Shared) (H : Hp) (C : Addr) (cl : List (PySem.Str × Addr)) (fp : List Addr), PG (X.blk s H scope (compEnvC scope cl C X.env) fp) tj gj) (htj : ∀ (s : Shared) (H : Hp) (C : Addr) (cl : List (PySem.Str × Addr)) (fp : List Addr), PTs (X.blk s H scope (compEnvC scope cl C X.env) fp) jfs tt1)
    (he : ∀ (s : Shared) (H : Hp) (C : Addr) (cl : List (PySem.Str × Addr)) (fp : List Addr), PE (X.blk s H scope (compEnvC scope cl C X.env) fp) elt te) (hs : ∀ x, foldedSetIterable iter X.env x = pure x := by intro _; rfl) (hsj : ∀ en x, foldedSetIterable ij en x = pure x := by intro _ _; rfl) :
    PE X (two elt tg iter tj ij ifs jfs scope pos) (tS2 Z0 AD wi g tt wj gj tt1 te (own.map (·.2)) us) := by
  refine ⟨fun pins s σ H Q I h => ?_⟩
  rw [eval_SetComp]
  refine s2_core hc hN hZ hA hi ok hv hg ht hj hgj htj he hs hsj I h fun D C s' m H' I' qq hn f => ?_
  obtain ⟨g0, g1, g2, g3, g4, g5⟩ := f
  exact ⟨m, hn, fun h'' sb => ⟨.ref D, H', I'.turned (t' := s'.toks) (fun b o hb e => (sb.2 b hb).trans e) g0 g1 g3 g4 g5, rfl, qq⟩⟩
/-- name = {.. for .. for ..} -/
theorem ps_setS2 {i : Nat} {y : PySem.Str} {py spos : Pos} {Z0 : Addr → HO} {AD : V → Hp → Addr → (Hp → Prop) → Prop} {elt tg iter tj ij : Expr} {ifs jfs : List Expr} {scope : Scope} {own : List (PySem.Str × Nat)} {us : List Nat} {pos : Pos} {wi wj : TI} {g gj : TG} {tt tt1 : TT} {te : TE} (hc : X.calm = true) (hN : X.N.Nodup) (hy : X.N[i]? = some y) (hyl : X.env.scope.names.lookup y = some .local) (hsw : swapsWith (two elt tg iter tj ij ifs jfs scope pos) (some (.Name y py)) spos.line X.env = pure true)
    (hZ : ∀ (H : Hp) (h : Heap), ObjOk X.prog X.w H (h.push (newSetObj X.w)) h.objs.size (Z0 h.objs.size)) (hA : AddOk X AD) (hi : PI X tg iter wi) (ok : BlkOk X.N X.env.scope scope own) (hv : ∀ i ∈ us, i ∈ own.map (·.2))
    (hg : ∀ (s : Shared) (H : Hp) (C : Addr) (cl : List (PySem.Str × Addr)) (fp : List Addr), PG (X.blk s H scope (compEnvC scope cl C X.env) fp) tg g) (ht : ∀ (s : Shared) (H : Hp) (C : Addr) (cl : List (PySem.Str × Addr)) (fp : List Addr), PTs (X.blk s H scope (compEnvC scope cl C X.env) fp) ifs tt)
    (hj : ∀ (s : Shared) (H : Hp) (C : Addr) (cl : List (PySem.Str × Addr)) (fp : List Addr), PI (X.blk s H scope (compEnvC scope cl C X.env) fp) tj ij wj)
    (hgj : ∀ (s : Shared) (H : Hp) (C : Addr) (cl : List (PySem.Str × Addr)) (fp : List Addr), PG (X.blk s H scope (compEnvC scope cl C X.env) fp) tj gj) (htj : ∀ (s : Shared) (H : Hp) (C : Addr) (cl : List (PySem.Str × Addr)) (fp : List Addr), PTs (X.blk s H scope (compEnvC scope cl C X.env) fp) jfs tt1)
    (he : ∀ (s : Shared) (H : Hp) (C : Addr) (cl : List (PySem.Str × Addr)) (fp : List Addr), PE (X.blk s H scope (compEnvC scope cl C X.env) fp) elt te) (hs : ∀ x, foldedSetIterable iter X.env x = pure x := by intro _; rfl) (hsj : ∀ en x, foldedSetIterable ij en x = pure x := by intro _ _; rfl) :
    PS X (.Assign [.Name y py] (two elt tg iter tj ij ifs jfs scope pos) spos) (tAsg (tS2 Z0 AD wi g tt wj gj tt1 te (own.map (·.2)) us) (gName i)) := by
  refine ⟨fun pins s σ H D I h => ?_⟩
  rw [exec_Assign_Name_used _ _ _ _ hsw]
  refine wpAny_bind (wpAny_standAt (wpAny_bind ?_))
  show wpAny _ X.A (do let _ ← comprehension (two elt tg iter tj ij ifs jfs scope pos) scope X.env (firstIterPos [⟨tg, iter, ifs, 0⟩, ⟨tj, ij, jfs, 0⟩] pos) (newSet (.type "set")) false (eval iter X.env) (some (assign (.Name y py) X.env))) _ _ s
  have h : tS2 Z0 AD wi g tt wj gj tt1 te (own.map (·.2)) us σ H (fun x H1 => gName i x σ H1 D.nx) := h
  refine wpAny_bind (thn (s2_core (Qf := fun _ s' => SP X pins D .next s') hc hN hZ hA hi ok hv hg ht hj hgj htj he hs hsj I h fun L C s' m H' I' qq hn f => ?_) fun _ s' hq => wpAny_pure (wpAny_pure hq))
  show wpAny _ _ (assign (.Name y py) X.env (.ref L)) _ _ _
  refine wpAny_assign_Name (store_ok2 (v := V.ref L) I' hN hy (.inl hyl) rfl (fun s2 I2 ⟨a, sb, ha⟩ => ?_) (.inr hyl))
  obtain ⟨g0, g1, g2, g3, g4, g5⟩ := f
  have hCa : C ≠ a := ha.elim (fun z => by rw [z]; exact g1) fun z e => g4 y a z e.symm
  exact ⟨m, hn.sameBut sb hCa, fun h3 sb3 => ⟨_, H', I2.turned (t' := s2.toks) (fun b o hb e => (sb3.2 b hb).trans e) g0 g1 g3 g4 g5, qq⟩⟩
end
end DS

set_option Elab.async false
set_option linter.all false
set_option autoImplicit false
set_option maxRecDepth 100000
set_option maxHeartbeats 4000000
/-! A set of tuples that is told by its own object alone; what can be added to it. -/
namespace DS
open PySem PySem.Spec PyProof.Rows L2 PpSet
section
variable {P : Program} {w : World}
/-- the set's own part: the tuples' hashes are told, not the tuples -/
structure OnL (P : Program) (w : World) (h : Heap) (a : Addr) (L : List (Addr × TKey)) (es : Array (Int × Value)) (ep : Nat) (t : SetTable) : Prop where
  obj : ∃ o, h.get? a = some o ∧ o.ExactSet ∧ o.data = .set es ep t
  ent : es.toList = rowsT P w L
  tab : TabOk t (L.map fun p => tH P w p.2)
  uni : (L.map (·.2)).Nodup
  led : w.params.followText "set-order" = true ∨ t.led = true
  room : L.length * 5 < t.mask * 3
  few : L.length < 64
theorem On.loc {h : Heap} {a : Addr} {L : List (Addr × TKey)} {es : Array (Int × Value)} {ep : Nat} {t : SetTable} (R : On P w h a L es ep t) : OnL P w h a L es ep t := ⟨R.obj, R.ent, R.tab, R.uni, R.led, R.room, R.few⟩
theorem OnL.on {h : Heap} {a : Addr} {L : List (Addr × TKey)} {es : Array (Int × Value)} {ep : Nat} {t : SetTable} (R : OnL P w h a L es ep t) (its : ∀ p ∈ L, TAt P w h p.2 p.1) : On P w h a L es ep t := ⟨R.obj, R.ent, R.tab, R.uni, its, R.led, R.room, R.few⟩
def JL (P : Program) (w : World) (S : Addr) (ks : List (Addr × TKey)) (h : Heap) : Prop := ∃ L es ep t, OnL P w h S L es ep t ∧ Has ks ks.length L
theorem JL.at {S : Addr} {ks : List (Addr × TKey)} {h h' : Heap} (J : JL P w S ks h) (k : ∀ o, h.get? S = some o → h'.get? S = some o) : JL P w S ks h' := by
  obtain ⟨L, es, ep, t, ⟨⟨o, ho, r⟩, e, tb, u, l, m, f⟩, g⟩ := J
  exact ⟨L, es, ep, t, ⟨⟨o, k o ho, r⟩, e, tb, u, l, m, f⟩, g⟩
/-- the set of the tuples ks -/
def ST (P : Program) (w : World) (S : Addr) (ks : List (Addr × TKey)) : HO := .ext fun h => JL P w S ks h
theorem st_new {H : Hp} {h : Heap} {S : Addr} {ks : List (Addr × TKey)} (J : JL P w S ks h) : ObjOk P w H h S (ST P w S ks) := by
  have ⟨_, _, _, _, ⟨⟨o, ho, _⟩, _, _, _, _, _, _⟩, _⟩ := J
  exact ⟨J, ⟨o, ho⟩, fun h1 h2 p k => JL.at p k⟩
theorem st_fresh (H : Hp) (h : Heap) : ObjOk P w H (h.push (newSetObj w)) h.objs.size (ST P w h.objs.size []) := by
  obtain ⟨L, es, ep, t, R, g⟩ := fresh_tup (P := P) (w := w) (S := h.objs.size) (ks := []) (h := h.push (newSetObj w)) (Heap.get?_push_size _ rfl)
  exact st_new ⟨L, es, ep, t, R.loc, g⟩
end
section
variable {X : Cx}
/-- a tuple of ints and texts stands at a -/
def TupAt (K : PySem.W.Frag) (H : Hp) (p : Addr × TKey) : Prop := SqT K H p.1 (p.2.map kV)
theorem items_of_key {P : Program} {w : World} : ∀ {k : TKey} {us : List Value}, Vals (k.map kV) us → ItemsAre (mixKind P w) k us
  | [], _, .nil => .nil
  | .inl i :: k, _, .cons h r => by obtain ⟨t, rfl⟩ := h; exact .cons (mixKind_int P w i t) (items_of_key r)
  | .inr x :: k, _, .cons h r => by obtain ⟨t, rfl⟩ := h; exact .cons (mixKind_str P w x t) (items_of_key r)
theorem tat_at {pins : List (Addr × Obj)} {σ : L2.St} {H : Hp} {s : Shared} (I : L2.Inv X pins σ H s) {p : Addr × TKey} (h : TupAt X.K H p) : TAt X.prog X.w s.heap p.2 p.1 := by
  obtain ⟨its, rv, ⟨o, ho, hc, n, hd⟩, _⟩ := I.tuple h
  exact ⟨o, its.toArray, n, ho, hc, hd, by simpa using items_of_key rv⟩
/-- adding a tuple -/
def adT (P : Program) (w : World) (K : PySem.W.Frag) : V → Hp → Addr → (Hp → Prop) → Prop := fun y H D N => ∃ ks x k, y = .ref x ∧ H D = some (ST P w D ks) ∧ ks.length + 1 < 64 ∧ (∀ p ∈ ks ++ [(x, k)], TupAt K H p) ∧ N (upd H D (ST P w D (ks ++ [(x, k)])))
theorem add_tup (hu : X.A.units + 64 < cLine) : AddOk X (adT X.prog X.w X.K) := by
  rintro s0 H0 sc ce fp pins σ H s D y u N E I r ⟨ks, x, k, rfl, hD, few, tup, n⟩
  obtain rfl : u = Value.ref x := r
  obtain ⟨L, es, ep, t, R0, g⟩ := (I.hok D _ hD).1
  have its : ∀ p ∈ L, TAt X.prog X.w s.heap p.2 p.1 := fun p hp => tat_at I (tup p (List.mem_append_left _ (List.mem_of_mem_take (g.sub p hp))))
  have R := R0.on its
  have hx := tat_at I (tup (x, k) (List.mem_append_right _ (List.mem_singleton.mpr rfl)))
  obtain ⟨o, ho, hex, hd⟩ := R.obj
  refine wpAny_call_entry F.slot_set_add ⟨o, ho, hex.1⟩ F.entry_set_add ?_ (F.args_set_add_2 _ _)
  unfold Builtin.«set.add» Builtin.Frozenset.oneOther
  simp only [List.isEmpty_nil, bind_assoc]
  unfold Builtin.Frozenset.addrOf setAdd
  refine wpAny_bind (wpAny_pure ?_)
  try dsimp only
  refine wpAny_bind (wpAny_pure ?_)
  try dsimp only
  refine wpAny_bind (wpAny_holding (wpAny_bind (wpAny_pyHash_tuple (show X.A.units + 1 < cLine by omega) hx ?_)))
  have R' : On X.prog X.w ({ s with toks := s.toks + (k.length + 1) } : Shared).heap D L es ep t := R
  have hl : L.length ≤ ks.length := g.len
  refine R'.add hx (show X.A.units + 1 < cLine by omega) (by omega) fun b h' L' es' ep' t' same R2 c1 c2 => ?_
  show wpAny _ _ (ret Value.none) _ _ _
  have g2 : Has (ks ++ [(x, k)]) (ks ++ [(x, k)]).length L' := by
    have g1 : Has (ks ++ [(x, k)]) ks.length L := ⟨fun p hp => by rw [List.take_left]; have := g.sub p hp; rwa [List.take_length] at this, fun p hp => g.all p (by rw [List.take_left] at hp; rwa [List.take_length]), g.len⟩
    have := g1.next (x := (x, k)) (L' := L') (by simp) (by
      rcases Classical.em (k ∈ L.map (·.2)) with c | c
      · exact .inl ⟨c, c1 c⟩
      · exact .inr (c2 c))
    simpa using this
  have here : ∃ u, h'.get? D = some u := let ⟨o, ho, _⟩ := R2.obj; ⟨o, ho⟩
  have I2 := I.write (e := D) (t' := s.toks + (k.length + 1)) (by rw [hD]; trivial) (.inl rfl) (fun b u hb hu => (same.2 b hb).trans hu) here (st_new (P := X.prog) (w := X.w) ⟨L', es', ep', t', R2.loc, g2⟩)
  exact wpAny_pure ⟨_, rfl, _, I2, n⟩
/-- adding an int -/
def adI (w : World) : V → Hp → Addr → (Hp → Prop) → Prop := fun y H D N => ∃ (k : Int) (ns : List Int) (n : Nat), y = .int k ∧ H D = some (SI w D ns n) ∧ n + 1 < scanBound ∧ N (upd H D (SI w D (ns ++ [k]) (if k ∈ ns then n else n + 1)))
theorem add_int : AddOk X (adI X.w) := by
  rintro s0 H0 sc ce fp pins σ H s D y u N E I r ⟨k, ns, n, rfl, hD, room, nx⟩
  obtain ⟨tk, rfl⟩ := r
  exact si_add (X := X.blk s0 H0 sc ce fp) I hD room fun s11 I11 => ⟨_, I11, nx⟩
theorem si_fresh {P : Program} {w : World} (H : Hp) (h : Heap) : ObjOk P w H (h.push (newSetObj w)) h.objs.size (SI w h.objs.size [] 0) := setO_new ((setR_fresh w).congr fun k => by simp)
end
end DS

set_option Elab.async false
set_option linter.all false
set_option autoImplicit false
set_option maxRecDepth 100000
set_option maxHeartbeats 4000000
namespace DL
open PySem PySem.Spec PyProof.Rows L2
open Evl (Ex)
/-! ### sets made by two clauses, over data -/
/-- a kind of sets: what the object at a is behind the items ds -/
structure SKind (K : PySem.W.Frag) (Z0 : Addr → HO) (AD : V → Hp → Addr → (Hp → Prop) → Prop) where
  Acc : Addr → Hp → List D → HO → Prop
  item : D → Prop
  mono : ∀ {a : Addr} {G G' : Hp} {ds : List D} {o : HO}, Ex G G' → Acc a G ds o → Acc a G' ds o
  zero : ∀ (a : Addr) (G : Hp), Acc a G [] (Z0 a)
  add : ∀ {G H : Hp} {a : Addr} {ds : List D} {o : HO} {d : D} {v : V} {N : Hp → Prop}, Ex G H → Acc a G ds o → H a = some o → Rep K G d v → item d → ds.length < 63 → (∀ o', Acc a G (ds ++ [d]) o' → N (upd H a o')) → AD v H a N
section
variable (it : D → Prop) (us : List Nat) (gj : WG) (tj : WT) (w : WE)
def s2I (δ : Dn) : List D → List D → S → (List D → S → Prop) → Prop
  | [], acc, s, P => P acc s
  | d :: ds, acc, s, P => gj d (wipeD δ us) s fun δ1 s1 => tj δ1 s1 fun k s2 => match k with
    | true => w δ1 s2 fun y s3 => (it y ∧ acc.length < 63) ∧ s2I δ ds (acc ++ [y]) s3 P
    | false => s2I δ ds acc s2 P
variable (vs : List Nat) (g : WG) (t : WT) (wj : WI)
def s2O (δ : Dn) : List D → List D → S → (List D → S → Prop) → Prop
  | [], acc, s, P => P acc s
  | d :: ds, acc, s, P => g d (wipeD δ vs) s fun δ1 s1 => t δ1 s1 fun k s2 => match k with
    | true => wj δ1 s2 fun es s3 => s2I it us gj tj w δ1 es acc s3 fun acc2 s4 => s2O δ ds acc2 s4 P
    | false => s2O δ ds acc s2 P
end
theorem lend_on {K : PySem.W.Frag} {F : Hp} {Dd : Addr} (fD : F Dd = none) {s : S} {G H : Hp} {u u' : HO} (o : Own K (upd F Dd u) s G H) : Own K (upd F Dd u') s G (upd H Dd u') := by
  obtain ⟨f1, f2, f3⟩ := o.fr Dd _ upd_same
  have nd := o.noDk (p := Dd) upd_same
  have ot := (o.back (Ex.new fD)).turn (u := u') fD f2 f3 nd
  refine ot.lend upd_same f2 f3 fun a n e a1 mx k h => ?_
  obtain ⟨a1', cells, mixed, k', _, g2, g3, _, _, g6, g7, _⟩ := (o.dk a n e).ex
  have n1 : a ≠ Dd := fun z => by rw [z, upd_same] at g2; cases g2.2
  have n2 : a1' ≠ Dd := fun z => by rw [z, upd_same] at g3; cases g3.2
  rw [upd_ne n1, g6] at h
  cases h
  exact ⟨n1.symm, n2.symm⟩
theorem lend_new {K : PySem.W.Frag} {F : Hp} {Dd : Addr} {s : S} {G H : Hp} {u : HO} (o : Own K F s G H) (hD : H Dd = none) : Own K (upd F Dd u) s G (upd H Dd u) := by
  refine (o.pass (u := u) hD).lend upd_same (o.freeG hD) (o.freeM hD) fun a n e a1 mx k h => ?_
  obtain ⟨a1', cells, mixed, k', _, _, _, _, _, h6, h7, _⟩ := (o.dk a n e).ex
  have n1 : a ≠ Dd := ne_of_none h6 hD
  have n2 : a1' ≠ Dd := ne_of_none h7 hD
  rw [upd_ne n1, h6] at h
  cases h
  exact ⟨n1.symm, n2.symm⟩
section
variable {K : PySem.W.Frag} {Z0 : Addr → HO} {AD : V → Hp → Addr → (Hp → Prop) → Prop}
theorem s2_rows (kd : SKind K Z0 AD) {F G : Hp} {δ : Dn} {σ : L2.St} {H1 : Hp} {s1 : S} {vs us : List Nat} {g gj : WG} {t tj : WT} {wj : WI} {w : WE} {vg ug : List Nat} {ds : List D} {J : It} {P : List D → S → Prop}
    (en : EnvOk K G δ σ) (o1 : Own K F s1 G H1) (jk : JOk K G ds J) (h1 : s2O kd.item us gj tj w vs g t wj δ ds [] s1 P) (hs : ∀ j ∈ vg, j ∈ vs) (hu : ∀ j ∈ ug, j ∈ us) (Dd : Addr) (hD : H1 Dd = none) :
    ∃ W : Nat → Nat → Hp → Prop, (∃ m, W 0 m (upd H1 Dd (Z0 Dd))) ∧ ∀ i m H, W i m H →
      (J.stop i H ∧ ∃ G2 s2 acc o, Ex G G2 ∧ Own K F s2 G2 H ∧ H Dd = some o ∧ kd.Acc Dd G2 acc o ∧ P acc s2) ∨ (J.go i H ∧ ∃ Nx : Hp → Prop, (∀ H', Nx H' → ∃ m', m' < m ∧ W (i + 1) m' H') ∧ ∀ x H', J.yld i H x H' → lG K vg g x (L2.wipe σ vs) H' fun σ2 H2 => L2.wipe σ2 vs = L2.wipe σ vs ∧ lT K t σ2 H2 fun b H3 =>
        if b = true then lI K wj σ2 H3 fun J1 H4 => ∃ W1 : Nat → Nat → Hp → Prop, (∃ m, W1 0 m H4) ∧ ∀ j k H, W1 j k H →
          (J1.stop j H ∧ Nx H) ∨ (J1.go j H ∧ ∃ Ny : Hp → Prop, (∀ H', Ny H' → ∃ k', k' < k ∧ W1 (j + 1) k' H') ∧ ∀ x H', J1.yld j H x H' → lG K ug gj x (L2.wipe σ2 us) H' fun σ3 H5 => L2.wipe σ3 us = L2.wipe σ2 us ∧ lT K tj σ3 H5 fun b H6 =>
            if b = true then lE K w σ3 H6 fun y H7 => AD y H7 Dd Ny else Ny H6) else Nx H3) := by
  have fD := o1.freeF hD
  let Wd : Nat → Hp → Prop := fun i H => ∃ G2 s2 acc o, Ex G G2 ∧ Own K (upd F Dd o) s2 G2 H ∧ kd.Acc Dd G2 acc o ∧ s2O kd.item us gj tj w vs g t wj δ (ds.drop i) acc s2 P
  refine ⟨fun i m H => m = ds.length - i ∧ i ≤ ds.length ∧ Wd i H, ⟨ds.length, by simp, Nat.zero_le _, G, s1, [], Z0 Dd, Ex.refl _, lend_new o1 hD, kd.zero _ _, h1⟩, ?_⟩
  rintro i m H ⟨rfl, hi, G2, s2, acc, o, e2, o2, a2, h2⟩
  by_cases hlt : i < ds.length
  · refine .inr ?_
    obtain ⟨go, yl⟩ := jk.go i _ s2 G2 H e2 o2 hlt
    refine ⟨go, fun H' => Wd (i + 1) H', fun H' h => ⟨ds.length - (i + 1), by omega, rfl, hlt, h⟩, fun x H' y => ?_⟩
    obtain ⟨d, G3, hd, e3, o3, r3⟩ := yl x H' y
    rw [drop_get hd] at h2
    have en3 := ((en.mono e2).mono e3).wipe vs
    refine ⟨_, G3, wipeD δ vs, s2, d, _, en3, o3, r3, h2, fun δ4 s4 h4 G4 H4 σ4 e4 en4 o4 l4 a4 => ⟨wipe_same l4 a4 hs, _, G4, δ4, s4, _, en4, o4, h4, fun k s5 h5 G5 H5 e5 o5 => ?_⟩⟩
    have e25 := e3.trans (e4.trans e5)
    cases k with
    | false =>
      dsimp only
      rw [if_neg Bool.false_ne_true]
      exact ⟨G5, s5, acc, o, e2.trans e25, o5, kd.mono e25 a2, h5⟩
    | true =>
      dsimp only
      rw [if_pos rfl]
      refine ⟨_, G5, δ4, s5, _, en4.mono e5, o5, h5, fun es s6 h6 G6 H6 J1 e6 o6 jk1 => ?_⟩
      let We : Nat → Hp → Prop := fun j H => ∃ G7 s7 acc7 o7, Ex G6 G7 ∧ Own K (upd F Dd o7) s7 G7 H ∧ kd.Acc Dd G7 acc7 o7 ∧ s2I kd.item us gj tj w δ4 (es.drop j) acc7 s7 fun acc2 s4 => s2O kd.item us gj tj w vs g t wj δ (ds.drop (i + 1)) acc2 s4 P
      have e26 := e25.trans e6
      refine ⟨fun j m H => m = es.length - j ∧ j ≤ es.length ∧ We j H, ⟨es.length, by simp, Nat.zero_le _, G6, s6, acc, o, Ex.refl _, o6, kd.mono e26 a2, h6⟩, ?_⟩
      rintro j m H ⟨rfl, hj, G7, s7, acc7, o7, e7, own7, a7, h7⟩
      by_cases hlt2 : j < es.length
      · refine .inr ?_
        obtain ⟨go1, yl1⟩ := jk1.go j _ s7 G7 H e7 own7 hlt2
        refine ⟨go1, fun H' => We (j + 1) H', fun H' h => ⟨es.length - (j + 1), by omega, rfl, hlt2, h⟩, fun x H' y => ?_⟩
        obtain ⟨d1, G8, hd1, e8, o8, r8⟩ := yl1 x H' y
        rw [drop_get hd1] at h7
        have en8 := ((((en4.mono e5).mono e6).mono e7).mono e8).wipe us
        refine ⟨_, G8, wipeD δ4 us, s7, d1, _, en8, o8, r8, h7, fun δ9 s9 h9 G9 H9 σ9 e9 en9 o9 l9 b9 => ⟨wipe_same l9 b9 hu, _, G9, δ9, s9, _, en9, o9, h9, fun k s10 h10 G10 H10 e10 o10 => ?_⟩⟩
        have e710 := e8.trans (e9.trans e10)
        cases k with
        | false =>
          dsimp only
          rw [if_neg Bool.false_ne_true]
          exact ⟨G10, s10, acc7, o7, e7.trans e710, o10, kd.mono e710 a7, h10⟩
        | true =>
          dsimp only
          rw [if_pos rfl]
          refine ⟨_, G10, δ9, s10, _, en9.mono e10, o10, h10, fun y s11 h11 G11 H11 v11 e11 o11 r11 => ?_⟩
          obtain ⟨f1, f2, f3⟩ := o11.fr Dd _ upd_same
          have e711 := e710.trans e11
          exact kd.add (o11.ex) (kd.mono e711 a7) f1 r11 h11.1.1 h11.1.2 fun o' a' => ⟨G11, s11, acc7 ++ [y], o', e7.trans e711, lend_on fD o11, a', h11.2⟩
      · have e : j = es.length := by omega
        subst e
        rw [List.drop_length] at h7
        exact .inl ⟨jk1.stop _ _ s7 G7 H e7 own7 (Nat.le_refl _), G7, s7, acc7, o7, e2.trans (e26.trans e7), own7, a7, h7⟩
  · have e : i = ds.length := by omega
    subst e
    rw [List.drop_length] at h2
    obtain ⟨f1, f2, f3⟩ := o2.fr Dd _ upd_same
    exact .inl ⟨jk.stop _ _ s2 G2 H e2 o2 (Nat.le_refl _), G2, s2, acc, o, e2, o2.back (Ex.new fD), f1, a2, h2⟩
end
end DL

set_option Elab.async false
set_option linter.all false
set_option autoImplicit false
set_option maxRecDepth 100000
set_option maxHeartbeats 4000000
namespace DL
open PySem PySem.Spec PyProof.Rows L2
open Evl (Ex)
/-! ### sorted({.. for .. for ..}) of tuples, of ints -/
theorem repL_keys {K : PySem.W.Frag} {G : Hp} : ∀ {k : List Key} {xs : List V}, RepL K G (k.map keyD) xs → xs = k.map kV
  | [], _, .nil => rfl
  | .inl i :: k, _, .cons h r => by cases h; rw [repL_keys r]; rfl
  | .inr x :: k, _, .cons h r => by cases h; rw [repL_keys r]; rfl
theorem tup_at {K : PySem.W.Frag} {G H : Hp} (ex : Ex G H) {p : Addr × List Key} (r : Rep K G (tupK p.2) (.ref p.1)) : DS.TupAt K H p := by
  obtain ⟨b, xs, e, h, r2⟩ := Rep.seqT r (.inl rfl)
  cases e
  have := repL_keys r2
  subst this
  exact ex_t ex h
/-- sets of tuples -/
def skT (P : Program) (w : World) (K : PySem.W.Frag) : SKind K (fun a => DS.ST P w a []) (DS.adT P w K) where
  Acc := fun a G ds o => ∃ ks : List (Addr × List Key), ds = ks.map (fun p => tupK p.2) ∧ o = DS.ST P w a ks ∧ ∀ p ∈ ks, Rep K G (tupK p.2) (.ref p.1)
  item := fun d => ∃ k, d = tupK k
  mono := fun e ⟨ks, h1, h2, h3⟩ => ⟨ks, h1, h2, fun p hp => (h3 p hp).mono e⟩
  zero := fun a G => ⟨[], rfl, rfl, fun _ h => nomatch h⟩
  add := fun {G H a ds o d v N} ex ⟨ks, h1, h2, h3⟩ ho r ⟨k, hk⟩ few hN => by
    subst h1 h2 hk
    obtain ⟨x, xs, e, h, r2⟩ := Rep.seqT r (.inl rfl)
    subst e
    rw [List.length_map] at few
    have all : ∀ p ∈ ks ++ [(x, k)], Rep K G (tupK p.2) (.ref p.1) := fun p hp => by
      rcases List.mem_append.mp hp with hp | hp
      · exact h3 p hp
      · rw [List.mem_singleton] at hp; subst hp; exact r
    exact ⟨ks, x, k, rfl, ho, by omega, fun p hp => tup_at ex (all p hp), hN _ ⟨ks ++ [(x, k)], by rw [List.map_append]; rfl, rfl, all⟩⟩
/-- sets of ints -/
def skI (w : World) (K : PySem.W.Frag) : SKind K (fun a => DS.SI w a [] 0) (DS.adI w) where
  Acc := fun a _ ds o => ∃ (ns : List Int) (n : Nat), ds = ns.map .int ∧ o = DS.SI w a ns n ∧ n ≤ ns.length
  item := fun d => ∃ k, d = .int k
  mono := fun _ h => h
  zero := fun a G => ⟨[], 0, rfl, rfl, Nat.le_refl _⟩
  add := fun {G H a ds o d v N} ex ⟨ns, n, h1, h2, h3⟩ ho r ⟨k, hk⟩ few hN => by
    subst h1 h2 hk
    cases r
    rw [List.length_map] at few
    refine ⟨k, ns, n, rfl, ho, by unfold scanBound; omega, hN _ ⟨ns ++ [k], _, by rw [List.map_append]; rfl, rfl, ?_⟩⟩
    rw [List.length_append, List.length_singleton]; split <;> omega
def itT (d : D) : Prop := ∃ k, d = tupK k
def itI (d : D) : Prop := ∃ k : Int, d = .int k
def wSortS2 (it : D → Prop) (us : List Nat) (gj : WG) (tj : WT) (w : WE) (vs : List Nat) (g : WG) (t : WT) (wi wj : WI) : WA := fun δ s P => wi δ s fun ds s1 => s2O it us gj tj w vs g t wj δ ds [] s1 fun acc s2 => SortOk acc ∧ sortedSetP acc s2 P
section
variable {X : Cx} {elt tg iter tj ij : Expr} {ifs jfs : List Expr} {scope : Scope} {pos p cpos : Pos} {wi wj : WI} {g gj : WG} {t tt : WT} {w : WE} {vg ug us : List Nat}
theorem del_sortS2T (own : List (Str × Nat)) (us : List Nat) (hc : X.calm = true) (hu : X.A.units + 64 < cLine) (hgl : Gl X "sorted") (hm : X.mg "sorted" = none) (hN : X.N.Nodup) (hi : DI X tg iter wi) (ok : BlkOk X.N X.env.scope scope own)
    (hg : ∀ (s : Shared) (H : Hp) (C : Addr) (cl : List (Str × Addr)) (fp : List Addr), DG (X.blk s H scope (compEnvC scope cl C X.env) fp) tg vg g)
    (ht : ∀ (s : Shared) (H : Hp) (C : Addr) (cl : List (Str × Addr)) (fp : List Addr), DTs (X.blk s H scope (compEnvC scope cl C X.env) fp) ifs t)
    (hj : ∀ (s : Shared) (H : Hp) (C : Addr) (cl : List (Str × Addr)) (fp : List Addr), DI (X.blk s H scope (compEnvC scope cl C X.env) fp) tj ij wj)
    (hgj : ∀ (s : Shared) (H : Hp) (C : Addr) (cl : List (Str × Addr)) (fp : List Addr), DG (X.blk s H scope (compEnvC scope cl C X.env) fp) tj ug gj)
    (htj : ∀ (s : Shared) (H : Hp) (C : Addr) (cl : List (Str × Addr)) (fp : List Addr), DTs (X.blk s H scope (compEnvC scope cl C X.env) fp) jfs tt)
    (he : ∀ (s : Shared) (H : Hp) (C : Addr) (cl : List (Str × Addr)) (fp : List Addr), DE (X.blk s H scope (compEnvC scope cl C X.env) fp) elt w)
    (hv : ∀ j ∈ vg, j ∈ own.map (·.2) := by decide) (hw : ∀ j ∈ ug, j ∈ us := by decide) (hus : ∀ j ∈ us, j ∈ own.map (·.2) := by decide) (hs : ∀ x, foldedSetIterable iter X.env x = pure x := by intro _; rfl) (hsj : ∀ en x, foldedSetIterable ij en x = pure x := by intro _ _; rfl) :
    DEL X (.Call (.Name "sorted" p) [DS.two elt tg iter tj ij ifs jfs scope pos] [] cpos) (wSortS2 itT us gj tt w (own.map (·.2)) g t wi wj) := by
  refine ⟨fun pins s σ H Q I h => ?_⟩
  obtain ⟨F, G, δ, sd, P, en, o, hw', q⟩ := h
  refine Call_ (ld_blt I hgl hm bb_sorted ?_)
  refine PyProof.Rows.callWith_builtin1 (PyProof.Rows.args_cons (thn ((DS.pe_s2 (own := own) (us := us) (Z0 := fun a => DS.ST X.prog X.w a []) (AD := DS.adT X.prog X.w X.K) (wi := lI X.K wi) (wj := lI X.K wj) (g := lG X.K vg g) (gj := lG X.K ug gj) (tt := lT X.K t) (tt1 := lT X.K tt) (te := lE X.K w) hc hN DS.st_fresh (DS.add_tup hu) hi ok hus hg ht hj hgj htj he hs hsj).run pins s σ H
    (fun x H1 => ∃ Dd G2 sd2 acc o', x = .ref Dd ∧ Ex G G2 ∧ Own X.K F sd2 G2 H1 ∧ H1 Dd = some o' ∧ (skT X.prog X.w X.K).Acc Dd G2 acc o' ∧ SortOk acc ∧ sortedSetP acc sd2 P) I ?_) fun v s1 ⟨x, H1, I1, r1, q1⟩ => PyProof.Rows.args_nil ?_) rfl) rfl rfl
  · refine ⟨F, G, δ, sd, _, en, o, hw', fun ds s1 h1 G1 H1 J e1 o1 jk Dd hD => ?_⟩
    obtain ⟨W, st, tr⟩ := s2_rows (skT X.prog X.w X.K) (en.mono e1) o1 jk h1 hv hw Dd hD
    refine ⟨W, st, fun i m H w0 => ?_⟩
    rcases tr i m H w0 with ⟨a, G2, s2, acc, o', e2, o2, hD2, ha, hP⟩ | b
    · exact .inl ⟨a, Dd, G2, s2, acc, o', rfl, e1.trans e2, o2, hD2, ha, hP.1, hP.2⟩
    · exact .inr b
  · obtain ⟨Dd, G2, sd2, acc, o', rfl, e2, o2, hD2, ⟨ks, rfl, rfl, hks⟩, so, hP⟩ := q1
    cases r1
    obtain ⟨L, es, ep, tb, R0, gh⟩ := (I1.hok Dd _ hD2).1
    have R := R0.on fun p hp => tat_of I1 o2.ex (hks p (List.mem_of_mem_take (gh.sub p hp)))
    exact set_tups hc hu I1 o2 (q.mono e2) so hP hks ⟨L, es, ep, tb, R, gh⟩
end
end DL

set_option Elab.async false
set_option linter.all false
set_option autoImplicit false
set_option maxRecDepth 100000
set_option maxHeartbeats 4000000
namespace DL
open PySem PySem.Spec PyProof.Rows L2
open Evl (Ex)
/-! ### near = {.. for .. for ..} of ints; return [.. for x in sorted(near)] -/
theorem EnvOk.hide {K : PySem.W.Frag} {G : Hp} {δ : Dn} {σ : L2.St} (h : EnvOk K G δ σ) (i : Nat) (v : V) : EnvOk K G (δ.set i none) (σ.set i (some v)) := by
  refine ⟨by rw [List.length_set, List.length_set]; exact h.len, fun j e q => ?_⟩
  by_cases hj : i = j
  · subst hj
    by_cases hl : i < δ.length
    · rw [List.getElem?_set_self hl] at q; cases q
    · rw [List.getElem?_eq_none (by rw [List.length_set]; omega)] at q; cases q
  · rw [List.getElem?_set_ne hj] at q ⊢
    exact h.at_ j e q
def tSortV (K : PySem.W.Frag) (wd : World) (i : Nat) : TE := fun σ H Q => ∃ Dd F G sd acc P, σ[i]? = some (some (.ref Dd)) ∧ Own K F sd G H ∧ (∃ o, H Dd = some o ∧ (skI wd K).Acc Dd G acc o) ∧ acc.length < 64 ∧ SortOk acc ∧ sortedSetP acc sd P ∧ RetL K F G P Q
section
variable {X : Cx}
theorem pe_sortV {i : Nat} {y : Str} {p p2 cpos : Pos} (hc : X.calm = true) (hu : X.A.units + 64 < cLine) (hgl : Gl X "sorted") (hm : X.mg "sorted" = none) (hy : X.N[i]? = some y) (hv : Vis X.env.scope y) (hd : (y == ("__debug__" : Str)) = false := by decide) (hcd : (y == ("__classdict__" : Str)) = false := by decide) :
    PE X (.Call (.Name "sorted" p) [.Name y p2] [] cpos) (tSortV X.K X.w i) := by
  refine ⟨fun pins s σ H Q I h => ?_⟩
  obtain ⟨Dd, F, G, sd, acc, P, hσ, o, ⟨ob, hD, ns, n, rfl, rfl, hn⟩, few, so, hP, q⟩ := h
  refine Call_ (ld_blt I hgl hm bb_sorted ?_)
  refine PyProof.Rows.callWith_builtin1 (PyProof.Rows.args_cons (thn ((pe_var hy hv hd hcd).run pins s σ H (fun x H1 => x = .ref Dd ∧ H1 = H) I ⟨.ref Dd, hσ, rfl, rfl⟩) fun v s1 ⟨x, H1, I1, r1, q1⟩ => PyProof.Rows.args_nil ?_) rfl) rfl rfl
  obtain ⟨rfl, rfl⟩ := q1
  cases r1
  rw [List.length_map] at few
  exact set_ints hc hu I1 o q (sortOk_ints ns) few hP ⟨n, hn, by rw [List.take_length]; exact setO_get I1 hD⟩
def wSetSort (i : Nat) (us : List Nat) (gj : WG) (tj : WT) (w : WE) (vs : List Nat) (g : WG) (t : WT) (wi wj : WI) (vs2 : List Nat) (g2 : WG) (t2 : WT) (w2 : WE) : WS := fun D δ s => wi δ s fun ds s1 => s2O itI us gj tj w vs g t wj δ ds [] s1 fun acc s2 => i < δ.length ∧ acc.length < 64 ∧ SortOk acc ∧
  sortedSetP acc s2 fun zs s3 => zs.length ≤ sizeLine ∧ lcW vs2 g2 t2 w2 (δ.set i none) zs s3 fun ys s4 => D.rt (.lst ys) s4
theorem dss_setSort {i : Nat} {y : Str} {py spos rpos p p2 cpos : Pos} {elt tg iter tj ij elt2 tg2 : Expr} {ifs jfs ifs2 : List Expr} {scope scope2 : Scope} {pos pos2 : Pos} {wi wj : WI} {g gj g2 : WG} {t tt t2 : WT} {w w2 : WE} {vg ug vg2 : List Nat}
    (own : List (Str × Nat)) (us : List Nat) (own2 : List (Str × Nat)) (hc : X.calm = true) (hu : X.A.units + 64 < cLine) (hgl : Gl X "sorted") (hm : X.mg "sorted" = none) (hN : X.N.Nodup) (hy : X.N[i]? = some y) (hyl : X.env.scope.names.lookup y = some .local) (hvis : Vis X.env.scope y)
    (hsw : swapsWith (DS.two elt tg iter tj ij ifs jfs scope pos) (some (.Name y py)) spos.line X.env = pure true) (hi : DI X tg iter wi) (ok : BlkOk X.N X.env.scope scope own)
    (hg : ∀ (s : Shared) (H : Hp) (C : Addr) (cl : List (Str × Addr)) (fp : List Addr), DG (X.blk s H scope (compEnvC scope cl C X.env) fp) tg vg g)
    (ht : ∀ (s : Shared) (H : Hp) (C : Addr) (cl : List (Str × Addr)) (fp : List Addr), DTs (X.blk s H scope (compEnvC scope cl C X.env) fp) ifs t)
    (hj : ∀ (s : Shared) (H : Hp) (C : Addr) (cl : List (Str × Addr)) (fp : List Addr), DI (X.blk s H scope (compEnvC scope cl C X.env) fp) tj ij wj)
    (hgj : ∀ (s : Shared) (H : Hp) (C : Addr) (cl : List (Str × Addr)) (fp : List Addr), DG (X.blk s H scope (compEnvC scope cl C X.env) fp) tj ug gj)
    (htj : ∀ (s : Shared) (H : Hp) (C : Addr) (cl : List (Str × Addr)) (fp : List Addr), DTs (X.blk s H scope (compEnvC scope cl C X.env) fp) jfs tt)
    (he : ∀ (s : Shared) (H : Hp) (C : Addr) (cl : List (Str × Addr)) (fp : List Addr), DE (X.blk s H scope (compEnvC scope cl C X.env) fp) elt w)
    (ok2 : BlkOk X.N X.env.scope scope2 own2)
    (hg2 : ∀ (s : Shared) (H : Hp) (C : Addr) (cl : List (Str × Addr)) (fp : List Addr), DG (X.blk s H scope2 (compEnvC scope2 cl C X.env) fp) tg2 vg2 g2)
    (ht2 : ∀ (s : Shared) (H : Hp) (C : Addr) (cl : List (Str × Addr)) (fp : List Addr), DTs (X.blk s H scope2 (compEnvC scope2 cl C X.env) fp) ifs2 t2)
    (he2 : ∀ (s : Shared) (H : Hp) (C : Addr) (cl : List (Str × Addr)) (fp : List Addr), DE (X.blk s H scope2 (compEnvC scope2 cl C X.env) fp) elt2 w2)
    (hv : ∀ j ∈ vg, j ∈ own.map (·.2) := by decide) (hw : ∀ j ∈ ug, j ∈ us := by decide) (hus : ∀ j ∈ us, j ∈ own.map (·.2) := by decide) (hv2 : ∀ j ∈ vg2, j ∈ own2.map (·.2) := by decide) (hdn : (y == ("__debug__" : Str)) = false := by decide) (hcd : (y == ("__classdict__" : Str)) = false := by decide)
    (hs : ∀ x, foldedSetIterable iter X.env x = pure x := by intro _; rfl) (hsj : ∀ en x, foldedSetIterable ij en x = pure x := by intro _ _; rfl) (hs2 : ∀ x, foldedSetIterable (.Call (.Name "sorted" p) [.Name y p2] [] cpos) X.env x = pure x := by intro _; rfl) :
    DSs X [.Assign [.Name y py] (DS.two elt tg iter tj ij ifs jfs scope pos) spos, .Return (some (.ListComp elt2 [⟨tg2, .Call (.Name "sorted" p) [.Name y p2] [] cpos, ifs2, 0⟩] scope2 pos2)) rpos]
      (wSetSort i us gj tt w (own.map (·.2)) g t wi wj (own2.map (·.2)) g2 t2 w2) := by
  refine PSs.imp (pss_cons (DS.ps_setS2 (own := own) (us := us) (Z0 := fun a => DS.SI X.w a [] 0) (AD := DS.adI X.w) (wi := lI X.K wi) (wj := lI X.K wj) (g := lG X.K vg g) (gj := lG X.K ug gj) (tt := lT X.K t) (tt1 := lT X.K tt) (te := lE X.K w) hc hN hy hyl hsw DS.si_fresh DS.add_int hi ok hus hg ht hj hgj htj he hs hsj)
    (pss_one (ps_ret (pe_lc (own := own2) (g := lG X.K vg2 g2) (tt := lT X.K t2) (te := lE X.K w2) hc hN (pi_list (pe_sortV hc hu hgl hm hy hvis hdn hcd)) ok2 hg2 ht2 he2 hs2)))) fun D σ H ⟨F, G, δ, sd, D', en, o, hw', q⟩ => ?_
  refine ⟨F, G, δ, sd, _, en, o, hw', fun ds s1 h1 G1 H1 J e1 o1 jk Dd hD => ?_⟩
  obtain ⟨W, st, tr⟩ := s2_rows (skI X.w X.K) (en.mono e1) o1 jk h1 hv hw Dd hD
  refine ⟨W, st, fun i' m H w0 => ?_⟩
  rcases tr i' m H w0 with ⟨a, G2, s2, acc, o', e2, o2, hD2, ha, hil, few, so, hP⟩ | b
  · have hi2 : i < σ.length := by have := en.len; omega
    refine .inl ⟨a, Dd, F, G2, s2, acc, _, List.getElem?_set_self hi2, o2, ⟨o', hD2, ha⟩, few, so, hP, fun zs s3 h3 G3 H3 qa xs e3 o3 hq r3 => ?_⟩
    have hGq := o3.freeG hq
    refine ⟨qa, rfl, ⟨xs, .of upd_same⟩, fun L hL => ?_⟩
    have e4 := e1.trans (e2.trans (e3.trans (Ex.new (o := .lst xs) hGq)))
    refine lc_rows h3.1 ((en.hide i (.ref Dd)).mono e4) (o3.lay hq) (jok_list upd_same (r3.mono (Ex.new hGq))) h3.2 (fun ys s4 h4 G5 H5 pa vs5 e5 o5 hp5 r5 => ?_) hv2 L hL
    have hG5 := o5.freeG hp5
    exact q.rt _ s4 h4 _ _ _ (e4.trans (e5.trans (Ex.new hG5))) (o5.lay hp5) (.lst upd_same (r5.mono (Ex.new hG5)))
  · exact .inr b
end
end DL

set_option Elab.async false
set_option linter.all false
set_option autoImplicit false
set_option maxRecDepth 100000
set_option maxHeartbeats 4000000
namespace DL
open PySem PySem.Spec PyProof.Rows L2
open Evl (Ex)
/-! ### for k in d -/
def wiKeys (w : WE) : WI := fun δ s P => w δ s fun d s1 => match d with
  | .dct ks _ => P (ks.map keyD) s1
  | _ => False
theorem jok_keys {K : PySem.W.Frag} {G : Hp} {a : Addr} {o : Obj} {ks : List Key} {xs : List V} (h : G a = some (.frz o (.dK (ks.zip xs)))) (hl : ks.length = xs.length) : JOk K G (ks.map keyD) (Itk a o (ks.zip xs)) := by
  have hz : (ks.zip xs).length = ks.length := by rw [List.length_zip, ← hl, Nat.min_self]
  refine ⟨fun i F s G1 H e1 o1 hi => ?_, fun i F s G1 H e1 o1 hi => ⟨o1.ex _ _ (e1 _ _ h), by rw [List.length_map] at hi; omega⟩⟩
  rw [List.length_map] at hi
  refine ⟨⟨o1.ex _ _ (e1 _ _ h), by omega⟩, fun x H' ⟨e2, k, v, hk, ex⟩ => ?_⟩
  subst e2 ex
  have hk2 : ks[i]? = some k := by
    rw [List.getElem?_zip_eq_some] at hk
    exact hk.1
  refine ⟨keyD k, G1, by rw [List.getElem?_map, hk2]; rfl, Ex.refl _, o1, ?_⟩
  cases k
  · exact .int _
  · exact .str _
theorem di_keys {X : Cx} {tg e : Expr} {we : WE} (h : DE X e we) : DI X tg e (wiKeys we) :=
  PI.imp (pi_keys h) fun σ H R ⟨F, G, δ, s, P, en, o, hw, q⟩ => ⟨F, G, δ, s, _, en, o, hw, fun d s1 h1 G1 H1 v e1 o1 r1 => by
    split at h1 <;> first | exact h1.elim | skip
    cases r1 with
    | dct hx hl nd r => exact ⟨_, _, rfl, .inl ⟨_, o1.ex _ _ hx, q _ s1 h1 G1 H1 _ e1 o1 (jok_keys hx hl)⟩⟩⟩
/-! ### lists within a list: values from here on -/
def thawL (s : S) : List D → Option (List D × S)
  | [] => some ([], s)
  | .ref a :: rs => (match s.M a with
    | some (.lst ds) => (thawL (s.del a) rs).map fun r => (.lst ds :: r.1, r.2)
    | _ => none)
  | _ :: _ => none
def wFreezeN (i : Nat) (w : WS) : WS := fun D δ s => match δ[i]? with
  | some (some (.lst rs)) => (match thawL s rs with
    | some r => (∀ b n, s.dk = some (b, n) → ∀ a, DL.D.ref a ∈ rs → a ≠ b) ∧ w D (δ.set i (some (.lst r.1))) r.2
    | none => False)
  | _ => False
theorem thaw_own {K : PySem.W.Frag} {F H : Hp} : ∀ {rs : List D} {xs : List V} {s s' : S} {ds : List D} {G : Hp}, thawL s rs = some (ds, s') → RepL K G rs xs → Own K F s G H → (∀ b n, s.dk = some (b, n) → ∀ a, DL.D.ref a ∈ rs → a ≠ b) →
    ∃ G', Ex G G' ∧ Own K F s' G' H ∧ RepL K G' ds xs
  | [], _, s, _, _, G, h, r, o, _ => by cases h; cases r; exact ⟨G, Ex.refl _, o, .nil⟩
  | d :: rs, _, s, s', ds, G, h, .cons (v := v) r0 r, o, hd => by
    cases d <;> first | (cases h; done) | skip
    rename_i a
    unfold thawL at h
    split at h <;> first | (cases h; done) | skip
    rename_i es hm
    obtain ⟨⟨ds', s1⟩, h1, h2⟩ := Option.map_eq_some_iff.mp h
    cases h2
    cases r0
    obtain ⟨g0, ob, hp, xs, rfl, rx⟩ := o.mu a _ hm
    have hM : (s.del a).M a = none := by simp [S.del]
    have e1 : Ex G (upd G a (.lst xs)) := Ex.new g0
    have o1 : Own K F (s.del a) (upd G a (.lst xs)) H := (o.del a).frz hp (by cases qF : F a with | none => rfl | some u => rw [(o.fr a u qF).2.2] at hm; cases hm) g0 hM (fun b n hdk a1 mx k hb => ⟨hd b n hdk a (List.mem_cons_self ..), by
      obtain ⟨a1', cells, mixed, k', h1, h2, h3, h4, h5, h6, h7, _⟩ := (o.dk b n hdk).ex
      rw [h6] at hb; cases hb
      rintro rfl
      rw [h5] at hm; cases hm⟩)
    obtain ⟨G', e2, o2, r2⟩ := thaw_own h1 (r.mono e1) o1 fun b n hb a' ha' => hd b n hb a' (List.mem_cons_of_mem _ ha')
    exact ⟨G', e1.trans e2, o2, .cons (Rep.mono e2 (.lst upd_same (rx.mono e1))) r2⟩
theorem dss_freezeN {X : Cx} {sts : List Stmt} {w : WS} (i : Nat) (h : DSs X sts w) : DSs X sts (wFreezeN i w) :=
  PSs.imp h fun D σ H ⟨F, G, δ, s, D', en, o, hw, q⟩ => by
    unfold wFreezeN at hw
    split at hw <;> first | exact hw.elim | skip
    rename_i rs ha
    split at hw <;> first | exact hw.elim | skip
    rename_i r hr
    obtain ⟨v, hv, rv⟩ := en.at_ i _ ha
    cases rv with
    | lst hg rl =>
      rename_i a xs
      obtain ⟨G', e1, o1, r1⟩ := thaw_own hr rl o hw.1
      refine ⟨F, G', _, r.2, D', ?_, o1, hw.2, q.mono e1⟩
      have z := (en.mono e1).set (i := i) (d := .lst r.1) (v := .ref a) (.lst (e1 _ _ hg) r1)
      have ez : σ.set i (some (.ref a)) = σ := by
        apply List.ext_getElem?
        intro j
        by_cases hj : i = j
        · subst hj; rw [List.getElem?_set_self (List.getElem?_eq_some_iff.mp hv).1, hv]
        · rw [List.getElem?_set_ne hj]
      rw [ez] at z
      exact z
end DL

set_option Elab.async false
set_option linter.all false
set_option autoImplicit false
set_option maxRecDepth 100000
set_option maxHeartbeats 2000000
namespace DL
open PySem PySem.Spec PyProof.Rows L2
open Evl (Ex)
open PySem.W (dataLt alike)
/-! ### < of data of one shape; shifts, & -/
def LtOk (x y : D) : Prop := x.isData = true ∧ y.isData = true ∧ alike x.py y.py = true ∧ x.py ≠ .none ∧ min x.depth y.depth ≤ 60
def ltD (x y : D) : Bool := dataLt x.py y.py
def roLtD : R2D := fun x y s P => LtOk (view s x) (view s y) ∧ P (.bl (ltD (view s x) (view s y))) s
theorem sw_trueS {elt : Expr} {gs : List Comprehension} {scope : Scope} {pos py : Pos} {y : Str} {l : Nat} {env : Env} (hk : env.scope.kind = .function) (hy : env.scope.names.lookup y = some .local) (hl : (py.line == pos.line) = true)
    (ha : (scope.names.any fun (n, k) => n == y && (k == .local || k == .cell)) = false) : swapsWith (.SetComp elt gs scope pos) (some (.Name y py)) l env = pure true := by
  have ky : env.kindOf y = some .local := hy
  have hb : env.blockKind = .function := by unfold Env.blockKind; rw [hk]; rfl
  unfold swapsWith
  simp only [hb, ky, ha, Expr.pos, hl]
  rfl
section
variable {X : Cx}
theorem od_ltD (hu : X.A.units + 64 < cLine) : OpD X (compareOp .Lt) roLtD := by
  intro pins s σ H x y v u Q I rx ry ⟨F, G, s', d, e, P, o, rd, re, ⟨⟨h1, h2, h3, h4, h5⟩, hw⟩, q⟩
  obtain ⟨as, r1⟩ := Dp.reads I _ _ _ ((o.seen rd).dp h1) rx
  obtain ⟨bs, r2⟩ := Dp.reads I _ _ _ ((o.seen re).dp h2) ry
  exact PySem.W.lt_data r1 r2 h3 h4 (Nat.lt_of_le_of_lt (Nat.add_le_add_left h5 _) (by omega)) ⟨.bl _, H, I, rfl, q.val o hw (.bl _)⟩
abbrev roShl : R2D := roI CPow fun i j => .int (i * 2 ^ j.toNat)
abbrev roShr : R2D := roI (fun _ j => 0 ≤ j) fun i j => .int (i / 2 ^ j.toNat)
abbrev roBand : R2D := roI (fun _ _ => True) fun i j => .int (Builtin.bitAnd i j)
theorem od_shl : OpD X (binaryOp .LShift) roShl := OpD.ints (g := fun i j => i * 2 ^ j.toNat) op_shl
theorem od_shr : OpD X (binaryOp .RShift) roShr := OpD.ints (g := fun i j => i / 2 ^ j.toNat) op_shr
theorem od_band : OpD X (binaryOp .BitAnd) roBand := OpD.ints (g := fun i j => Builtin.bitAnd i j) (rI0_of op_and)
end
end DL

set_option Elab.async false
set_option linter.all false
set_option autoImplicit false
set_option maxRecDepth 100000
set_option maxHeartbeats 2000000
namespace LW
open PySem PySem.Spec PyProof.Rows DL
/-! ### groups grown alias by alias; pairs of parts -/
def prD (p : List Nat × List Nat) : D := .tup [natsT p.1, natsT p.2]
def nbs (n : Nat) (M : List (List Nat)) : List (List Nat) := (List.range n).map fun a => (M.filter fun cs => decide (a ∈ cs)).flatMap fun cs => cs.filter fun b => decide (b ≠ a)
def TOk (T : List (List Nat)) : Prop := T.length ≤ 6 ∧ ∀ t ∈ T, t.length ≤ 96 ∧ ∀ i ∈ t, i < 6
/-- the numbers below n in l, ascending -/
def asc (n : Nat) (l : List Nat) : List Nat := (List.range n).filter fun i => decide (i ∈ l)
def near (T : List (List Nat)) (g : List Nat) : List Nat := asc 6 ((g.flatMap fun a => T.getD a []).filter fun b => decide (b ∉ g))
def ext (T : List (List Nat)) (g : List Nat) : List (List Nat) := (near T g).map fun a => asc 6 (g ++ [a])
def restOf (g p : List Nat) : List Nat := g.filter fun a => decide (a ∉ p)
def parts (gs : List (List Nat)) (g : List Nat) : List (List Nat) := g.map (fun a => [a]) ++ gs.filter fun p => p.all fun a => decide (a ∈ g)
def pairs (gs : List (List Nat)) (g : List Nat) : List (List Nat × List Nat) := ((parts gs g).filter fun p => decide (restOf g p ∈ parts gs g) && ltD (rankD p) (rankD (restOf g p))).map fun p => (p, restOf g p)
/-- the aliases of g whose bit in k is b -/
def bitP (g : List Nat) (k b : Nat) : List Nat := ((List.range g.length).filter fun i => decide (k / 2 ^ i % 2 = b)).map fun i => g.getD i 0
def okPart (gs : List (List Nat)) (p : List Nat) : Bool := !(decide (1 < p.length) && decide (p ∉ gs))
def partedL (g : List Nat) (gs : List (List Nat)) : List (List Nat × List Nat) := ((List.range (2 ^ g.length - 2)).map fun k => (bitP g (k + 1) 1, bitP g (k + 1) 0)).filter fun p => okPart gs p.1 && okPart gs p.2 && ltD (rankD p.1) (rankD p.2)
def prK (p : List Nat × List Nat) : D := .tup [rankD p.1, prD p]
def parted (g : List Nat) (gs : List (List Nat)) : List (List Nat × List Nat) := (partedL g gs).mergeSort fun x y => leD (prK x) (prK y)
end LW

set_option Elab.async false
set_option linter.all false
set_option autoImplicit false
set_option maxRecDepth 100000
set_option maxHeartbeats 2000000
namespace LW
open PySem PySem.Spec PyProof.Rows DL
/-! ### ascending lists -/
theorem asc_mem {n i : Nat} {l : List Nat} : i ∈ asc n l ↔ i < n ∧ i ∈ l := by
  unfold asc; rw [List.mem_filter, List.mem_range, decide_eq_true_eq]
theorem asc_pw (n : Nat) (l : List Nat) : (asc n l).Pairwise (· < ·) := List.Pairwise.filter _ List.pairwise_lt_range
theorem pw_nodup {l : List Nat} (h : l.Pairwise (· < ·)) : l.Nodup := h.imp fun h => Nat.ne_of_lt h
theorem asc_perm {n : Nat} {l : List Nat} (nd : l.Nodup) (h : ∀ i ∈ l, i < n) : (asc n l).Perm l :=
  nodup_perm (pw_nodup (asc_pw n l)) nd fun x => by rw [asc_mem]; exact ⟨fun z => z.2, fun z => ⟨h x z, z⟩⟩
theorem pw_eq {l m : List Nat} (h1 : l.Pairwise (· < ·)) (h2 : m.Pairwise (· < ·)) (h : ∀ i, i ∈ l ↔ i ∈ m) : l = m :=
  sorted_same (le := fun x y => decide (x ≤ y)) (fun a b h1 h2 => by rw [decide_eq_true_eq] at h1 h2; omega) (nodup_perm (pw_nodup h1) (pw_nodup h2) h)
    (h1.imp fun h => decide_eq_true (Nat.le_of_lt h)) (h2.imp fun h => decide_eq_true (Nat.le_of_lt h))
theorem asc_self {n : Nat} {l : List Nat} (h : l.Pairwise (· < ·)) (hn : ∀ i ∈ l, i < n) : asc n l = l :=
  pw_eq (asc_pw n l) h fun i => by rw [asc_mem]; exact ⟨fun z => z.2, fun z => ⟨hn i z, z⟩⟩
theorem mem_subs : ∀ {n : Nat} {p : List Nat}, p ∈ subs n ↔ p.Pairwise (· < ·) ∧ ∀ i ∈ p, i < n
  | 0, p => by
    have e : subs 0 = [[]] := rfl
    rw [e, List.mem_singleton]
    exact ⟨fun h => by subst h; exact ⟨.nil, fun _ h => nomatch h⟩, fun ⟨_, h⟩ => List.eq_nil_iff_forall_not_mem.mpr fun i hi => absurd (h i hi) (Nat.not_lt_zero _)⟩
  | n + 1, p => by
    rw [subs_succ, List.mem_append, mem_subs, List.mem_map]
    constructor
    · rintro (⟨h1, h2⟩ | ⟨q, hq, rfl⟩)
      · exact ⟨h1, fun i hi => Nat.lt_succ_of_lt (h2 i hi)⟩
      · obtain ⟨h1, h2⟩ := mem_subs.mp hq
        refine ⟨List.pairwise_append.mpr ⟨h1, List.pairwise_singleton _ _, fun a ha b hb => ?_⟩, fun i hi => ?_⟩
        · rw [List.mem_singleton] at hb; subst hb; exact h2 a ha
        · rcases List.mem_append.mp hi with hi | hi
          · exact Nat.lt_succ_of_lt (h2 i hi)
          · rw [List.mem_singleton] at hi; omega
    · rintro ⟨h1, h2⟩
      by_cases hn : n ∈ p
      · refine .inr ⟨p.filter fun i => decide (i ≠ n), mem_subs.mpr ⟨h1.filter _, fun i hi => ?_⟩, ?_⟩
        · obtain ⟨k1, k2⟩ := List.mem_filter.mp hi
          have := h2 i k1
          have := of_decide_eq_true k2
          omega
        · refine pw_eq (List.pairwise_append.mpr ⟨h1.filter _, List.pairwise_singleton _ _, fun a ha b hb => ?_⟩) h1 fun i => ?_
          · rw [List.mem_singleton] at hb; subst hb
            obtain ⟨k1, k2⟩ := List.mem_filter.mp ha
            have := h2 a k1
            have := of_decide_eq_true k2
            omega
          · rw [List.mem_append, List.mem_filter, decide_eq_true_eq, List.mem_singleton]
            exact ⟨fun z => z.elim (fun z => z.1) fun z => z ▸ hn, fun z => if e : i = n then .inr e else .inl ⟨z, e⟩⟩
      · exact .inl ⟨h1, fun i hi => by have := h2 i hi; have : i ≠ n := fun e => hn (e ▸ hi); omega⟩
theorem subs_nodup : ∀ n : Nat, (subs n).Nodup
  | 0 => List.pairwise_singleton _ _
  | n + 1 => by
    rw [subs_succ]
    refine List.nodup_append.mpr ⟨subs_nodup n, ?_, fun a ha b hb => ?_⟩
    · rw [List.Nodup, List.pairwise_map]
      exact (subs_nodup n).imp fun h e => h (List.append_cancel_right e)
    · rintro rfl
      obtain ⟨q, _, rfl⟩ := List.mem_map.mp hb
      have := (mem_subs.mp ha).2 n (List.mem_append_right _ (List.mem_singleton.mpr rfl))
      omega
/-! ### sets of aliases that are connected -/
section
variable (M : List (List Nat))
def Adj (a b : Nat) : Prop := ∃ m ∈ M, a ∈ m ∧ b ∈ m
inductive Chn : List Nat → Prop
  | one (v : Nat) : Chn [v]
  | step {o : List Nat} {a b : Nat} : Chn o → a ∉ o → b ∈ o → Adj M a b → Chn (o ++ [a])
end
section
variable {M : List (List Nat)}
theorem Chn.nodup {o : List Nat} (h : Chn M o) : o.Nodup := by
  induction h with
  | one v => exact List.pairwise_singleton _ _
  | step _ ha _ _ ih =>
    refine List.nodup_append.mpr ⟨ih, List.pairwise_singleton _ _, fun x hx y hy => ?_⟩
    rintro rfl
    rw [List.mem_singleton] at hy; subst hy; exact ha hx
theorem Chn.ne {o : List Nat} (h : Chn M o) : o ≠ [] := by
  cases h
  · exact List.cons_ne_nil _ _
  · simp
theorem Chn.more {m : List Nat} (hm : m ∈ M) : ∀ {xs o : List Nat}, Chn M o → (∃ b ∈ o, b ∈ m) → xs.Nodup → (∀ x ∈ xs, x ∈ m ∧ x ∉ o) → Chn M (o ++ xs)
  | [], o, h, _, _, _ => by rw [List.append_nil]; exact h
  | x :: xs, o, h, ⟨b, hb, hbm⟩, nd, hx => by
    obtain ⟨n1, n2⟩ := List.nodup_cons.mp nd
    rw [List.append_cons]
    refine Chn.more hm (.step h (hx x List.mem_cons_self).2 hb ⟨m, hm, (hx x List.mem_cons_self).1, hbm⟩) ⟨b, List.mem_append_left _ hb, hbm⟩ n2 fun y hy => ⟨(hx y (List.mem_cons_of_mem _ hy)).1, fun z => ?_⟩
    rcases List.mem_append.mp z with z | z
    · exact (hx y (List.mem_cons_of_mem _ hy)).2 z
    · rw [List.mem_singleton] at z; subst z; exact n1 hy
def Good (M : List (List Nat)) (g met : List Nat) : Prop := Chn M met ∧ ∀ x ∈ met, x ∈ g
theorem good_met {g met cs : List Nat} (hcs : cs ∈ M) (nd : cs.Nodup) (h : Good M g met) : Good M g (metN g met cs) := by
  unfold metN
  split
  · rename_i hne
    obtain ⟨b, hb⟩ := List.exists_mem_of_ne_nil _ hne
    obtain ⟨b1, b2⟩ := List.mem_filter.mp hb
    refine ⟨h.1.more hcs ⟨b, of_decide_eq_true b2, b1⟩ (List.Pairwise.filter _ nd) fun x hx => ?_, fun x hx => ?_⟩
    · obtain ⟨x1, x2⟩ := List.mem_filter.mp hx
      rw [Bool.and_eq_true, decide_eq_true_eq, decide_eq_true_eq] at x2
      exact ⟨x1, x2.2⟩
    · rcases List.mem_append.mp hx with hx | hx
      · exact h.2 x hx
      · obtain ⟨x1, x2⟩ := List.mem_filter.mp hx
        rw [Bool.and_eq_true, decide_eq_true_eq] at x2
        exact x2.1
  · exact h
theorem met_pre (g : List Nat) : ∀ (N : List (List Nat)) (met : List Nat), ∃ ys, N.foldl (metN g) met = met ++ ys
  | [], met => ⟨[], (List.append_nil _).symm⟩
  | cs :: N, met => by
    obtain ⟨ys, e⟩ := met_pre g N (metN g met cs)
    rw [List.foldl_cons, e]
    unfold metN
    split
    · exact ⟨_, List.append_assoc _ _ _⟩
    · exact ⟨_, rfl⟩
theorem good_round {g : List Nat} : ∀ {N : List (List Nat)} {met : List Nat}, (∀ cs ∈ N, cs ∈ M ∧ cs.Nodup) → Good M g met → Good M g (N.foldl (metN g) met)
  | [], _, _, h => h
  | cs :: N, met, hN, h => good_round (N := N) (fun c hc => hN c (List.mem_cons_of_mem _ hc)) (good_met (hN cs List.mem_cons_self).1 (hN cs List.mem_cons_self).2 h)
theorem met_all {g : List Nat} : ∀ {N : List (List Nat)} {met cs : List Nat}, cs ∈ N → (∃ b ∈ cs, b ∈ met) → ∀ x ∈ cs, x ∈ g → x ∈ N.foldl (metN g) met
  | c :: N, met, cs, hc, ⟨b, hb, hbm⟩, x, hx, hg => by
    rcases List.mem_cons.mp hc with e | hc
    · subst e
      obtain ⟨ys, e⟩ := met_pre g N (metN g met cs)
      rw [List.foldl_cons, e]
      refine List.mem_append_left _ ?_
      unfold metN
      rw [if_pos (List.ne_nil_of_mem (List.mem_filter.mpr ⟨hb, decide_eq_true hbm⟩))]
      by_cases q : x ∈ met
      · exact List.mem_append_left _ q
      · exact List.mem_append_right _ (List.mem_filter.mpr ⟨hx, by rw [Bool.and_eq_true]; exact ⟨decide_eq_true hg, decide_eq_true q⟩⟩)
    · rw [List.foldl_cons]
      refine met_all hc ⟨b, hb, ?_⟩ x hx hg
      unfold metN
      split
      · exact List.mem_append_left _ hbm
      · exact hbm
def Closed (M : List (List Nat)) (g met : List Nat) : Prop := ∀ cs ∈ M, (∃ b ∈ cs, b ∈ met) → ∀ x ∈ cs, x ∈ g → x ∈ met
theorem rounds {g : List Nat} (hM : ∀ cs ∈ M, cs.Nodup) : ∀ {r : List Nat} {met : List Nat}, Good M g met → Good M g (r.foldl (fun met _ => M.foldl (metN g) met) met) ∧ (∀ x ∈ met, x ∈ r.foldl (fun met _ => M.foldl (metN g) met) met) ∧
    (Closed M g (r.foldl (fun met _ => M.foldl (metN g) met) met) ∨ met.length + r.length ≤ (r.foldl (fun met _ => M.foldl (metN g) met) met).length)
  | [], met, h => ⟨h, fun _ h => h, .inr (Nat.le_refl _)⟩
  | a :: r, met, h => by
    have h1 := good_round (N := M) (fun c hc => ⟨hc, hM c hc⟩) h
    obtain ⟨k1, k2, k3⟩ := rounds hM (r := r) h1
    obtain ⟨ys, e⟩ := met_pre g M met
    rw [List.foldl_cons]
    refine ⟨k1, fun x hx => k2 x (by rw [e]; exact List.mem_append_left _ hx), ?_⟩
    cases ys with
    | nil =>
      rw [List.append_nil] at e
      have c : Closed M g met := fun cs hcs hb x hx hg => by have := met_all hcs hb x hx hg; rw [e] at this; exact this
      have same : ∀ r : List Nat, r.foldl (fun met _ => M.foldl (metN g) met) met = met := fun r => by
        induction r with
        | nil => rfl
        | cons b r ih => rw [List.foldl_cons, e]; exact ih
      rw [e, same r]
      exact .inl c
    | cons y ys =>
      rcases k3 with k3 | k3
      · exact .inl k3
      · refine .inr (Nat.le_trans ?_ k3)
        rw [e, List.length_append, List.length_cons, List.length_cons]
        omega
theorem Chn.in {g S : List Nat} (hc : Closed M g S) {o : List Nat} (h : Chn M o) : (∀ x ∈ o, x ∈ g) → (∀ x ∈ o, x ∈ S) ∨ ∀ x ∈ o, x ∉ S := by
  induction h with
  | one v => intro _; by_cases q : v ∈ S
             · exact .inl fun x hx => by rw [List.mem_singleton] at hx; exact hx ▸ q
             · exact .inr fun x hx => by rw [List.mem_singleton] at hx; exact hx ▸ q
  | @step o a b _ ha hb hab ih =>
    intro hg
    obtain ⟨m, hm, am, bm⟩ := hab
    have ag : a ∈ g := hg a (List.mem_append_right _ (List.mem_singleton.mpr rfl))
    have bg : b ∈ g := hg b (List.mem_append_left _ hb)
    rcases ih (fun x hx => hg x (List.mem_append_left _ hx)) with h | h
    · refine .inl fun x hx => ?_
      rcases List.mem_append.mp hx with hx | hx
      · exact h x hx
      · rw [List.mem_singleton] at hx; subst hx; exact hc m hm ⟨b, bm, h b hb⟩ x am ag
    · refine .inr fun x hx hS => ?_
      rcases List.mem_append.mp hx with hx | hx
      · exact h x hx hS
      · rw [List.mem_singleton] at hx; subst hx; exact h b hb (hc m hm ⟨x, am, hS⟩ b bm bg)
theorem linked_iff {g : List Nat} (hM : ∀ cs ∈ M, cs.Nodup) (nd : g.Nodup) (hne : g ≠ []) : linked M g = true ↔ ∃ o, Chn M o ∧ o.Perm g := by
  obtain ⟨v, gr, rfl⟩ := List.exists_cons_of_ne_nil hne
  have g0 : Good M (v :: gr) [v] := ⟨.one v, fun x hx => by rw [List.mem_singleton] at hx; subst hx; exact List.mem_cons_self⟩
  obtain ⟨k1, k2, k3⟩ := rounds hM (r := v :: gr) g0
  have e : metAll M (v :: gr) = (v :: gr).foldl (fun met _ => M.foldl (metN (v :: gr)) met) [v] := rfl
  rw [← e] at k1 k2 k3
  have le := nodup_le k1.1.nodup k1.2
  unfold linked
  rw [decide_eq_true_eq]
  constructor
  · intro h
    refine ⟨_, k1.1, ?_⟩
    refine nodup_perm k1.1.nodup nd fun x => ⟨k1.2 x, fun hx => ?_⟩
    by_cases q : x ∈ metAll M (v :: gr)
    · exact q
    · have := nodup_le (List.nodup_cons.mpr ⟨q, k1.1.nodup⟩) fun y hy => by
        rcases List.mem_cons.mp hy with e | hy
        · exact e ▸ hx
        · exact k1.2 y hy
      rw [List.length_cons] at this
      omega
  · rintro ⟨o, ho, hp⟩
    have cl : Closed M (v :: gr) (metAll M (v :: gr)) := by
      rcases k3 with k3 | k3
      · exact k3
      · rw [List.length_singleton] at k3; omega
    have all : ∀ x ∈ o, x ∈ metAll M (v :: gr) := by
      rcases ho.in cl (fun x hx => hp.mem_iff.mp hx) with h | h
      · exact h
      · exact absurd (k2 v (List.mem_singleton.mpr rfl)) (h v (hp.mem_iff.mpr List.mem_cons_self))
    have := nodup_le nd fun x hx => all x (hp.mem_iff.mpr hx)
    omega
end
/-! ### layers of groups -/
section
variable {n : Nat} {M : List (List Nat)}
theorem mem_nbs {a b : Nat} (ha : a < n) : b ∈ (nbs n M).getD a [] ↔ b ≠ a ∧ Adj M a b := by
  unfold nbs
  rw [List.getD_eq_getElem?_getD, List.getElem?_map, List.getElem?_range ha]
  show b ∈ List.flatMap _ _ ↔ _
  rw [List.mem_flatMap]
  constructor
  · rintro ⟨m, hm, hb⟩
    obtain ⟨m1, m2⟩ := List.mem_filter.mp hm
    obtain ⟨b1, b2⟩ := List.mem_filter.mp hb
    exact ⟨of_decide_eq_true b2, m, m1, of_decide_eq_true m2, b1⟩
  · rintro ⟨h1, m, h2, h3, h4⟩
    exact ⟨m, List.mem_filter.mpr ⟨h2, decide_eq_true h3⟩, List.mem_filter.mpr ⟨h4, decide_eq_true h1⟩⟩
def Lay (n : Nat) (M : List (List Nat)) (k : Nat) (p : List Nat) : Prop := p ∈ subs n ∧ p.length = k ∧ linked M p = true
theorem mem_near {g : List Nat} {a : Nat} (hn : n ≤ 6) (hM : ∀ cs ∈ M, ∀ i ∈ cs, i < n) (hg : ∀ i ∈ g, i < n) : a ∈ near (nbs n M) g ↔ a ∉ g ∧ ∃ b ∈ g, Adj M a b := by
  unfold near
  rw [asc_mem, List.mem_filter, List.mem_flatMap, decide_eq_true_eq]
  constructor
  · rintro ⟨_, ⟨b, hb, h1⟩, h2⟩
    obtain ⟨_, m, h3, h4, h5⟩ := (mem_nbs (hg b hb)).mp h1
    exact ⟨h2, b, hb, m, h3, h5, h4⟩
  · rintro ⟨h1, b, hb, m, h2, h3, h4⟩
    have := hM m h2 a h3
    exact ⟨by omega, ⟨b, hb, (mem_nbs (hg b hb)).mpr ⟨fun e => h1 (e ▸ hb), m, h2, h4, h3⟩⟩, h1⟩
theorem mem_ext {g p : List Nat} (hn : n ≤ 6) (hM : ∀ cs ∈ M, ∀ i ∈ cs, i < n) (hg : ∀ i ∈ g, i < n) : p ∈ ext (nbs n M) g ↔ ∃ a, a ∉ g ∧ (∃ b ∈ g, Adj M a b) ∧ p = asc 6 (g ++ [a]) := by
  unfold ext
  rw [List.mem_map]
  exact ⟨fun ⟨a, h1, h2⟩ => ⟨a, ((mem_near hn hM hg).mp h1).1, ((mem_near hn hM hg).mp h1).2, h2.symm⟩, fun ⟨a, h1, h2, h3⟩ => ⟨a, (mem_near hn hM hg).mpr ⟨h1, h2⟩, h3.symm⟩⟩
theorem lay_one {p : List Nat} (hM : ∀ cs ∈ M, cs.Nodup) : Lay n M 1 p ↔ ∃ a, a < n ∧ p = [a] := by
  constructor
  · rintro ⟨h1, h2, _⟩
    obtain ⟨a, rfl⟩ := List.length_eq_one_iff.mp h2
    exact ⟨a, (mem_subs.mp h1).2 a List.mem_cons_self, rfl⟩
  · rintro ⟨a, ha, rfl⟩
    refine ⟨mem_subs.mpr ⟨List.pairwise_singleton _ _, fun i hi => ?_⟩, rfl, (linked_iff hM (List.pairwise_singleton _ _) (List.cons_ne_nil _ _)).mpr ⟨[a], .one a, .refl _⟩⟩
    rw [List.mem_singleton] at hi; omega
theorem lay_step {k : Nat} {p : List Nat} (hn : n ≤ 6) (hM : ∀ cs ∈ M, cs.Nodup) (hM2 : ∀ cs ∈ M, ∀ i ∈ cs, i < n) (hk : 1 ≤ k) : Lay n M (k + 1) p ↔ ∃ g, Lay n M k g ∧ p ∈ ext (nbs n M) g := by
  constructor
  · rintro ⟨h1, h2, h3⟩
    obtain ⟨s1, s2⟩ := mem_subs.mp h1
    have hp : p ≠ [] := fun e => by rw [e] at h2; cases h2
    obtain ⟨o, ho, hop⟩ := (linked_iff hM (pw_nodup s1) hp).mp h3
    cases ho with
    | one v => have := hop.length_eq; rw [List.length_singleton] at this; omega
    | @step o a b ho ha hb hab =>
      have ol : o.length = k := by have := hop.length_eq; rw [List.length_append, List.length_singleton] at this; omega
      have on : ∀ i ∈ o, i < n := fun i hi => s2 i (hop.mem_iff.mp (List.mem_append_left _ hi))
      have ap := asc_perm (n := 6) ho.nodup fun i hi => by have := on i hi; omega
      refine ⟨asc 6 o, ⟨mem_subs.mpr ⟨asc_pw _ _, fun i hi => on i (asc_mem.mp hi).2⟩, by rw [ap.length_eq]; exact ol, (linked_iff hM (pw_nodup (asc_pw _ _)) fun e => ?_).mpr ⟨o, ho, ap.symm⟩⟩,
        (mem_ext hn hM2 fun i hi => on i (asc_mem.mp hi).2).mpr ⟨a, fun z => ha (asc_mem.mp z).2, ⟨b, ap.mem_iff.mpr hb, hab⟩, ?_⟩⟩
      · rw [e] at ap; exact ho.ne (List.nil_perm.mp ap)
      · refine pw_eq s1 (asc_pw _ _) fun i => ?_
        rw [asc_mem, List.mem_append, ap.mem_iff, ← hop.mem_iff, List.mem_append]
        exact ⟨fun z => ⟨by have := s2 i (hop.mem_iff.mp (List.mem_append.mpr z)); omega, z⟩, fun z => z.2⟩
  · rintro ⟨g, ⟨h1, h2, h3⟩, hp⟩
    obtain ⟨s1, s2⟩ := mem_subs.mp h1
    obtain ⟨a, a1, ⟨b, hb, m, hm, am, bm⟩, rfl⟩ := (mem_ext hn hM2 s2).mp hp
    have an := hM2 m hm a am
    have nd : (g ++ [a]).Nodup := List.nodup_append.mpr ⟨pw_nodup s1, List.pairwise_singleton _ _, fun x hx y hy => by rintro rfl; rw [List.mem_singleton] at hy; subst hy; exact a1 hx⟩
    have lt : ∀ i ∈ g ++ [a], i < n := fun i hi => by
      rcases List.mem_append.mp hi with hi | hi
      · exact s2 i hi
      · rw [List.mem_singleton] at hi; omega
    have ap := asc_perm (n := 6) nd fun i hi => by have := lt i hi; omega
    have gne : g ≠ [] := List.ne_nil_of_mem hb
    obtain ⟨o, ho, hog⟩ := (linked_iff hM (pw_nodup s1) gne).mp h3
    refine ⟨mem_subs.mpr ⟨asc_pw _ _, fun i hi => lt i (asc_mem.mp hi).2⟩, by rw [ap.length_eq, List.length_append, List.length_singleton, h2], (linked_iff hM (pw_nodup (asc_pw _ _)) fun e => ?_).mpr ⟨o ++ [a], .step ho (fun z => a1 (hog.mem_iff.mp z)) (hog.mem_iff.mpr hb) ⟨m, hm, am, bm⟩, (hog.append_right [a]).trans ap.symm⟩⟩
    rw [e] at ap
    have := List.nil_perm.mp ap
    simp at this
end
end LW

set_option Elab.async false
set_option linter.all false
set_option autoImplicit false
set_option maxRecDepth 100000
set_option maxHeartbeats 2000000
namespace LW
open PySem PySem.Spec PyProof.Rows DL
open PySem.W (dataLt alike alikeAll keyToks keyToksAll dataLt_pair dataLt_int dataLt_tuple dataLt_cons)
/-! ### the order of ranks -/
theorem leD_lt (x y : D) : leD x y = !ltD y x := rfl
theorem ltD_le (x y : D) : ltD x y = !leD y x := by rw [leD_lt, Bool.not_not]
theorem py_rank (g : List Nat) : (rankD g).py = .tuple [.int (g.length : Int), (natsT g).py] := rfl
theorem alike_T (g h : List Nat) : alike (natsT g).py (natsT h).py = true := alike_nats g h
theorem toks_nats : ∀ {l m : List Nat}, keyToksAll (D.pys (l.map natD)) = keyToksAll (D.pys (m.map natD)) → l = m
  | [], [], _ => rfl
  | [], b :: m, h => by
    have h : [Sum.inl 0] = Sum.inl 1 :: (keyToks (natD b).py ++ keyToksAll (D.pys (m.map natD))) := h
    injection h with h1 _; injection h1 with h1; cases h1
  | a :: l, [], h => by
    have h : Sum.inl 1 :: (keyToks (natD a).py ++ keyToksAll (D.pys (l.map natD))) = [Sum.inl 0] := h
    injection h with h1 _; injection h1 with h1; cases h1
  | a :: l, b :: m, h => by
    have h : (Sum.inl 1 :: Sum.inl (a : Int) :: keyToksAll (D.pys (l.map natD)) : List (Int ⊕ List Nat)) = Sum.inl 1 :: Sum.inl (b : Int) :: keyToksAll (D.pys (m.map natD)) := h
    injection h with _ h
    injection h with h1 h2
    injection h1 with h1
    rw [toks_nats h2, Int.ofNat_inj.mp h1]
theorem toks_natsT {l m : List Nat} (h : keyToks (natsT l).py = keyToks (natsT m).py) : l = m := toks_nats h
theorem rank_anti {a b : List Nat} (h1 : leD (rankD a) (rankD b) = true) (h2 : leD (rankD b) (rankD a) = true) : a = b := by
  have h := leD_anti h1 h2
  have e : ∀ g : List Nat, keyToks (rankD g).py = .inl 1 :: .inl (g.length : Int) :: .inl 1 :: (keyToks (natsT g).py ++ [.inl 0]) := fun _ => rfl
  rw [e, e] at h
  injection h with _ h
  injection h with _ h
  injection h with _ h
  exact toks_natsT (List.append_cancel_right h)
theorem eqv_T {a b : List Nat} : PyData.eqv (natsT a).py (natsT b).py = true ↔ a = b := by
  have := (same_tup same_nat fun x => Nat.zero_le _).eq a b
  exact this
theorem ltD_rank (a b : List Nat) : ltD (rankD a) (rankD b) = if a.length = b.length then ltD (natsT a) (natsT b) else decide (a.length < b.length) := by
  show dataLt (.tuple [.int (a.length : Int), (natsT a).py]) (.tuple [.int (b.length : Int), (natsT b).py]) = _
  rw [dataLt_pair (by simp [alike]) (alike_T a b), dataLt_int]
  have e : PyData.eqv (.int (a.length : Int)) (.int (b.length : Int)) = decide (a.length = b.length) := by
    simp only [PyData.eqv]
    rw [Bool.eq_iff_iff, beq_iff_eq, decide_eq_true_eq]
    omega
  rw [e]
  by_cases q : a.length = b.length
  · rw [if_pos (decide_eq_true q), if_pos q]
    by_cases r : PyData.eqv (natsT a).py (natsT b).py = true
    · rw [if_pos r, eqv_T.mp r]
      exact (PyProof.Rows.lex_irrefl (O := PyProof.Rows.itemOrd) _).symm
    · rw [if_neg r]; rfl
  · rw [if_neg (by simpa using q), if_neg q]
    exact decide_eq_decide.mpr (by omega)
theorem ltD_T : ∀ a b : List Nat, ltD (natsT a) (natsT b) = decide (a < b) := fun a b => by
  show dataLt (.tuple (D.pys (a.map natD))) (.tuple (D.pys (b.map natD))) = _
  rw [dataLt_tuple]
  have e : ∀ l : List Nat, D.pys (l.map natD) = (l.map fun (i : Nat) => (i : Int)).map .int := fun l => by
    induction l with
    | nil => rfl
    | cons x l ih => show (natD x).py :: D.pys (l.map natD) = _; rw [ih]; rfl
  rw [e, e]
  have h := PySem.W.dataLt_ints (a.map fun (i : Nat) => (i : Int)) (b.map fun (i : Nat) => (i : Int))
  unfold PySem.W.rowLt at h
  rw [h]
  refine decide_eq_decide.mpr ?_
  clear h e
  induction a generalizing b with
  | nil => cases b <;> simp
  | cons x a ih =>
    cases b with
    | nil => simp
    | cons y b =>
      have ihb := ih b
      simp only [List.map_cons, List.cons_lt_cons_iff]
      rw [ihb]
      constructor
      · rintro (z | ⟨z1, z2⟩)
        · exact .inl (by omega)
        · exact .inr ⟨by omega, z2⟩
      · rintro (z | ⟨z1, z2⟩)
        · exact .inl (by omega)
        · exact .inr ⟨by omega, z2⟩
/-! ### pairs of parts -/
theorem le_prK (g a b : List Nat) : leD (prK (a, restOf g a)) (prK (b, restOf g b)) = leD (rankD a) (rankD b) := by
  rw [leD_lt, leD_lt]
  congr 1
  show dataLt (.tuple [(rankD b).py, (prD (b, restOf g b)).py]) (.tuple [(rankD a).py, (prD (a, restOf g a)).py]) = _
  have al : alike (rankD b).py (rankD a).py = true := by
    show (true && (alikeAll (D.pys (b.map natD)) (D.pys (a.map natD)) && true)) = true
    rw [alike_nats]; rfl
  have al2 : alike (prD (b, restOf g b)).py (prD (a, restOf g a)).py = true := by
    show (alikeAll (D.pys (b.map natD)) (D.pys (a.map natD)) && (alikeAll (D.pys ((restOf g b).map natD)) (D.pys ((restOf g a).map natD)) && true)) = true
    rw [alike_nats, alike_nats]; rfl
  rw [dataLt_pair al al2]
  by_cases q : a = b
  · subst q
    have e : ∀ x : PyData, dataLt x x = false := fun x => PyProof.Rows.lex_irrefl (O := PyProof.Rows.itemOrd) _
    unfold ltD
    rw [e, e, ite_self, ite_self]
  · have ne : ¬ PyData.eqv (rankD b).py (rankD a).py = true := fun z => by
      have z : (PyData.eqv (.int (b.length : Int)) (.int (a.length : Int)) && (PyData.eqv (natsT b).py (natsT a).py && true)) = true := z
      rw [Bool.and_eq_true, Bool.and_eq_true] at z
      exact q (eqv_T.mp z.2.1).symm
    rw [if_neg ne]; rfl
theorem rest_mem {g p : List Nat} {x : Nat} : x ∈ restOf g p ↔ x ∈ g ∧ x ∉ p := by
  unfold restOf; rw [List.mem_filter, decide_eq_true_eq]
theorem bits_ex : ∀ (n : Nat) (f : Nat → Bool), ∃ k, k < 2 ^ n ∧ ∀ i, i < n → (k / 2 ^ i % 2 = 1 ↔ f i = true)
  | 0, _ => ⟨0, by decide, fun i hi => absurd hi (Nat.not_lt_zero _)⟩
  | n + 1, f => by
    obtain ⟨k, h1, h2⟩ := bits_ex n fun i => f (i + 1)
    refine ⟨2 * k + (f 0).toNat, ?_, fun i hi => ?_⟩
    · have := Bool.toNat_lt (f 0)
      rw [Nat.pow_succ]; omega
    · have b := Bool.toNat_lt (f 0)
      cases i with
      | zero =>
        rw [Nat.pow_zero, Nat.div_one]
        cases f 0 <;> simp <;> omega
      | succ i =>
        rw [Nat.pow_succ, Nat.mul_comm (2 ^ i) 2, ← Nat.div_div_eq_div_mul, show (2 * k + (f 0).toNat) / 2 = k by omega]
        exact h2 i (by omega)
theorem bits_eq {n k l : Nat} (hk : k < 2 ^ n) (hl : l < 2 ^ n) (h : ∀ i, i < n → (k / 2 ^ i % 2 = 1 ↔ l / 2 ^ i % 2 = 1)) : k = l := by
  refine Nat.eq_of_testBit_eq fun i => ?_
  by_cases hi : i < n
  · rw [Nat.testBit_eq_decide_div_mod_eq, Nat.testBit_eq_decide_div_mod_eq]
    exact decide_eq_decide.mpr (h i hi)
  · have := Nat.pow_le_pow_right (n := 2) (by omega) (Nat.le_of_not_lt hi)
    rw [Nat.testBit_lt_two_pow (by omega), Nat.testBit_lt_two_pow (by omega)]
theorem bits_full {n i : Nat} (hi : i < n) : (2 ^ n - 1) / 2 ^ i % 2 = 1 := by
  have := Nat.testBit_two_pow_sub_one n i
  rw [Nat.testBit_eq_decide_div_mod_eq, decide_eq_decide] at this
  exact this.mpr hi
section
variable {g : List Nat} (pw : g.Pairwise (· < ·))
include pw
theorem mem_bit {k b x : Nat} : x ∈ bitP g k b ↔ ∃ i, ∃ h : i < g.length, k / 2 ^ i % 2 = b ∧ g[i] = x := by
  unfold bitP
  rw [List.mem_map]
  constructor
  · rintro ⟨i, hi, rfl⟩
    obtain ⟨h1, h2⟩ := List.mem_filter.mp hi
    have h1 := List.mem_range.mp h1
    exact ⟨i, h1, of_decide_eq_true h2, by rw [List.getD_eq_getElem?_getD, List.getElem?_eq_getElem h1]; rfl⟩
  · rintro ⟨i, h1, h2, rfl⟩
    exact ⟨i, List.mem_filter.mpr ⟨List.mem_range.mpr h1, decide_eq_true h2⟩, by rw [List.getD_eq_getElem?_getD, List.getElem?_eq_getElem h1]; rfl⟩
theorem bit_pw (k b : Nat) : (bitP g k b).Pairwise (· < ·) := by
  unfold bitP
  rw [List.pairwise_map]
  refine List.Pairwise.imp_of_mem (R := (· < ·)) (fun {i j} hi hj h => ?_) (List.Pairwise.filter _ List.pairwise_lt_range)
  have h1 := List.mem_range.mp (List.mem_filter.mp hi).1
  have h2 := List.mem_range.mp (List.mem_filter.mp hj).1
  rw [List.getD_eq_getElem?_getD, List.getElem?_eq_getElem h1, List.getD_eq_getElem?_getD, List.getElem?_eq_getElem h2]
  exact List.pairwise_iff_getElem.mp pw i j h1 h2 h
theorem bit_rest (k : Nat) : bitP g k 0 = restOf g (bitP g k 1) := by
  refine pw_eq (bit_pw pw k 0) (pw.filter _) fun x => ?_
  rw [mem_bit pw, rest_mem, mem_bit pw]
  constructor
  · rintro ⟨i, h1, h2, rfl⟩
    refine ⟨List.getElem_mem _, ?_⟩
    rintro ⟨j, h3, h4, h5⟩
    have := nodup_inj (pw_nodup pw) h3 h1 h5
    subst this
    omega
  · rintro ⟨h1, h2⟩
    obtain ⟨i, h3, rfl⟩ := List.getElem_of_mem h1
    refine ⟨i, h3, ?_, rfl⟩
    by_cases q : k / 2 ^ i % 2 = 1
    · exact absurd ⟨i, h3, q, rfl⟩ h2
    · omega
theorem bit_inj {k l : Nat} (hk : k < 2 ^ g.length) (hl : l < 2 ^ g.length) (h : bitP g k 1 = bitP g l 1) : k = l := by
  have m : ∀ k i, (hi : i < g.length) → (k / 2 ^ i % 2 = 1 ↔ g[i] ∈ bitP g k 1) := fun k i hi => by
    rw [mem_bit pw]
    refine ⟨fun q => ⟨i, hi, q, rfl⟩, ?_⟩
    rintro ⟨j, h3, h4, h5⟩
    have := nodup_inj (pw_nodup pw) h3 hi h5
    subst this
    exact h4
  exact bits_eq hk hl fun i hi => by rw [m k i hi, m l i hi, h]
/-- every part of g but none and all -/
theorem mem_bits {p : List Nat} : (∃ k, k < 2 ^ g.length - 2 ∧ p = bitP g (k + 1) 1) ↔ p.Pairwise (· < ·) ∧ (∀ x ∈ p, x ∈ g) ∧ p ≠ [] ∧ restOf g p ≠ [] := by
  have p2 : 0 < 2 ^ g.length := Nat.two_pow_pos _
  constructor
  · rintro ⟨k, hk, rfl⟩
    refine ⟨bit_pw pw _ _, fun x hx => ?_, fun e => ?_, fun e => ?_⟩
    · obtain ⟨i, h1, _, rfl⟩ := (mem_bit pw).mp hx
      exact List.getElem_mem _
    · have : bitP g 0 1 = [] := List.eq_nil_iff_forall_not_mem.mpr fun x hx => by
        obtain ⟨i, _, h, _⟩ := (mem_bit pw).mp hx
        rw [Nat.zero_div] at h; cases h
      have := bit_inj pw (k := k + 1) (l := 0) (by omega) p2 (by rw [e, this])
      omega
    · rw [← bit_rest pw] at e
      have : k + 1 = 2 ^ g.length - 1 := bits_eq (n := g.length) (by omega) (by omega) fun i hi => by
        refine ⟨fun _ => bits_full hi, fun _ => ?_⟩
        by_cases q : (k + 1) / 2 ^ i % 2 = 1
        · exact q
        · have : g[i] ∈ bitP g (k + 1) 0 := (mem_bit pw).mpr ⟨i, hi, by omega, rfl⟩
          rw [e] at this; cases this
      omega
  · rintro ⟨h1, h2, h3, h4⟩
    obtain ⟨k, k1, k2⟩ := bits_ex g.length fun i => decide (g.getD i 0 ∈ p)
    have k3 : ∀ i (hi : i < g.length), (k / 2 ^ i % 2 = 1 ↔ g[i] ∈ p) := fun i hi => by
      have e : g.getD i 0 = g[i] := by rw [List.getD_eq_getElem?_getD, List.getElem?_eq_getElem hi]; rfl
      rw [k2 i hi, decide_eq_true_eq, e]
    have e : p = bitP g k 1 := pw_eq h1 (bit_pw pw _ _) fun x => by
      rw [mem_bit pw]
      constructor
      · intro hx
        obtain ⟨i, hi, rfl⟩ := List.getElem_of_mem (h2 x hx)
        exact ⟨i, hi, (k3 i hi).mpr hx, rfl⟩
      · rintro ⟨i, hi, q, rfl⟩
        exact (k3 i hi).mp q
    have n0 : k ≠ 0 := by
      rintro rfl
      obtain ⟨x, hx⟩ := List.exists_mem_of_ne_nil _ h3
      rw [e] at hx
      obtain ⟨i, _, h, _⟩ := (mem_bit pw).mp hx
      rw [Nat.zero_div] at h; cases h
    have n1 : k ≠ 2 ^ g.length - 1 := by
      intro hk
      obtain ⟨x, hx⟩ := List.exists_mem_of_ne_nil _ h4
      rw [e, ← bit_rest pw] at hx
      obtain ⟨i, hi, h, _⟩ := (mem_bit pw).mp hx
      rw [hk, bits_full hi] at h; cases h
    exact ⟨k - 1, by omega, by rw [e]; congr 1; omega⟩
end
end LW

set_option Elab.async false
set_option linter.all false
set_option autoImplicit false
set_option maxRecDepth 100000
set_option maxHeartbeats 2000000
namespace LW
open PySem PySem.Spec PyProof.Rows DL
theorem mem_parts {gs : List (List Nat)} {g l : List Nat} : l ∈ parts gs g ↔ (∃ a ∈ g, l = [a]) ∨ l ∈ gs ∧ ∀ x ∈ l, x ∈ g := by
  unfold parts
  rw [List.mem_append, List.mem_map, List.mem_filter, List.all_eq_true]
  simp only [decide_eq_true_eq]
  exact ⟨fun h => h.imp (fun ⟨a, h1, h2⟩ => ⟨a, h1, h2.symm⟩) id, fun h => h.imp (fun ⟨a, h1, h2⟩ => ⟨a, h1, h2.symm⟩) id⟩
section
variable {g : List Nat} {gs : List (List Nat)} (h2 : ∀ p ∈ gs, p.Pairwise (· < ·) ∧ 1 < p.length)
include h2
theorem parts_ok {l : List Nat} : l ∈ parts gs g ↔ (l.Pairwise (· < ·) ∧ (∀ x ∈ l, x ∈ g) ∧ l ≠ []) ∧ okPart gs l = true := by
  rw [mem_parts]
  unfold okPart
  rw [Bool.not_eq_true', Bool.and_eq_false_iff, decide_eq_false_iff_not, decide_eq_false_iff_not]
  constructor
  · rintro (⟨a, ha, rfl⟩ | ⟨h, hx⟩)
    · refine ⟨⟨List.pairwise_singleton _ _, fun x hx => ?_, List.cons_ne_nil _ _⟩, .inl (by simp)⟩
      rw [List.mem_singleton] at hx; exact hx ▸ ha
    · refine ⟨⟨(h2 l h).1, hx, fun e => ?_⟩, .inr (fun z => z h)⟩
      have := (h2 l h).2
      rw [e] at this; cases this
  · rintro ⟨⟨p1, p2, p3⟩, h⟩
    obtain ⟨a, l, rfl⟩ := List.exists_cons_of_ne_nil p3
    cases l with
    | nil => exact .inl ⟨a, p2 a List.mem_cons_self, rfl⟩
    | cons b l =>
      rcases h with h | h
      · exact absurd (show 1 < (a :: b :: l).length by simp) h
      · exact .inr ⟨Decidable.not_not.mp h, p2⟩
theorem parts_nodup (pw : g.Pairwise (· < ·)) (nd : gs.Nodup) : (parts gs g).Nodup := by
  unfold parts
  refine List.nodup_append.mpr ⟨?_, List.Pairwise.filter _ nd, fun a ha b hb => ?_⟩
  · rw [List.Nodup, List.pairwise_map]
    exact pw.imp fun h e => by injection e; omega
  · rintro rfl
    obtain ⟨x, _, rfl⟩ := List.mem_map.mp ha
    have := (h2 _ (List.mem_filter.mp hb).1).2
    simp at this
theorem parts_sorted (pw : g.Pairwise (· < ·)) (hs : gs.Pairwise fun x y => leD (rankD x) (rankD y) = true) : (parts gs g).Pairwise fun x y => leD (rankD x) (rankD y) = true := by
  unfold parts
  refine List.pairwise_append.mpr ⟨?_, hs.filter _, fun a ha b hb => ?_⟩
  · rw [List.pairwise_map]
    refine pw.imp fun {a b} h => ?_
    rw [leD_lt, ltD_rank, if_pos (show [b].length = [a].length from rfl), ltD_T]
    have : ¬ [b] < [a] := fun z => by
      rw [List.cons_lt_cons_iff] at z
      rcases z with z | ⟨z, _⟩ <;> omega
    rw [decide_eq_false this]; rfl
  · obtain ⟨x, _, rfl⟩ := List.mem_map.mp ha
    have := (h2 _ (List.mem_filter.mp hb).1).2
    rw [leD_lt, ltD_rank, if_neg (by rw [List.length_singleton]; omega), decide_eq_false (by rw [List.length_singleton]; omega)]; rfl
theorem parted_eq (pw : g.Pairwise (· < ·)) (nd : gs.Nodup) (hs : gs.Pairwise fun x y => leD (rankD x) (rankD y) = true) : parted g gs = pairs gs g := by
  obtain ⟨LL, hL⟩ : ∃ LL, LL = ((List.range (2 ^ g.length - 2)).map fun k => bitP g (k + 1) 1).filter fun l => okPart gs l && okPart gs (restOf g l) && ltD (rankD l) (rankD (restOf g l)) := ⟨_, rfl⟩
  have e1 : partedL g gs = LL.map fun l => (l, restOf g l) := by
    unfold partedL
    rw [hL, show (fun k => (bitP g (k + 1) 1, bitP g (k + 1) 0)) = (fun l => (l, restOf g l)) ∘ fun k => bitP g (k + 1) 1 from funext fun k => by rw [bit_rest pw]; rfl, ← List.map_map, List.filter_map]
    rfl
  unfold parted pairs
  rw [e1, ← List.map_mergeSort (r := fun x y => leD (rankD x) (rankD y)) (s := fun x y => leD (prK x) (prK y)) (f := fun l => (l, restOf g l)) (fun a _ b _ => (le_prK g a b).symm)]
  congr 1
  refine sorted_same (le := fun x y => leD (rankD x) (rankD y)) (fun a b => rank_anti) ((List.mergeSort_perm _ _).trans ?_) (List.pairwise_mergeSort (le := fun x y => leD (rankD x) (rankD y)) (fun a b c => leD_trans _ _ _) (fun a b => leD_total _ _) _) ((parts_sorted h2 pw hs).filter _)
  have p2 : 0 < 2 ^ g.length := Nat.two_pow_pos _
  refine nodup_perm ?_ ((parts_nodup h2 pw nd).filter _) fun l => ?_
  · rw [hL]
    refine List.Pairwise.filter _ ?_
    rw [List.pairwise_map]
    refine List.Pairwise.imp_of_mem (R := (· < ·)) (fun {i j} hi hj h e => ?_) List.pairwise_lt_range
    have := List.mem_range.mp hi
    have := List.mem_range.mp hj
    have := bit_inj pw (k := i + 1) (l := j + 1) (by omega) (by omega) e
    omega
  · rw [hL, List.mem_filter, List.mem_map, List.mem_filter, Bool.and_eq_true, Bool.and_eq_true, Bool.and_eq_true, decide_eq_true_eq, parts_ok h2, parts_ok h2]
    have mb : (∃ k ∈ List.range (2 ^ g.length - 2), bitP g (k + 1) 1 = l) ↔ _ := Iff.trans ⟨fun ⟨k, h1, h2⟩ => ⟨k, List.mem_range.mp h1, h2.symm⟩, fun ⟨k, h1, h2⟩ => ⟨k, List.mem_range.mpr h1, h2.symm⟩⟩ (mem_bits pw (p := l))
    rw [mb]
    constructor
    · rintro ⟨⟨a1, a2, a3, a4⟩, ⟨b1, b2⟩, b3⟩
      exact ⟨⟨⟨a1, a2, a3⟩, b1⟩, ⟨⟨pw.filter _, fun x hx => (rest_mem.mp hx).1, a4⟩, b2⟩, b3⟩
    · rintro ⟨⟨⟨a1, a2, a3⟩, b1⟩, ⟨⟨_, _, a4⟩, b2⟩, b3⟩
      exact ⟨⟨a1, a2, a3, a4⟩, ⟨b1, b2⟩, b3⟩
end
theorem grps_sorted (n : Nat) (M : List (List Nat)) : (grps n M).Pairwise fun x y => leD (rankD x) (rankD y) = true :=
  List.pairwise_mergeSort (le := fun x y => leD (rankD x) (rankD y)) (fun a b c => leD_trans _ _ _) (fun a b => leD_total _ _) _
theorem mem_grps {n : Nat} {M : List (List Nat)} {g : List Nat} : g ∈ grps n M ↔ g ∈ subs n ∧ 1 < g.length ∧ linked M g = true := by
  unfold grps
  rw [List.mem_mergeSort, List.mem_filter, Bool.and_eq_true, decide_eq_true_eq]
theorem grps_nodup (n : Nat) (M : List (List Nat)) : (grps n M).Nodup := (List.mergeSort_perm _ _).nodup_iff.mpr (List.Pairwise.filter _ (subs_nodup n))
/-- what has just the groups, once each, is sorted to them -/
theorem grps_of {n : Nat} {M F : List (List Nat)} (nd : F.Nodup) (h : ∀ p, p ∈ F ↔ p ∈ subs n ∧ 1 < p.length ∧ linked M p = true) : (F.mergeSort fun x y => leD (rankD x) (rankD y)) = grps n M :=
  sorted_same (le := fun x y => leD (rankD x) (rankD y)) (fun a b => rank_anti) ((List.mergeSort_perm _ _).trans (nodup_perm nd (grps_nodup n M) fun p => (h p).trans mem_grps.symm)) (List.pairwise_mergeSort (le := fun x y => leD (rankD x) (rankD y)) (fun a b c => leD_trans _ _ _) (fun a b => leD_total _ _) _) (grps_sorted n M)
theorem grps_pairs {n : Nat} {M : List (List Nat)} {g : List Nat} (hg : g ∈ grps n M) : parted g (grps n M) = pairs (grps n M) g :=
  parted_eq (fun p hp => ⟨(mem_subs.mp (mem_grps.mp hp).1).1, (mem_grps.mp hp).2.1⟩) (mem_subs.mp (mem_grps.mp hg).1).1 (grps_nodup n M) (grps_sorted n M)
end LW

set_option Elab.async false
set_option linter.all false
set_option autoImplicit false
set_option maxRecDepth 100000
set_option maxHeartbeats 2000000
namespace LW
open PySem PySem.Spec PyProof.Rows DL
/-! ### questions whose aliases are tied one by one -/
def Tied (q : Ask) : Prop := ∀ k, 1 ≤ k → k < q.src.length → ∃ e ∈ q.eqs, (q.al.idxOf e.1.1 = k ∧ q.al.idxOf e.2.1 < k) ∨ (q.al.idxOf e.2.1 = k ∧ q.al.idxOf e.1.1 < k)
theorem mem_foldg {a b c : Col} : ∀ {F : List (List Col)} {t : List Col}, (c ∈ t ∨ ∃ cs ∈ F, hitB a b cs = true ∧ c ∈ cs) → c ∈ F.foldl (grow1 a b) t
  | [], t, h => by
    rcases h with h | ⟨_, h, _⟩
    · exact h
    · cases h
  | cs :: F, t, h => by
    rw [List.foldl_cons]
    refine mem_foldg ?_
    have k : ∀ x ∈ t, x ∈ grow1 a b t cs := fun x hx => by
      unfold grow1
      split
      · exact List.mem_append_left _ hx
      · exact hx
    rcases h with h | ⟨ds, hd, h1, h2⟩
    · exact .inl (k c h)
    · rcases List.mem_cons.mp hd with e | hd
      · subst e
        refine .inl ?_
        by_cases q : c ∈ t
        · exact k c q
        · unfold grow1
          rw [if_pos h1]
          exact List.mem_append_right _ (List.mem_filter.mpr ⟨h2, decide_eq_true q⟩)
      · exact .inr ⟨ds, hd, h1, h2⟩
theorem withEq_keep {F : List (List Col)} {a b : Col} {cs : List Col} (h : cs ∈ F) : ∃ ds ∈ withEq F a b, ∀ c ∈ cs, c ∈ ds := by
  unfold withEq
  by_cases q : hitB a b cs = true
  · exact ⟨_, List.mem_append_right _ (List.mem_singleton.mpr rfl), fun c hc => mem_foldg (.inr ⟨cs, h, q, hc⟩)⟩
  · exact ⟨cs, List.mem_append_left _ (List.mem_filter.mpr ⟨h, by simpa using q⟩), fun c hc => hc⟩
theorem cls_tie {es : List (Col × Col)} {e : Col × Col} (h : e ∈ es) : ∃ cs ∈ clsOf es, e.1 ∈ cs ∧ e.2 ∈ cs := by
  unfold clsOf
  suffices H : ∀ (es : List (Col × Col)) (F : List (List Col)), (e ∈ es ∨ ∃ cs ∈ F, e.1 ∈ cs ∧ e.2 ∈ cs) → ∃ cs ∈ es.foldl (fun F e => withEq F e.1 e.2) F, e.1 ∈ cs ∧ e.2 ∈ cs from H es [] (.inl h)
  intro es
  induction es with
  | nil => intro F h; exact h.elim (fun z => nomatch z) id
  | cons d es ih =>
    intro F h
    rw [List.foldl_cons]
    refine ih _ ?_
    rcases h with h | ⟨cs, hc, h1, h2⟩
    · rcases List.mem_cons.mp h with z | h
      · subst z
        exact .inr ⟨_, List.mem_append_right _ (List.mem_singleton.mpr rfl), mem_foldg (.inl List.mem_cons_self), mem_foldg (.inl (List.mem_cons_of_mem _ List.mem_cons_self))⟩
      · exact .inl h
    · obtain ⟨ds, k1, k2⟩ := withEq_keep (a := d.1) (b := d.2) hc
      exact .inr ⟨ds, k1, k2 _ h1, k2 _ h2⟩
theorem jcls_tie {q : Ask} {cs : List Col} (h : cs ∈ clsOf q.eqs) (hq : AskOk q) : ∃ ds ∈ jcls q, ∀ c ∈ cs, c ∈ ds := by
  refine ⟨((srt3 (cs.map (numC q.al))).map fun t => (t.2.2, t.2.1)), List.mem_map_of_mem (List.mem_mergeSort.mpr (List.mem_map_of_mem h)), fun c hc => ?_⟩
  exact List.mem_map.mpr ⟨numC q.al c, List.mem_mergeSort.mpr (List.mem_map_of_mem hc), rfl⟩
theorem memb_nodup {q : Ask} : ∀ cs ∈ memb q, cs.Nodup := fun cs h => by
  obtain ⟨ds, _, rfl⟩ := List.mem_map.mp h
  exact List.Pairwise.filter _ List.nodup_range
theorem memb_lt {q : Ask} : ∀ cs ∈ memb q, ∀ i ∈ cs, i < q.src.length := fun cs h i hi => by
  obtain ⟨ds, _, rfl⟩ := List.mem_map.mp h
  exact List.mem_range.mp (List.mem_filter.mp hi).1
theorem tie_adj {q : Ask} (hq : AskOk q) {e : Col × Col} (h : e ∈ q.eqs) : Adj (memb q) (q.al.idxOf e.1.1) (q.al.idxOf e.2.1) := by
  obtain ⟨cs, h1, h2, h3⟩ := cls_tie h
  obtain ⟨ds, k1, k2⟩ := jcls_tie h1 hq
  have lt : ∀ c : Col, c.1 ∈ q.al → q.al.idxOf c.1 < q.src.length := fun c hc => by
    have := List.idxOf_lt_length_of_mem hc
    rw [List.length_map] at this
    exact this
  obtain ⟨_, e1, e2⟩ := hq.eq e h
  exact ⟨_, List.mem_map_of_mem k1, List.mem_filter.mpr ⟨List.mem_range.mpr (lt _ e1.1), decide_eq_true (List.mem_map.mpr ⟨e.1, k2 _ h2, rfl⟩)⟩,
    List.mem_filter.mpr ⟨List.mem_range.mpr (lt _ e2.1), decide_eq_true (List.mem_map.mpr ⟨e.2, k2 _ h3, rfl⟩)⟩⟩
theorem tied_chn {q : Ask} (hq : AskOk q) (ht : Tied q) : ∀ k, 1 ≤ k → k ≤ q.src.length → Chn (memb q) (List.range k)
  | 0, h, _ => absurd h (by decide)
  | 1, _, _ => .one 0
  | k + 2, _, h => by
    rw [List.range_succ]
    obtain ⟨e, he, h1⟩ := ht (k + 1) (by omega) (by omega)
    have hn : k + 1 ∉ List.range (k + 1) := fun z => by have := List.mem_range.mp z; omega
    rcases h1 with ⟨h1, h2⟩ | ⟨h1, h2⟩
    · exact .step (tied_chn hq ht (k + 1) (by omega) (by omega)) hn (List.mem_range.mpr h2) (h1 ▸ tie_adj hq he)
    · exact .step (tied_chn hq ht (k + 1) (by omega) (by omega)) hn (List.mem_range.mpr h2) (h1 ▸ let ⟨m, a, b, c⟩ := tie_adj hq he; ⟨m, a, c, b⟩)
/-- all aliases together are a group -/
theorem whole_grp {q : Ask} (hq : AskOk q) (ht : Tied q) (h2 : 2 ≤ q.src.length) : List.range q.src.length ∈ grps q.src.length (memb q) :=
  mem_grps.mpr ⟨mem_subs.mpr ⟨List.pairwise_lt_range, fun i hi => List.mem_range.mp hi⟩, by rw [List.length_range]; omega,
    (linked_iff memb_nodup List.nodup_range fun e => by have := congrArg List.length e; rw [List.length_range, List.length_nil] at this; omega).mpr ⟨_, tied_chn hq ht _ (by omega) (Nat.le_refl _), .refl _⟩⟩
end LW

set_option Elab.async false
set_option linter.all false
set_option autoImplicit false
set_option maxRecDepth 100000
set_option maxHeartbeats 2000000
namespace LW
open PySem PySem.Spec PyProof.Rows DL
/-! ### how many items the sets are given -/
theorem sum_two {α : Type} (f g : α → Nat) : ∀ l : List α, (l.map fun x => f x + g x).sum = (l.map f).sum + (l.map g).sum
  | [] => rfl
  | x :: l => by rw [List.map_cons, List.map_cons, List.map_cons, List.sum_cons, List.sum_cons, List.sum_cons, sum_two f g l]; omega
theorem sum_up {α : Type} {f g : α → Nat} : ∀ {l : List α}, (∀ x ∈ l, f x ≤ g x) → (l.map f).sum ≤ (l.map g).sum
  | [], _ => Nat.le_refl _
  | x :: l, h => by
    rw [List.map_cons, List.map_cons, List.sum_cons, List.sum_cons]
    exact Nat.add_le_add (h x List.mem_cons_self) (sum_up fun y hy => h y (List.mem_cons_of_mem _ hy))
theorem sum_zero {α : Type} : ∀ l : List α, (l.map fun _ => 0).sum = 0
  | [] => rfl
  | x :: l => by rw [List.map_cons, List.sum_cons, sum_zero l]
theorem sum_swap (o : List Nat → Nat) (M : List (List Nat)) : ∀ g : List Nat, (g.map fun a => (M.map fun m => if a ∈ m then o m else 0).sum).sum = (M.map fun m => (g.filter fun a => decide (a ∈ m)).length * o m).sum
  | [] => by simp only [List.map_nil, List.filter_nil, List.length_nil, Nat.zero_mul]; rw [sum_zero]; rfl
  | a :: g => by
    rw [List.map_cons, List.sum_cons, sum_swap o M g, ← sum_two]
    congr 1
    refine List.map_congr_left fun m _ => ?_
    by_cases q : a ∈ m
    · rw [if_pos q, List.filter_cons_of_pos (by simpa using q), List.length_cons, Nat.succ_mul, Nat.add_comm]
    · rw [if_neg q, List.filter_cons_of_neg (by simpa using q), Nat.zero_add]
theorem nb_count {g : List Nat} {a : Nat} : ∀ M : List (List Nat), (((M.filter fun cs => decide (a ∈ cs)).flatMap fun cs => cs.filter fun b => decide (b ≠ a)).filter fun b => decide (b ∉ g)).length ≤ (M.map fun m => if a ∈ m then (m.filter fun b => decide (b ∉ g)).length else 0).sum
  | [] => Nat.le_refl _
  | m :: M => by
    have ih := nb_count (g := g) (a := a) M
    rw [List.map_cons, List.sum_cons]
    by_cases q : a ∈ m
    · rw [if_pos q, List.filter_cons_of_pos (by simpa using q), List.flatMap_cons, List.filter_append, List.length_append]
      refine Nat.add_le_add ?_ ih
      rw [List.filter_filter, show (fun x => decide (x ∉ g) && decide (x ≠ a)) = fun x => decide (x ≠ a) && decide (x ∉ g) from funext fun x => Bool.and_comm _ _, ← List.filter_filter]
      exact List.length_filter_le _ _
    · rw [if_neg q, List.filter_cons_of_neg (by simpa using q), Nat.zero_add]
      exact ih
theorem split_len (m g : List Nat) : (m.filter fun a => decide (a ∈ g)).length + (m.filter fun b => decide (b ∉ g)).length = m.length := by
  induction m with
  | nil => rfl
  | cons x m ih =>
    by_cases q : x ∈ g
    · rw [List.filter_cons_of_pos (by simpa using q), List.filter_cons_of_neg (by simpa using q), List.length_cons, List.length_cons]; omega
    · rw [List.filter_cons_of_neg (by simpa using q), List.filter_cons_of_pos (by simpa using q), List.length_cons, List.length_cons]; omega
theorem mul_six : ∀ c, c < 7 → ∀ o, o < 7 → c + o < 7 → 2 * (c * o) ≤ 3 * (c + o) := by decide
theorem near_count {n : Nat} {M : List (List Nat)} {g : List Nat} (nd : g.Nodup) (hg : ∀ a ∈ g, a < n) (hM : ∀ m ∈ M, m.length ≤ 6) (hs : (M.map List.length).sum ≤ 32) : (g.flatMap fun a => ((nbs n M).getD a []).filter fun b => decide (b ∉ g)).length ≤ 48 := by
  rw [List.length_flatMap]
  have h1 : (g.map fun a => (((nbs n M).getD a []).filter fun b => decide (b ∉ g)).length).sum ≤ (g.map fun a => (M.map fun m => if a ∈ m then (m.filter fun b => decide (b ∉ g)).length else 0).sum).sum :=
    sum_up fun a ha => by
      have e : (nbs n M).getD a [] = (M.filter fun cs => decide (a ∈ cs)).flatMap fun cs => cs.filter fun b => decide (b ≠ a) := by
        unfold nbs
        rw [List.getD_eq_getElem?_getD, List.getElem?_map, List.getElem?_range (hg a ha)]; rfl
      rw [e]
      exact nb_count M
  refine Nat.le_trans h1 ?_
  rw [sum_swap (fun m => (m.filter fun b => decide (b ∉ g)).length)]
  have h2 : (M.map fun m => (g.filter fun a => decide (a ∈ m)).length * (m.filter fun b => decide (b ∉ g)).length).sum * 2 ≤ (M.map List.length).sum * 3 := by
    clear hs h1
    induction M with
    | nil => exact Nat.le_refl _
    | cons m M ih =>
      have ih := ih fun x hx => hM x (List.mem_cons_of_mem _ hx)
      rw [List.map_cons, List.map_cons, List.sum_cons, List.sum_cons]
      have k1 := split_len m g
      have k2 := nodup_le (l := g.filter fun a => decide (a ∈ m)) (m := m.filter fun a => decide (a ∈ g)) (List.Pairwise.filter _ nd) fun x hx => by
        obtain ⟨x1, x2⟩ := List.mem_filter.mp hx
        exact List.mem_filter.mpr ⟨of_decide_eq_true x2, decide_eq_true x1⟩
      have k3 := hM m List.mem_cons_self
      have k4 := mul_six _ (show (g.filter fun a => decide (a ∈ m)).length < 7 by omega) _ (show (m.filter fun b => decide (b ∉ g)).length < 7 by omega) (by omega)
      omega
  omega
theorem near_len (T : List (List Nat)) {g : List Nat} (nd : g.Nodup) (hg : ∀ a ∈ g, a < 6) : (near T g).length ≤ 6 - g.length := by
  have k1 := split_len (List.range 6) g
  have k2 := nodup_le (l := g) (m := (List.range 6).filter fun a => decide (a ∈ g)) nd fun x hx => List.mem_filter.mpr ⟨List.mem_range.mpr (hg x hx), decide_eq_true hx⟩
  have k3 := nodup_le (l := near T g) (m := (List.range 6).filter fun b => decide (b ∉ g)) (pw_nodup (asc_pw _ _)) fun x hx => by
    obtain ⟨x1, x2⟩ := asc_mem.mp hx
    exact List.mem_filter.mpr ⟨List.mem_range.mpr x1, (List.mem_filter.mp x2).2⟩
  rw [List.length_range] at k1
  omega
theorem flat_le {α β : Type} {f : α → List β} {c : Nat} : ∀ {l : List α}, (∀ x ∈ l, (f x).length ≤ c) → (l.flatMap f).length ≤ l.length * c
  | [], _ => Nat.zero_le _
  | x :: l, h => by
    rw [List.flatMap_cons, List.length_append, List.length_cons, Nat.succ_mul]
    have := h x List.mem_cons_self
    have := flat_le fun y hy => h y (List.mem_cons_of_mem _ hy)
    omega
theorem six_rows : ∀ k, k < 7 → ((subs 6).filter fun p => decide (p.length = k)).length * (6 - k) ≤ 60 := by decide +kernel
theorem lay_count {n k : Nat} {M L : List (List Nat)} (T : List (List Nat)) (hn : n ≤ 6) (hk : k < 7) (nd : L.Nodup) (hL : ∀ p ∈ L, Lay n M k p) : (L.flatMap (ext T)).length ≤ 60 := by
  have k1 := nodup_le (m := (subs 6).filter fun p => decide (p.length = k)) nd fun p hp => by
    obtain ⟨h1, h2, _⟩ := hL p hp
    obtain ⟨s1, s2⟩ := mem_subs.mp h1
    exact List.mem_filter.mpr ⟨mem_subs.mpr ⟨s1, fun i hi => by have := s2 i hi; omega⟩, decide_eq_true h2⟩
  refine Nat.le_trans (flat_le (c := 6 - k) fun p hp => ?_) (Nat.le_trans (Nat.mul_le_mul_right _ k1) (six_rows k hk))
  obtain ⟨h1, h2, _⟩ := hL p hp
  obtain ⟨s1, s2⟩ := mem_subs.mp h1
  unfold ext
  rw [List.length_map, ← h2]
  exact near_len T (pw_nodup s1) fun i hi => by have := s2 i hi; omega
end LW

set_option Elab.async false
set_option linter.all false
set_option autoImplicit false
set_option maxRecDepth 100000
set_option maxHeartbeats 2000000
namespace LW
open PySem PySem.Spec PyProof.Rows DL
/-! ### readings of the two-clause sets -/
theorem s2I_each {β : Type} {it : D → Prop} {us : List Nat} {gj : WG} {tj : WT} {w : WE} {δ : Dn} {s : S} {ib : β → D} {p : β → Bool} {e : β → D} : ∀ {l : List β} {acc : List D} {P : List D → S → Prop},
    (∀ y ∈ l, ∀ (R0 : S → Prop) (R1 : D → S → Prop), (p y = false → R0 s) → (p y = true → R1 (e y) s) → gj (ib y) (wipeD δ us) s fun δ1 s1 => tj δ1 s1 fun k s2 => match k with | true => w δ1 s2 R1 | false => R0 s2) →
    (∀ y ∈ l, it (e y)) → acc.length + (l.filter p).length ≤ 63 → P (acc ++ (l.filter p).map e) s → s2I it us gj tj w δ (l.map ib) acc s P
  | [], acc, P, _, _, _, h => by rw [List.filter_nil, List.map_nil, List.append_nil] at h; exact h
  | y :: l, acc, P, st, hi, hl, h => by
    rw [List.map_cons]
    unfold s2I
    have st1 := st y List.mem_cons_self (fun s2 => s2I it us gj tj w δ (l.map ib) acc s2 P) (fun z s3 => (it z ∧ acc.length < 63) ∧ s2I it us gj tj w δ (l.map ib) (acc ++ [z]) s3 P)
      (fun q => s2I_each (fun z hz => st z (List.mem_cons_of_mem _ hz)) (fun z hz => hi z (List.mem_cons_of_mem _ hz)) (by rw [List.filter_cons_of_neg (by simp [q])] at hl; exact hl) (by rw [List.filter_cons_of_neg (by simp [q])] at h; exact h))
      (fun q => by
        rw [List.filter_cons_of_pos q, List.length_cons] at hl
        rw [List.filter_cons_of_pos q, List.map_cons] at h
        exact ⟨⟨hi y List.mem_cons_self, by omega⟩, s2I_each (fun z hz => st z (List.mem_cons_of_mem _ hz)) (fun z hz => hi z (List.mem_cons_of_mem _ hz)) (by rw [List.length_append, List.length_singleton]; omega) (by rw [List.append_assoc]; exact h)⟩)
    exact st1
theorem s2O_each {α β : Type} {it : D → Prop} {us vs : List Nat} {gj g : WG} {tj : WT} {w : WE} {wj : WI} {δ : Dn} {s : S} {ia : α → D} {fi : α → List β} {ib : β → D} {p : α → β → Bool} {e : α → β → D} {δo : α → Dn} : ∀ {l : List α} {acc : List D} {P : List D → S → Prop},
    (∀ x ∈ l, ∀ K : Dn → List D → S → Prop, K (δo x) ((fi x).map ib) s → g (ia x) (wipeD δ vs) s fun δ1 s1 => wj δ1 s1 fun es s3 => K δ1 es s3) →
    (∀ x ∈ l, ∀ y ∈ fi x, ∀ (R0 : S → Prop) (R1 : D → S → Prop), (p x y = false → R0 s) → (p x y = true → R1 (e x y) s) → gj (ib y) (wipeD (δo x) us) s fun δ1 s1 => tj δ1 s1 fun k s2 => match k with | true => w δ1 s2 R1 | false => R0 s2) →
    (∀ x ∈ l, ∀ y ∈ fi x, it (e x y)) → acc.length + (l.flatMap fun x => (fi x).filter (p x)).length ≤ 63 → P (acc ++ l.flatMap fun x => ((fi x).filter (p x)).map (e x)) s → s2O it us gj tj w vs g wYes wj δ (l.map ia) acc s P
  | [], acc, P, _, _, _, _, h => by rw [List.flatMap_nil, List.append_nil] at h; exact h
  | x :: l, acc, P, st, si, hi, hl, h => by
    rw [List.flatMap_cons, List.length_append] at hl
    rw [List.flatMap_cons] at h
    rw [List.map_cons]
    unfold s2O
    exact st x List.mem_cons_self (fun δ1 es s3 => s2I it us gj tj w δ1 es acc s3 fun acc2 s4 => s2O it us gj tj w vs g wYes wj δ (l.map ia) acc2 s4 P)
      (s2I_each (p := p x) (e := e x) (si x List.mem_cons_self) (hi x List.mem_cons_self) (by omega)
        (s2O_each (p := p) (e := e) (δo := δo) (fun z hz => st z (List.mem_cons_of_mem _ hz)) (fun z hz => si z (List.mem_cons_of_mem _ hz)) (fun z hz => hi z (List.mem_cons_of_mem _ hz)) (by rw [List.length_append, List.length_map]; omega) (by rw [List.append_assoc]; exact h)))
theorem itT_nats (g : List Nat) : itT (natsT g) := ⟨g.map fun (i : Nat) => .inl (i : Int), by
  unfold natsT tupK
  rw [List.map_map]; rfl⟩
theorem itI_nat (i : Nat) : itI (natD i) := ⟨_, rfl⟩
theorem sortOk_T {l : List (List Nat)} (h : ∀ g ∈ l, g ≠ []) : SortOk (l.map natsT) := by
  refine sortOk_of (fun x hx y hy => ?_) (.inl fun x hx => ?_) fun d hd => ?_
  · obtain ⟨a, _, rfl⟩ := List.mem_map.mp hx
    obtain ⟨b, _, rfl⟩ := List.mem_map.mp hy
    exact alike_T a b
  · obtain ⟨a, ha, rfl⟩ := List.mem_map.mp hx
    obtain ⟨i, r, rfl⟩ := List.exists_cons_of_ne_nil (h a ha)
    exact ⟨_, _, rfl⟩
  · obtain ⟨a, _, rfl⟩ := List.mem_map.mp hd
    exact ⟨data_natsT a, Nat.le_trans (depth_natsT a) (by decide)⟩
theorem natsT_inj {a b : List Nat} (h : natsT a = natsT b) : a = b := toks_natsT (by rw [h])
theorem sortedSet_T {l : List (List Nat)} {s : S} {P : List D → S → Prop} (h : ∀ zs : List (List Nat), zs.Nodup → (∀ t, t ∈ zs ↔ t ∈ l) → P (zs.map natsT) s) : sortedSetP (l.map natsT) s P := by
  intro ys n mem pw
  have all : ∀ y ∈ ys, ∃ t, y = natsT t ∧ True := fun y hy => by
    obtain ⟨t, _, e⟩ := List.mem_map.mp ((mem y).mp hy)
    exact ⟨t, e.symm, trivial⟩
  obtain ⟨zs, rfl, _, _⟩ := items_of all
  have mi : ∀ (t : List Nat) (l : List (List Nat)), natsT t ∈ l.map natsT ↔ t ∈ l := fun t l => ⟨fun h => by obtain ⟨u, hu, e⟩ := List.mem_map.mp h; exact natsT_inj e ▸ hu, List.mem_map_of_mem⟩
  exact h zs (nodup_of_map n) fun t => by rw [← mi t zs, mem, mi]
/-! ### how many members the classes have -/
theorem memb_sum {q : Ask} (hq : AskOk q) : ((memb q).map List.length).sum ≤ 32 := by
  have h1 : ((memb q).map List.length).sum ≤ ((jcls q).map List.length).sum := by
    unfold memb
    rw [List.map_map]
    refine sum_up fun cs _ => ?_
    have := (asc_set (n := q.src.length) (cs.map fun c => q.al.idxOf c.1) hq.n6).2
    rw [List.length_map] at this
    exact this
  have h2 : ((jcls q).map List.length).sum = ((clsOf q.eqs).map List.length).sum := by
    unfold jcls jrows srtR
    rw [List.map_map, ((List.mergeSort_perm _ _).map _).sum_nat, List.map_map]
    congr 1
    refine List.map_congr_left fun cs _ => ?_
    show (List.map _ (srt3 (cs.map (numC q.al)))).length = cs.length
    unfold srt3
    rw [List.length_map, List.length_mergeSort, List.length_map]
  have := clsOf_sum q.eqs
  have := hq.e16
  omega
theorem memb_six {q : Ask} (hq : AskOk q) : ∀ m ∈ memb q, m.length ≤ 6 := fun m hm => ((memb_ok hq).2 m hm).1
theorem nbs_ok {q : Ask} (hq : AskOk q) : TOk (nbs q.src.length (memb q)) := by
  have h6 := hq.n6
  refine ⟨by unfold nbs; rw [List.length_map, List.length_range]; exact h6, fun t ht => ?_⟩
  obtain ⟨a, _, rfl⟩ := List.mem_map.mp ht
  refine ⟨?_, fun i hi => ?_⟩
  · refine Nat.le_trans (flat_le (c := 6) fun m hm => ?_) (Nat.mul_le_mul_right 6 (Nat.le_trans (List.length_filter_le _ _) (memb_ok hq).1))
    exact Nat.le_trans (List.length_filter_le _ _) (memb_six hq m (List.mem_filter.mp hm).1)
  · obtain ⟨m, hm, h2⟩ := List.mem_flatMap.mp hi
    have := memb_lt m (List.mem_filter.mp hm).1 i (List.mem_filter.mp h2).1
    omega
/-! ### < of two ranks -/
theorem data_rank (g : List Nat) : (rankD g).isData = true ∧ (rankD g).depth ≤ 2 := by
  refine ⟨?_, ?_⟩
  · show (true && (D.allData (g.map natD) && true)) = true
    rw [show D.allData (g.map natD) = true from data_natsT g]; rfl
  · have h2 := depth_natsT g
    have h3 : PySem.PyData.depthAll (D.pys [natD g.length, natsT g]) ≤ 1 := depthAll_le fun d hd => by
      simp only [List.mem_cons, List.not_mem_nil, or_false] at hd
      rcases hd with rfl | rfl
      · exact Nat.zero_le _
      · exact h2
    exact Nat.succ_le_succ h3
theorem rank_lt {s : S} {g h : List Nat} {P : DK} (hP : P (.bl (ltD (rankD g) (rankD h))) s) : roLtD (rankD g) (rankD h) s P := by
  have al : PySem.W.alike (rankD g).py (rankD h).py = true := by
    show (true && (PySem.W.alikeAll (D.pys (g.map natD)) (D.pys (h.map natD)) && true)) = true
    rw [alike_nats]; rfl
  exact (⟨⟨(data_rank g).1, (data_rank h).1, al, (fun z => by cases z), by have := (data_rank g).2; omega⟩, hP⟩ : LtOk (rankD g) (rankD h) ∧ P (.bl (ltD (rankD g) (rankD h))) s)
end LW

set_option Elab.async false
set_option linter.all false
set_option autoImplicit false
set_option maxRecDepth 100000
set_option maxHeartbeats 4000000
/-! ### sorted of a tuple -/
namespace DS
open PySem PySem.Spec PyProof.Rows PySem.W
section
variable {prog : Program} {w : World} {A : Around} {E : Value → Shared → Prop} {s : Shared} {β : Type}
theorem collect_tup {l : Addr} {vs : List Value} {Q : List Value → Shared → Prop} (hl : s.heap.IsTuple l vs.toArray) (hsz : vs.length ≤ sizeLine)
    (h : Q vs { s with heap := (s.heap.push (seqObj "list" #[] 0)).update s.heap.objs.size (Obj.mapSeq (· ++ vs.toArray)) }) :
    wpAny (model prog w) A (collect (.ref l)) Q E s := by
  obtain ⟨o, ho, hc, n, hd⟩ := id hl
  have ho2 : (s.heap.push (seqObj "list" #[] 0)).get? l = some o := Heap.get?_push_of_some _ ho
  unfold collect
  refine wpAny_bind (wpAny_runValue (codeAny_builtin entry_proto_collect' ?_))
  show wpAny _ _ (do again (.builtin "list.__iadd__" ⟨[← newList [], .ref l], []⟩)) _ _ s
  refine wpAny_bind (wpAny_newList (wpAny_pure ⟨Code.quiet_builtin _ (by decide +kernel), codeAny_builtin entry_list_iadd' ?_⟩))
  show wpAny _ _ (Builtin.List.listExtendWith (.ref s.heap.objs.size) (.ref l) (.ref s.heap.objs.size)) _ _ { s with heap := s.heap.push (seqObj "list" #[] 0) }
  unfold Builtin.List.listExtendWith
  refine wpAny_bind (wpAny_typeOf (T := "tuple") ⟨o, ho2, hc⟩ ?_)
  have ht : (Value.type "tuple" == Value.type "tuple") = true := by rfl
  rw [if_pos (by rw [ht]; simp)]
  refine wpAny_bind (listItems_at ho2 hd ?_)
  refine wpAny_bind (listItems_at (xs := #[]) (n := 0) (Heap.get?_push_size _ rfl) rfl ?_)
  rw [if_neg (by simp)]
  refine wpAny_bind (listUpdate_at (xs := #[]) (n := 0) (Heap.get?_push_size _ rfl) rfl ?_ (Nat.zero_le _) (by show (#[] ++ vs.toArray).size ≤ sizeLine + 1; simp only [Array.size_append, List.size_toArray, List.length_nil]; omega))
  refine wpAny_pure ?_
  show wpAny (model prog w) A (do
      let o ← load s.heap.objs.size
      match o.data with
      | .seq xs _ => pure xs.toList
      | _ => unsupported "internal:collect") Q E { s with heap := (s.heap.push (seqObj "list" #[] 0)).update s.heap.objs.size (Obj.mapSeq (· ++ vs.toArray)) }
  refine wpAny_bind (wpAny_load (get?_update_seq (Heap.get?_push_size _ rfl) _) ?_)
  show wpAny _ _ (pure ((#[] : Array Value) ++ vs.toArray).toList) Q E _
  rw [show ((#[] : Array Value) ++ vs.toArray).toList = vs by simp]
  exact wpAny_pure h
theorem sorted_of_tup {l : Addr} {vs : List Value} {bs : List β} {enc : β → PyData} {R : Value → β → Prop} {Q : Value → Shared → Prop} (hl : s.heap.IsTuple l vs.toArray) (e : EachIs R vs bs) (er : EachIs (fun v b => ∃ as, Reads s.heap v (enc b) as) vs bs) (hal : AllAlike (bs.map enc)) (hk : Sortable (bs.map enc)) (hL : bs.length ≤ sizeLine)
    (hu : ∀ b, b ∈ bs → A.units + 2 + (enc b).depth < cLine) (h : ∀ out, EachIs R out (bs.mergeSort (dataLe false enc)) → Q (.ref (s.heap.objs.size + 1)) { s with heap := sortedAll s.heap vs (List.toArray out) }) :
    wpAny (model prog w) A (call (.builtin "sorted") [.ref l]) Q E s := by
  have er' : EachIs (fun v b => ∃ as, Reads (sortingHeap (copyHeap s.heap vs) (s.heap.objs.size + 1) vs) v (enc b) as) vs bs := er.mono fun _ _ ⟨as, r⟩ => ⟨as, PyProof.Rows.Reads.keeps (fun _ _ => sorting_copy_old) r⟩
  have hL2 : vs.length ≤ sizeLine := by rw [e.length]; exact hL
  refine call_function_entry_kw kind_sorted plain_sorted entry_sorted (args_sorted1 _) ?_
  unfold Builtin.«sorted»
  refine wpAny_bind (m := checkCount "sorted" 1 1 _) (wpAny_pure ?_)
  refine wpAny_bind (collect_tup hl hL2 ?_)
  refine wpAny_bind (wpAny_newList ?_ hL2)
  have hsz : ((s.heap.push (seqObj "list" #[] 0)).update s.heap.objs.size (Obj.mapSeq (· ++ vs.toArray))).objs.size = s.heap.objs.size + 1 := by
    rw [Heap.size_update, size_push']
  show wpAny _ _ _ _ _ { s with heap := copyHeap s.heap vs }
  rw [hsz]
  refine wpAny_bind (wpAny_holding (wpAny_call_entry_kw slot_list_sort ⟨_, copyHeap_at s.heap vs, rfl⟩ entry_list_sort ?body (args_list_sort _)))
  case body =>
    show wpAny (model prog w) A.in1.in1 (Builtin.«list.sort» ⟨[.ref (s.heap.objs.size + 1)], []⟩) _ _ _
    exact list_sort_vals (s := { s with heap := copyHeap s.heap vs }) (copyHeap_at s.heap vs) (SortsAt.data (s := { s with heap := sortingHeap (copyHeap s.heap vs) (s.heap.objs.size + 1) vs }) (each_map (R := fun v d => ∃ as, Reads (sortingHeap (copyHeap s.heap vs) (s.heap.objs.size + 1) vs) v d as) enc er') hal hk (fun d hd => by
      obtain ⟨b, hb, rfl⟩ := List.mem_map.mp hd
      exact hu b hb)) hL2 ⟨_, rfl, wpAny_pure ⟨_, rfl, h _ (sortVals_data false e er' hal)⟩⟩
end
end DS
namespace DL
open PySem PySem.Spec PyProof.Rows L2
open Evl (Ex)
open PySem.W (EachIs AllAlike Sortable dataLe)
/-- sorted of a tuple -/
def rcSortT : RCLD := fun ds s P => match ds with
  | [d] => (match view s d with
    | .tup es => SortOk es ∧ P (srtD es) s
    | _ => False)
  | _ => False
section
variable {X : Cx}
theorem cd_sortT (hu : X.A.units + 64 < cLine) : CallDL X (.builtin "sorted") rcSortT := by
  intro pins s σ H xs us Q I r ⟨F, G, s', ds, P, o, rd, hw, q⟩
  unfold rcSortT at hw
  split at hw <;> first | exact hw.elim | skip
  rename_i d
  obtain ⟨v, rfl, rv⟩ := rd.one
  split at hw <;> first | exact hw.elim | skip
  rename_i es hv
  obtain ⟨a, ys, rfl, h1, r1⟩ := rv.seqT (.inl (view_tup hv))
  obtain ⟨its, rvs, hl, hz⟩ := I.tuple (Evl.ex_t o.ex h1)
  obtain ⟨u, rfl, ru⟩ := vals1 r
  obtain rfl : u = Value.ref a := ru
  obtain ⟨⟨k1, k2, k3⟩, hP⟩ := hw
  have hz2 : es.length ≤ sizeLine := by rw [r1.length]; exact hz
  have er : ∀ {ds : List D} {us : List Value}, EachIs (AtD X.K G) us ds → (∀ d ∈ ds, d.isData = true) → EachIs (fun v b => ∃ as, Reads s.heap v b.py as) us ds := fun {ds us} e => by
    induction e with
    | nil => intro _; exact .nil
    | cons h r ih =>
      intro hd
      obtain ⟨x, hx, rx⟩ := h
      exact .cons (Dp.reads I _ _ _ ((rx.mono o.ex).dp (hd _ (List.mem_cons_self ..))) hx) (ih fun d hd' => hd d (List.mem_cons_of_mem _ hd'))
  have e0 := each_of r1 rvs
  refine DS.sorted_of_tup (R := AtD X.K G) (enc := D.py) hl e0 (er e0 fun d hd => (k3 d hd).1) k1 k2 hz2 (fun d hd => by have := (k3 d hd).2; unfold D.depth at this; omega) fun out ho => ?_
  obtain ⟨zs, z1, z2⟩ := each_back ho
  obtain ⟨n, hn⟩ := PyProof.Rows.sortedAll_at s.heap its (List.toArray out)
  have hd : s.heap.objs.size ≤ s.heap.objs.size + 1 := Nat.le_succ _
  have hz3 : zs.length ≤ sizeLine := by rw [← z1.length]; exact (show (srtD es).length ≤ sizeLine from by rw [(srtD_perm es).length_eq]; exact hz2)
  refine ⟨.ref (s.heap.objs.size + 1), upd H (s.heap.objs.size + 1) (.lst zs), I.laid (t' := s.toks) (fun b o e => PyProof.Rows.sortedAll_old e) hd ⟨hz3, out, n, z2, hn⟩, rfl, ?_⟩
  exact q _ s' hP G H _ zs (Ex.refl G) o (I.hok.fresh hd) z1
end
end DL

set_option Elab.async false
set_option linter.all false
set_option autoImplicit false
set_option maxRecDepth 100000
set_option maxHeartbeats 2000000
namespace LW
open PySem PySem.Spec PyProof.Rows DL
/-! ### a list of lists that grow -/
def stF (s : S) (ps : List Addr) (f : Nat → List D) : S := { s with M := fun b => if b ∈ ps then some (.lst (f (ps.idxOf b))) else s.M b }
section
variable {s : S} {ps : List Addr} {f : Nat → List D}
theorem stF_nil : stF s [] f = s := S.same rfl fun b => by simp [stF]
theorem stF_at {i : Nat} {p : Addr} (h : ps[i]? = some p) (nd : ps.Nodup) : (stF s ps f).M p = some (.lst (f i)) := by
  obtain ⟨hi, e⟩ := List.getElem?_eq_some_iff.mp h
  have hp : p ∈ ps := List.mem_of_getElem? h
  unfold stF
  have h2 := List.idxOf_lt_length_of_mem hp
  have h3 : ps.idxOf p = i := nodup_inj nd h2 hi (by rw [List.getElem_idxOf h2, e])
  show (if p ∈ ps then some (MO.lst (f (ps.idxOf p))) else s.M p) = _
  rw [if_pos hp, h3]
theorem stF_put {i : Nat} {p : Addr} {l : List D} (h : ps[i]? = some p) (nd : ps.Nodup) : (stF s ps f).put p (.lst l) = stF s ps fun a => if a = i then l else f a := by
  obtain ⟨hi, e⟩ := List.getElem?_eq_some_iff.mp h
  have hp : p ∈ ps := List.mem_of_getElem? h
  have h2 := List.idxOf_lt_length_of_mem hp
  have h3 : ps.idxOf p = i := nodup_inj nd h2 hi (by rw [List.getElem_idxOf h2, e])
  refine S.same rfl fun b => ?_
  unfold S.put stF
  show (if b = p then some (MO.lst l) else if b ∈ ps then some (.lst (f (ps.idxOf b))) else s.M b) = if b ∈ ps then some (MO.lst (if ps.idxOf b = i then l else f (ps.idxOf b))) else s.M b
  by_cases q : b = p
  · subst q; rw [if_pos rfl, if_pos hp, if_pos h3]
  · rw [if_neg q]
    by_cases hb : b ∈ ps
    · rw [if_pos hb, if_pos hb, if_neg fun z => q ?_]
      have h4 := List.idxOf_lt_length_of_mem hb
      have := List.getElem_idxOf h4
      rw [← this]
      simp only [z]
      exact e
    · rw [if_neg hb, if_neg hb]
theorem stF_new {p : Addr} : (stF s ps fun _ => []).put p (.lst []) = stF s (ps ++ [p]) fun _ => [] := by
  refine S.same rfl fun b => ?_
  unfold S.put stF
  show (if b = p then some (MO.lst []) else if b ∈ ps then some (.lst []) else s.M b) = if b ∈ ps ++ [p] then some (MO.lst []) else s.M b
  by_cases q : b = p
  · rw [if_pos q, if_pos (by simp [q])]
  · rw [if_neg q]
    by_cases hb : b ∈ ps
    · rw [if_pos hb, if_pos (List.mem_append_left _ hb)]
    · rw [if_neg hb, if_neg (by simp [hb, q])]
theorem thaw_stF : ∀ {ps : List Addr} {f : Nat → List D}, ps.Nodup → (∀ p ∈ ps, s.M p = none) → thawL (stF s ps f) (ps.map .ref) = some ((List.range ps.length).map (fun i => .lst (f i)), s)
  | [], f, _, _ => by rw [stF_nil]; rfl
  | p :: ps, f, nd, h => by
    obtain ⟨n1, n2⟩ := List.nodup_cons.mp nd
    have e0 := stF_at (s := s) (f := f) (i := 0) (p := p) (ps := p :: ps) rfl nd
    have e1 : (stF s (p :: ps) f).del p = stF s ps fun i => f (i + 1) := S.same rfl fun b => by
      unfold S.del stF
      show (if b = p then none else if b ∈ p :: ps then some (MO.lst (f ((p :: ps).idxOf b))) else s.M b) = if b ∈ ps then some (MO.lst (f (ps.idxOf b + 1))) else s.M b
      by_cases q : b = p
      · subst q; rw [if_pos rfl, if_neg n1, h b List.mem_cons_self]
      · rw [if_neg q]
        by_cases hb : b ∈ ps
        · rw [if_pos hb, if_pos (List.mem_cons_of_mem _ hb), show (p :: ps).idxOf b = ps.idxOf b + 1 by rw [List.idxOf_cons, show (p == b) = false by simpa using fun z => q z.symm]; rfl]
        · rw [if_neg hb, if_neg (by simp [hb, q])]
    rw [List.map_cons]
    unfold thawL
    rw [e0]
    dsimp only
    rw [e1, thaw_stF n2 fun a ha => h a (List.mem_cons_of_mem _ ha)]
    rw [List.length_cons, List.range_succ_eq_map, List.map_cons, List.map_map]
    rfl
end
theorem lcW_new {vs : List Nat} {i : Nat} {δ : Dn} {s : S} : ∀ {l : List D} {ps : List Addr} {P : List D → S → Prop}, ps.Nodup → (∀ p ∈ ps, s.M p = none ∧ ∀ a n, s.dk = some (a, n) → p ≠ a) →
    (∀ qs : List Addr, qs.length = l.length → (ps ++ qs).Nodup → (∀ p ∈ ps ++ qs, s.M p = none ∧ ∀ a n, s.dk = some (a, n) → p ≠ a) → P (qs.map .ref) (stF s (ps ++ qs) fun _ => [])) →
    lcW vs (wgName i) wYes (wMk wNil) δ l (stF s ps fun _ => []) P
  | [], ps, P, nd, hp, h => by
    have := h [] rfl (by rw [List.append_nil]; exact nd) (by rw [List.append_nil]; exact hp)
    rw [List.append_nil] at this
    exact this
  | d :: l, ps, P, nd, hp, h => by
    unfold lcW wgName wYes wMk wNil
    intro p hM hd
    have np : p ∉ ps := fun z => by
      unfold stF at hM
      simp only [if_pos z] at hM
      cases hM
    have hM2 : s.M p = none := by unfold stF at hM; simp only [if_neg np] at hM; exact hM
    dsimp only
    rw [stF_new]
    refine lcW_new (ps := ps ++ [p]) (List.nodup_append.mpr ⟨nd, List.pairwise_singleton _ _, fun x hx y hy => by rintro rfl; rw [List.mem_singleton] at hy; subst hy; exact np hx⟩) (fun x hx => ?_) fun qs h1 h2 h3 => ?_
    · rcases List.mem_append.mp hx with hx | hx
      · exact hp x hx
      · rw [List.mem_singleton] at hx; subst hx; exact ⟨hM2, hd⟩
    · rw [List.append_assoc] at h2 h3 ⊢
      exact h (p :: qs) (by rw [List.length_cons, List.length_cons, h1]) h2 h3
end LW

set_option Elab.async false
set_option linter.all false
set_option autoImplicit false
set_option maxRecDepth 100000
set_option maxHeartbeats 2000000
namespace LW
open PySem PySem.Spec PyProof.Rows DL
theorem same_T : Same natsT := same_tup same_nat fun x => Nat.zero_le _
def diffs (g h : List Nat) : List Nat := (List.range g.length).filter fun k => decide (g.getD k 0 ≠ h.getD k 0)
theorem diffs_cons (a b : Nat) (g h : List Nat) : diffs (a :: g) (b :: h) = (if a = b then [] else [0]) ++ (diffs g h).map (· + 1) := by
  unfold diffs
  rw [List.length_cons, List.range_succ_eq_map]
  have e : ((List.range g.length).map Nat.succ).filter (fun k => decide ((a :: g).getD k 0 ≠ (b :: h).getD k 0)) = ((List.range g.length).filter fun k => decide (g.getD k 0 ≠ h.getD k 0)).map (· + 1) := by
    rw [List.filter_map]
    rfl
  by_cases q : a = b
  · rw [if_pos q, List.filter_cons_of_neg (by simpa using q), e]; rfl
  · rw [if_neg q, List.filter_cons_of_pos (by simpa using q), e]; rfl
theorem lt_diff : ∀ {g h : List Nat}, g.length = h.length → decide (g < h) = match diffs g h with | [] => false | k :: _ => decide (g.getD k 0 < h.getD k 0)
  | [], [], _ => by simp [diffs]
  | a :: g, b :: h, e => by
    have ih := lt_diff (Nat.succ.inj e)
    rw [diffs_cons]
    by_cases q : a = b
    · subst q
      rw [if_pos rfl, List.nil_append, show decide (a :: g < a :: h) = decide (g < h) from decide_eq_decide.mpr (by rw [List.cons_lt_cons_iff]; exact ⟨fun z => z.elim (fun z => absurd z (Nat.lt_irrefl _)) fun z => z.2, fun z => .inr ⟨rfl, z⟩⟩), ih]
      cases diffs g h with
      | nil => rfl
      | cons k r => rfl
    · rw [if_neg q]
      show _ = decide (a < b)
      exact decide_eq_decide.mpr (by rw [List.cons_lt_cons_iff]; exact ⟨fun z => z.elim id fun z => absurd z.1 q, .inl⟩)
theorem mem_diffs {g h : List Nat} {k : Nat} (hk : k ∈ diffs g h) : k < g.length := List.mem_range.mp (List.mem_filter.mp hk).1
theorem ltD_is (g h : List Nat) : ltD (rankD g) (rankD h) = if g.length = h.length then (match diffs g h with | [] => false | k :: _ => decide (g.getD k 0 < h.getD k 0)) else decide (g.length < h.length) := by
  rw [ltD_rank]
  by_cases e : g.length = h.length
  · rw [if_pos e, if_pos e, ltD_T, lt_diff e]
  · rw [if_neg e, if_neg e]
end LW

set_option Elab.async false
set_option linter.all false
set_option autoImplicit false
set_option maxRecDepth 100000
set_option maxHeartbeats 2000000
namespace LW
open PySem PySem.Spec PyProof.Rows DL
open PySem.W (alike alikeAll)
theorem zip_get (g : List Nat) : (List.range g.length).zip g = (List.range g.length).map fun i => (i, g.getD i 0) := by
  refine List.ext_getElem (by simp) fun i h1 h2 => ?_
  rw [List.getElem_zip, List.getElem_map, List.getElem_range]
  have : i < g.length := by simpa using h2
  rw [List.getD_eq_getElem?_getD, List.getElem?_eq_getElem this]; rfl
theorem zip_bit (g : List Nat) (k b : Nat) : (((List.range g.length).zip g).filter fun p => decide (k / 2 ^ p.1 % 2 = b)).map (fun p => natD p.2) = (bitP g k b).map natD := by
  rw [zip_get, List.filter_map, List.map_map]
  unfold bitP
  rw [List.map_map]
  rfl
theorem bit_len (g : List Nat) (k b : Nat) : (bitP g k b).length ≤ g.length := by
  unfold bitP
  rw [List.length_map]
  exact Nat.le_trans (List.length_filter_le _ _) (by rw [List.length_range]; exact Nat.le_refl _)
def partedN (g : List Nat) (gs : List (List Nat)) (i : Nat) : List (List Nat × List Nat) := ((List.range i).map fun k => (bitP g (k + 1) 1, bitP g (k + 1) 0)).filter fun p => okPart gs p.1 && okPart gs p.2 && ltD (rankD p.1) (rankD p.2)
theorem partedN_succ (g : List Nat) (gs : List (List Nat)) (i : Nat) : partedN g gs (i + 1) = partedN g gs i ++ if (okPart gs (bitP g (i + 1) 1) && okPart gs (bitP g (i + 1) 0) && ltD (rankD (bitP g (i + 1) 1)) (rankD (bitP g (i + 1) 0))) = true then [(bitP g (i + 1) 1, bitP g (i + 1) 0)] else [] := by
  unfold partedN
  rw [List.range_succ, List.map_append, List.filter_append, List.map_cons, List.map_nil]
  congr 1
  by_cases e : (okPart gs (bitP g (i + 1) 1) && okPart gs (bitP g (i + 1) 0) && ltD (rankD (bitP g (i + 1) 1)) (rankD (bitP g (i + 1) 0))) = true
  · rw [if_pos e]; exact List.filter_cons_of_pos e
  · rw [if_neg e]; exact List.filter_cons_of_neg e
theorem partedN_len (g : List Nat) (gs : List (List Nat)) (i : Nat) : (partedN g gs i).length ≤ i := by
  unfold partedN
  exact Nat.le_trans (List.length_filter_le _ _) (by rw [List.length_map, List.length_range]; exact Nat.le_refl _)
theorem data_pr (p : List Nat × List Nat) : (prK p).isData = true ∧ (prK p).depth ≤ 58 := by
  have h1 := data_natsT p.1
  have h2 := data_natsT p.2
  have h3 := data_rank p.1
  have d1 := depth_natsT p.1
  have d2 := depth_natsT p.2
  have k1 : (prD p).depth ≤ 2 := by
    have : PyData.depthAll (D.pys [natsT p.1, natsT p.2]) ≤ 1 := depthAll_le fun d hd => by
      simp only [List.mem_cons, List.not_mem_nil, or_false] at hd
      rcases hd with rfl | rfl
      · exact d1
      · exact d2
    exact Nat.succ_le_succ this
  refine ⟨?_, ?_⟩
  · show ((rankD p.1).isData && (((natsT p.1).isData && ((natsT p.2).isData && true)) && true)) = true
    rw [h1, h2, h3.1]; rfl
  · have : PyData.depthAll (D.pys [rankD p.1, prD p]) ≤ 2 := depthAll_le fun d hd => by
      simp only [List.mem_cons, List.not_mem_nil, or_false] at hd
      rcases hd with rfl | rfl
      · exact h3.2
      · exact k1
    exact Nat.le_trans (Nat.succ_le_succ this) (by decide)
theorem sortOk_prK (l : List (List Nat × List Nat)) : SortOk (l.map prK) := by
  refine sortOk_of (fun x hx y hy => ?_) (.inl fun x hx => ?_) fun d hd => ?_
  · obtain ⟨a, _, rfl⟩ := List.mem_map.mp hx
    obtain ⟨b, _, rfl⟩ := List.mem_map.mp hy
    show ((true && (alikeAll (D.pys (a.1.map natD)) (D.pys (b.1.map natD)) && true)) && (((alikeAll (D.pys (a.1.map natD)) (D.pys (b.1.map natD)) && (alikeAll (D.pys (a.2.map natD)) (D.pys (b.2.map natD)) && true))) && true)) = true
    rw [alike_nats, alike_nats]; rfl
  · obtain ⟨a, _, rfl⟩ := List.mem_map.mp hx
    exact ⟨_, _, rfl⟩
  · obtain ⟨a, _, rfl⟩ := List.mem_map.mp hd
    exact data_pr a
end LW

set_option Elab.async false
set_option linter.all false
set_option autoImplicit false
set_option maxRecDepth 100000
set_option maxHeartbeats 2000000
namespace LW
open PySem PySem.Spec PyProof.Rows DL L2
theorem atI_last {α : Type} {l : List α} (h : l ≠ []) : ∃ x ∈ l, atI l (-1) = some x := by
  refine ⟨l.getLast h, List.getLast_mem h, ?_⟩
  have hl : 0 < l.length := List.length_pos_iff.mpr h
  unfold atI ixN
  rw [if_neg (by decide), if_pos (by omega)]
  show l[((-1 : Int) + l.length).toNat]? = _
  rw [show ((-1 : Int) + l.length).toNat = l.length - 1 by omega, List.getLast_eq_getElem]
  exact List.getElem?_eq_getElem (by omega)
theorem pairs_fit {gs : List (List Nat)} {g : List Nat} (hG : ∀ h ∈ gs, GOk h) (hl : gs.length ≤ 64) (hg : GOk g) : Fit 6 70 3 (.tup ((pairs gs g).map prD)) := by
  have g6 := hg.2.1
  have pl : (pairs gs g).length ≤ 70 := by
    unfold pairs parts
    rw [List.length_map]
    refine Nat.le_trans (List.length_filter_le _ _) ?_
    rw [List.length_append, List.length_map]
    have := List.length_filter_le (fun p : List Nat => p.all fun a => decide (a ∈ g)) gs
    omega
  refine fit_tup (by rw [List.length_map]; exact pl) fun e he => ?_
  obtain ⟨p, hp, rfl⟩ := List.mem_map.mp he
  unfold pairs at hp
  obtain ⟨l, hl, rfl⟩ := List.mem_map.mp hp
  have hl := (List.mem_filter.mp hl).1
  have ok : ∀ x : List Nat, x.length ≤ 6 → (∀ i ∈ x, i < 6) → Fit 6 70 1 (natsT x) := fun x h1 h2 => fit_tup (by rw [List.length_map]; omega) fun e he => by
    obtain ⟨i, hi, rfl⟩ := List.mem_map.mp he
    exact leaf_fit (leaf_six (h2 i hi)) _
  refine fit_tup (by simp) fun e he => ?_
  simp only [List.mem_cons, List.not_mem_nil, or_false] at he
  rcases he with rfl | rfl
  · rcases mem_parts.mp hl with ⟨a, ha, rfl⟩ | ⟨hl, _⟩
    · exact ok _ (by rw [List.length_singleton]; decide) fun i hi => by rw [List.mem_singleton] at hi; subst hi; exact hg.2.2 i ha
    · exact ok _ (hG l hl).2.1 (hG l hl).2.2
  · exact ok _ (Nat.le_trans (List.length_filter_le _ _) g6) fun i hi => hg.2.2 i (rest_mem.mp hi).1
theorem grps_len {n : Nat} {M : List (List Nat)} (h6 : n ≤ 6) : (grps n M).length ≤ 64 := by
  unfold grps
  rw [List.length_mergeSort]
  refine Nat.le_trans (List.length_filter_le _ _) ?_
  rw [subs_length]; exact Nat.pow_le_pow_right (n := 2) (by omega) h6
end LW

set_option Elab.async false
set_option linter.all false
set_option autoImplicit false
set_option maxRecDepth 100000
set_option maxHeartbeats 4000000
namespace LW
open PySem PySem.Spec PyProof.Rows DL
open L2 hiding wTru wNot
local macro_rules | `(tactic| walk_at "ev") => `(tactic| try simp only [wipeD, put_put, fuel_fuel, fuel_dk, fuel_M, atI_z, atI_o, atI_t, put_M, if_true, wVar, wC, wNil, wCons, wTup, wFz, wOp, roI, roSub, roMod, roFdiv, roPow, roAdd, roMul, roLt, roLe, roGt, roGe, roIs, roIsNot, wTst, wTru, wAnd, wOr, wNot, wIfE, wAndV, wOrV, wNotV, wNeg, wChain, wNext, wSeq, wRet, wRetN, wDrop, wIf, wBreak, wCont, wAsg, wgName, wgNil, wgCons, wgTup, wiL, wiT, wiSeq, wiR1, wiR2, wFor, wLc, wYes, wCall, wCallK, wPar, wPar3, wSlL, wSlS, wSl, wMk, wStar, wDget, wSortSet, wSortSc, wDc, wiRef, wLcR, wForR, wiZip, wiEnum, rcAny, rcAll, rcAnyB, boolsD_map, strsD_map, intsD_map, woN, woS, wCB, wCBL, rcLen, rcList, rcTuple, rcAbs, rcInt, rcStr, roIx, wTidx, kTidx, wMatch, wmStr, wmNil, view, startD, seqD, wRevL, wMeth, hasTy, rmAppend, rmPop, rmInsert, wSetIx,
  roEq_ss, roEq_ii, roEq_bb, roNe_ss, roNe_ii, roNe_bb, roEq_is, roEq_si, roNe_is, roNe_si, isi_int, isi_str, isi_bl, isi_non, okT_int, okT_str, okT_bool, okT_tuple, okT_list,
  List.map_cons, List.map_nil, List.length_cons, List.length_nil, List.replicate, List.cons_append, List.nil_append, List.append_nil, List.getElem?_cons_zero, List.getElem?_cons_succ, List.set_cons_zero, List.set_cons_succ, Nat.reduceSub, Nat.reduceAdd, Nat.sub_self, List.replicate_succ, List.replicate_zero, true_and, and_true])
local macro_rules | `(tactic| walk_at "ev1") => `(tactic| simp only [wipeD, put_put, fuel_fuel, fuel_dk, fuel_M, atI_z, atI_o, atI_t, put_M, if_true, wVar, wC, wNil, wCons, wTup, wFz, wOp, roI, roSub, roMod, roFdiv, roPow, roAdd, roMul, roLt, roLe, roGt, roGe, roIs, roIsNot, wTst, wTru, wAnd, wOr, wNot, wIfE, wAndV, wOrV, wNotV, wNeg, wChain, wNext, wSeq, wRet, wRetN, wDrop, wIf, wBreak, wCont, wAsg, wgName, wgNil, wgCons, wgTup, wiL, wiT, wiSeq, wiR1, wiR2, wFor, wLc, wYes, wCall, wCallK, wPar, wPar3, wSlL, wSlS, wSl, wMk, wStar, wDget, wSortSet, wSortSc, wDc, wiRef, wLcR, wForR, wiZip, wiEnum, rcAny, rcAll, rcAnyB, boolsD_map, strsD_map, intsD_map, woN, woS, wCB, wCBL, rcLen, rcList, rcTuple, rcAbs, rcInt, rcStr, roIx, wTidx, kTidx, wMatch, wmStr, wmNil, view, startD, seqD, wRevL, wMeth, hasTy, rmAppend, rmPop, rmInsert, wSetIx,
  roEq_ss, roEq_ii, roEq_bb, roNe_ss, roNe_ii, roNe_bb, roEq_is, roEq_si, roNe_is, roNe_si, isi_int, isi_str, isi_bl, isi_non, okT_int, okT_str, okT_bool, okT_tuple, okT_list,
  List.map_cons, List.map_nil, List.length_cons, List.length_nil, List.replicate, List.cons_append, List.nil_append, List.append_nil, List.getElem?_cons_zero, List.getElem?_cons_succ, List.set_cons_zero, List.set_cons_succ, Nat.reduceSub, Nat.reduceAdd, Nat.sub_self, List.replicate_succ, List.replicate_zero, true_and, and_true])

local macro_rules | `(tactic| walk_at "kd") => `(tactic| simp_all [ofS_eq, roEq_ss, roEq_ii, roEq_bb, roNe_ss, roNe_ii, roNe_bb, roEq_is, roEq_si, roNe_is, roNe_si, isi_int, isi_str, isi_bl, isi_non, okT_int, okT_str, okT_bool, okT_tuple, okT_list])
def wordsL : List Str := [Str.ofString "from", Str.ofString "where", Str.ofString "tell", Str.ofString "once", Str.ofString "order", Str.ofString "equal", Str.ofString "unlike", Str.ofString "less", Str.ofString "most", Str.ofString "among", Str.ofString "none", Str.ofString "some"]
theorem wordsL_nodup : wordsL.Nodup := by decide +kernel
theorem wordsL_nam : ∀ x ∈ wordsL, Nam x := by unfold Nam; decide +kernel
theorem fmod_small {f : Int} {k c : Nat} (f0 : 0 ≤ f) (hc : 0 < c) : (f + (0 + (k : Int))).fmod (c : Int) = (((f.toNat + k) % c : Nat) : Int) := by
  obtain ⟨n, rfl⟩ := Int.eq_ofNat_of_zero_le f0
  rw [Int.fmod_eq_emod_of_nonneg _ (by omega), Int.toNat_natCast, Int.zero_add, ← Int.natCast_add, ← Int.natCast_emod]
def top (i : Nat) : Stmt := PySem.Challenge.pw_noguess_k18_pairs_and_the_order_of_parts.main.body.getD i (.Pass ⟨0, 0, 0, 0⟩)
abbrev s_alias_numbers : Stmt := top 1
abbrev s_with_equality : Stmt := top 2
abbrev s_join_classes : Stmt := top 3
abbrev s_part_key : Stmt := top 5
abbrev s_comes_before : Stmt := top 6
abbrev s_neighbours : Stmt := top 7
abbrev s_extensions : Stmt := top 8
abbrev s_groups_of : Stmt := top 9
abbrev s_is_within : Stmt := top 10
abbrev s_pairs_among : Stmt := top 11
abbrev s_pairs_of : Stmt := top 12
abbrev s__law_deck : Stmt := top 14
abbrev s__law_draw : Stmt := top 15
abbrev s__law_pick : Stmt := top 16
abbrev s__law_names : Stmt := top 17
abbrev s__law_column : Stmt := top 18
abbrev s__law_filter : Stmt := top 19
abbrev s__law_question : Stmt := top 20
abbrev s__law_classes : Stmt := top 21
abbrev s__law_members : Stmt := top 22
abbrev s__law_rank : Stmt := top 23
abbrev s__law_is_linked : Stmt := top 24
abbrev s__law_groups : Stmt := top 25
abbrev s__law_parted : Stmt := top 26
abbrev s__law_is_less : Stmt := top 27
abbrev s__law_order_right : Stmt := top 28
abbrev s_law : Stmt := top 29
/-- what the top has written -/
structure Txt (K : PySem.W.Frag) (mg : Str → Option Value) where
  a_alias_numbers : Addr
  fd_alias_numbers : FuncData
  F_alias_numbers : Fun K "alias_numbers" "alias_numbers" s_alias_numbers a_alias_numbers fd_alias_numbers
  m_alias_numbers : mg "alias_numbers" = some (.ref a_alias_numbers)
  a_with_equality : Addr
  fd_with_equality : FuncData
  F_with_equality : Fun K "with_equality" "with_equality" s_with_equality a_with_equality fd_with_equality
  m_with_equality : mg "with_equality" = some (.ref a_with_equality)
  a_join_classes : Addr
  fd_join_classes : FuncData
  F_join_classes : Fun K "join_classes" "join_classes" s_join_classes a_join_classes fd_join_classes
  m_join_classes : mg "join_classes" = some (.ref a_join_classes)
  a_part_key : Addr
  fd_part_key : FuncData
  F_part_key : Fun K "part_key" "part_key" s_part_key a_part_key fd_part_key
  m_part_key : mg "part_key" = some (.ref a_part_key)
  a_comes_before : Addr
  fd_comes_before : FuncData
  F_comes_before : Fun K "comes_before" "comes_before" s_comes_before a_comes_before fd_comes_before
  m_comes_before : mg "comes_before" = some (.ref a_comes_before)
  a_neighbours : Addr
  fd_neighbours : FuncData
  F_neighbours : Fun K "neighbours" "neighbours" s_neighbours a_neighbours fd_neighbours
  m_neighbours : mg "neighbours" = some (.ref a_neighbours)
  a_extensions : Addr
  fd_extensions : FuncData
  F_extensions : Fun K "extensions" "extensions" s_extensions a_extensions fd_extensions
  m_extensions : mg "extensions" = some (.ref a_extensions)
  a_groups_of : Addr
  fd_groups_of : FuncData
  F_groups_of : Fun K "groups_of" "groups_of" s_groups_of a_groups_of fd_groups_of
  m_groups_of : mg "groups_of" = some (.ref a_groups_of)
  a_is_within : Addr
  fd_is_within : FuncData
  F_is_within : Fun K "is_within" "is_within" s_is_within a_is_within fd_is_within
  m_is_within : mg "is_within" = some (.ref a_is_within)
  a_pairs_among : Addr
  fd_pairs_among : FuncData
  F_pairs_among : Fun K "pairs_among" "pairs_among" s_pairs_among a_pairs_among fd_pairs_among
  m_pairs_among : mg "pairs_among" = some (.ref a_pairs_among)
  a_pairs_of : Addr
  fd_pairs_of : FuncData
  F_pairs_of : Fun K "pairs_of" "pairs_of" s_pairs_of a_pairs_of fd_pairs_of
  m_pairs_of : mg "pairs_of" = some (.ref a_pairs_of)
  a__law_deck : Addr
  fd__law_deck : FuncData
  F__law_deck : Fun K "_law_deck" "_law_deck" s__law_deck a__law_deck fd__law_deck
  m__law_deck : mg "_law_deck" = some (.ref a__law_deck)
  a__law_draw : Addr
  fd__law_draw : FuncData
  F__law_draw : Fun K "_law_draw" "_law_draw" s__law_draw a__law_draw fd__law_draw
  m__law_draw : mg "_law_draw" = some (.ref a__law_draw)
  a__law_pick : Addr
  fd__law_pick : FuncData
  F__law_pick : Fun K "_law_pick" "_law_pick" s__law_pick a__law_pick fd__law_pick
  m__law_pick : mg "_law_pick" = some (.ref a__law_pick)
  a__law_names : Addr
  fd__law_names : FuncData
  F__law_names : Fun K "_law_names" "_law_names" s__law_names a__law_names fd__law_names
  m__law_names : mg "_law_names" = some (.ref a__law_names)
  a__law_column : Addr
  fd__law_column : FuncData
  F__law_column : Fun K "_law_column" "_law_column" s__law_column a__law_column fd__law_column
  m__law_column : mg "_law_column" = some (.ref a__law_column)
  a__law_filter : Addr
  fd__law_filter : FuncData
  F__law_filter : Fun K "_law_filter" "_law_filter" s__law_filter a__law_filter fd__law_filter
  m__law_filter : mg "_law_filter" = some (.ref a__law_filter)
  a__law_question : Addr
  fd__law_question : FuncData
  F__law_question : Fun K "_law_question" "_law_question" s__law_question a__law_question fd__law_question
  m__law_question : mg "_law_question" = some (.ref a__law_question)
  a__law_classes : Addr
  fd__law_classes : FuncData
  F__law_classes : Fun K "_law_classes" "_law_classes" s__law_classes a__law_classes fd__law_classes
  m__law_classes : mg "_law_classes" = some (.ref a__law_classes)
  a__law_members : Addr
  fd__law_members : FuncData
  F__law_members : Fun K "_law_members" "_law_members" s__law_members a__law_members fd__law_members
  m__law_members : mg "_law_members" = some (.ref a__law_members)
  a__law_rank : Addr
  fd__law_rank : FuncData
  F__law_rank : Fun K "_law_rank" "_law_rank" s__law_rank a__law_rank fd__law_rank
  m__law_rank : mg "_law_rank" = some (.ref a__law_rank)
  a__law_is_linked : Addr
  fd__law_is_linked : FuncData
  F__law_is_linked : Fun K "_law_is_linked" "_law_is_linked" s__law_is_linked a__law_is_linked fd__law_is_linked
  m__law_is_linked : mg "_law_is_linked" = some (.ref a__law_is_linked)
  a__law_groups : Addr
  fd__law_groups : FuncData
  F__law_groups : Fun K "_law_groups" "_law_groups" s__law_groups a__law_groups fd__law_groups
  m__law_groups : mg "_law_groups" = some (.ref a__law_groups)
  a__law_parted : Addr
  fd__law_parted : FuncData
  F__law_parted : Fun K "_law_parted" "_law_parted" s__law_parted a__law_parted fd__law_parted
  m__law_parted : mg "_law_parted" = some (.ref a__law_parted)
  a__law_is_less : Addr
  fd__law_is_less : FuncData
  F__law_is_less : Fun K "_law_is_less" "_law_is_less" s__law_is_less a__law_is_less fd__law_is_less
  m__law_is_less : mg "_law_is_less" = some (.ref a__law_is_less)
  a__law_order_right : Addr
  fd__law_order_right : FuncData
  F__law_order_right : Fun K "_law_order_right" "_law_order_right" s__law_order_right a__law_order_right fd__law_order_right
  m__law_order_right : mg "_law_order_right" = some (.ref a__law_order_right)
  a_law : Addr
  fd_law : FuncData
  F_law : Fun K "law" "law" s_law a_law fd_law
  m_law : mg "law" = some (.ref a_law)
  n_enumerate : mg "enumerate" = none
  n_sorted : mg "sorted" = none
  n_tuple : mg "tuple" = none
  n_len : mg "len" = none
  n_range : mg "range" = none
  n_all : mg "all" = none
  n_list : mg "list" = none
  n_int : mg "int" = none
  n_set : mg "set" = none
  n_repr : mg "repr" = none
section
variable {P : Program} {w : World} {K : PySem.W.Frag} {mg : Str → Option Value} {base : Heap}
/-! #### alias_numbers -/
theorem bi_alias_numbers (T : Txt K mg) : Binds K T.fd_alias_numbers ["question"] [] := T.F_alias_numbers.binds fun _ _ _ _ _ _ us hl => match us, hl with | [_], _ => rfl
def N_alias_numbers : List Str := ["question", "number", "source"]
theorem sc_alias_numbers : FnScope N_alias_numbers ["question"] (defScope s_alias_numbers) := ⟨rfl, rfl, rfl, by decide +kernel, rfl, by decide +kernel, by decide +kernel⟩
def w_alias_numbers_e1 : WE :=
    (wOp roIx (wVar 2) (wC (.int 0)))
def w_alias_numbers_e2 : WE :=
    (wVar 1)
def w_alias_numbers : WS :=
    (wRet (wDc [1, 2] (wiEnum (wCons (wOp roIx (wVar 0) (wC (.int 0))) wNil)) (wgTup 2 (wgCons (wgName 1) (wgCons (wgName 2) wgNil))) wYes w_alias_numbers_e1 w_alias_numbers_e2))
theorem b_alias_numbers (T : Txt K mg) {cdv : Value} {A : Around} {outer : List Env} {s : Shared} {H : Hp} {E : XK} (hr : RoomG 0 (A.deeper (envOfC "alias_numbers" (defScope s_alias_numbers) s.heap.objs.size T.a_alias_numbers cdv))) :
    DSs (cxOf CX0 P w K mg base N_alias_numbers "alias_numbers" (defScope s_alias_numbers) T.a_alias_numbers cdv A outer s H E).nox (defBody s_alias_numbers) w_alias_numbers :=
    (dss_one (ds_ret (de_dc [("number", 1), ("source", 2)] rfl sc_alias_numbers.nd (di_enum (by rfl) T.n_enumerate (da_cons (de_ix ixd (dvar 0) dint (fun _ _ => rfl)) da_nil)) (blkOk_by (own := [("number", 1), ("source", 2)]) (N := N_alias_numbers) (sc := (defScope s_alias_numbers)) (by decide +kernel)) (fun _ _ _ _ _ => (dg_tup rfl (dgs_cons (dg_name (i := 1) sc_alias_numbers.nd rfl (by first | exact Or.inl rfl | exact Or.inr rfl)) (dgs_cons (dg_name (i := 2) sc_alias_numbers.nd rfl (by first | exact Or.inl rfl | exact Or.inr rfl)) dgs_nil)))) (fun _ _ _ _ _ => dts_nil) (fun _ _ _ _ _ => (de_ix ixd (dvar 2) dint (fun _ _ => rfl))) (fun _ _ _ _ _ => (dvar 1)))))
local macro_rules | `(tactic| walk_at "un.alias_numbers") => `(tactic| (unfold w_alias_numbers N_alias_numbers))
def sp_alias_numbers : SpD := fun ds s P => ∃ q, ds = [askD q] ∧ AskOk q ∧ P (.dct (q.al.map .inr) ((List.range q.src.length).map natD)) s
theorem len_alias_numbers : ∀ ds s P, sp_alias_numbers ds s P → ds.length = 1 := by
  rintro ds s P ⟨q, rfl, _⟩; rfl
theorem sem_alias_numbers : ∀ ds s P, sp_alias_numbers ds s P → w_alias_numbers { nx := fun _ s' => P .non s', rt := P } (startD N_alias_numbers ds) s := by
  rintro ds s P ⟨q, rfl, hq, h⟩
  walk_at "un.alias_numbers"
  unfold askD
  walk_at "ev"
  rw [enuD_map]
  have h6 := hq.n6
  refine ⟨by rw [List.length_map, List.length_zip, List.length_range, sizeLine_eq]; omega, ?_⟩
  refine dcW_each (kf := fun p => .inr p.2.1) (vf := fun p => natD p.1) (fun p hp R hR => ?_) ?_ (fun _ _ => by simp) ?_
  · unfold w_alias_numbers_e1 w_alias_numbers_e2 colD
    walk_at "ev"
    exact hR
  · rw [zip_snd q.src fun c => (Sum.inr c.1 : Key)]
    have := hq.nd
    unfold Ask.al at this
    rw [show (fun c : Col => (Sum.inr c.1 : Key)) = Sum.inr ∘ Prod.fst from rfl, ← List.map_map]
    exact List.Pairwise.map _ (fun a b hab e => hab (by injection e)) this
  · rw [zip_snd q.src fun c => (Sum.inr c.1 : Key), zip_fst q.src natD]
    rw [show (fun c : Col => (Sum.inr c.1 : Key)) = Sum.inr ∘ Prod.fst from rfl, ← List.map_map]
    exact h

theorem fn_alias_numbers (T : Txt K mg) : FnD P w K mg base 1 T.a_alias_numbers T.fd_alias_numbers ["question"] sp_alias_numbers :=
  fnD_of T.F_alias_numbers sc_alias_numbers len_alias_numbers (fun cdv A outer s H E hr => b_alias_numbers T hr) sem_alias_numbers
/-! #### with_equality -/
theorem bi_with_equality (T : Txt K mg) : Binds K T.fd_with_equality ["found", "one", "other"] [] := T.F_with_equality.binds fun _ _ _ _ _ _ us hl => match us, hl with | [_, _, _], _ => rfl
def N_with_equality : List Str := ["found", "one", "other", "together", "apart", "columns", "column"]
theorem sc_with_equality : FnScope N_with_equality ["found", "one", "other"] (defScope s_with_equality) := ⟨rfl, rfl, rfl, by decide +kernel, rfl, by decide +kernel, by decide +kernel⟩
def w_with_equality_q1 : WT :=
    (wTst (wOp roNotIn (wVar 6) (wVar 3)))
def w_with_equality_e1 : WE :=
    (wVar 6)
def w_with_equality_b1 : WS :=
    (wIf (wOr (wTst (wOp roIn (wVar 1) (wVar 5))) (wTst (wOp roIn (wVar 2) (wVar 5)))) (wDrop (wMeth "list" rmExtend (wVar 3) (wCons (wFz (wLc [6] (wiSeq (wVar 5)) (wgName 6) w_with_equality_q1 w_with_equality_e1)) wNil))) (wDrop (wMeth "list" rmAppend (wVar 4) (wCons (wVar 5) wNil))))
def w_with_equality_t1 : WS :=
    (wFreeze 3 (wFreeze 4 (wRet (wFz (wStar (wVar 4) (wCons (wVar 3) wNil))))))
def w_with_equality : WS :=
    (wSeq (wAsg (wTup (wCons (wMk (wCons (wVar 1) (wCons (wVar 2) wNil))) (wCons (wMk wNil) wNil))) (wgTup 2 (wgCons (wgName 3) (wgCons (wgName 4) wgNil))))
      (wSeq (wFor (wiSeq (wVar 0)) (wgName 5) w_with_equality_b1)
      w_with_equality_t1))
theorem b_with_equality (T : Txt K mg) {cdv : Value} {A : Around} {outer : List Env} {s : Shared} {H : Hp} {E : XK} (hr : RoomG 0 (A.deeper (envOfC "with_equality" (defScope s_with_equality) s.heap.objs.size T.a_with_equality cdv))) :
    DSs (cxOf CX0 P w K mg base N_with_equality "with_equality" (defScope s_with_equality) T.a_with_equality cdv A outer s H E).nox (defBody s_with_equality) w_with_equality :=
    (dss_cons (ds_asg (de_tup (da_cons (de_mk (del_lst (da_cons (dvar 1) (da_cons (dvar 2) da_nil)))) (da_cons (de_mk (del_lst da_nil)) da_nil))) (dg_tup rfl (dgs_cons (dg_name (i := 3) sc_with_equality.nd rfl (by first | exact Or.inl rfl | exact Or.inr rfl)) (dgs_cons (dg_name (i := 4) sc_with_equality.nd rfl (by first | exact Or.inl rfl | exact Or.inr rfl)) dgs_nil))))
      (dss_cons (ds_for PassesOwn.never rfl (di_seq (dvar 0)) (dg_name (i := 5) sc_with_equality.nd rfl (by first | exact Or.inl rfl | exact Or.inr rfl)) (dss_one (ds_if (PW.pt (dw_or (dt_cmp (od_in hr.rm.units) (dvar 1) (dvar 5) (by rfl)) (dw_or1 (dt_cmp (od_in hr.rm.units) (dvar 2) (dvar 5) (by rfl))))) (dss_one (ds_expr (de_meth PySem.F.plainAttrs_list PySem.F.slot_list_extend PySem.F.type_list_extend md_extend (dvar 3) (da_cons (de_fz (del_lc [("column", 6)] rfl sc_with_equality.nd (di_seq (dvar 5)) (blkOk_by (own := [("column", 6)]) (N := N_with_equality) (sc := (defScope s_with_equality)) (by decide +kernel)) (fun _ _ _ _ _ => (dg_name (i := 6) sc_with_equality.nd rfl (by first | exact Or.inl rfl | exact Or.inr rfl))) (fun _ _ _ _ _ => (dts_one (dt_cmp (od_notin hr.rm.units) (dvar 6) (dvar 3) (by rfl)))) (fun _ _ _ _ _ => (dvar 6)))) da_nil)))) (dss_one (ds_expr (de_meth PySem.F.plainAttrs_list PySem.F.slot_list_append PySem.F.type_list_append md_append (dvar 4) (da_cons (dvar 5) da_nil)))))))
      (dss_freeze 3 (dss_freeze 4 (dss_one (ds_ret (de_fz (del_star (dvar 4) (da_cons (dvar 3) da_nil)))))))))
local macro_rules | `(tactic| walk_at "un.with_equality") => `(tactic| (unfold w_with_equality N_with_equality; try unfold w_with_equality_t1))
def sp_with_equality : SpD := fun ds s P => ∃ F a b, ds = [.lst (F.map fun cs => .lst (cs.map colD)), colD a, colD b] ∧ F.length ≤ 64 ∧ (∀ cs ∈ F, cs.length ≤ 64) ∧ P (.lst ((withEq F a b).map fun cs => .lst (cs.map colD))) s
theorem len_with_equality : ∀ ds s P, sp_with_equality ds s P → ds.length = 3 := by
  rintro ds s P ⟨F, a, b, rfl, _⟩; rfl
theorem sem_with_equality : ∀ ds s P, sp_with_equality ds s P → w_with_equality { nx := fun _ s' => P .non s', rt := P } (startD N_with_equality ds) s := by
  rintro ds s P ⟨F, a, b, rfl, h1, h2, h⟩
  walk_at "un.with_equality"
  walk_at "ev"
  refine fun p1 n1 k1 p2 n2 k2 => ?_
  walk_at "ev"
  have p12 : p1 ≠ p2 := fun e => by rw [if_pos e.symm] at n2; cases n2
  have n2' : s.M p2 = none := by rw [if_neg (fun e => p12 e.symm)] at n2; exact n2
  have p21 : p2 ≠ p1 := fun e => p12 e.symm
  suffices H : ∀ (F2 A : List (List Col)) (T : List Col) (d5 d6 : Option D), (∀ cs ∈ F2, cs.length ≤ 64) → T.length + 64 * F2.length ≤ 5000 → A.length + F2.length ≤ 64 →
      P (.lst ((A ++ (F2.filter (fun cs => !hitB a b cs) ++ [F2.foldl (grow1 a b) T])).map fun cs => .lst (cs.map colD))) s →
      loopW (wgName 5) w_with_equality_b1 { nx := wFreeze 3 (wFreeze 4 (wRet (wFz (wStar (wVar 4) (wCons (wVar 3) wNil))))) { nx := fun x s' => P D.non s', rt := P }, rt := P }
        (F2.map fun cs => D.lst (cs.map colD))
        [some (.lst (F.map fun cs => .lst (cs.map colD))), some (colD a), some (colD b), some (.ref p1), some (.ref p2), d5, d6]
        ((s.put p1 (.lst (T.map colD))).put p2 (.lst (A.map fun cs => .lst (cs.map colD)))) from
    H F [] [a, b] _ _ h2 (by simp; omega) (by simpa using h1) h
  intro F2
  induction F2 with
  | nil =>
    intro A T d5 d6 _ hT hA h
    have e1 : ((s.put p1 (.lst (T.map colD))).put p2 (.lst (A.map fun cs => .lst (cs.map colD)))).M p1 = some (.lst (T.map colD)) := by simp [S.put, p12]
    have e2 : (((s.put p1 (.lst (T.map colD))).put p2 (.lst (A.map fun cs => .lst (cs.map colD)))).del p1).M p2 = some (.lst (A.map fun cs => .lst (cs.map colD))) := by simp [S.put, S.del, p21]
    rw [List.map_nil]
    unfold loopW
    simp only [wFreeze, List.getElem?_cons_zero, List.getElem?_cons_succ]
    rw [e1]
    simp only [List.set_cons_zero, List.set_cons_succ, List.getElem?_cons_zero, List.getElem?_cons_succ]
    rw [e2]
    refine ⟨fun b n hb => k1 b n hb, fun b n hb => k2 b n hb, ?_⟩
    rw [put_del2 n1 n2']
    walk_at "ev"
    simp only [List.length_nil] at hT hA
    refine ⟨by simp; rw [sizeLine_eq]; omega, ?_⟩
    simpa using h
  | cons cs F2 ih =>
    intro A T d5 d6 h2 hT hA h
    have c64 := h2 cs List.mem_cons_self
    rw [List.length_cons] at hT hA
    rw [List.map_cons]
    unfold loopW
    unfold w_with_equality_b1
    walk_at "ev"
    refine in_it same_col (l := cs) (.inl rfl) ?_
    have M1 : ((s.put p1 (.lst (T.map colD))).put p2 (.lst (A.map fun cs => .lst (cs.map colD)))).M p1 = some (.lst (T.map colD)) := by simp [S.put, p12]
    have M2 : ((s.put p1 (.lst (T.map colD))).put p2 (.lst (A.map fun cs => .lst (cs.map colD)))).M p2 = some (.lst (A.map fun cs => .lst (cs.map colD))) := by simp [S.put]
    have step : ∀ {hb : Bool}, hitB a b cs = hb → (hb = true → a ∈ cs ∨ b ∈ cs) → True := fun _ _ => trivial
    by_cases qa : a ∈ cs
    · have hh : hitB a b cs = true := by simp [hitB, qa]
      simp only [qa, decide_true]
      rw [M1]
      refine ⟨trivial, by rw [List.length_map, sizeLine_eq]; omega, lcW_sel (p := fun c => decide (c ∉ T)) (f := colD) (fun c hc R0 R1 r0 r1 => ?_) ?_⟩
      · unfold w_with_equality_q1 w_with_equality_e1
        walk_at "ev"
        refine notIn_it same_col (l := T) (.inl (view_ref M1)) ?_
        by_cases e : c ∈ T
        · simp only [e, not_true_eq_false, decide_false] at r0 ⊢; exact r0 trivial
        · simp only [e, not_false_eq_true, decide_true] at r1 ⊢; exact r1 trivial
      · have hl := List.length_filter_le (fun c => decide (c ∉ T)) cs
        refine ext_eq M1 rfl (by rw [List.length_map, List.length_map, sizeLine_eq]; omega) ?_
        rw [put_swap p12, ← List.map_append]
        refine ih _ _ _ _ (fun x hx => h2 x (List.mem_cons_of_mem _ hx)) (by rw [List.length_append]; omega) (by omega) ?_
        rw [List.filter_cons_of_neg (by simp [hh]), List.foldl_cons] at h
        unfold grow1 at h ⊢
        rw [hh, if_pos rfl] at h
        exact h
    · simp only [qa, decide_false]
      refine in_it same_col (l := cs) (.inl rfl) ?_
      by_cases qb : b ∈ cs
      · have hh : hitB a b cs = true := by simp [hitB, qb]
        simp only [qb, decide_true]
        rw [M1]
        refine ⟨trivial, by rw [List.length_map, sizeLine_eq]; omega, lcW_sel (p := fun c => decide (c ∉ T)) (f := colD) (fun c hc R0 R1 r0 r1 => ?_) ?_⟩
        · unfold w_with_equality_q1 w_with_equality_e1
          walk_at "ev"
          refine notIn_it same_col (l := T) (.inl (view_ref M1)) ?_
          by_cases e : c ∈ T
          · simp only [e, not_true_eq_false, decide_false] at r0 ⊢; exact r0 trivial
          · simp only [e, not_false_eq_true, decide_true] at r1 ⊢; exact r1 trivial
        · have hl := List.length_filter_le (fun c => decide (c ∉ T)) cs
          refine ext_eq M1 rfl (by rw [List.length_map, List.length_map, sizeLine_eq]; omega) ?_
          rw [put_swap p12, ← List.map_append]
          refine ih _ _ _ _ (fun x hx => h2 x (List.mem_cons_of_mem _ hx)) (by rw [List.length_append]; omega) (by omega) ?_
          rw [List.filter_cons_of_neg (by simp [hh]), List.foldl_cons] at h
          unfold grow1 at h ⊢
          rw [hh, if_pos rfl] at h
          exact h
      · have hh : hitB a b cs = false := by simp [hitB, qa, qb]
        simp only [qb, decide_false]
        rw [M2]
        refine ⟨trivial, by rw [List.length_map, sizeLine_eq]; omega, ?_⟩
        rw [put_put]
        have := ih (A ++ [cs]) T (some (.lst (cs.map colD))) d6 (fun x hx => h2 x (List.mem_cons_of_mem _ hx)) (by omega) (by rw [List.length_append, List.length_singleton]; omega) (by
          rw [List.filter_cons_of_pos (by simp [hh]), List.foldl_cons] at h
          have hg : grow1 a b T cs = T := by unfold grow1; rw [hh]; rfl
          rw [hg] at h
          simpa using h)
        rw [List.map_append] at this
        exact this

theorem fn_with_equality (T : Txt K mg) : FnD P w K mg base 1 T.a_with_equality T.fd_with_equality ["found", "one", "other"] sp_with_equality :=
  fnD_of T.F_with_equality sc_with_equality len_with_equality (fun cdv A outer s H E hr => b_with_equality T hr) sem_with_equality
/-! #### join_classes -/
theorem bi_join_classes (T : Txt K mg) : Binds K T.fd_join_classes ["question"] [] := T.F_join_classes.binds fun _ _ _ _ _ _ us hl => match us, hl with | [_], _ => rfl
def N_join_classes : List Str := ["question", "numbers", "found", "one", "other", "rows", "alias", "name", "columns", "number", "row"]
theorem sc_join_classes : FnScope N_join_classes ["question"] (defScope s_join_classes) := ⟨rfl, rfl, rfl, by decide +kernel, rfl, by decide +kernel, by decide +kernel⟩
def w_join_classes_b1 : WS :=
    (wAsg (wCall sp_with_equality (wCons (wVar 2) (wCons (wVar 3) (wCons (wVar 4) wNil)))) (wgName 2))
def w_join_classes_e1 : WE :=
    (wTup (wCons (wDget (wVar 1) (wVar 6)) (wCons (wVar 7) (wCons (wVar 6) wNil))))
def w_join_classes_e2 : WE :=
    (wFz (wCBL rcSort (wCons (wFz (wLc [6, 7] (wiSeq (wVar 8)) (wgTup 2 (wgCons (wgName 6) (wgCons (wgName 7) wgNil))) wYes w_join_classes_e1)) wNil)))
def w_join_classes_e3 : WE :=
    (wTup (wCons (wVar 6) (wCons (wVar 7) wNil)))
def w_join_classes_e4 : WE :=
    (wCB rcTuple (wCons (wFz (wLc [9, 7, 6] (wiSeq (wVar 10)) (wgTup 3 (wgCons (wgName 9) (wgCons (wgName 7) (wgCons (wgName 6) wgNil)))) wYes w_join_classes_e3)) wNil))
def w_join_classes_t1 : WS :=
    (wSeq (wAsg (wFz (wCBL rcSort (wCons (wFz (wLc [8] (wiSeq (wVar 2)) (wgName 8) wYes w_join_classes_e2)) wNil))) (wgName 5))
      (wRet (wCB rcTuple (wCons (wFz (wLc [10] (wiSeq (wVar 5)) (wgName 10) wYes w_join_classes_e4)) wNil))))
def w_join_classes : WS :=
    (wSeq (wAsg (wCall sp_alias_numbers (wCons (wVar 0) wNil)) (wgName 1))
      (wSeq (wAsg (wFz wNil) (wgName 2))
      (wSeq (wFor (wiSeq (wOp roIx (wVar 0) (wC (.int 1)))) (wgTup 2 (wgCons (wgName 3) (wgCons (wgName 4) wgNil))) w_join_classes_b1)
      w_join_classes_t1)))
theorem b_join_classes (T : Txt K mg) {cdv : Value} {A : Around} {outer : List Env} {s : Shared} {H : Hp} {E : XK} (hr : RoomG 1 (A.deeper (envOfC "join_classes" (defScope s_join_classes) s.heap.objs.size T.a_join_classes cdv))) :
    DSs (cxOf CX0 P w K mg base N_join_classes "join_classes" (defScope s_join_classes) T.a_join_classes cdv A outer s H E).nox (defBody s_join_classes) w_join_classes :=
    (dss_cons (ds_set (i := 1) sc_join_classes.nd rfl (by first | exact Or.inl rfl | exact Or.inr rfl) (de_call (fn_alias_numbers T) (hr.mono (by decide)) (by rfl) T.m_alias_numbers T.F_alias_numbers.kp (bi_alias_numbers T) (da_cons (dvar 0) da_nil)))
      (dss_cons (ds_set (i := 2) sc_join_classes.nd rfl (by first | exact Or.inl rfl | exact Or.inr rfl) (de_fz (del_lst da_nil)))
      (dss_cons (ds_for PassesOwn.never rfl (di_seq (de_ix ixd (dvar 0) dint (fun _ _ => rfl))) (dg_tup rfl (dgs_cons (dg_name (i := 3) sc_join_classes.nd rfl (by first | exact Or.inl rfl | exact Or.inr rfl)) (dgs_cons (dg_name (i := 4) sc_join_classes.nd rfl (by first | exact Or.inl rfl | exact Or.inr rfl)) dgs_nil))) (dss_one (ds_set (i := 2) sc_join_classes.nd rfl (by first | exact Or.inl rfl | exact Or.inr rfl) (de_call (fn_with_equality T) (hr.mono (by decide)) (by rfl) T.m_with_equality T.F_with_equality.kp (bi_with_equality T) (da_cons (dvar 2) (da_cons (dvar 3) (da_cons (dvar 4) da_nil)))))))
      (dss_cons (ds_set (i := 5) sc_join_classes.nd rfl (by first | exact Or.inl rfl | exact Or.inr rfl) (de_fz (del_callB (cd_sort hr.rm.units) (by rfl) T.n_sorted bb_sorted (da_cons (de_fz (del_lc [("columns", 8)] rfl sc_join_classes.nd (di_seq (dvar 2)) (blkOk_by (own := [("columns", 8)]) (N := N_join_classes) (sc := (defScope s_join_classes)) (by decide +kernel)) (fun _ _ _ _ _ => (dg_name (i := 8) sc_join_classes.nd rfl (by first | exact Or.inl rfl | exact Or.inr rfl))) (fun _ _ _ _ _ => dts_nil) (fun _ _ _ _ _ => (de_fz (del_callB (cd_sort hr.rm.units) (by rfl) T.n_sorted bb_sorted (da_cons (de_fz (del_lc [("alias", 6), ("name", 7)] rfl sc_join_classes.nd (di_seq (dvar 8)) (blkOk_by (own := [("alias", 6), ("name", 7)]) (N := N_join_classes) (sc := (relS _ (defScope s_join_classes))) (by decide +kernel)) (fun _ _ _ _ _ => (dg_tup rfl (dgs_cons (dg_name (i := 6) sc_join_classes.nd rfl (by first | exact Or.inl rfl | exact Or.inr rfl)) (dgs_cons (dg_name (i := 7) sc_join_classes.nd rfl (by first | exact Or.inl rfl | exact Or.inr rfl)) dgs_nil)))) (fun _ _ _ _ _ => dts_nil) (fun _ _ _ _ _ => (de_tup (da_cons (de_dget hr.rm.units (dvar 1) (dvar 6) (fun _ _ => rfl)) (da_cons (dvar 7) (da_cons (dvar 6) da_nil))))))) da_nil)))))) da_nil))))
      (dss_one (ds_ret (de_callTy cd_tuple (by rfl) T.n_tuple bb_tuple (da_cons (de_fz (del_lc [("row", 10)] rfl sc_join_classes.nd (di_seq (dvar 5)) (blkOk_by (own := [("row", 10)]) (N := N_join_classes) (sc := (defScope s_join_classes)) (by decide +kernel)) (fun _ _ _ _ _ => (dg_name (i := 10) sc_join_classes.nd rfl (by first | exact Or.inl rfl | exact Or.inr rfl))) (fun _ _ _ _ _ => dts_nil) (fun _ _ _ _ _ => (de_callTy cd_tuple (by rfl) T.n_tuple bb_tuple (da_cons (de_fz (del_lc [("number", 9), ("name", 7), ("alias", 6)] rfl sc_join_classes.nd (di_seq (dvar 10)) (blkOk_by (own := [("number", 9), ("name", 7), ("alias", 6)]) (N := N_join_classes) (sc := (relS _ (defScope s_join_classes))) (by decide +kernel)) (fun _ _ _ _ _ => (dg_tup rfl (dgs_cons (dg_name (i := 9) sc_join_classes.nd rfl (by first | exact Or.inl rfl | exact Or.inr rfl)) (dgs_cons (dg_name (i := 7) sc_join_classes.nd rfl (by first | exact Or.inl rfl | exact Or.inr rfl)) (dgs_cons (dg_name (i := 6) sc_join_classes.nd rfl (by first | exact Or.inl rfl | exact Or.inr rfl)) dgs_nil))))) (fun _ _ _ _ _ => dts_nil) (fun _ _ _ _ _ => (de_tup (da_cons (dvar 6) (da_cons (dvar 7) da_nil)))))) da_nil))))) da_nil))))))))
local macro_rules | `(tactic| walk_at "un.join_classes") => `(tactic| (unfold w_join_classes N_join_classes; try unfold w_join_classes_t1))
def sp_join_classes : SpD := fun ds s P => ∃ q, ds = [askD q] ∧ AskOk q ∧ P (.tup ((jcls q).map clsD)) s
theorem len_join_classes : ∀ ds s P, sp_join_classes ds s P → ds.length = 1 := by
  rintro ds s P ⟨q, rfl, _⟩; rfl
theorem sem_join_classes : ∀ ds s P, sp_join_classes ds s P → w_join_classes { nx := fun _ s' => P .non s', rt := P } (startD N_join_classes ds) s := by
  rintro ds s P ⟨q, rfl, hq, h⟩
  walk_at "un.join_classes"
  have hn : ∀ R : DK, R (.dct (q.al.map .inr) ((List.range q.src.length).map natD)) s → sp_alias_numbers [askD q] s R := fun R hR => ⟨q, rfl, hq, hR⟩
  unfold askD at hn ⊢
  walk_at "ev"
  refine hn _ ?_
  walk_at "ev"
  have h16 := hq.e16
  refine loopW_inv (I := fun r δ s' => s' = s ∧ ∃ (F : List (List Col)) (d3 d4 : Option D), δ = [some (askD q), some (.dct (q.al.map .inr) ((List.range q.src.length).map natD)), some (.lst (F.map fun cs => .lst (cs.map colD))), d3, d4, none, none, none, none, none, none] ∧
    F.length + r.length ≤ 16 ∧ (F.map List.length).sum + 2 * r.length ≤ 32 ∧ r.foldl (fun F e => withEq F e.1 e.2) F = clsOf q.eqs) ?_ ?_ ⟨rfl, [], _, _, rfl, by simpa using h16, by simp; omega, rfl⟩
  · rintro e r δ _ ⟨rfl, F, d3, d4, rfl, f1, f2, f3⟩ N hN
    unfold w_join_classes_b1 eqnD
    walk_at "ev"
    rw [List.length_cons] at f1 f2
    refine ⟨F, e.1, e.2, rfl, by omega, fun cs hcs => by have := mem_sum hcs; omega, hN _ _ ⟨rfl, withEq F e.1 e.2, _, _, rfl, ?_, ?_, f3⟩⟩
    · have := withEq_length F e.1 e.2; omega
    · have := withEq_sum F e.1 e.2; omega
  · rintro δ _ ⟨rfl, F, d3, d4, rfl, f1, f2, f3⟩
    obtain rfl : F = clsOf q.eqs := f3
    simp only [List.length_nil] at f1 f2
    walk_at "ev"
    refine ⟨by rw [List.length_map, sizeLine_eq]; omega, lcW_each (f := fun cs => rowD (srt3 (cs.map (numC q.al)))) (fun cs hcs R hR => ?_) ?_⟩
    · unfold w_join_classes_e2
      walk_at "ev"
      have hc := mem_sum hcs
      refine ⟨by rw [List.length_map, sizeLine_eq]; omega, lcW_each (f := fun c => tri (numC q.al c)) (fun c hcc R hR => ?_) ?_⟩
      · unfold w_join_classes_e1 colD
        walk_at "ev"
        have e := find_al hq.nd (clsOf_all (fun e he => (hq.eq e he).2) cs hcs c hcc).1
        rw [List.length_map] at e
        unfold keyOf?
        simp only [e]
        exact hR
      · rw [show (cs.map fun c => tri (numC q.al c)) = (cs.map (numC q.al)).map tri by rw [List.map_map]; rfl]
        unfold rcSort
        walk_at "ev"
        refine ⟨sortOk_tri _, ?_⟩
        rw [srtD_tri]
        exact hR
    · rw [show ((clsOf q.eqs).map fun cs => rowD (srt3 (cs.map (numC q.al)))) = ((clsOf q.eqs).map fun cs => srt3 (cs.map (numC q.al))).map rowD by rw [List.map_map]; rfl]
      unfold rcSort
      walk_at "ev"
      refine ⟨sortOk_rowD _, ?_⟩
      rw [srtD_rowD]
      refine ⟨?_, lcW_each (f := fun r => .tup (r.map fun t => colD (t.2.2, t.2.1))) (fun r hr R hR => ?_) ?_⟩
      · unfold srtR
        rw [List.length_map, List.length_mergeSort, List.length_map, sizeLine_eq]; omega
      · unfold w_join_classes_e4 rowD
        walk_at "ev"
        have hr2 : r.length ≤ 32 := by
          unfold srtR at hr
          rw [List.mem_mergeSort] at hr
          obtain ⟨cs, hcs, rfl⟩ := List.mem_map.mp hr
          unfold srt3
          rw [List.length_mergeSort, List.length_map]
          have := mem_sum hcs
          omega
        refine ⟨by rw [List.length_map, sizeLine_eq]; omega, lcW_each (f := fun t => colD (t.2.2, t.2.1)) (fun t ht R hR => ?_) hR⟩
        unfold w_join_classes_e3 tri
        walk_at "ev"
        exact hR
      · walk_at "ev"
        unfold jcls jrows at h
        rw [List.map_map] at h
        have e : (clsD ∘ fun r : List Tri => r.map fun t => ((t.2.2, t.2.1) : Col)) = fun r => .tup (r.map fun t => colD (t.2.2, t.2.1)) := by
          funext r
          show clsD _ = _
          unfold clsD
          rw [List.map_map]; rfl
        rw [e] at h
        exact h

theorem fn_join_classes (T : Txt K mg) : FnD P w K mg base 2 T.a_join_classes T.fd_join_classes ["question"] sp_join_classes :=
  fnD_of T.F_join_classes sc_join_classes len_join_classes (fun cdv A outer s H E hr => b_join_classes T hr) sem_join_classes
/-! #### part_key -/
theorem bi_part_key (T : Txt K mg) : Binds K T.fd_part_key ["part"] [] := T.F_part_key.binds fun _ _ _ _ _ _ us hl => match us, hl with | [_], _ => rfl
def N_part_key : List Str := ["part"]
theorem sc_part_key : FnScope N_part_key ["part"] (defScope s_part_key) := ⟨rfl, rfl, rfl, by decide +kernel, rfl, by decide +kernel, by decide +kernel⟩
def w_part_key : WS :=
    (wRet (wTup (wCons (wCB rcLen (wCons (wVar 0) wNil)) (wCons (wVar 0) wNil))))
theorem b_part_key (T : Txt K mg) {cdv : Value} {A : Around} {outer : List Env} {s : Shared} {H : Hp} {E : XK} (hr : RoomG 0 (A.deeper (envOfC "part_key" (defScope s_part_key) s.heap.objs.size T.a_part_key cdv))) :
    DSs (cxOf CX0 P w K mg base N_part_key "part_key" (defScope s_part_key) T.a_part_key cdv A outer s H E).nox (defBody s_part_key) w_part_key :=
    (dss_one (ds_ret (de_tup (da_cons (de_callB cd_len (by rfl) T.n_len bb_len (da_cons (dvar 0) da_nil)) (da_cons (dvar 0) da_nil)))))
local macro_rules | `(tactic| walk_at "un.part_key") => `(tactic| (unfold w_part_key N_part_key))
def sp_part_key : SpD := fun ds s P => ∃ g, ds = [natsT g] ∧ P (rankD g) s
theorem len_part_key : ∀ ds s P, sp_part_key ds s P → ds.length = 1 := by
  rintro ds s P ⟨g, rfl, _⟩; rfl
theorem sem_part_key : ∀ ds s P, sp_part_key ds s P → w_part_key { nx := fun _ s' => P .non s', rt := P } (startD N_part_key ds) s := by
  rintro ds s P ⟨g, rfl, h⟩
  walk_at "un.part_key"
  rw [show natsT g = D.tup (g.map natD) from rfl]
  walk_at "ev"
  rw [List.length_map]
  exact h

theorem fn_part_key (T : Txt K mg) : FnD P w K mg base 1 T.a_part_key T.fd_part_key ["part"] sp_part_key :=
  fnD_of T.F_part_key sc_part_key len_part_key (fun cdv A outer s H E hr => b_part_key T hr) sem_part_key
/-! #### comes_before -/
theorem bi_comes_before (T : Txt K mg) : Binds K T.fd_comes_before ["one", "other"] [] := T.F_comes_before.binds fun _ _ _ _ _ _ us hl => match us, hl with | [_, _], _ => rfl
abbrev kd_comes_before_0 : List D → List D → List D := pgX D.non 0 2 [1, 0]
theorem kb_comes_before_0 (T : Txt K mg) : KBinds K T.fd_comes_before ["one", "other"] ["other", "one"] (pgX Value.none 0 2 [1, 0]) (pgX V.non 0 2 [1, 0]) := by
  obtain ⟨oc, od, kV, doc, pm, an, cdv, ct, osl, e, lk, hcd⟩ := T.F_comes_before.ex
  rw [e]
  exact kb_mk (by decide) fun s us ws h1 h2 => match us, ws, h1, h2 with | [], [_, _], _, _ => .of_eq rfl
def N_comes_before : List Str := ["one", "other"]
theorem sc_comes_before : FnScope N_comes_before ["one", "other"] (defScope s_comes_before) := ⟨rfl, rfl, rfl, by decide +kernel, rfl, by decide +kernel, by decide +kernel⟩
def w_comes_before : WS :=
    (wRet (wOp roLtD (wCall sp_part_key (wCons (wVar 0) wNil)) (wCall sp_part_key (wCons (wVar 1) wNil))))
theorem b_comes_before (T : Txt K mg) {cdv : Value} {A : Around} {outer : List Env} {s : Shared} {H : Hp} {E : XK} (hr : RoomG 1 (A.deeper (envOfC "comes_before" (defScope s_comes_before) s.heap.objs.size T.a_comes_before cdv))) :
    DSs (cxOf CX0 P w K mg base N_comes_before "comes_before" (defScope s_comes_before) T.a_comes_before cdv A outer s H E).nox (defBody s_comes_before) w_comes_before :=
    (dss_one (ds_ret (de_cmp (od_ltD hr.rm.units) (de_call (fn_part_key T) (hr.mono (by decide)) (by rfl) T.m_part_key T.F_part_key.kp (bi_part_key T) (da_cons (dvar 0) da_nil)) (de_call (fn_part_key T) (hr.mono (by decide)) (by rfl) T.m_part_key T.F_part_key.kp (bi_part_key T) (da_cons (dvar 1) da_nil)) (nomark _))))
local macro_rules | `(tactic| walk_at "un.comes_before") => `(tactic| (unfold w_comes_before N_comes_before))
def sp_comes_before : SpD := fun ds s P => ∃ g h, ds = [natsT g, natsT h] ∧ P (.bl (ltD (rankD g) (rankD h))) s
theorem len_comes_before : ∀ ds s P, sp_comes_before ds s P → ds.length = 2 := by
  rintro ds s P ⟨g, h, rfl, _⟩; rfl
theorem sem_comes_before : ∀ ds s P, sp_comes_before ds s P → w_comes_before { nx := fun _ s' => P .non s', rt := P } (startD N_comes_before ds) s := by
  rintro ds s P ⟨g, h, rfl, hP⟩
  walk_at "un.comes_before"
  walk_at "ev"
  refine ⟨g, rfl, ⟨h, rfl, ?_⟩⟩
  exact rank_lt hP

theorem fn_comes_before (T : Txt K mg) : FnD P w K mg base 2 T.a_comes_before T.fd_comes_before ["one", "other"] sp_comes_before :=
  fnD_of T.F_comes_before sc_comes_before len_comes_before (fun cdv A outer s H E hr => b_comes_before T hr) sem_comes_before
/-! #### neighbours -/
theorem bi_neighbours (T : Txt K mg) : Binds K T.fd_neighbours ["question"] [] := T.F_neighbours.binds fun _ _ _ _ _ _ us hl => match us, hl with | [_], _ => rfl
def N_neighbours : List Str := ["question", "numbers", "number", "alias", "table", "found", "joined", "members", "name", "one", "other"]
theorem sc_neighbours : FnScope N_neighbours ["question"] (defScope s_neighbours) := ⟨rfl, rfl, rfl, by decide +kernel, rfl, by decide +kernel, by decide +kernel⟩
def w_neighbours_e1 : WE :=
    (wVar 3)
def w_neighbours_e2 : WE :=
    (wVar 2)
def w_neighbours_e3 : WE :=
    (wMk wNil)
def w_neighbours_e4 : WE :=
    (wDget (wVar 1) (wVar 3))
def w_neighbours_q1 : WT :=
    (wTst (wOp roNe (wVar 10) (wVar 9)))
def w_neighbours_e5 : WE :=
    (wVar 10)
def w_neighbours_b1 : WS :=
    (wDrop (wMeth "list" rmExtend (wOp roIx (wVar 5) (wVar 9)) (wCons (wFz (wLc [10] (wiSeq (wVar 7)) (wgName 10) w_neighbours_q1 w_neighbours_e5)) wNil)))
def w_neighbours_b2 : WS :=
    (wSeq (wAsg (wFz (wSortSc [3, 8] (wiSeq (wVar 6)) (wgTup 2 (wgCons (wgName 3) (wgCons (wgName 8) wgNil))) wYes w_neighbours_e4)) (wgName 7))
      (wFor (wiSeq (wVar 7)) (wgName 9) w_neighbours_b1))
def w_neighbours : WS :=
    (wSeq (wAsg (wDc [2, 3, 4] (wiEnum (wCons (wOp roIx (wVar 0) (wC (.int 0))) wNil)) (wgTup 2 (wgCons (wgName 2) (wgCons (wgTup 2 (wgCons (wgName 3) (wgCons (wgName 4) wgNil))) wgNil))) wYes w_neighbours_e1 w_neighbours_e2) (wgName 1))
      (wSeq (wAsg (wFz (wLc [3] (wiKeys (wVar 1)) (wgName 3) wYes w_neighbours_e3)) (wgName 5))
      (wSeq (wFor (wiSeq (wCall sp_join_classes (wCons (wVar 0) wNil))) (wgName 6) w_neighbours_b2)
      (wFreezeN 5 (wRet (wVar 5))))))
theorem b_neighbours (T : Txt K mg) {cdv : Value} {A : Around} {outer : List Env} {s : Shared} {H : Hp} {E : XK} (hr : RoomG 2 (A.deeper (envOfC "neighbours" (defScope s_neighbours) s.heap.objs.size T.a_neighbours cdv))) :
    DSs (cxOf CX0 P w K mg base N_neighbours "neighbours" (defScope s_neighbours) T.a_neighbours cdv A outer s H E).nox (defBody s_neighbours) w_neighbours :=
    (dss_cons (ds_set (i := 1) sc_neighbours.nd rfl (by first | exact Or.inl rfl | exact Or.inr rfl) (de_dc [("number", 2), ("alias", 3), ("table", 4)] rfl sc_neighbours.nd (di_enum (by rfl) T.n_enumerate (da_cons (de_ix ixd (dvar 0) dint (fun _ _ => rfl)) da_nil)) (blkOk_by (own := [("number", 2), ("alias", 3), ("table", 4)]) (N := N_neighbours) (sc := (defScope s_neighbours)) (by decide +kernel)) (fun _ _ _ _ _ => (dg_tup rfl (dgs_cons (dg_name (i := 2) sc_neighbours.nd rfl (by first | exact Or.inl rfl | exact Or.inr rfl)) (dgs_cons (dg_tup rfl (dgs_cons (dg_name (i := 3) sc_neighbours.nd rfl (by first | exact Or.inl rfl | exact Or.inr rfl)) (dgs_cons (dg_name (i := 4) sc_neighbours.nd rfl (by first | exact Or.inl rfl | exact Or.inr rfl)) dgs_nil))) dgs_nil)))) (fun _ _ _ _ _ => dts_nil) (fun _ _ _ _ _ => (dvar 3)) (fun _ _ _ _ _ => (dvar 2))))
      (dss_cons (ds_setLc (i := 5) [("alias", 3)] rfl sc_neighbours.nd rfl rfl (sw_true rfl rfl rfl (by decide +kernel)) (di_keys (dvar 1)) (blkOk_by (own := [("alias", 3)]) (N := N_neighbours) (sc := (defScope s_neighbours)) (by decide +kernel)) (fun _ _ _ _ _ => (dg_name (i := 3) sc_neighbours.nd rfl (by first | exact Or.inl rfl | exact Or.inr rfl))) (fun _ _ _ _ _ => dts_nil) (fun _ _ _ _ _ => (de_mk (del_lst da_nil))))
      (dss_cons (ds_for PassesOwn.never rfl (di_seq (de_call (fn_join_classes T) (hr.mono (by decide)) (by rfl) T.m_join_classes T.F_join_classes.kp (bi_join_classes T) (da_cons (dvar 0) da_nil))) (dg_name (i := 6) sc_neighbours.nd rfl (by first | exact Or.inl rfl | exact Or.inr rfl)) (dss_cons (ds_set (i := 7) sc_neighbours.nd rfl (by first | exact Or.inl rfl | exact Or.inr rfl) (de_fz (del_sortSc [("alias", 3), ("name", 8)] rfl hr.rm.units (by rfl) T.n_sorted sc_neighbours.nd (di_seq (dvar 6)) (blkOk_by (own := [("alias", 3), ("name", 8)]) (N := N_neighbours) (sc := (defScope s_neighbours)) (by decide +kernel)) (fun _ _ _ _ _ => (dg_tup rfl (dgs_cons (dg_name (i := 3) sc_neighbours.nd rfl (by first | exact Or.inl rfl | exact Or.inr rfl)) (dgs_cons (dg_name (i := 8) sc_neighbours.nd rfl (by first | exact Or.inl rfl | exact Or.inr rfl)) dgs_nil)))) (fun _ _ _ _ _ => dts_nil) (fun _ _ _ _ _ => (de_dget hr.rm.units (dvar 1) (dvar 3) (fun _ _ => rfl))))))
      (dss_one (ds_for PassesOwn.never rfl (di_seq (dvar 7)) (dg_name (i := 9) sc_neighbours.nd rfl (by first | exact Or.inl rfl | exact Or.inr rfl)) (dss_one (ds_expr (de_meth PySem.F.plainAttrs_list PySem.F.slot_list_extend PySem.F.type_list_extend md_extend (de_ix ixd (dvar 5) (dvar 9) (fun _ _ => rfl)) (da_cons (de_fz (del_lc [("other", 10)] rfl sc_neighbours.nd (di_seq (dvar 7)) (blkOk_by (own := [("other", 10)]) (N := N_neighbours) (sc := (defScope s_neighbours)) (by decide +kernel)) (fun _ _ _ _ _ => (dg_name (i := 10) sc_neighbours.nd rfl (by first | exact Or.inl rfl | exact Or.inr rfl))) (fun _ _ _ _ _ => (dts_one (dt_cmp (od_ne hr.rm.units) (dvar 10) (dvar 9) (nomark _)))) (fun _ _ _ _ _ => (dvar 10)))) da_nil))))))))
      (dss_freezeN 5 (dss_one (ds_ret (dvar 5)))))))
local macro_rules | `(tactic| walk_at "un.neighbours") => `(tactic| (unfold w_neighbours N_neighbours))
def sp_neighbours : SpD := fun ds s P => ∃ q, ds = [askD q] ∧ AskOk q ∧ P (.lst ((nbs q.src.length (memb q)).map natsL)) s
theorem len_neighbours : ∀ ds s P, sp_neighbours ds s P → ds.length = 1 := by
  rintro ds s P ⟨q, rfl, _⟩; rfl
theorem sem_neighbours : ∀ ds s P, sp_neighbours ds s P → w_neighbours { nx := fun _ s' => P .non s', rt := P } (startD N_neighbours ds) s := by
  rintro ds s P ⟨q, rfl, hq, h⟩
  walk_at "un.neighbours"
  have hq6 := hq.n6
  have hj : ∀ (s : S) (R : DK), R (.tup ((jcls q).map clsD)) s → sp_join_classes [askD q] s R := fun s R hR => ⟨q, rfl, hq, hR⟩
  unfold askD at hj ⊢
  walk_at "ev"
  rw [enuD_map]
  refine ⟨by rw [List.length_map, List.length_zip, List.length_range, sizeLine_eq]; omega, ?_⟩
  refine dcW_each (kf := fun p => .inr p.2.1) (vf := fun p => natD p.1) (fun p hp R hR => ?_) ?_ (fun _ _ => by simp) ?_
  · unfold w_neighbours_e1 w_neighbours_e2 colD
    walk_at "ev"
    exact hR
  · rw [zip_snd q.src fun c => (Sum.inr c.1 : Key)]
    have := hq.nd
    unfold Ask.al at this
    rw [show (fun c : Col => (Sum.inr c.1 : Key)) = Sum.inr ∘ Prod.fst from rfl, ← List.map_map]
    exact List.Pairwise.map _ (fun a b hab e => hab (by injection e)) this
  · rw [zip_snd q.src fun c => (Sum.inr c.1 : Key), zip_fst q.src natD]
    unfold wiKeys w_neighbours_e3
    walk_at "ev"
    refine ⟨by rw [List.length_map, List.length_map, sizeLine_eq]; omega, ?_⟩
    generalize D.tup [D.tup (q.src.map colD), D.tup (q.eqs.map eqnD), D.tup q.fl, D.tup (q.told.map colD), D.bl q.once, D.tup (q.ord.map colD)] = A at hj ⊢
    refine stF_nil (s := s) (f := fun _ => []) ▸ lcW_new (ps := []) List.nodup_nil (fun _ h => absurd h List.not_mem_nil) fun ps l1 nd fr => ?_
    rw [List.nil_append] at nd fr ⊢
    rw [List.length_map, List.length_map] at l1
    refine hj _ _ ?_
    walk_at "ev"
    let mo : List Col → List Nat := fun cs => (List.range q.src.length).filter fun i => decide (i ∈ cs.map fun c => q.al.idxOf c.1)
    let nbA : List (List Nat) → Nat → List Nat := fun M a => (M.filter fun cs => decide (a ∈ cs)).flatMap fun cs => cs.filter fun b => decide (b ≠ a)
    have nbl : ∀ (N : List (List Nat)) (a : Nat), (∀ m ∈ N, m.length ≤ 6) → N.length ≤ 16 → (nbA N a).length ≤ 96 := fun N a h1 h2 =>
      Nat.le_trans (flat_le (c := 6) fun m hm => Nat.le_trans (List.length_filter_le _ _) (h1 m (List.mem_filter.mp hm).1)) (Nat.mul_le_mul_right 6 (Nat.le_trans (List.length_filter_le _ _) h2))
    have jl : (jcls q).length ≤ 16 := by rw [jcls_length]; have := clsOf_length q.eqs; have := hq.e16; omega
    have mo6 : ∀ cs, (mo cs).length ≤ 6 := fun cs => Nat.le_trans (List.length_filter_le _ _) (by rw [List.length_range]; exact hq6)
    refine loopW_inv (I := fun r δ s2 => ∃ (N : List (List Col)) (d6 d7 d9 : Option D), N ++ r = jcls q ∧ s2 = stF s ps (fun a => (nbA (N.map mo) a).map natD) ∧
      δ = [some A, some (D.dct (q.src.map fun c => Sum.inr c.1) ((List.range q.src.length).map natD)), none, none, none, some (.lst (ps.map .ref)), d6, d7, none, d9, none]) ?_ ?_ ⟨[], none, none, none, rfl, rfl, rfl⟩
    · rintro cs r δ s2 ⟨N, d6, d7, d9, hN, rfl, rfl⟩ K hK
      have hcs : cs ∈ jcls q := by rw [← hN]; exact List.mem_append_right _ List.mem_cons_self
      obtain ⟨k1, k2⟩ := jcls_ok hq hcs
      have nl : N.length + 1 ≤ 16 := by
        have := congrArg List.length hN
        rw [List.length_append, List.length_cons] at this
        omega
      unfold w_neighbours_b2 clsD
      walk_at "ev"
      refine ⟨by rw [List.length_map]; omega, scW_each (f := fun c => ((q.al.idxOf c.1 : Nat) : Int)) (fun c hc R hR => ?_) ?_⟩
      · unfold w_neighbours_e4 colD
        walk_at "ev"
        have e := find_al hq.nd (k2 c hc).1
        rw [List.length_map, List.map_map] at e
        unfold keyOf?
        simp only [Function.comp_def] at e
        simp only [e]
        exact hR
      · rw [List.map_map, show (D.int ∘ fun c : Col => ((q.al.idxOf c.1 : Nat) : Int)) = natD ∘ fun c => q.al.idxOf c.1 from rfl, ← List.map_map]
        refine sortedSet_nat (n := q.src.length) (fun j hj => ?_) ?_
        · obtain ⟨c, hc, rfl⟩ := List.mem_map.mp hj
          have := List.idxOf_lt_length_of_mem (k2 c hc).1
          rw [List.length_map] at this
          exact this
        walk_at "ev"
        obtain ⟨m, hm⟩ : ∃ m, m = mo cs := ⟨_, rfl⟩
        have mnd : m.Nodup := by rw [hm]; exact List.Pairwise.filter _ List.nodup_range
        have mlt : ∀ x ∈ m, x < q.src.length := fun x hx => by rw [hm] at hx; exact List.mem_range.mp (List.mem_filter.mp hx).1
        have m6 : m.length ≤ 6 := hm ▸ mo6 cs
        rw [show ((List.range q.src.length).filter fun i => decide (i ∈ cs.map fun c => q.al.idxOf c.1)) = m from hm.symm]
        refine loopW_inv (I := fun r2 δ s2 => ∃ (pre : List Nat) (d9 : Option D), pre ++ r2 = m ∧ s2 = stF s ps (fun a => (nbA (N.map mo) a ++ if a ∈ pre then m.filter (fun b => decide (b ≠ a)) else []).map natD) ∧
          δ = [some A, some (D.dct (q.src.map fun c => Sum.inr c.1) ((List.range q.src.length).map natD)), none, none, none, some (.lst (ps.map .ref)), some (D.tup (cs.map colD)), some (.lst (m.map natD)), none, d9, none]) ?_ ?_ ⟨[], d9, rfl, by simp, rfl⟩
        · rintro x r2 δ s2 ⟨pre, d9, hpre, rfl, rfl⟩ K2 hK2
          have xm : x ∈ m := by rw [← hpre]; exact List.mem_append_right _ List.mem_cons_self
          have xp : x ∉ pre := fun z => by
            rw [← hpre] at mnd
            exact (List.nodup_append.mp mnd).2.2 x z x List.mem_cons_self rfl
          have xl := mlt x xm
          have ex : ps[x]? = some ps[x] := List.getElem?_eq_getElem (by omega)
          have ea : atI (ps.map D.ref) (x : Int) = some (.ref ps[x]) := by rw [atD_nat, List.getElem?_map, ex]; rfl
          have M1 := stF_at (s := s) (f := fun a => (nbA (N.map mo) a ++ if a ∈ pre then m.filter (fun b => decide (b ≠ a)) else []).map natD) ex nd
          unfold w_neighbours_b1
          walk_at "ev"
          rw [ea]
          walk_at "ev"
          refine ⟨by simp only [M1], by rw [List.length_map, sizeLine_eq]; omega, lcW_sel (p := fun b => decide (b ≠ x)) (f := natD) (fun b hb R0 R1 r0 r1 => ?_) ?_⟩
          · unfold w_neighbours_q1 w_neighbours_e5
            walk_at "ev"
            rw [dec_nat]
            by_cases e : b = x
            · simp only [e, decide_true, Bool.not_true, ne_eq, not_true_eq_false, decide_false] at r0 ⊢
              exact r0 trivial
            · simp only [e, decide_false, Bool.not_false, ne_eq, not_false_eq_true, decide_true] at r1 ⊢
              exact r1 trivial
          · have b1 := nbl (N.map mo) x (fun z hz => by obtain ⟨c, _, rfl⟩ := List.mem_map.mp hz; exact mo6 c) (by rw [List.length_map]; omega)
            refine ext_eq M1 rfl (by
              rw [List.length_map, List.length_append, if_neg xp, List.length_map, sizeLine_eq, List.length_nil]
              have := List.length_filter_le (fun b => decide (b ≠ x)) m
              omega) ?_
            rw [← List.map_append, stF_put ex nd]
            refine hK2 _ _ ⟨pre ++ [x], _, by rw [List.append_assoc]; exact hpre, ?_, rfl⟩
            congr 1
            funext a
            by_cases e : a = x
            · subst e
              rw [if_pos rfl, if_neg xp, if_pos (List.mem_append_right _ (List.mem_singleton.mpr rfl)), List.append_nil]
            · rw [if_neg e]
              congr 2
              by_cases e2 : a ∈ pre
              · rw [if_pos e2, if_pos (List.mem_append_left _ e2)]
              · rw [if_neg e2, if_neg fun z => by
                  rcases List.mem_append.mp z with z | z
                  · exact e2 z
                  · exact e (List.mem_singleton.mp z)]
        · rintro δ s2 ⟨pre, d9, hpre, rfl, rfl⟩
          rw [List.append_nil] at hpre
          subst hpre
          refine hK _ _ ⟨N ++ [cs], _, _, d9, by rw [List.append_assoc]; exact hN, ?_, rfl⟩
          congr 1
          funext a
          congr 1
          rw [List.map_append]
          show _ = List.flatMap _ (List.filter _ _)
          rw [List.filter_append, List.flatMap_append]
          congr 1
          show _ = List.flatMap _ (List.filter _ [mo cs])
          rw [← hm]
          by_cases e : a ∈ pre
          · rw [if_pos e, List.filter_cons_of_pos (by simpa using e), List.filter_nil, List.flatMap_cons, List.flatMap_nil, List.append_nil]
          · rw [if_neg e, List.filter_cons_of_neg (by simpa using e), List.filter_nil, List.flatMap_nil]
    · rintro δ s2 ⟨N, d6, d7, d9, hN, rfl, rfl⟩
      rw [List.append_nil] at hN
      subst hN
      unfold wFreezeN
      walk_at "ev"
      rw [thaw_stF nd fun p hp => (fr p hp).1]
      refine ⟨fun b j hb a ha => ?_, ?_⟩
      · obtain ⟨p, hp, e⟩ := List.mem_map.mp ha
        injection e with e
        exact e ▸ (fr p hp).2 b j hb
      · unfold nbs at h
        rw [List.map_map] at h
        rw [l1]
        exact h

theorem fn_neighbours (T : Txt K mg) : FnD P w K mg base 3 T.a_neighbours T.fd_neighbours ["question"] sp_neighbours :=
  fnD_of T.F_neighbours sc_neighbours len_neighbours (fun cdv A outer s H E hr => b_neighbours T hr) sem_neighbours
/-! #### extensions -/
theorem bi_extensions (T : Txt K mg) : Binds K T.fd_extensions ["part", "tied"] [] := T.F_extensions.binds fun _ _ _ _ _ _ us hl => match us, hl with | [_, _], _ => rfl
def N_extensions : List Str := ["part", "tied", "near", "alias", "other"]
theorem sc_extensions : FnScope N_extensions ["part", "tied"] (defScope s_extensions) := ⟨rfl, rfl, rfl, by decide +kernel, rfl, by decide +kernel, by decide +kernel⟩
def w_extensions_q1 : WT :=
    (wTst (wOp roNotIn (wVar 4) (wVar 0)))
def w_extensions_e1 : WE :=
    (wVar 4)
def w_extensions_i1 : WI :=
    (wiSeq (wOp roIx (wVar 1) (wVar 3)))
def w_extensions_e2 : WE :=
    (wCB rcTuple (wCons (wFz (wCBL rcSortT (wCons (wOp roAdd (wVar 0) (wTup (wCons (wVar 3) wNil))) wNil))) wNil))
def w_extensions : WS :=
    (wSetSort 2 [4] (wgName 4) w_extensions_q1 w_extensions_e1 [3, 4] (wgName 3) wYes (wiSeq (wVar 0)) w_extensions_i1 [3] (wgName 3) wYes w_extensions_e2)
theorem b_extensions (T : Txt K mg) {cdv : Value} {A : Around} {outer : List Env} {s : Shared} {H : Hp} {E : XK} (hr : RoomG 0 (A.deeper (envOfC "extensions" (defScope s_extensions) s.heap.objs.size T.a_extensions cdv))) :
    DSs (cxOf CX0 P w K mg base N_extensions "extensions" (defScope s_extensions) T.a_extensions cdv A outer s H E).nox (defBody s_extensions) w_extensions :=
    (dss_setSort (i := 2) [("alias", 3), ("other", 4)] [4] [("alias", 3)] rfl hr.rm.units (by rfl) T.n_sorted sc_extensions.nd rfl rfl (by first | exact Or.inl rfl | exact Or.inr rfl) (sw_trueS rfl rfl rfl (by decide +kernel)) (di_seq (dvar 0)) (blkOk_by (own := [("alias", 3), ("other", 4)]) (N := N_extensions) (sc := (defScope s_extensions)) (by decide +kernel)) (fun _ _ _ _ _ => (dg_name (i := 3) sc_extensions.nd rfl (by first | exact Or.inl rfl | exact Or.inr rfl))) (fun _ _ _ _ _ => dts_nil) (fun _ _ _ _ _ => (di_seq (de_ix ixd (dvar 1) (dvar 3) (fun _ _ => rfl)))) (fun _ _ _ _ _ => (dg_name (i := 4) sc_extensions.nd rfl (by first | exact Or.inl rfl | exact Or.inr rfl))) (fun _ _ _ _ _ => (dts_one (dt_cmp (od_notin hr.rm.units) (dvar 4) (dvar 0) (by rfl)))) (fun _ _ _ _ _ => (dvar 4)) (blkOk_by (own := [("alias", 3)]) (N := N_extensions) (sc := (defScope s_extensions)) (by decide +kernel)) (fun _ _ _ _ _ => (dg_name (i := 3) sc_extensions.nd rfl (by first | exact Or.inl rfl | exact Or.inr rfl))) (fun _ _ _ _ _ => dts_nil) (fun _ _ _ _ _ => (de_callTy cd_tuple (by rfl) T.n_tuple bb_tuple (da_cons (de_fz (del_callB (cd_sortT hr.rm.units) (by rfl) T.n_sorted bb_sorted (da_cons (de_op od_add (dvar 0) (de_tup (da_cons (dvar 3) da_nil))) da_nil))) da_nil))))
local macro_rules | `(tactic| walk_at "un.extensions") => `(tactic| (unfold w_extensions N_extensions))
def sp_extensions : SpD := fun ds s P => ∃ g T, ds = [natsT g, .lst (T.map natsL)] ∧ GOk g ∧ TOk T ∧ (∀ a ∈ g, a < T.length) ∧ (g.flatMap fun a => (T.getD a []).filter fun b => decide (b ∉ g)).length ≤ 60 ∧ P (.lst ((ext T g).map natsT)) s
theorem len_extensions : ∀ ds s P, sp_extensions ds s P → ds.length = 2 := by
  rintro ds s P ⟨g, T, rfl, _⟩; rfl
theorem sem_extensions : ∀ ds s P, sp_extensions ds s P → w_extensions { nx := fun _ s' => P .non s', rt := P } (startD N_extensions ds) s := by
  rintro ds s P ⟨g, T, rfl, hg, hT, hgT, hc, h⟩
  walk_at "un.extensions"
  have g6 := hg.2.1
  unfold wSetSort
  rw [show natsT g = D.tup (g.map natD) from rfl]
  walk_at "ev"
  have tA : ∀ a ∈ g, atI (T.map natsL) (a : Int) = some (natsL (T.getD a [])) := fun a ha => by
    have := hgT a ha
    rw [atD_nat, List.getElem?_map, List.getD_eq_getElem?_getD, List.getElem?_eq_getElem this]; rfl
  have tK : ∀ a ∈ g, (T.getD a []).length ≤ 96 ∧ ∀ i ∈ T.getD a [], i < 6 := fun a ha => by
    have := hgT a ha
    rw [List.getD_eq_getElem?_getD, List.getElem?_eq_getElem this]
    exact hT.2 _ (List.getElem_mem _)
  refine s2O_each (δo := fun a => [some (.tup (g.map natD)), some (.lst (T.map natsL)), none, some (natD a), none]) (fi := fun a => T.getD a []) (ib := natD) (p := fun a b => decide (b ∉ g)) (e := fun a b => natD b) (fun a ha K hK => ?_) (fun a ha b hb R0 R1 r0 r1 => ?_) (fun a ha b hb => itI_nat b) ?_ ?_
  · unfold w_extensions_i1
    walk_at "ev"
    rw [tA a ha]
    walk_at "ev"
    exact hK
  · unfold w_extensions_q1 w_extensions_e1
    walk_at "ev"
    refine notIn_it same_nat (.inr rfl) ?_
    by_cases q : b ∈ g
    · simp only [q, not_true_eq_false, decide_false] at r0 ⊢
      exact r0 trivial
    · simp only [q, not_false_eq_true, decide_true] at r1 ⊢
      exact r1 trivial
  · rw [List.length_nil]; omega
  · have ef : ([] ++ g.flatMap fun a => ((T.getD a []).filter fun b => decide (b ∉ g)).map fun b => natD b) = (g.flatMap fun a => (T.getD a []).filter fun b => decide (b ∉ g)).map natD := by
      rw [List.nil_append, List.map_flatMap]
    rw [ef]
    have nr : near T g = (List.range 6).filter fun i => decide (i ∈ g.flatMap fun a => (T.getD a []).filter fun b => decide (b ∉ g)) := by
      unfold near asc
      rw [List.filter_flatMap]
    refine ⟨by decide, by rw [List.length_map]; omega, sortOk_nats _, sortedSet_nat (n := 6) (fun j hj => ?_) ?_⟩
    · obtain ⟨a, ha, hj⟩ := List.mem_flatMap.mp hj
      exact (tK a ha).2 j (List.mem_filter.mp hj).1
    · rw [← nr]
      have l6 := near_len T hg.1 hg.2.2
      refine ⟨by rw [List.length_map, sizeLine_eq]; omega, lcW_each (f := fun a => natsT (asc 6 (g ++ [a]))) (fun a ha R hR => ?_) ?_⟩
      · unfold w_extensions_e2
        walk_at "ev"
        refine ⟨by rw [List.length_map, sizeLine_eq]; omega, ?_⟩
        rw [show g.map natD ++ [natD a] = (g ++ [a]).map natD by rw [List.map_append]; rfl]
        have an : a ∉ g := by
          have := (List.mem_filter.mp (asc_mem.mp ha).2).2
          exact of_decide_eq_true this
        have nd : (g ++ [a]).Nodup := List.nodup_append.mpr ⟨hg.1, List.pairwise_singleton _ _, fun x hx y hy => by rintro rfl; rw [List.mem_singleton] at hy; subst hy; exact an hx⟩
        have ap := asc_perm (n := 6) nd fun i hi => by
          rcases List.mem_append.mp hi with hi | hi
          · exact hg.2.2 i hi
          · rw [List.mem_singleton] at hi; subst hi; exact (asc_mem.mp ha).1
        refine (⟨sortOk_nats _, ?_⟩ : SortOk _ ∧ _)
        rw [srtD_nats ap ((asc_pw _ _).imp fun h => Nat.le_of_lt h)]
        exact hR
      · unfold ext at h
        rw [List.map_map] at h
        exact h

theorem fn_extensions (T : Txt K mg) : FnD P w K mg base 1 T.a_extensions T.fd_extensions ["part", "tied"] sp_extensions :=
  fnD_of T.F_extensions sc_extensions len_extensions (fun cdv A outer s H E hr => b_extensions T hr) sem_extensions
/-! #### groups_of -/
theorem bi_groups_of (T : Txt K mg) : Binds K T.fd_groups_of ["question"] [] := T.F_groups_of.binds fun _ _ _ _ _ _ us hl => match us, hl with | [_], _ => rfl
def N_groups_of : List Str := ["question", "tied", "found", "layer", "alias", "part", "group"]
theorem sc_groups_of : FnScope N_groups_of ["question"] (defScope s_groups_of) := ⟨rfl, rfl, rfl, by decide +kernel, rfl, by decide +kernel, by decide +kernel⟩
def w_groups_of_e1 : WE :=
    (wTup (wCons (wVar 4) wNil))
def w_groups_of_e2 : WE :=
    (wVar 6)
def w_groups_of_i1 : WI :=
    (wiSeq (wCall sp_extensions (wCons (wVar 5) (wCons (wVar 1) wNil))))
def w_groups_of_b1 : WS :=
    (wSeq (wAsg (wFz (wSortS2 itT [6] (wgName 6) wYes w_groups_of_e2 [5, 6] (wgName 5) wYes (wiSeq (wVar 3)) w_groups_of_i1)) (wgName 3))
      (wDrop (wMeth "list" rmExtend (wVar 2) (wCons (wVar 3) wNil))))
def w_groups_of_c1 : WT :=
    (wTru (wVar 3))
def w_groups_of_t1 : WS :=
    (wFreeze 2 (wRet (wCB rcTuple (wCons (wFz (wSortKey sp_part_key (wVar 2))) wNil))))
def w_groups_of : WS :=
    (wSeq (wAsg (wCall sp_neighbours (wCons (wVar 0) wNil)) (wgName 1))
      (wSeq (wSetM 2 wNil)
      (wSeq (wAsg (wFz (wLc [4] (wiR1 (wCons (wCB rcLen (wCons (wVar 1) wNil)) wNil)) (wgName 4) wYes w_groups_of_e1)) (wgName 3))
      (wSeq (wWhile w_groups_of_c1 w_groups_of_b1)
      w_groups_of_t1))))
theorem b_groups_of (T : Txt K mg) {cdv : Value} {A : Around} {outer : List Env} {s : Shared} {H : Hp} {E : XK} (hr : RoomG 3 (A.deeper (envOfC "groups_of" (defScope s_groups_of) s.heap.objs.size T.a_groups_of cdv))) :
    DSs (cxOf CX0 P w K mg base N_groups_of "groups_of" (defScope s_groups_of) T.a_groups_of cdv A outer s H E).nox (defBody s_groups_of) w_groups_of :=
    (dss_cons (ds_set (i := 1) sc_groups_of.nd rfl (by first | exact Or.inl rfl | exact Or.inr rfl) (de_call (fn_neighbours T) (hr.mono (by decide)) (by rfl) T.m_neighbours T.F_neighbours.kp (bi_neighbours T) (da_cons (dvar 0) da_nil)))
      (dss_cons (ds_setM (i := 2) sc_groups_of.nd rfl (by first | exact Or.inl rfl | exact Or.inr rfl) (del_lst da_nil))
      (dss_cons (ds_setLc (i := 3) [("alias", 4)] rfl sc_groups_of.nd rfl rfl (sw_true rfl rfl rfl (by decide +kernel)) (di_range1 (by rfl) T.n_range (da_cons (de_callB cd_len (by rfl) T.n_len bb_len (da_cons (dvar 1) da_nil)) da_nil)) (blkOk_by (own := [("alias", 4)]) (N := N_groups_of) (sc := (defScope s_groups_of)) (by decide +kernel)) (fun _ _ _ _ _ => (dg_name (i := 4) sc_groups_of.nd rfl (by first | exact Or.inl rfl | exact Or.inr rfl))) (fun _ _ _ _ _ => dts_nil) (fun _ _ _ _ _ => (de_tup (da_cons (dvar 4) da_nil))))
      (dss_cons (ds_while PassesOwn.never (dt_truth (dvar 3)) (dss_cons (ds_set (i := 3) sc_groups_of.nd rfl (by first | exact Or.inl rfl | exact Or.inr rfl) (de_fz (del_sortS2T [("part", 5), ("group", 6)] [6] rfl hr.rm.units (by rfl) T.n_sorted sc_groups_of.nd (di_seq (dvar 3)) (blkOk_by (own := [("part", 5), ("group", 6)]) (N := N_groups_of) (sc := (defScope s_groups_of)) (by decide +kernel)) (fun _ _ _ _ _ => (dg_name (i := 5) sc_groups_of.nd rfl (by first | exact Or.inl rfl | exact Or.inr rfl))) (fun _ _ _ _ _ => dts_nil) (fun _ _ _ _ _ => (di_seq (de_call (fn_extensions T) (hr.mono (by decide)) (by rfl) T.m_extensions T.F_extensions.kp (bi_extensions T) (da_cons (dvar 5) (da_cons (dvar 1) da_nil))))) (fun _ _ _ _ _ => (dg_name (i := 6) sc_groups_of.nd rfl (by first | exact Or.inl rfl | exact Or.inr rfl))) (fun _ _ _ _ _ => dts_nil) (fun _ _ _ _ _ => (dvar 6)))))
      (dss_one (ds_expr (de_meth PySem.F.plainAttrs_list PySem.F.slot_list_extend PySem.F.type_list_extend md_extend (dvar 2) (da_cons (dvar 3) da_nil))))))
      (dss_freeze 2 (dss_one (ds_ret (de_callTy cd_tuple (by rfl) T.n_tuple bb_tuple (da_cons (de_fz (del_sortKey (fn_part_key T) (hr.mono (by decide)) (by rfl) T.m_part_key (bi_part_key T) (by rfl) T.n_sorted (dvar 2))) da_nil)))))))))
local macro_rules | `(tactic| walk_at "un.groups_of") => `(tactic| (unfold w_groups_of N_groups_of; try unfold w_groups_of_t1))
def sp_groups_of : SpD := fun ds s P => ∃ q, ds = [askD q] ∧ AskOk q ∧ P (.tup ((grps q.src.length (memb q)).map natsT)) s
theorem len_groups_of : ∀ ds s P, sp_groups_of ds s P → ds.length = 1 := by
  rintro ds s P ⟨q, rfl, _⟩; rfl
theorem sem_groups_of : ∀ ds s P, sp_groups_of ds s P → w_groups_of { nx := fun _ s' => P .non s', rt := P } (startD N_groups_of ds) s := by
  rintro ds s P ⟨q, rfl, hq, h⟩
  walk_at "un.groups_of"
  walk_at "ev"
  have h6 := hq.n6
  have hT := nbs_ok hq
  refine ⟨q, rfl, hq, ?_⟩
  have el : (nbs q.src.length (memb q)).length = q.src.length := by unfold nbs; rw [List.length_map, List.length_range]
  obtain ⟨T, eT⟩ : ∃ T, T = nbs q.src.length (memb q) := ⟨_, rfl⟩
  obtain ⟨n, en⟩ : ∃ n, n = q.src.length := ⟨_, rfl⟩
  obtain ⟨M, eM⟩ : ∃ M, M = memb q := ⟨_, rfl⟩
  have hnd : ∀ cs ∈ M, cs.Nodup := eM ▸ memb_nodup
  have hlt : ∀ cs ∈ M, ∀ i ∈ cs, i < n := by rw [eM, en]; exact memb_lt
  have hsum : (M.map List.length).sum ≤ 32 := eM ▸ memb_sum hq
  have hsix : ∀ m ∈ M, m.length ≤ 6 := eM ▸ memb_six hq
  rw [← eT] at hT el ⊢
  rw [← en, ← eM] at h
  rw [← en] at el h6
  have eT2 : T = nbs n M := by rw [eT, en, eM]
  clear eT
  walk_at "ev"
  unfold wSetM
  walk_at "ev"
  refine fun p p1 k1 => ?_
  walk_at "ev"
  rw [List.length_map, el, Int.toNat_natCast]
  refine ⟨by omega, by rw [rngD_length, sizeLine_eq]; omega, lcW_rng (f := fun a => natsT [a]) (fun a ha R hR => ?_) ?_⟩
  · unfold w_groups_of_e1
    walk_at "ev"
    rw [Int.zero_add]
    exact hR
  walk_at "ev"
  have e0 : (List.range n).map (fun a => natsT [a]) = ((List.range n).map fun a => [a]).map natsT := by rw [List.map_map]; rfl
  rw [e0]
  refine ⟨7, ?_⟩
  suffices H : ∀ (m k : Nat) (L F : List (List Nat)), 1 ≤ k → m + k = 8 → 0 < m → L.Nodup → (∀ x, x ∈ L ↔ Lay n M k x) → F.Nodup → (∀ x, x ∈ F ↔ x ∈ subs n ∧ 1 < x.length ∧ x.length ≤ k ∧ linked M x = true) →
      whileW w_groups_of_c1 w_groups_of_b1 { nx := wFreeze 2 (wRet (wCB rcTuple (wCons (wFz (wSortKey sp_part_key (wVar 2))) wNil))) { nx := fun x s' => P D.non s', rt := P }, rt := P } m [some (askD q), some (.lst (T.map natsL)), some (.ref p), some (.lst (L.map natsT)), none, none, none] (s.put p (.lst (F.map natsT))) from
    H 7 1 _ [] (Nat.le_refl _) rfl (by decide) (List.Pairwise.map _ (fun a b h e => h (by injection e)) List.nodup_range) (fun x => by
      rw [lay_one hnd, List.mem_map]
      exact ⟨fun ⟨a, h1, h2⟩ => ⟨a, List.mem_range.mp h1, h2.symm⟩, fun ⟨a, h1, h2⟩ => ⟨a, List.mem_range.mpr h1, h2.symm⟩⟩) List.nodup_nil (fun x => ⟨fun z => absurd z List.not_mem_nil, fun ⟨_, h1, h2, _⟩ => absurd h1 (by omega)⟩)
  have mx : ∀ x, x ∈ subs n → x.length ≤ 6 := fun x hx => (subs_ok h6 x hx).2.1
  intro m
  induction m with
  | zero => intro k L F _ _ h0; exact absurd h0 (by decide)
  | succ m ih =>
    intro k L F hk hm _ nL hL nF hF
    have hFl : F.length ≤ 64 := by
      have := nodup_le (m := subs n) nF fun x hx => ((hF x).mp hx).1
      rw [subs_length] at this
      have := Nat.pow_le_pow_right (n := 2) (by omega) h6
      omega
    unfold whileW
    obtain ⟨N, hN⟩ : ∃ N, N = whileW w_groups_of_c1 w_groups_of_b1 { nx := wFreeze 2 (wRet (wCB rcTuple (wCons (wFz (wSortKey sp_part_key (wVar 2))) wNil))) { nx := fun x s' => P D.non s', rt := P }, rt := P } m := ⟨_, rfl⟩
    rw [← hN] at ih ⊢
    unfold w_groups_of_c1
    walk_at "ev"
    cases L with
    | nil =>
      have eM2 : (s.put p (MO.lst (F.map natsT))).M p = some (.lst (F.map natsT)) := by simp [S.put]
      unfold wFreeze
      walk_at "ev"
      refine ⟨fun b j hb => k1 b j hb, ?_⟩
      unfold wSortKey
      walk_at "ev"
      rw [put_del p1]
      have hF2 : ∀ x, x ∈ F ↔ x ∈ subs n ∧ 1 < x.length ∧ linked M x = true := fun x => by
        rw [hF]
        refine ⟨fun ⟨a, b, _, c⟩ => ⟨a, b, c⟩, fun ⟨a, b, c⟩ => ⟨a, b, ?_, c⟩⟩
        have no : ∀ j x, k ≤ j → ¬ Lay n M j x := fun j => by
          induction j with
          | zero => intro x hj; omega
          | succ j ihj =>
            intro x hj hl
            by_cases e : k = j + 1
            · subst e; exact absurd ((hL x).mpr hl) (List.not_mem_nil)
            · obtain ⟨g, hg, _⟩ := (lay_step h6 hnd hlt (by omega)).mp hl
              exact ihj g (by omega) hg
        by_cases e : x.length ≤ k
        · exact e
        · exact absurd ⟨a, rfl, c⟩ (no x.length x (by omega))
      refine ⟨keyRank, keyOk_rank fun g _ => keyRank_nats g, fun e he R hR => ?_, ?_⟩
      · obtain ⟨g, hg, rfl⟩ := List.mem_map.mp he
        rw [keyRank_nats] at hR
        exact ⟨g, rfl, hR⟩
      · rw [mergeSort_nats _ fun a _ b _ => le_rank a b, grps_of nF hF2]
        exact h
    | cons x0 L0 =>
      have k6 : k ≤ 6 := by
        have := (hL x0).mp List.mem_cons_self
        have := mx x0 this.1
        rw [← ((hL x0).mp List.mem_cons_self).2.1]; exact this
      generalize eL : x0 :: L0 = L at *
      have ne : (!(L.map natsT).isEmpty) = true := by rw [← eL]; rfl
      have ft : ∀ l : List (List Nat), l.filter (fun _ => true) = l := fun l => List.filter_eq_self.mpr fun _ _ => rfl
      rw [ne]
      unfold w_groups_of_b1 wFz wSortS2
      walk_at "ev"
      refine s2O_each (δo := fun g => [some (askD q), some (.lst (T.map natsL)), some (.ref p), some (.lst (L.map natsT)), none, some (natsT g), none]) (fi := fun g => ext T g) (ib := natsT) (p := fun _ _ => true) (e := fun _ x => natsT x) (fun g hg K hK => ?_) (fun g hg x hx R0 R1 r0 r1 => ?_) (fun g hg x hx => itT_nats x) ?_ ?_
      · obtain ⟨h1, h2, _⟩ := (hL g).mp hg
        obtain ⟨s1, s2⟩ := mem_subs.mp h1
        unfold w_groups_of_i1
        walk_at "ev"
        refine ⟨g, T, rfl, subs_ok h6 g h1, hT, fun a ha => by have := s2 a ha; omega, ?_, ?_⟩
        · rw [eT2]
          exact Nat.le_trans (near_count (pw_nodup s1) s2 hsix hsum) (by decide)
        · exact hK
      · unfold w_groups_of_e2
        walk_at "ev"
        exact r1 rfl
      · have := lay_count T h6 (show k < 7 by omega) nL fun x hx => (hL x).mp hx
        simp only [ft, List.length_nil]
        exact (by omega : 0 + (L.flatMap (ext T)).length ≤ 63)
      · have ef : ([] ++ L.flatMap fun g => ((ext T g).filter fun _ => true).map fun x => natsT x) = (L.flatMap fun g => ext T g).map natsT := by
          rw [List.nil_append, List.map_flatMap]
          simp only [ft]
        rw [ef]
        have memE : ∀ x, x ∈ L.flatMap (fun g => ext T g) ↔ Lay n M (k + 1) x := fun x => by
          rw [List.mem_flatMap, lay_step h6 hnd hlt hk, eT2]
          exact ⟨fun ⟨g, a, b⟩ => ⟨g, (hL g).mp a, b⟩, fun ⟨g, a, b⟩ => ⟨g, (hL g).mpr a, b⟩⟩
        refine ⟨sortOk_T fun x hx e => ?_, sortedSet_T fun zs nz mz => ?_⟩
        · have := ((memE x).mp hx).2.1
          rw [e] at this; cases this
        have lz : zs.length ≤ 64 := by
          have := nodup_le (m := subs n) nz fun x hx => ((memE x).mp ((mz x).mp hx)).1
          rw [subs_length] at this
          have := Nat.pow_le_pow_right (n := 2) (by omega) h6
          omega
        walk_at "ev"
        refine ext_eq (show (s.put p (.lst (F.map natsT))).M p = some (.lst (F.map natsT)) by simp [S.put]) rfl (by rw [List.length_map, List.length_map, sizeLine_eq]; omega) ?_
        rw [put_put, ← List.map_append]
        refine ih (k + 1) zs (F ++ zs) (by omega) (by omega) (by omega) nz (fun x => (mz x).trans (memE x)) (List.nodup_append.mpr ⟨nF, nz, fun a ha b hb e => ?_⟩) fun x => ?_
        · subst e
          have h1 := ((hF a).mp ha).2.2.1
          have h2 := ((memE a).mp ((mz a).mp hb)).2.1
          omega
        · rw [List.mem_append, hF, mz, memE]
          unfold Lay
          constructor
          · rintro (⟨a, b, c, d⟩ | ⟨a, b, c⟩)
            · exact ⟨a, b, by omega, d⟩
            · exact ⟨a, by omega, by omega, c⟩
          · rintro ⟨a, b, c, d⟩
            by_cases e : x.length ≤ k
            · exact .inl ⟨a, b, e, d⟩
            · exact .inr ⟨a, by omega, d⟩

theorem fn_groups_of (T : Txt K mg) : FnD P w K mg base 4 T.a_groups_of T.fd_groups_of ["question"] sp_groups_of :=
  fnD_of T.F_groups_of sc_groups_of len_groups_of (fun cdv A outer s H E hr => b_groups_of T hr) sem_groups_of
/-! #### is_within -/
theorem bi_is_within (T : Txt K mg) : Binds K T.fd_is_within ["part", "group"] [] := T.F_is_within.binds fun _ _ _ _ _ _ us hl => match us, hl with | [_, _], _ => rfl
def N_is_within : List Str := ["part", "group", "alias"]
theorem sc_is_within : FnScope N_is_within ["part", "group"] (defScope s_is_within) := ⟨rfl, rfl, rfl, by decide +kernel, rfl, by decide +kernel, by decide +kernel⟩
def w_is_within_e1 : WE :=
    (wOp roIn (wVar 2) (wVar 1))
def w_is_within : WS :=
    (wRet (wCB rcAll (wCons (wFz (wLc [2] (wiSeq (wVar 0)) (wgName 2) wYes w_is_within_e1)) wNil)))
theorem b_is_within (T : Txt K mg) {cdv : Value} {A : Around} {outer : List Env} {s : Shared} {H : Hp} {E : XK} (hr : RoomG 0 (A.deeper (envOfC "is_within" (defScope s_is_within) s.heap.objs.size T.a_is_within cdv))) :
    DSs (cxOf CX0 P w K mg base N_is_within "is_within" (defScope s_is_within) T.a_is_within cdv A outer s H E).nox (defBody s_is_within) w_is_within :=
    (dss_one (ds_ret (de_callB (cd_all rfl) (by rfl) T.n_all bb_all (da_cons (de_fz (del_lc [("alias", 2)] rfl sc_is_within.nd (di_seq (dvar 0)) (blkOk_by (own := [("alias", 2)]) (N := N_is_within) (sc := (defScope s_is_within)) (by decide +kernel)) (fun _ _ _ _ _ => (dg_name (i := 2) sc_is_within.nd rfl (by first | exact Or.inl rfl | exact Or.inr rfl))) (fun _ _ _ _ _ => dts_nil) (fun _ _ _ _ _ => (de_cmp (od_in hr.rm.units) (dvar 2) (dvar 1) (by rfl))))) da_nil))))
local macro_rules | `(tactic| walk_at "un.is_within") => `(tactic| (unfold w_is_within N_is_within))
def sp_is_within : SpD := fun ds s P => ∃ g h, ds = [natsT g, natsT h] ∧ GOk g ∧ GOk h ∧ P (.bl (g.all fun a => decide (a ∈ h))) s
theorem len_is_within : ∀ ds s P, sp_is_within ds s P → ds.length = 2 := by
  rintro ds s P ⟨g, h, rfl, _⟩; rfl
theorem sem_is_within : ∀ ds s P, sp_is_within ds s P → w_is_within { nx := fun _ s' => P .non s', rt := P } (startD N_is_within ds) s := by
  rintro ds s P ⟨g, h, rfl, hg, hh, hP⟩
  walk_at "un.is_within"
  rw [show natsT g = D.tup (g.map natD) from rfl]
  walk_at "ev"
  have g6 := hg.2.1
  have h6 := hh.2.1
  refine ⟨by rw [List.length_map, sizeLine_eq]; omega, lcW_each (f := fun a => .bl (decide (a ∈ h))) (fun a ha R hR => ?_) ?_⟩
  · unfold w_is_within_e1
    walk_at "ev"
    exact in_it same_nat (.inr rfl) hR
  · simp only [boolsD_ofF]
    rw [List.all_map]
    exact hP

theorem fn_is_within (T : Txt K mg) : FnD P w K mg base 1 T.a_is_within T.fd_is_within ["part", "group"] sp_is_within :=
  fnD_of T.F_is_within sc_is_within len_is_within (fun cdv A outer s H E hr => b_is_within T hr) sem_is_within
/-! #### pairs_among -/
theorem bi_pairs_among (T : Txt K mg) : Binds K T.fd_pairs_among ["groups", "group"] [] := T.F_pairs_among.binds fun _ _ _ _ _ _ us hl => match us, hl with | [_, _], _ => rfl
def N_pairs_among : List Str := ["groups", "group", "parts", "alias", "part", "found", "rest"]
theorem sc_pairs_among : FnScope N_pairs_among ["groups", "group"] (defScope s_pairs_among) := ⟨rfl, rfl, rfl, by decide +kernel, rfl, by decide +kernel, by decide +kernel⟩
def w_pairs_among_e1 : WE :=
    (wTup (wCons (wVar 3) wNil))
def w_pairs_among_q1 : WT :=
    (wTru (wCall sp_is_within (wCons (wVar 4) (wCons (wVar 1) wNil))))
def w_pairs_among_e2 : WE :=
    (wVar 4)
def w_pairs_among_q2 : WT :=
    (wTst (wOp roNotIn (wVar 3) (wVar 4)))
def w_pairs_among_e3 : WE :=
    (wVar 3)
def w_pairs_among_b1 : WS :=
    (wSeq (wAsg (wCB rcTuple (wCons (wFz (wLc [3] (wiSeq (wVar 1)) (wgName 3) w_pairs_among_q2 w_pairs_among_e3)) wNil)) (wgName 6))
      (wIf (wAnd (wTst (wOp roIn (wVar 6) (wVar 2))) (wTru (wCall sp_comes_before (wCons (wVar 4) (wCons (wVar 6) wNil))))) (wDrop (wMeth "list" rmAppend (wVar 5) (wCons (wTup (wCons (wVar 4) (wCons (wVar 6) wNil))) wNil))) wNext))
def w_pairs_among : WS :=
    (wSeq (wAsg (wOp roAdd (wFz (wLc [3] (wiSeq (wVar 1)) (wgName 3) wYes w_pairs_among_e1)) (wFz (wLc [4] (wiSeq (wVar 0)) (wgName 4) w_pairs_among_q1 w_pairs_among_e2))) (wgName 2))
      (wSeq (wSetM 5 wNil)
      (wSeq (wFor (wiSeq (wVar 2)) (wgName 4) w_pairs_among_b1)
      (wFreeze 5 (wRet (wCB rcTuple (wCons (wVar 5) wNil)))))))
theorem b_pairs_among (T : Txt K mg) {cdv : Value} {A : Around} {outer : List Env} {s : Shared} {H : Hp} {E : XK} (hr : RoomG 2 (A.deeper (envOfC "pairs_among" (defScope s_pairs_among) s.heap.objs.size T.a_pairs_among cdv))) :
    DSs (cxOf CX0 P w K mg base N_pairs_among "pairs_among" (defScope s_pairs_among) T.a_pairs_among cdv A outer s H E).nox (defBody s_pairs_among) w_pairs_among :=
    (dss_cons (ds_set (i := 2) sc_pairs_among.nd rfl (by first | exact Or.inl rfl | exact Or.inr rfl) (de_op od_add (de_fz (del_lc [("alias", 3)] rfl sc_pairs_among.nd (di_seq (dvar 1)) (blkOk_by (own := [("alias", 3)]) (N := N_pairs_among) (sc := (defScope s_pairs_among)) (by decide +kernel)) (fun _ _ _ _ _ => (dg_name (i := 3) sc_pairs_among.nd rfl (by first | exact Or.inl rfl | exact Or.inr rfl))) (fun _ _ _ _ _ => dts_nil) (fun _ _ _ _ _ => (de_tup (da_cons (dvar 3) da_nil))))) (de_fz (del_lc [("part", 4)] rfl sc_pairs_among.nd (di_seq (dvar 0)) (blkOk_by (own := [("part", 4)]) (N := N_pairs_among) (sc := (defScope s_pairs_among)) (by decide +kernel)) (fun _ _ _ _ _ => (dg_name (i := 4) sc_pairs_among.nd rfl (by first | exact Or.inl rfl | exact Or.inr rfl))) (fun _ _ _ _ _ => (dts_one (dt_truth (de_call (fn_is_within T) (hr.mono (by decide)) (by rfl) T.m_is_within T.F_is_within.kp (bi_is_within T) (da_cons (dvar 4) (da_cons (dvar 1) da_nil)))))) (fun _ _ _ _ _ => (dvar 4))))))
      (dss_cons (ds_setM (i := 5) sc_pairs_among.nd rfl (by first | exact Or.inl rfl | exact Or.inr rfl) (del_lst da_nil))
      (dss_cons (ds_for PassesOwn.never rfl (di_seq (dvar 2)) (dg_name (i := 4) sc_pairs_among.nd rfl (by first | exact Or.inl rfl | exact Or.inr rfl)) (dss_cons (ds_set (i := 6) sc_pairs_among.nd rfl (by first | exact Or.inl rfl | exact Or.inr rfl) (de_callTy cd_tuple (by rfl) T.n_tuple bb_tuple (da_cons (de_fz (del_lc [("alias", 3)] rfl sc_pairs_among.nd (di_seq (dvar 1)) (blkOk_by (own := [("alias", 3)]) (N := N_pairs_among) (sc := (defScope s_pairs_among)) (by decide +kernel)) (fun _ _ _ _ _ => (dg_name (i := 3) sc_pairs_among.nd rfl (by first | exact Or.inl rfl | exact Or.inr rfl))) (fun _ _ _ _ _ => (dts_one (dt_cmp (od_notin hr.rm.units) (dvar 3) (dvar 4) (by rfl)))) (fun _ _ _ _ _ => (dvar 3)))) da_nil)))
      (dss_one (ds_if (PW.pt (dw_and (dt_cmp (od_in hr.rm.units) (dvar 6) (dvar 2) (by rfl)) (dw_and1 (dt_truth (de_call (fn_comes_before T) (hr.mono (by decide)) (by rfl) T.m_comes_before T.F_comes_before.kp (bi_comes_before T) (da_cons (dvar 4) (da_cons (dvar 6) da_nil))))))) (dss_one (ds_expr (de_meth PySem.F.plainAttrs_list PySem.F.slot_list_append PySem.F.type_list_append md_append (dvar 5) (da_cons (de_tup (da_cons (dvar 4) (da_cons (dvar 6) da_nil))) da_nil)))) dss_nil))))
      (dss_freeze 5 (dss_one (ds_ret (de_callTy cd_tuple (by rfl) T.n_tuple bb_tuple (da_cons (dvar 5) da_nil))))))))
local macro_rules | `(tactic| walk_at "un.pairs_among") => `(tactic| (unfold w_pairs_among N_pairs_among))
def sp_pairs_among : SpD := fun ds s P => ∃ gs g, ds = [.tup (gs.map natsT), natsT g] ∧ gs.length ≤ 64 ∧ (∀ h ∈ gs, GOk h) ∧ GOk g ∧ P (.tup ((pairs gs g).map prD)) s
theorem len_pairs_among : ∀ ds s P, sp_pairs_among ds s P → ds.length = 2 := by
  rintro ds s P ⟨gs, g, rfl, _⟩; rfl
theorem sem_pairs_among : ∀ ds s P, sp_pairs_among ds s P → w_pairs_among { nx := fun _ s' => P .non s', rt := P } (startD N_pairs_among ds) s := by
  rintro ds s P ⟨gs, g, rfl, hgs, hG, hg, h⟩
  walk_at "un.pairs_among"
  have g6 := hg.2.1
  rw [show natsT g = D.tup (g.map natD) from rfl]
  walk_at "ev"
  refine ⟨by rw [List.length_map, sizeLine_eq]; omega, lcW_each (f := fun a => natsT [a]) (fun a ha R hR => ?_) ?_⟩
  · unfold w_pairs_among_e1
    walk_at "ev"
    exact hR
  refine ⟨by rw [List.length_map, sizeLine_eq]; omega, lcW_sel (p := fun p => p.all fun a => decide (a ∈ g)) (f := natsT) (fun p hp R0 R1 r0 r1 => ?_) ?_⟩
  · unfold w_pairs_among_q1 w_pairs_among_e2
    walk_at "ev"
    refine ⟨p, g, rfl, hG p hp, hg, ?_⟩
    walk_at "ev"
    cases e : p.all fun a => decide (a ∈ g)
    · exact r0 e
    · exact r1 e
  have ep : g.map (fun a => natsT [a]) ++ (gs.filter fun p => p.all fun a => decide (a ∈ g)).map natsT = (parts gs g).map natsT := by
    unfold parts
    rw [List.map_append, List.map_map]; rfl
  have pl : (parts gs g).length ≤ 70 := by
    unfold parts
    rw [List.length_append, List.length_map]
    have := List.length_filter_le (fun p : List Nat => p.all fun a => decide (a ∈ g)) gs
    omega
  have pok : ∀ p ∈ parts gs g, GOk p := fun p hp => by
    rcases mem_parts.mp hp with ⟨a, ha, rfl⟩ | ⟨hp, _⟩
    · exact ⟨List.pairwise_singleton _ _, by rw [List.length_singleton]; decide, fun i hi => by rw [List.mem_singleton] at hi; subst hi; exact hg.2.2 i ha⟩
    · exact hG p hp
  walk_at "ev"
  refine ⟨by rw [List.length_map, List.length_map, sizeLine_eq]; have := List.length_filter_le (fun p : List Nat => p.all fun a => decide (a ∈ g)) gs; omega, ?_⟩
  rw [ep]
  unfold wSetM
  walk_at "ev"
  refine fun q q1 k1 => ?_
  walk_at "ev"
  refine loopW_inv (I := fun r δ s2 => ∃ (N : List (List Nat)) (d4 d6 : Option D), N ++ r = parts gs g ∧ s2 = s.put q (.lst (((N.filter fun p => decide (restOf g p ∈ parts gs g) && ltD (rankD p) (rankD (restOf g p))).map fun p => (p, restOf g p)).map prD)) ∧
    δ = [some (.tup (gs.map natsT)), some (.tup (g.map natD)), some (.lst ((parts gs g).map natsT)), none, d4, some (.ref q), d6]) ?_ ?_ ⟨[], none, none, rfl, rfl, rfl⟩
  · rintro p r δ s2 ⟨N, d4, d6, hN, rfl, rfl⟩ K hK
    have pp : p ∈ parts gs g := by rw [← hN]; exact List.mem_append_right _ List.mem_cons_self
    have p6 := (pok p pp).2.1
    have Nl : N.length ≤ 70 := by have := congrArg List.length hN; rw [List.length_append] at this; omega
    unfold w_pairs_among_b1
    walk_at "ev"
    refine ⟨by rw [List.length_map, sizeLine_eq]; omega, lcW_sel (p := fun a => decide (a ∉ p)) (f := natD) (fun a ha R0 R1 r0 r1 => ?_) ?_⟩
    · unfold w_pairs_among_q2 w_pairs_among_e3
      walk_at "ev"
      refine notIn_it same_nat (.inr rfl) ?_
      by_cases e : a ∈ p
      · simp only [e, not_true_eq_false, decide_false] at r0 ⊢
        exact r0 trivial
      · simp only [e, not_false_eq_true, decide_true] at r1 ⊢
        exact r1 trivial
    rw [show D.tup ((g.filter fun a => decide (a ∉ p)).map natD) = natsT (restOf g p) from rfl]
    walk_at "ev"
    have sT : Same natsT := same_tup same_nat fun x => Nat.zero_le _
    have st : (decide (restOf g p ∈ parts gs g) && ltD (rankD p) (rankD (restOf g p))) = false → K [some (.tup (gs.map natsT)), some (.tup (g.map natD)), some (.lst ((parts gs g).map natsT)), none, some (natsT p), some (.ref q), some (natsT (restOf g p))]
        (s.put q (.lst (((N.filter fun p => decide (restOf g p ∈ parts gs g) && ltD (rankD p) (rankD (restOf g p))).map fun p => (p, restOf g p)).map prD))) := fun e => by
      refine hK _ _ ⟨N ++ [p], _, _, by rw [List.append_assoc]; exact hN, ?_, rfl⟩
      rw [List.filter_append, List.filter_cons_of_neg (by rw [e]; exact Bool.false_ne_true), List.filter_nil, List.append_nil]
    have M1 : (s.put q (.lst (((N.filter fun p => decide (restOf g p ∈ parts gs g) && ltD (rankD p) (rankD (restOf g p))).map fun p => (p, restOf g p)).map prD))).M q = some (.lst (((N.filter fun p => decide (restOf g p ∈ parts gs g) && ltD (rankD p) (rankD (restOf g p))).map fun p => (p, restOf g p)).map prD)) := by simp [S.put]
    refine in_it sT (.inl rfl) ?_
    by_cases e1 : restOf g p ∈ parts gs g
    · simp only [e1, decide_true]
      refine ⟨p, restOf g p, rfl, ?_⟩
      cases e2 : ltD (rankD p) (rankD (restOf g p))
      · exact st (by rw [e2, Bool.and_false])
      · simp only [M1]
        refine ⟨trivial, by rw [List.length_map, List.length_map, sizeLine_eq]; have := List.length_filter_le (fun p => decide (restOf g p ∈ parts gs g) && ltD (rankD p) (rankD (restOf g p))) N; omega, ?_⟩
        rw [put_put]
        refine hK _ _ ⟨N ++ [p], _, _, by rw [List.append_assoc]; exact hN, ?_, rfl⟩
        rw [List.filter_append, List.filter_cons_of_pos (by rw [decide_eq_true e1, e2]; rfl), List.filter_nil, List.map_append, List.map_append]
        rfl
    · simp only [e1, decide_false]
      exact st (by rw [decide_eq_false e1]; rfl)
  · rintro δ s2 ⟨N, d4, d6, hN, rfl, rfl⟩
    rw [List.append_nil] at hN
    subst hN
    unfold wFreeze
    walk_at "ev"
    rw [put_del q1]
    exact ⟨fun b j hb => k1 b j hb, h⟩

theorem fn_pairs_among (T : Txt K mg) : FnD P w K mg base 3 T.a_pairs_among T.fd_pairs_among ["groups", "group"] sp_pairs_among :=
  fnD_of T.F_pairs_among sc_pairs_among len_pairs_among (fun cdv A outer s H E hr => b_pairs_among T hr) sem_pairs_among
/-! #### pairs_of -/
theorem bi_pairs_of (T : Txt K mg) : Binds K T.fd_pairs_of ["question", "group"] [] := T.F_pairs_of.binds fun _ _ _ _ _ _ us hl => match us, hl with | [_, _], _ => rfl
abbrev kd_pairs_of_0 : List D → List D → List D := pgX D.non 0 2 [1, 0]
theorem kb_pairs_of_0 (T : Txt K mg) : KBinds K T.fd_pairs_of ["question", "group"] ["group", "question"] (pgX Value.none 0 2 [1, 0]) (pgX V.non 0 2 [1, 0]) := by
  obtain ⟨oc, od, kV, doc, pm, an, cdv, ct, osl, e, lk, hcd⟩ := T.F_pairs_of.ex
  rw [e]
  exact kb_mk (by decide) fun s us ws h1 h2 => match us, ws, h1, h2 with | [], [_, _], _, _ => .of_eq rfl
def N_pairs_of : List Str := ["question", "group"]
theorem sc_pairs_of : FnScope N_pairs_of ["question", "group"] (defScope s_pairs_of) := ⟨rfl, rfl, rfl, by decide +kernel, rfl, by decide +kernel, by decide +kernel⟩
def w_pairs_of : WS :=
    (wRet (wCall sp_pairs_among (wCons (wCall sp_groups_of (wCons (wVar 0) wNil)) (wCons (wVar 1) wNil))))
theorem b_pairs_of (T : Txt K mg) {cdv : Value} {A : Around} {outer : List Env} {s : Shared} {H : Hp} {E : XK} (hr : RoomG 4 (A.deeper (envOfC "pairs_of" (defScope s_pairs_of) s.heap.objs.size T.a_pairs_of cdv))) :
    DSs (cxOf CX0 P w K mg base N_pairs_of "pairs_of" (defScope s_pairs_of) T.a_pairs_of cdv A outer s H E).nox (defBody s_pairs_of) w_pairs_of :=
    (dss_one (ds_ret (de_call (fn_pairs_among T) (hr.mono (by decide)) (by rfl) T.m_pairs_among T.F_pairs_among.kp (bi_pairs_among T) (da_cons (de_call (fn_groups_of T) (hr.mono (by decide)) (by rfl) T.m_groups_of T.F_groups_of.kp (bi_groups_of T) (da_cons (dvar 0) da_nil)) (da_cons (dvar 1) da_nil)))))
local macro_rules | `(tactic| walk_at "un.pairs_of") => `(tactic| (unfold w_pairs_of N_pairs_of))
def sp_pairs_of : SpD := fun ds s P => ∃ q g, ds = [askD q, natsT g] ∧ AskOk q ∧ GOk g ∧ P (.tup ((pairs (grps q.src.length (memb q)) g).map prD)) s
theorem len_pairs_of : ∀ ds s P, sp_pairs_of ds s P → ds.length = 2 := by
  rintro ds s P ⟨q, g, rfl, _⟩; rfl
theorem sem_pairs_of : ∀ ds s P, sp_pairs_of ds s P → w_pairs_of { nx := fun _ s' => P .non s', rt := P } (startD N_pairs_of ds) s := by
  rintro ds s P ⟨q, g, rfl, hq, hg, h⟩
  walk_at "un.pairs_of"
  walk_at "ev"
  have h6 := hq.n6
  have hs : (grps q.src.length (memb q)).length ≤ 64 := by
    unfold grps
    rw [List.length_mergeSort]
    refine Nat.le_trans (List.length_filter_le _ _) ?_
    rw [subs_length]; exact Nat.pow_le_pow_right (n := 2) (by omega) h6
  exact ⟨q, rfl, hq, ⟨_, g, rfl, hs, fun p hp => (grps_ok h6 p hp).1, hg, h⟩⟩

theorem fn_pairs_of (T : Txt K mg) : FnD P w K mg base 5 T.a_pairs_of T.fd_pairs_of ["question", "group"] sp_pairs_of :=
  fnD_of T.F_pairs_of sc_pairs_of len_pairs_of (fun cdv A outer s H E hr => b_pairs_of T hr) sem_pairs_of
/-! #### _law_deck -/
theorem bi__law_deck (T : Txt K mg) : Binds K T.fd__law_deck ["_law_script"] [] := T.F__law_deck.binds fun _ _ _ _ _ _ us hl => match us, hl with | [_], _ => rfl
def N__law_deck : List Str := ["_law_script", "_law_cells", "_law_mixed", "_law_cell"]
theorem sc__law_deck : FnScope N__law_deck ["_law_script"] (defScope s__law_deck) := ⟨rfl, rfl, rfl, by decide +kernel, rfl, by decide +kernel, by decide +kernel⟩
def w__law_deck_b1 : WS :=
    (wAsg (wOp roMod (wOp roAdd (wOp roAdd (wOp roMul (wVar 2) (wC (.int 48271))) (wOp roMod (wVar 3) (wC (.int 2147483629)))) (wC (.int 57))) (wC (.int 2147483587))) (wgName 2))
def w__law_deck : WS :=
    (wSeq (wPar 1 2 (wCons (wFz (wCBL rcList (wCons (wSl (wVar 0) woN (woS (wC (.int 63)))) wNil))) (wCons (wC (.int 40009)) wNil)))
      (wSeq (wFor (wiSeq (wVar 1)) (wgName 3) w__law_deck_b1)
      (wRet (wDeck (wRevL (wVar 1)) (wVar 2) (wC (.int 0))))))
theorem b__law_deck (T : Txt K mg) {cdv : Value} {A : Around} {outer : List Env} {s : Shared} {H : Hp} {E : XK} (hr : RoomG 0 (A.deeper (envOfC "_law_deck" (defScope s__law_deck) s.heap.objs.size T.a__law_deck cdv))) :
    DSs (cxOf CX0 P w K mg base N__law_deck "_law_deck" (defScope s__law_deck) T.a__law_deck cdv A outer s H E).nox (defBody s__law_deck) w__law_deck :=
    (dss_cons (ds_par (i := 1) (j := 2) rfl sc__law_deck.nd rfl rfl (by decide) rfl rfl (da_cons (de_fz (del_callTy cd_list (by rfl) T.n_list bb_list (da_cons (de_sl (dvar 0) dpo_none (dpo_some dint)) da_nil))) (da_cons dint da_nil)) (by rfl))
      (dss_cons (ds_for PassesOwn.never rfl (di_seq (dvar 1)) (dg_name (i := 3) sc__law_deck.nd rfl (by first | exact Or.inl rfl | exact Or.inr rfl)) (dss_one (ds_set (i := 2) sc__law_deck.nd rfl (by first | exact Or.inl rfl | exact Or.inr rfl) (de_op od_mod (de_op od_add (de_op od_add (de_op od_mul (dvar 2) dint) (de_op od_mod (dvar 3) dint)) dint) dint))))
      (dss_one (ds_ret (de_deck (del_rev (dvar 1)) (dvar 2) dint)))))
local macro_rules | `(tactic| walk_at "un._law_deck") => `(tactic| (unfold w__law_deck N__law_deck))
def sp__law_deck : SpD := fun ds s P => ∃ ns : List Int, ds = [.lsk (ns.map .int)] ∧ ns.length ≤ 63 ∧ s.dk = none ∧ ∀ a, P (.ref a) (s.fuel a deckMax)
theorem len__law_deck : ∀ ds s P, sp__law_deck ds s P → ds.length = 1 := by
  rintro ds s P ⟨ns, rfl, _⟩; rfl
theorem sem__law_deck : ∀ ds s P, sp__law_deck ds s P → w__law_deck { nx := fun _ s' => P .non s', rt := P } (startD N__law_deck ds) s := by
  rintro ds s P ⟨ns, rfl, hl, hd, h⟩
  have hl' : (List.map D.int ns).length ≤ 63 := by rw [List.length_map]; exact hl
  have h63 : cutD (List.map D.int ns) none (some 63) = List.map D.int ns := by rw [cutD_to (by omega)]; exact List.take_of_length_le hl'
  unfold w__law_deck N__law_deck
  walk_at "ev"
  rw [h63]
  suffices H : ∀ (l : List Int) (m : Int) (d : Option D), 0 ≤ m → m < 2147483587 → loopW (wgName 3) (wAsg (wOp roMod (wOp roAdd (wOp roAdd (wOp roMul (wVar 2) (wC (.int 48271))) (wOp roMod (wVar 3) (wC (.int 2147483629)))) (wC (.int 57))) (wC (.int 2147483587))) (wgName 2))
    { nx := fun δ s => wDeck (wRevL (wVar 1)) (wVar 2) (wC (.int 0)) δ s P, rt := P } (l.map .int) [some (.lsk (ns.map .int)), some (.lst (ns.map .int)), some (.int m), d] s from H ns _ _ (by decide) (by decide)
  intro l
  induction l with
  | nil =>
    intro m d m0 m1
    simp only [List.map_nil, loopW, wDeck, wRevL, wVar, wC, view, List.getElem?_cons_zero, List.getElem?_cons_succ, ← List.map_reverse, intsD_map, List.length_reverse]
    exact ⟨⟨hl, m0, m1, hd⟩, h⟩
  | cons x l ih =>
    intro m d m0 m1
    simp only [List.map_cons, loopW]
    walk_at "ev"
    obtain ⟨r0, r1⟩ := fmod_range (m * 48271 + x.fmod 2147483629 + 57) (c := 2147483587) (by decide)
    refine ⟨.inl (by omega), by decide, by decide, ih _ _ r0 r1⟩

theorem fn__law_deck (T : Txt K mg) : FnD P w K mg base 1 T.a__law_deck T.fd__law_deck ["_law_script"] sp__law_deck :=
  fnD_of T.F__law_deck sc__law_deck len__law_deck (fun cdv A outer s H E hr => b__law_deck T hr) sem__law_deck
/-! #### _law_draw -/
theorem bi__law_draw (T : Txt K mg) : Binds K T.fd__law_draw ["_law_deck_here", "_law_count"] [] := T.F__law_draw.binds fun _ _ _ _ _ _ us hl => match us, hl with | [_, _], _ => rfl
def N__law_draw : List Str := ["_law_deck_here", "_law_count", "_law_cell", "_law_number"]
theorem sc__law_draw : FnScope N__law_draw ["_law_deck_here", "_law_count"] (defScope s__law_draw) := ⟨rfl, rfl, rfl, by decide +kernel, rfl, by decide +kernel, by decide +kernel⟩
def w__law_draw_t1 : WS :=
    (wAsg (wOp roAdd (wVar 2) (wOp roIx (wVar 0) (wC (.int 1)))) (wgName 2))
def w__law_draw_t2 : WS :=
    (wSeq (wAsg (wOp roMod (wOp roMul (wOp roAdd (wOp roAdd (wOp roMod (wVar 2) (wC (.int 2147483629))) (wOp roMul (wOp roMul (wC (.int 74093)) (wOp roIx (wVar 0) (wC (.int 2)))) (wOp roIx (wVar 0) (wC (.int 2))))) (wC (.int 57))) (wC (.int 40692))) (wC (.int 2147483647))) (wgName 3))
      (wSeq (wAsg (wOp roMod (wOp roAdd (wOp roAdd (wOp roMul (wVar 3) (wVar 3)) (wOp roMul (wC (.int 69621)) (wOp roIx (wVar 0) (wC (.int 2))))) (wC (.int 13))) (wC (.int 2147483563))) (wgName 3))
      (wRet (wOp roMod (wOp roFdiv (wOp roMod (wOp roMul (wVar 3) (wC (.int 39373))) (wC (.int 2147483587))) (wC (.int 64))) (wVar 1)))))
def w__law_draw : WS :=
    (wSeq (wSetIx (wOp roAdd (wOp roIx (wVar 0) (wC (.int 2))) (wC (.int 1))) (wVar 0) (wC (.int 2)))
      (wSeq (wAsg (wOp roIx (wVar 0) (wC (.int 1))) (wgName 2))
      (wSeq (wIf (wTst (wOp roNe (wOp roIx (wVar 0) (wC (.int 0))) (wFz wNil))) (wSeq (wAsg (wMeth "list" rmPop (wOp roIx (wVar 0) (wC (.int 0))) wNil) (wgName 2))
      (wSeq (wIf (wTst (wOp roGe (wVar 2) (wOp roPow (wC (.int 10)) (wC (.int 18))))) (wSeq (wDrop (wMeth "list" rmAppend (wOp roIx (wVar 0) (wC (.int 0))) (wCons (wOp roFdiv (wVar 2) (wVar 1)) wNil)))
      (wRet (wOp roMod (wVar 2) (wVar 1)))) wNext)
      w__law_draw_t1)) wNext)
      w__law_draw_t2)))
theorem b__law_draw (T : Txt K mg) {cdv : Value} {A : Around} {outer : List Env} {s : Shared} {H : Hp} {E : XK} (hr : RoomG 0 (A.deeper (envOfC "_law_draw" (defScope s__law_draw) s.heap.objs.size T.a__law_draw cdv))) :
    DSs (cxOf CX0 P w K mg base N__law_draw "_law_draw" (defScope s__law_draw) T.a__law_draw cdv A outer s H E).nox (defBody s__law_draw) w__law_draw :=
    (dss_cons (ds_setIx (de_op od_add (de_ix ixd (dvar 0) dint (fun _ _ => rfl)) dint) (dvar 0) dint)
      (dss_cons (ds_set (i := 2) sc__law_draw.nd rfl (by first | exact Or.inl rfl | exact Or.inr rfl) (de_ix ixd (dvar 0) dint (fun _ _ => rfl)))
      (dss_cons (ds_if (dt_cmp (od_ne hr.rm.units) (de_ix ixd (dvar 0) dint (fun _ _ => rfl)) (de_fz (del_lst da_nil)) (nomark _)) (dss_cons (ds_set (i := 2) sc__law_draw.nd rfl (by first | exact Or.inl rfl | exact Or.inr rfl) (de_meth0 PySem.F.plainAttrs_list PySem.F.slot_list_pop PySem.F.type_list_pop md_pop (de_ix ixd (dvar 0) dint (fun _ _ => rfl))))
      (dss_cons (ds_if (dt_cmp od_ge (dvar 2) (de_op od_pow dint dint) (nomark _)) (dss_cons (ds_expr (de_meth PySem.F.plainAttrs_list PySem.F.slot_list_append PySem.F.type_list_append md_append (de_ix ixd (dvar 0) dint (fun _ _ => rfl)) (da_cons (de_op od_fdiv (dvar 2) (dvar 1)) da_nil)))
      (dss_one (ds_ret (de_op od_mod (dvar 2) (dvar 1))))) dss_nil)
      (dss_one (ds_set (i := 2) sc__law_draw.nd rfl (by first | exact Or.inl rfl | exact Or.inr rfl) (de_op od_add (dvar 2) (de_ix ixd (dvar 0) dint (fun _ _ => rfl))))))) dss_nil)
      (dss_cons (ds_set (i := 3) sc__law_draw.nd rfl (by first | exact Or.inl rfl | exact Or.inr rfl) (de_op od_mod (de_op od_mul (de_op od_add (de_op od_add (de_op od_mod (dvar 2) dint) (de_op od_mul (de_op od_mul dint (de_ix ixd (dvar 0) dint (fun _ _ => rfl))) (de_ix ixd (dvar 0) dint (fun _ _ => rfl)))) dint) dint) dint))
      (dss_cons (ds_set (i := 3) sc__law_draw.nd rfl (by first | exact Or.inl rfl | exact Or.inr rfl) (de_op od_mod (de_op od_add (de_op od_add (de_op od_mul (dvar 3) (dvar 3)) (de_op od_mul dint (de_ix ixd (dvar 0) dint (fun _ _ => rfl)))) dint) dint))
      (dss_one (ds_ret (de_op od_mod (de_op od_fdiv (de_op od_mod (de_op od_mul (dvar 3) dint) dint) dint) (dvar 1)))))))))
local macro_rules | `(tactic| walk_at "un._law_draw") => `(tactic| (unfold w__law_draw N__law_draw; try unfold w__law_draw_t2; try unfold w__law_draw_t1))
def sp__law_draw : SpD := spDraw
theorem len__law_draw : ∀ ds s P, spDrawM ds s P → ds.length = 2 := by
  rintro ds s P ⟨a, a1, c, cells, mixed, k, rfl, _⟩; rfl
theorem draw_tail {P : DK} {a a1 : Addr} {c mixed cell : Int} {k : Nat} {s2 : S} {d3 : Option D} {nx : Dn → S → Prop} (c0 : 0 < c) (c1 : c < 1073741824) (hk : (k : Int) < 2 ^ 60) (h1 : s2.M a = some (.lst [.ref a1, .int mixed, .int (k + 1)]))
    (h : ∀ r : Int, 0 ≤ r → r < c → P (.int r) s2) : w__law_draw_t2 { nx := nx, rt := P } [some (.ref a), some (.int c), some (.int cell), d3] s2 := by
  unfold w__law_draw_t2
  repeat (walk_at "ev"; simp only [h1])
  walk_at "ev"
  obtain ⟨q0, q1⟩ := fmod_range (((cell.fmod 2147483629 + 74093 * (↑k + 1) * (↑k + 1) + 57) * 40692)) (c := 2147483647) (by decide)
  refine ⟨by decide, .inl (by decide), .inr (by omega), .inr (by decide), by decide, .inr (by omega), .inl (by decide), by decide, .inr (by decide), by decide, cdiv_small (by decide) (by decide), by omega, h _ (fmod_range _ c0).1 (fmod_range _ c0).2⟩
theorem sem__law_draw : ∀ ds s P, spDrawM ds s P → w__law_draw { nx := fun _ s' => P .non s', rt := P } (startD N__law_draw ds) s := by
  rintro ds s P ⟨a, a1, c, cells, mixed, k, rfl, c0, c1, hne, hdk, hM, hM1, hl, m0, m1, hk, h⟩
  have hne' : a1 ≠ a := fun z => hne z.symm
  have hk2 : (k : Int) < 2 ^ 60 := by unfold deckMax at hk; omega
  have e2 : ixN 3 2 = some 2 := by decide
  unfold w__law_draw N__law_draw
  simp only [wSeq, wSetIx, wVar, startD, wC, wOp, roIx, view, hM]
  walk_at "ev"
  simp only [hM, List.length_cons, List.length_nil, Nat.reduceAdd, e2]
  walk_at "ev"
  rw [roNe_emp (ds := cells.map .int) (by simp only [view, put_M, if_neg hne', hM1]) (allData_ints _)]
  rcases List.eq_nil_or_concat cells with hc | ⟨l, x, hc⟩
  · subst hc
    walk_at "ev"
    simp only [List.isEmpty_nil, Bool.not_true]
    refine draw_tail (a1 := a1) (mixed := mixed) c0 c1 hk2 (by simp only [put_M, if_true]) fun r r0 r1 => h r _ [] r0 r1 (by simp only [put_M, if_true]; rfl) (by simp only [put_M, if_neg hne', hM1]) (by decide) fun b b1 b2 => by simp only [put_M, if_neg b1]
  · rw [List.concat_eq_append] at hc
    subst hc
    have e3 : (List.map D.int (l ++ [x])).isEmpty = false := by simp
    have e4 : (List.map D.int (l ++ [x]))[(List.map D.int (l ++ [x])).length - 1]? = some (.int x) := by simp
    have e5 : (List.map D.int (l ++ [x])).dropLast = List.map D.int l := by simp
    have hl2 : l.length ≤ 62 := by simp at hl; omega
    simp only [e3, Bool.not_false]
    repeat (first | walk_at "ev1" | simp only [hM1, hne', hne, if_false, e4, e5, true_and])
    by_cases hx : (10 : Int) ^ Int.toNat 18 ≤ x
    · simp only [hx, decide_true]
      repeat (first | walk_at "ev1" | simp only [hM1, hne', hne, if_false, e4, e5, true_and])
      refine ⟨cpow_small (by decide) (by decide) (by decide), cdiv_small c0 c1, by rw [List.length_map, sizeLine_eq]; omega, by omega, h _ _ (l ++ [x.fdiv c]) (fmod_range _ c0).1 (fmod_range _ c0).2 ?_ ?_ ?_ ?_⟩
      · simp only [put_M, if_neg hne, if_true]; rfl
      · simp only [put_M, if_true, List.map_append]; rfl
      · rw [List.length_append]; show l.length + 1 ≤ 63; omega
      · intro b b1 b2; simp only [put_M, if_neg b1, if_neg b2]
    · simp only [hx, decide_false]
      unfold w__law_draw_t1
      repeat (first | walk_at "ev1" | simp only [hM1, hne', hne, if_false, e4, e5, true_and])
      refine ⟨cpow_small (by decide) (by decide) (by decide), draw_tail (a1 := a1) (mixed := mixed) c0 c1 hk2 (by simp only [put_M, if_neg hne, if_true]) fun r r0 r1 => h r _ l r0 r1 (by simp only [put_M, if_neg hne, if_true]; rfl) (by simp only [put_M, if_true]) (by omega) fun b b1 b2 => by simp only [put_M, if_neg b1, if_neg b2]⟩
theorem fn__law_draw (T : Txt K mg) : FnD P w K mg base 1 T.a__law_draw T.fd__law_draw ["_law_deck_here", "_law_count"] sp__law_draw :=
  FnG.imp (fnD_of T.F__law_draw sc__law_draw len__law_draw (fun cdv A outer s H E hr => b__law_draw T hr) sem__law_draw) draw_shut

/-! #### _law_pick -/
theorem bi__law_pick (T : Txt K mg) : Binds K T.fd__law_pick ["_law_deck_here", "_law_items"] [] := T.F__law_pick.binds fun _ _ _ _ _ _ us hl => match us, hl with | [_, _], _ => rfl
def N__law_pick : List Str := ["_law_deck_here", "_law_items"]
theorem sc__law_pick : FnScope N__law_pick ["_law_deck_here", "_law_items"] (defScope s__law_pick) := ⟨rfl, rfl, rfl, by decide +kernel, rfl, by decide +kernel, by decide +kernel⟩
def w__law_pick : WS :=
    (wRet (wOp roIx (wVar 1) (wCall sp__law_draw (wCons (wVar 0) (wCons (wCB rcLen (wCons (wVar 1) wNil)) wNil)))))
theorem b__law_pick (T : Txt K mg) {cdv : Value} {A : Around} {outer : List Env} {s : Shared} {H : Hp} {E : XK} (hr : RoomG 1 (A.deeper (envOfC "_law_pick" (defScope s__law_pick) s.heap.objs.size T.a__law_pick cdv))) :
    DSs (cxOf CX0 P w K mg base N__law_pick "_law_pick" (defScope s__law_pick) T.a__law_pick cdv A outer s H E).nox (defBody s__law_pick) w__law_pick :=
    (dss_one (ds_ret (de_ix ixd (dvar 1) (de_call (fn__law_draw T) (hr.mono (by decide)) (by rfl) T.m__law_draw T.F__law_draw.kp (bi__law_draw T) (da_cons (dvar 0) (da_cons (de_callB cd_len (by rfl) T.n_len bb_len (da_cons (dvar 1) da_nil)) da_nil))) (fun _ _ => rfl))))
local macro_rules | `(tactic| walk_at "un._law_pick") => `(tactic| (unfold w__law_pick N__law_pick))
def sp__law_pick : SpD := fun ds s P => ∃ a m d, ds = [.ref a, d] ∧ s.dk = some (a, m) ∧ 1 ≤ m ∧
  ((∃ t : Str, d = .str t ∧ 0 < t.length ∧ t.length ≤ 1000 ∧ ∀ (i : Nat) m2, i < t.length → m - 1 ≤ m2 → P (.str ⟨#[(sg t).getD i 0]⟩) (s.fuel a m2)) ∨
   ∃ xs : List D, d = .lst xs ∧ xs ≠ [] ∧ xs.length ≤ 1000 ∧ ∀ x ∈ xs, ∀ m2, m - 1 ≤ m2 → P x (s.fuel a m2))
theorem len__law_pick : ∀ ds s P, sp__law_pick ds s P → ds.length = 2 := by
  rintro ds s P ⟨a, m, t, rfl, _⟩; rfl
theorem sem__law_pick : ∀ ds s P, sp__law_pick ds s P → w__law_pick { nx := fun _ s' => P .non s', rt := P } (startD N__law_pick ds) s := by
  rintro ds s P ⟨a, m, d, rfl, hd, hm, ⟨t, rfl, h0, h1, h⟩ | ⟨xs, rfl, h0, h1, h⟩⟩
  · walk_at "un._law_pick"
    walk_at "ev"
    refine ⟨by rw [sizeLine_eq]; omega, drawI hd ⟨hm, by omega, by omega, fun r r0 r1 => ?_⟩⟩
    obtain ⟨i, rfl⟩ := Int.eq_ofNat_of_zero_le r0
    have hi : i < (sg t).length := by rw [← sg_len]; omega
    simp only [atD_nat, List.getElem?_eq_getElem hi]
    refine ⟨by rw [sizeLine_eq]; omega, ?_⟩
    have := h i (m - 1) (by omega) (Nat.le_refl _)
    rw [List.getD_eq_getElem?_getD, List.getElem?_eq_getElem hi] at this
    exact this
  · have hp : 0 < xs.length := List.length_pos_iff.mpr h0
    walk_at "un._law_pick"
    walk_at "ev"
    refine drawI hd ⟨hm, by omega, by omega, fun r r0 r1 => ?_⟩
    obtain ⟨i, rfl⟩ := Int.eq_ofNat_of_zero_le r0
    have hi : i < xs.length := by omega
    simp only [atD_nat, List.getElem?_eq_getElem hi]
    exact h _ (List.getElem_mem hi) _ (Nat.le_refl _)

theorem fn__law_pick (T : Txt K mg) : FnD P w K mg base 2 T.a__law_pick T.fd__law_pick ["_law_deck_here", "_law_items"] sp__law_pick :=
  fnD_of T.F__law_pick sc__law_pick len__law_pick (fun cdv A outer s H E hr => b__law_pick T hr) sem__law_pick
/-! #### _law_names -/
theorem bi__law_names (T : Txt K mg) : Binds K T.fd__law_names ["_law_deck_here", "_law_count"] [] := T.F__law_names.binds fun _ _ _ _ _ _ us hl => match us, hl with | [_, _], _ => rfl
def N__law_names : List Str := ["_law_deck_here", "_law_count", "_law_letters", "_law_way", "_law_at", "_law_first", "_law_stem", "_law_k", "_law_words"]
theorem sc__law_names : FnScope N__law_names ["_law_deck_here", "_law_count"] (defScope s__law_names) := ⟨rfl, rfl, rfl, by decide +kernel, rfl, by decide +kernel, by decide +kernel⟩
def w__law_names_e1 : WE :=
    (wCall sp__law_pick (wCons (wVar 0) (wCons (wVar 2) wNil)))
def w__law_names_e2 : WE :=
    (wIfE (wTst (wOp roLt (wVar 1) (wC (.int 9)))) (wSlS (wVar 6) woN (woS (wOp roAdd (wVar 7) (wC (.int 1))))) (wOp roIx (wVar 2) (wOp roMod (wOp roAdd (wVar 5) (wVar 7)) (wC (.int 26)))))
def w__law_names_e3 : WE :=
    (wOp roIx (wVar 8) (wOp roMod (wOp roAdd (wVar 5) (wVar 7)) (wC (.int 12))))
def w__law_names_e4 : WE :=
    (wOp roAdd (wOp roAdd (wSlS (wVar 6) woN (woS (wVar 4))) (wOp roIx (wVar 2) (wOp roMod (wOp roAdd (wVar 5) (wVar 7)) (wC (.int 26))))) (wSlS (wVar 6) (woS (wOp roAdd (wVar 4) (wC (.int 1)))) woN))
def w__law_names_t1 : WS :=
    (wRet (wFz (wLc [7] (wiR1 (wCons (wVar 1) wNil)) (wgName 7) wYes w__law_names_e4)))
def w__law_names_t2 : WS :=
    (wSeq (wIf (wTst (wOp roEq (wVar 3) (wC (.int 2)))) (wRet (wFz (wLc [7] (wiR1 (wCons (wVar 1) wNil)) (wgName 7) wYes w__law_names_e3))) wNext)
      w__law_names_t1)
def w__law_names : WS :=
    (wSeq (wAsg (wTup (wCons (wC (.str (Str.ofString "abcdefghijklmnopqrstuvwxyz"))) (wCons (wCall sp__law_draw (wCons (wVar 0) (wCons (wC (.int 3)) wNil))) (wCons (wCall sp__law_draw (wCons (wVar 0) (wCons (wC (.int 8)) wNil))) (wCons (wCall sp__law_draw (wCons (wVar 0) (wCons (wC (.int 26)) wNil))) wNil))))) (wgTup 4 (wgCons (wgName 2) (wgCons (wgName 3) (wgCons (wgName 4) (wgCons (wgName 5) wgNil))))))
      (wSeq (wAsg (wMeth "str" rmJoin (wC (.str (Str.ofString ""))) (wCons (wFz (wLc [7] (wiR1 (wCons (wC (.int 8)) wNil)) (wgName 7) wYes w__law_names_e1)) wNil)) (wgName 6))
      (wSeq (wAsg (wFz (wCons (wC (.str (Str.ofString "from"))) (wCons (wC (.str (Str.ofString "where"))) (wCons (wC (.str (Str.ofString "tell"))) (wCons (wC (.str (Str.ofString "once"))) (wCons (wC (.str (Str.ofString "order"))) (wCons (wC (.str (Str.ofString "equal"))) (wCons (wC (.str (Str.ofString "unlike"))) (wCons (wC (.str (Str.ofString "less"))) (wCons (wC (.str (Str.ofString "most"))) (wCons (wC (.str (Str.ofString "among"))) (wCons (wC (.str (Str.ofString "none"))) (wCons (wC (.str (Str.ofString "some"))) wNil))))))))))))) (wgName 8))
      (wSeq (wIf (wTst (wOp roEq (wVar 3) (wC (.int 1)))) (wRet (wFz (wLc [7] (wiR1 (wCons (wVar 1) wNil)) (wgName 7) wYes w__law_names_e2))) wNext)
      w__law_names_t2))))
theorem b__law_names (T : Txt K mg) {cdv : Value} {A : Around} {outer : List Env} {s : Shared} {H : Hp} {E : XK} (hr : RoomG 2 (A.deeper (envOfC "_law_names" (defScope s__law_names) s.heap.objs.size T.a__law_names cdv))) :
    DSs (cxOf CX0 P w K mg base N__law_names "_law_names" (defScope s__law_names) T.a__law_names cdv A outer s H E).nox (defBody s__law_names) w__law_names :=
    (dss_cons (ds_asg (de_tup (da_cons dstr (da_cons (de_call (fn__law_draw T) (hr.mono (by decide)) (by rfl) T.m__law_draw T.F__law_draw.kp (bi__law_draw T) (da_cons (dvar 0) (da_cons dint da_nil))) (da_cons (de_call (fn__law_draw T) (hr.mono (by decide)) (by rfl) T.m__law_draw T.F__law_draw.kp (bi__law_draw T) (da_cons (dvar 0) (da_cons dint da_nil))) (da_cons (de_call (fn__law_draw T) (hr.mono (by decide)) (by rfl) T.m__law_draw T.F__law_draw.kp (bi__law_draw T) (da_cons (dvar 0) (da_cons dint da_nil))) da_nil))))) (dg_tup rfl (dgs_cons (dg_name (i := 2) sc__law_names.nd rfl (by first | exact Or.inl rfl | exact Or.inr rfl)) (dgs_cons (dg_name (i := 3) sc__law_names.nd rfl (by first | exact Or.inl rfl | exact Or.inr rfl)) (dgs_cons (dg_name (i := 4) sc__law_names.nd rfl (by first | exact Or.inl rfl | exact Or.inr rfl)) (dgs_cons (dg_name (i := 5) sc__law_names.nd rfl (by first | exact Or.inl rfl | exact Or.inr rfl)) dgs_nil))))))
      (dss_cons (ds_set (i := 6) sc__law_names.nd rfl (by first | exact Or.inl rfl | exact Or.inr rfl) (de_meth PySem.F.plainAttrs_str PySem.F.slot_str_join PySem.F.type_str_join md_join dstr (da_cons (de_fz (del_lc [("_law_k", 7)] rfl sc__law_names.nd (di_range1 (by rfl) T.n_range (da_cons dint da_nil)) (blkOk_by (own := [("_law_k", 7)]) (N := N__law_names) (sc := (defScope s__law_names)) (by decide +kernel)) (fun _ _ _ _ _ => (dg_name (i := 7) sc__law_names.nd rfl (by first | exact Or.inl rfl | exact Or.inr rfl))) (fun _ _ _ _ _ => dts_nil) (fun _ _ _ _ _ => (de_call (fn__law_pick T) (hr.mono (by decide)) (by rfl) T.m__law_pick T.F__law_pick.kp (bi__law_pick T) (da_cons (dvar 0) (da_cons (dvar 2) da_nil)))))) da_nil)))
      (dss_cons (ds_set (i := 8) sc__law_names.nd rfl (by first | exact Or.inl rfl | exact Or.inr rfl) (de_fz (del_lst (da_cons dstr (da_cons dstr (da_cons dstr (da_cons dstr (da_cons dstr (da_cons dstr (da_cons dstr (da_cons dstr (da_cons dstr (da_cons dstr (da_cons dstr (da_cons dstr da_nil)))))))))))))))
      (dss_cons (ds_if (dt_cmp (od_eq hr.rm.units) (dvar 3) dint (nomark _)) (dss_one (ds_ret (de_fz (del_lc [("_law_k", 7)] rfl sc__law_names.nd (di_range1 (by rfl) T.n_range (da_cons (dvar 1) da_nil)) (blkOk_by (own := [("_law_k", 7)]) (N := N__law_names) (sc := (defScope s__law_names)) (by decide +kernel)) (fun _ _ _ _ _ => (dg_name (i := 7) sc__law_names.nd rfl (by first | exact Or.inl rfl | exact Or.inr rfl))) (fun _ _ _ _ _ => dts_nil) (fun _ _ _ _ _ => (de_if (dt_cmp od_lt (dvar 1) dint (nomark _)) (de_sliceS (dvar 6) dpo_none (dpo_some (de_op od_add (dvar 7) dint))) (de_ix ixd (dvar 2) (de_op od_mod (de_op od_add (dvar 5) (dvar 7)) dint) (fun _ _ => rfl)))))))) dss_nil)
      (dss_cons (ds_if (dt_cmp (od_eq hr.rm.units) (dvar 3) dint (nomark _)) (dss_one (ds_ret (de_fz (del_lc [("_law_k", 7)] rfl sc__law_names.nd (di_range1 (by rfl) T.n_range (da_cons (dvar 1) da_nil)) (blkOk_by (own := [("_law_k", 7)]) (N := N__law_names) (sc := (defScope s__law_names)) (by decide +kernel)) (fun _ _ _ _ _ => (dg_name (i := 7) sc__law_names.nd rfl (by first | exact Or.inl rfl | exact Or.inr rfl))) (fun _ _ _ _ _ => dts_nil) (fun _ _ _ _ _ => (de_ix ixd (dvar 8) (de_op od_mod (de_op od_add (dvar 5) (dvar 7)) dint) (fun _ _ => rfl))))))) dss_nil)
      (dss_one (ds_ret (de_fz (del_lc [("_law_k", 7)] rfl sc__law_names.nd (di_range1 (by rfl) T.n_range (da_cons (dvar 1) da_nil)) (blkOk_by (own := [("_law_k", 7)]) (N := N__law_names) (sc := (defScope s__law_names)) (by decide +kernel)) (fun _ _ _ _ _ => (dg_name (i := 7) sc__law_names.nd rfl (by first | exact Or.inl rfl | exact Or.inr rfl))) (fun _ _ _ _ _ => dts_nil) (fun _ _ _ _ _ => (de_op od_add (de_op od_add (de_sliceS (dvar 6) dpo_none (dpo_some (dvar 4))) (de_ix ixd (dvar 2) (de_op od_mod (de_op od_add (dvar 5) (dvar 7)) dint) (fun _ _ => rfl))) (de_sliceS (dvar 6) (dpo_some (de_op od_add (dvar 4) dint)) dpo_none))))))))))))
local macro_rules | `(tactic| walk_at "un._law_names") => `(tactic| (unfold w__law_names N__law_names; try unfold w__law_names_t2; try unfold w__law_names_t1))
def sp__law_names : SpD := fun ds s P => ∃ a m n, ds = [.ref a, .int ((n : Nat) : Int)] ∧ s.dk = some (a, m) ∧ 11 ≤ m ∧ n ≤ 12 ∧ ∀ (ns : List Str) m2, ns.length = n → ns.Nodup → (∀ x ∈ ns, Nam x) → m - 11 ≤ m2 → P (.lst (ns.map .str)) (s.fuel a m2)
theorem len__law_names : ∀ ds s P, sp__law_names ds s P → ds.length = 2 := by
  rintro ds s P ⟨a, m, n, rfl, _⟩; rfl
theorem sem__law_names : ∀ ds s P, sp__law_names ds s P → w__law_names { nx := fun _ s' => P .non s', rt := P } (startD N__law_names ds) s := by
  rintro ds s P ⟨a, m, n, rfl, hd, hm, hn, h⟩
  walk_at "un._law_names"
  walk_at "ev"
  refine drawI hd ⟨by omega, by decide, by decide, fun w w0 w1 => drawF ⟨by omega, by decide, by decide, fun q q0 q1 => drawF ⟨by omega, by decide, by decide, fun f f0 f1 => ?_⟩⟩⟩
  walk_at "ev"
  refine ⟨⟨by decide, by decide⟩, by rw [rngD_length, sizeLine_eq]; decide, ?_⟩
  refine lcW_draw (I := fun s' k => ∃ m2, s' = s.fuel a m2 ∧ m - 11 + k ≤ m2) (Q := fun d => ∃ c, d = .str ⟨#[c]⟩ ∧ 97 ≤ c ∧ c ≤ 122) (n := 0) ?_ ⟨m - 1 - 1 - 1, rfl, by rw [rngD_length]; show m - 11 + (0 + 8) ≤ _; omega⟩ ?_
  · rintro d - s' k R ⟨m2, rfl, h2⟩ hR
    unfold w__law_names_e1
    walk_at "ev"
    refine ⟨a, m2, .str abc, rfl, rfl, by omega, .inl ⟨abc, rfl, by rw [abc_len]; decide, by rw [abc_len]; decide, fun i m3 hi hm3 => ?_⟩⟩
    rw [abc_len] at hi
    refine hR _ _ ⟨97 + i, ?_, by omega, by omega⟩ ⟨m3, rfl, by omega⟩
    rw [List.getD_eq_getElem?_getD, abc_at hi]; rfl
  · rintro ys s2 hl hq ⟨m2, rfl, h2⟩
    rw [rngD_length] at hl
    obtain ⟨l, rfl, hq2, hl2⟩ := ones_of hq
    have hl8 : l.length = 8 := hl2.trans hl
    unfold rmJoin
    walk_at "ev"
    obtain ⟨stem, hst⟩ : ∃ stem, Txt.join (Str.ofString "") (l.map fun c => (⟨#[c]⟩ : Str)) = stem := ⟨_, rfl⟩
    have hsg : sg stem = l := by rw [← hst]; exact join_ones l
    have hsl : stem.length = 8 := by rw [sg_len, hsg]; exact hl8
    refine ⟨?_, ?_⟩
    · rw [List.map_map, show (Str.length ∘ fun c => (⟨#[c]⟩ : Str)) = fun _ => 1 from rfl, List.map_const', List.sum_replicate_nat, List.length_map, hl8]; decide
    rw [hst]
    have hz : stem.length ≤ sizeLine := by rw [hsl]; decide
    have hzz : (abc).length ≤ sizeLine := by rw [abc_len]; decide
    have hn2 : -(2 ^ 62) ≤ (n : Int) ∧ (n : Int) < 2 ^ 62 := by omega
    have hn3 : (rngD 0 (n : Int).toNat).length ≤ sizeLine := by rw [rngD_length, sizeLine_eq]; omega
    rw [Int.toNat_natCast]
    rw [Int.toNat_natCast] at hn3
    have done : ∀ F : Nat → Str, (∀ i, i < n → Nam (F i)) → (∀ i j, i < n → j < n → F i = F j → i = j) → P (.lst ((List.range n).map fun i => .str (F i))) (s.fuel a m2) := fun F h1 h2' => by
      have := h ((List.range n).map F) m2 (by simp) (nodup_range_map h2') (fun x hx => by obtain ⟨i, hi, rfl⟩ := List.mem_map.mp hx; exact h1 i (List.mem_range.mp hi)) (by omega)
      rw [List.map_map] at this
      exact this
    by_cases e1 : w = 1
    · simp only [e1, decide_true]
      refine ⟨hn2, hn3, ?_⟩
      by_cases h9 : (n : Int) < 9
      · refine lcW_rng (f := fun i => .str (cutS stem none (some (0 + (i : Int) + 1)))) (fun i hi R hR => ?_) (done _ (fun i hi => ?_) fun i j hi hj e => ?_)
        · unfold w__law_names_e2
          walk_at "ev"
          simp only [h9, decide_true]
          exact ⟨hz, hR⟩
        · refine nam_of (sg_to (by omega)) ?_ ?_ fun c hc => hq2 c (by rw [← hsg]; exact List.mem_of_mem_take hc)
          · rw [List.length_take, hsg]; omega
          · rw [List.length_take, hsg]; omega
        · have := congrArg (fun x => (sg x).length) e
          simp only [sg_to (show (0 : Int) ≤ 0 + (i : Int) + 1 by omega), sg_to (show (0 : Int) ≤ 0 + (j : Int) + 1 by omega), List.length_take, hsg] at this
          omega
      · refine lcW_rng (f := fun i => .str ⟨#[97 + (f.toNat + i) % 26]⟩) (fun i hi R hR => ?_) (done _ (fun i hi => ?_) fun i j hi hj e => ?_)
        · unfold w__law_names_e2
          walk_at "ev"
          simp only [h9, decide_false]
          refine ⟨by decide, ?_⟩
          rw [show (26 : Int) = ((26 : Nat) : Int) from rfl, fmod_small f0 (by decide)]
          refine ⟨hzz, ?_⟩
          rw [atD_nat, show (Str.ofString "abcdefghijklmnopqrstuvwxyz").cps.toList = sg abc from rfl, abc_at (Nat.mod_lt _ (by decide))]
          exact hR
        · refine nam_of (l := [97 + (f.toNat + i) % 26]) rfl (by simp) (by simp) fun c hc => ?_
          simp only [List.mem_singleton] at hc
          omega
        · have := congrArg sg e
          simp only [sg, List.cons.injEq, and_true] at this
          omega
    · simp only [e1, decide_false]
      by_cases e2 : w = 2
      · simp only [e2, decide_true]
        refine ⟨hn2, hn3, ?_⟩
        refine lcW_rng (f := fun i => .str (wordsL.getD ((f.toNat + i) % 12) abc)) (fun i hi R hR => ?_) (done _ (fun i hi => ?_) fun i j hi hj e => ?_)
        · unfold w__law_names_e3
          walk_at "ev"
          refine ⟨by decide, ?_⟩
          have hw : (f.toNat + i) % 12 < wordsL.length := Nat.mod_lt _ (by decide)
          rw [show (12 : Int) = ((12 : Nat) : Int) from rfl, fmod_small f0 (by decide), atD_nat, show [D.str (Str.ofString "from"), D.str (Str.ofString "where"), D.str (Str.ofString "tell"), D.str (Str.ofString "once"), D.str (Str.ofString "order"), D.str (Str.ofString "equal"), D.str (Str.ofString "unlike"), D.str (Str.ofString "less"), D.str (Str.ofString "most"), D.str (Str.ofString "among"), D.str (Str.ofString "none"), D.str (Str.ofString "some")] = wordsL.map .str from rfl, List.getElem?_map, List.getElem?_eq_getElem hw]
          rw [List.getD_eq_getElem?_getD, List.getElem?_eq_getElem hw] at hR
          exact hR
        · have hw : (f.toNat + i) % 12 < wordsL.length := Nat.mod_lt _ (by decide)
          rw [List.getD_eq_getElem?_getD, List.getElem?_eq_getElem hw]
          exact wordsL_nam _ (List.getElem_mem hw)
        · have hw : (f.toNat + i) % 12 < wordsL.length := Nat.mod_lt _ (by decide)
          have hw2 : (f.toNat + j) % 12 < wordsL.length := Nat.mod_lt _ (by decide)
          rw [List.getD_eq_getElem?_getD, List.getD_eq_getElem?_getD, List.getElem?_eq_getElem hw, List.getElem?_eq_getElem hw2] at e
          have := nodup_inj wordsL_nodup hw hw2 e
          omega
      · simp only [e2, decide_false]
        refine ⟨hn2, hn3, ?_⟩
        have key : ∀ i : Nat, sg (cutS stem none (some q) ++ ⟨#[97 + (f.toNat + i) % 26]⟩ ++ cutS stem (some (q + 1)) none) = l.take q.toNat ++ [97 + (f.toNat + i) % 26] ++ l.drop (q.toNat + 1) := fun i => by
          rw [sg_app, sg_app, sg_to q0, sg_from (by omega), hsg, show (q + 1).toNat = q.toNat + 1 by omega]
        refine lcW_rng (f := fun i => .str (cutS stem none (some q) ++ ⟨#[97 + (f.toNat + i) % 26]⟩ ++ cutS stem (some (q + 1)) none)) (fun i hi R hR => ?_) (done _ (fun i hi => ?_) fun i j hi hj e => ?_)
        · unfold w__law_names_e4
          walk_at "ev"
          refine ⟨hz, by decide, ?_⟩
          rw [show (26 : Int) = ((26 : Nat) : Int) from rfl, fmod_small f0 (by decide)]
          refine ⟨hzz, ?_⟩
          rw [atD_nat, show (Str.ofString "abcdefghijklmnopqrstuvwxyz").cps.toList = sg abc from rfl, abc_at (Nat.mod_lt _ (by decide))]
          have l1 := cutS_length stem none (some q)
          have l2 := cutS_length stem (some (q + 1)) none
          have l3 : (cutS stem none (some q) ++ (⟨#[97 + (f.toNat + i) % 26]⟩ : Str)).length ≤ 9 := by
            rw [sg_len, sg_app, List.length_append, ← sg_len]; show _ + 1 ≤ 9; omega
          refine ⟨?_, hz, ?_, hR⟩
          · show _ + 1 ≤ sizeLine; rw [sizeLine_eq]; omega
          · rw [sizeLine_eq]; omega
        · refine nam_of (key i) (by rw [List.length_append, List.length_append, List.length_singleton]; omega) ?_ fun c hc => ?_
          · simp only [List.length_append, List.length_take, List.length_drop, List.length_singleton, hl8]; omega
          · rcases List.mem_append.mp hc with hc | hc
            · rcases List.mem_append.mp hc with hc | hc
              · exact hq2 c (List.mem_of_mem_take hc)
              · simp only [List.mem_singleton] at hc; omega
            · exact hq2 c (List.mem_of_mem_drop hc)
        · have := congrArg sg e
          rw [key, key] at this
          have := List.append_cancel_left (List.append_cancel_right this)
          simp only [List.cons.injEq, and_true] at this
          omega

theorem fn__law_names (T : Txt K mg) : FnD P w K mg base 3 T.a__law_names T.fd__law_names ["_law_deck_here", "_law_count"] sp__law_names :=
  fnD_of T.F__law_names sc__law_names len__law_names (fun cdv A outer s H E hr => b__law_names T hr) sem__law_names
/-! #### _law_column -/
theorem bi__law_column (T : Txt K mg) : Binds K T.fd__law_column ["_law_deck_here", "_law_some", "_law_columns"] [] := T.F__law_column.binds fun _ _ _ _ _ _ us hl => match us, hl with | [_, _, _], _ => rfl
def N__law_column : List Str := ["_law_deck_here", "_law_some", "_law_columns"]
theorem sc__law_column : FnScope N__law_column ["_law_deck_here", "_law_some", "_law_columns"] (defScope s__law_column) := ⟨rfl, rfl, rfl, by decide +kernel, rfl, by decide +kernel, by decide +kernel⟩
def w__law_column : WS :=
    (wRet (wTup (wCons (wCall sp__law_pick (wCons (wVar 0) (wCons (wVar 1) wNil))) (wCons (wCall sp__law_pick (wCons (wVar 0) (wCons (wVar 2) wNil))) wNil))))
theorem b__law_column (T : Txt K mg) {cdv : Value} {A : Around} {outer : List Env} {s : Shared} {H : Hp} {E : XK} (hr : RoomG 2 (A.deeper (envOfC "_law_column" (defScope s__law_column) s.heap.objs.size T.a__law_column cdv))) :
    DSs (cxOf CX0 P w K mg base N__law_column "_law_column" (defScope s__law_column) T.a__law_column cdv A outer s H E).nox (defBody s__law_column) w__law_column :=
    (dss_one (ds_ret (de_tup (da_cons (de_call (fn__law_pick T) (hr.mono (by decide)) (by rfl) T.m__law_pick T.F__law_pick.kp (bi__law_pick T) (da_cons (dvar 0) (da_cons (dvar 1) da_nil))) (da_cons (de_call (fn__law_pick T) (hr.mono (by decide)) (by rfl) T.m__law_pick T.F__law_pick.kp (bi__law_pick T) (da_cons (dvar 0) (da_cons (dvar 2) da_nil))) da_nil)))))
local macro_rules | `(tactic| walk_at "un._law_column") => `(tactic| (unfold w__law_column N__law_column))
def sp__law_column : SpD := fun ds s P => ∃ a m, ∃ xs ys : List Str, ds = [.ref a, .lst (xs.map .str), .lst (ys.map .str)] ∧ s.dk = some (a, m) ∧ 2 ≤ m ∧ xs ≠ [] ∧ ys ≠ [] ∧ xs.length ≤ 64 ∧ ys.length ≤ 64 ∧ ∀ (c : Col) m2, c.1 ∈ xs → c.2 ∈ ys → m - 2 ≤ m2 → P (colD c) (s.fuel a m2)
theorem len__law_column : ∀ ds s P, sp__law_column ds s P → ds.length = 3 := by
  rintro ds s P ⟨a, m, xs, ys, rfl, _⟩; rfl
theorem sem__law_column : ∀ ds s P, sp__law_column ds s P → w__law_column { nx := fun _ s' => P .non s', rt := P } (startD N__law_column ds) s := by
  rintro ds s P ⟨a, m, xs, ys, rfl, hd, hm, hx, hy, lx, ly, h⟩
  walk_at "un._law_column"
  walk_at "ev"
  refine ⟨a, m, _, rfl, hd, by omega, .inr ⟨_, rfl, by simpa using hx, by rw [List.length_map]; omega, fun x hx' m2 h2 => ?_⟩⟩
  obtain ⟨x, hx1, rfl⟩ := List.mem_map.mp hx'
  refine ⟨a, m2, _, rfl, rfl, by omega, .inr ⟨_, rfl, by simpa using hy, by rw [List.length_map]; omega, fun y hy' m3 h3 => ?_⟩⟩
  obtain ⟨y, hy1, rfl⟩ := List.mem_map.mp hy'
  walk_at "ev"
  exact h (x, y) m3 hx1 hy1 (by omega)

theorem fn__law_column (T : Txt K mg) : FnD P w K mg base 3 T.a__law_column T.fd__law_column ["_law_deck_here", "_law_some", "_law_columns"] sp__law_column :=
  fnD_of T.F__law_column sc__law_column len__law_column (fun cdv A outer s H E hr => b__law_column T hr) sem__law_column
/-! #### _law_filter -/
theorem bi__law_filter (T : Txt K mg) : Binds K T.fd__law_filter ["_law_deck_here", "_law_aliases", "_law_columns", "_law_pool"] [] := T.F__law_filter.binds fun _ _ _ _ _ _ us hl => match us, hl with | [_, _, _, _], _ => rfl
def N__law_filter : List Str := ["_law_deck_here", "_law_aliases", "_law_columns", "_law_pool", "_law_column_here", "_law_word", "_law_some", "_law_value", "_law_way", "_law_k"]
theorem sc__law_filter : FnScope N__law_filter ["_law_deck_here", "_law_aliases", "_law_columns", "_law_pool"] (defScope s__law_filter) := ⟨rfl, rfl, rfl, by decide +kernel, rfl, by decide +kernel, by decide +kernel⟩
def w__law_filter_q1 : WT :=
    (wTst (wOp roIsNot (wVar 7) (wC .non)))
def w__law_filter_e1 : WE :=
    (wVar 7)
def w__law_filter_e2 : WE :=
    (wCall sp__law_pick (wCons (wVar 0) (wCons (wVar 6) wNil)))
def w__law_filter_t1 : WS :=
    (wRet (wTup (wCons (wVar 4) (wCons (wVar 5) (wCons (wCall sp__law_pick (wCons (wVar 0) (wCons (wVar 6) wNil))) wNil)))))
def w__law_filter_t2 : WS :=
    (wSeq (wIf (wTst (wOp roEq (wVar 8) (wC (.int 2)))) (wRet (wTup (wCons (wVar 4) (wCons (wVar 5) (wCons (wTup (wCons (wOp roIx (wVar 4) (wC (.int 0))) (wCons (wCall sp__law_pick (wCons (wVar 0) (wCons (wVar 2) wNil))) wNil))) wNil))))) wNext)
      w__law_filter_t1)
def w__law_filter_t3 : WS :=
    (wSeq (wIf (wTst (wOp roEq (wVar 8) (wC (.int 1)))) (wRet (wTup (wCons (wVar 4) (wCons (wC (.str (Str.ofString "among"))) (wCons (wCB rcTuple (wCons (wFz (wLc [9] (wiR1 (wCons (wCall sp__law_draw (wCons (wVar 0) (wCons (wC (.int 4)) wNil))) wNil)) (wgName 9) wYes w__law_filter_e2)) wNil)) wNil))))) wNext)
      w__law_filter_t2)
def w__law_filter : WS :=
    (wSeq (wPar 4 5 (wCons (wCall sp__law_column (wCons (wVar 0) (wCons (wVar 1) (wCons (wVar 2) wNil)))) (wCons (wCall sp__law_pick (wCons (wVar 0) (wCons (wFz (wCons (wC (.str (Str.ofString "equal"))) (wCons (wC (.str (Str.ofString "unlike"))) (wCons (wC (.str (Str.ofString "less"))) (wCons (wC (.str (Str.ofString "most"))) wNil))))) wNil))) wNil)))
      (wSeq (wAsg (wFz (wLc [7] (wiSeq (wVar 3)) (wgName 7) w__law_filter_q1 w__law_filter_e1)) (wgName 6))
      (wSeq (wAsg (wCall sp__law_draw (wCons (wVar 0) (wCons (wC (.int 5)) wNil))) (wgName 8))
      (wSeq (wIf (wTst (wOp roEq (wVar 8) (wC (.int 0)))) (wRet (wTup (wCons (wVar 4) (wCons (wCall sp__law_pick (wCons (wVar 0) (wCons (wFz (wCons (wC (.str (Str.ofString "none"))) (wCons (wC (.str (Str.ofString "some"))) wNil))) wNil))) (wCons (wC .non) wNil))))) wNext)
      w__law_filter_t3))))
theorem b__law_filter (T : Txt K mg) {cdv : Value} {A : Around} {outer : List Env} {s : Shared} {H : Hp} {E : XK} (hr : RoomG 3 (A.deeper (envOfC "_law_filter" (defScope s__law_filter) s.heap.objs.size T.a__law_filter cdv))) :
    DSs (cxOf CX0 P w K mg base N__law_filter "_law_filter" (defScope s__law_filter) T.a__law_filter cdv A outer s H E).nox (defBody s__law_filter) w__law_filter :=
    (dss_cons (ds_par (i := 4) (j := 5) rfl sc__law_filter.nd rfl rfl (by decide) rfl rfl (da_cons (de_call (fn__law_column T) (hr.mono (by decide)) (by rfl) T.m__law_column T.F__law_column.kp (bi__law_column T) (da_cons (dvar 0) (da_cons (dvar 1) (da_cons (dvar 2) da_nil)))) (da_cons (de_call (fn__law_pick T) (hr.mono (by decide)) (by rfl) T.m__law_pick T.F__law_pick.kp (bi__law_pick T) (da_cons (dvar 0) (da_cons (de_fz (del_lst (da_cons dstr (da_cons dstr (da_cons dstr (da_cons dstr da_nil)))))) da_nil))) da_nil)) (by rfl))
      (dss_cons (ds_set (i := 6) sc__law_filter.nd rfl (by first | exact Or.inl rfl | exact Or.inr rfl) (de_fz (del_lc [("_law_value", 7)] rfl sc__law_filter.nd (di_seq (dvar 3)) (blkOk_by (own := [("_law_value", 7)]) (N := N__law_filter) (sc := (defScope s__law_filter)) (by decide +kernel)) (fun _ _ _ _ _ => (dg_name (i := 7) sc__law_filter.nd rfl (by first | exact Or.inl rfl | exact Or.inr rfl))) (fun _ _ _ _ _ => (dts_one (dt_cmp od_isnot (dvar 7) dnon (nomark _)))) (fun _ _ _ _ _ => (dvar 7)))))
      (dss_cons (ds_set (i := 8) sc__law_filter.nd rfl (by first | exact Or.inl rfl | exact Or.inr rfl) (de_call (fn__law_draw T) (hr.mono (by decide)) (by rfl) T.m__law_draw T.F__law_draw.kp (bi__law_draw T) (da_cons (dvar 0) (da_cons dint da_nil))))
      (dss_cons (ds_if (dt_cmp (od_eq hr.rm.units) (dvar 8) dint (nomark _)) (dss_one (ds_ret (de_tup (da_cons (dvar 4) (da_cons (de_call (fn__law_pick T) (hr.mono (by decide)) (by rfl) T.m__law_pick T.F__law_pick.kp (bi__law_pick T) (da_cons (dvar 0) (da_cons (de_fz (del_lst (da_cons dstr (da_cons dstr da_nil)))) da_nil))) (da_cons dnon da_nil)))))) dss_nil)
      (dss_cons (ds_if (dt_cmp (od_eq hr.rm.units) (dvar 8) dint (nomark _)) (dss_one (ds_ret (de_tup (da_cons (dvar 4) (da_cons dstr (da_cons (de_callTy cd_tuple (by rfl) T.n_tuple bb_tuple (da_cons (de_fz (del_lc [("_law_k", 9)] rfl sc__law_filter.nd (di_range1 (by rfl) T.n_range (da_cons (de_call (fn__law_draw T) (hr.mono (by decide)) (by rfl) T.m__law_draw T.F__law_draw.kp (bi__law_draw T) (da_cons (dvar 0) (da_cons dint da_nil))) da_nil)) (blkOk_by (own := [("_law_k", 9)]) (N := N__law_filter) (sc := (defScope s__law_filter)) (by decide +kernel)) (fun _ _ _ _ _ => (dg_name (i := 9) sc__law_filter.nd rfl (by first | exact Or.inl rfl | exact Or.inr rfl))) (fun _ _ _ _ _ => dts_nil) (fun _ _ _ _ _ => (de_call (fn__law_pick T) (hr.mono (by decide)) (by rfl) T.m__law_pick T.F__law_pick.kp (bi__law_pick T) (da_cons (dvar 0) (da_cons (dvar 6) da_nil)))))) da_nil)) da_nil)))))) dss_nil)
      (dss_cons (ds_if (dt_cmp (od_eq hr.rm.units) (dvar 8) dint (nomark _)) (dss_one (ds_ret (de_tup (da_cons (dvar 4) (da_cons (dvar 5) (da_cons (de_tup (da_cons (de_ix ixd (dvar 4) dint (fun _ _ => rfl)) (da_cons (de_call (fn__law_pick T) (hr.mono (by decide)) (by rfl) T.m__law_pick T.F__law_pick.kp (bi__law_pick T) (da_cons (dvar 0) (da_cons (dvar 2) da_nil))) da_nil))) da_nil)))))) dss_nil)
      (dss_one (ds_ret (de_tup (da_cons (dvar 4) (da_cons (dvar 5) (da_cons (de_call (fn__law_pick T) (hr.mono (by decide)) (by rfl) T.m__law_pick T.F__law_pick.kp (bi__law_pick T) (da_cons (dvar 0) (da_cons (dvar 6) da_nil))) da_nil))))))))))))
local macro_rules | `(tactic| walk_at "un._law_filter") => `(tactic| (unfold w__law_filter N__law_filter; try unfold w__law_filter_t3; try unfold w__law_filter_t2; try unfold w__law_filter_t1))
def sp__law_filter : SpD := fun ds s P => ∃ a m q, ∃ (ys : List Str) (pool : List D), ds = [.ref a, .lst (q.al.map .str), .lst (ys.map .str), .lst pool] ∧ AskOk q ∧ s.dk = some (a, m) ∧ 20 ≤ m ∧ ys ≠ [] ∧ ys.length ≤ 64 ∧ (∀ y ∈ ys, Nam y) ∧ pool.length ≤ 6 ∧ (∃ x ∈ pool, isN x = false) ∧ (∀ x ∈ pool, Cel x) ∧ ∀ d m2, FilOk q d → m - 20 ≤ m2 → P d (s.fuel a m2)
theorem len__law_filter : ∀ ds s P, sp__law_filter ds s P → ds.length = 4 := by
  rintro ds s P ⟨a, m, q, ys, pool, rfl, _⟩; rfl
theorem sem__law_filter : ∀ ds s P, sp__law_filter ds s P → w__law_filter { nx := fun _ s' => P .non s', rt := P } (startD N__law_filter ds) s := by
  rintro ds s P ⟨a, m, q, ys, pool, rfl, hq, hd, hm, hy, ly, hyn, lp, hp, hpc, h⟩
  walk_at "un._law_filter"
  walk_at "ev"
  have hal : q.al ≠ [] := fun e => by have := congrArg List.length e; rw [List.length_map, List.length_nil] at this; have := hq.n1; omega
  refine ⟨a, m, q.al, ys, rfl, hd, by omega, hal, hy, by rw [List.length_map]; have := hq.n6; omega, ly, fun c m1 c1 c2 hm1 => ?_⟩
  refine ⟨a, m1, _, rfl, rfl, by omega, .inr ⟨_, rfl, by simp, by simp, fun w hw m2 hm2 => ?_⟩⟩
  have hc : ColOk q c := ⟨c1, hyn _ c2⟩
  have hw2 : ∃ w' : Str, w = .str w' ∧ (w' = "equal" ∨ w' = "unlike" ∨ w' = "less" ∨ w' = "most") := by
    simp only [List.mem_cons, List.not_mem_nil, or_false] at hw
    rcases hw with rfl | rfl | rfl | rfl
    · exact ⟨_, rfl, .inl rfl⟩
    · exact ⟨_, rfl, .inr (.inl rfl)⟩
    · exact ⟨_, rfl, .inr (.inr (.inl rfl))⟩
    · exact ⟨_, rfl, .inr (.inr (.inr rfl))⟩
  clear hw
  obtain ⟨w, rfl, hw⟩ := hw2
  refine ⟨by rw [sizeLine_eq]; omega, lcW_pure (p := fun d => !isN d) (f := id) ?_ ?_⟩
  · intro d hd' R0 R1 r0 r1
    unfold w__law_filter_q1 w__law_filter_e1
    walk_at "ev"
    cases d <;> first | exact r0 rfl | exact r1 rfl
  have hsome : ∀ x ∈ (pool.filter fun d => !isN d).map id, Cel x ∧ isN x = false := fun x hx => by
    rw [List.map_id] at hx
    obtain ⟨h1, h2⟩ := List.mem_filter.mp hx
    exact ⟨hpc x h1, by simpa using h2⟩
  have hne : (pool.filter fun d => !isN d).map id ≠ [] := fun e => by
    obtain ⟨x, h1, h2⟩ := hp
    rw [List.map_id] at e
    have : x ∈ pool.filter fun d => !isN d := List.mem_filter.mpr ⟨h1, by rw [h2]; rfl⟩
    rw [e] at this
    cases this
  have hle : ((pool.filter fun d => !isN d).map id).length ≤ 6 := by
    rw [List.map_id]
    exact Nat.le_trans (List.length_filter_le _ _) lp
  have hcc : ∀ y ∈ ys, FilOk q (.tup [colD c, .str w, colD (c.1, y)]) := fun y hy => ⟨c, w, _, rfl, hc, .inr (.inr ⟨hw, .inr ⟨y, hyn y hy, rfl⟩⟩)⟩
  unfold colD at hcc ⊢
  refine drawF ⟨by omega, by decide, by decide, fun r r0 r1 => ?_⟩
  walk_at "ev"
  by_cases e0 : r = 0
  · simp only [e0, decide_true]
    refine ⟨a, _, _, rfl, rfl, by omega, .inr ⟨_, rfl, by simp, by simp, fun x hx m3 hm3 => h _ _ ?_ (by omega)⟩⟩
    simp only [List.mem_cons, List.not_mem_nil, or_false] at hx
    rcases hx with rfl | rfl
    · exact ⟨c, _, _, rfl, hc, .inl ⟨.inl rfl, rfl⟩⟩
    · exact ⟨c, _, _, rfl, hc, .inl ⟨.inr rfl, rfl⟩⟩
  simp only [e0, decide_false]
  by_cases e1 : r = 1
  · simp only [e1, decide_true]
    refine drawF ⟨by omega, by decide, by decide, fun n n0 n1 => ?_⟩
    refine ⟨by omega, by rw [rngD_length, sizeLine_eq]; omega, ?_⟩
    refine lcW_draw (I := fun s' k => ∃ m3, s' = s.fuel a m3 ∧ m - 20 + k ≤ m3) (Q := fun d => Cel d ∧ isN d = false) (n := 0) ?_ ⟨_, rfl, by rw [rngD_length]; omega⟩ ?_
    · rintro d - s' k R ⟨m3, rfl, h2⟩ hR
      unfold w__law_filter_e2
      walk_at "ev"
      exact ⟨a, m3, _, rfl, rfl, by omega, .inr ⟨_, rfl, hne, by omega, fun x hx m4 hm4 => hR _ _ (hsome x hx) ⟨m4, rfl, by omega⟩⟩⟩
    · rintro os s2 hl hq2 ⟨m3, rfl, h2⟩
      rw [rngD_length] at hl
      exact h _ _ ⟨c, _, _, rfl, hc, .inr (.inl ⟨rfl, os, rfl, by omega, hq2⟩)⟩ (by omega)
  simp only [e1, decide_false]
  by_cases e2 : r = 2
  · simp only [e2, decide_true]
    walk_at "ev"
    refine ⟨a, _, _, rfl, rfl, by omega, .inr ⟨_, rfl, by simpa using hy, by rw [List.length_map]; omega, fun x hx m3 hm3 => ?_⟩⟩
    obtain ⟨y, hy2, rfl⟩ := List.mem_map.mp hx
    exact h _ _ (hcc y hy2) (by omega)
  simp only [e2, decide_false]
  refine ⟨a, _, _, rfl, rfl, by omega, .inr ⟨_, rfl, hne, by omega, fun x hx m3 hm3 => h _ _ ?_ (by omega)⟩⟩
  exact ⟨c, w, _, rfl, hc, .inr (.inr ⟨hw, .inl (hsome x hx)⟩)⟩

theorem fn__law_filter (T : Txt K mg) : FnD P w K mg base 4 T.a__law_filter T.fd__law_filter ["_law_deck_here", "_law_aliases", "_law_columns", "_law_pool"] sp__law_filter :=
  fnD_of T.F__law_filter sc__law_filter len__law_filter (fun cdv A outer s H E hr => b__law_filter T hr) sem__law_filter
/-! #### _law_question -/
theorem bi__law_question (T : Txt K mg) : Binds K T.fd__law_question ["_law_deck_here", "_law_names_here", "_law_columns", "_law_count", "_law_pool"] [] := T.F__law_question.binds fun _ _ _ _ _ _ us hl => match us, hl with | [_, _, _, _, _], _ => rfl
def N__law_question : List Str := ["_law_deck_here", "_law_names_here", "_law_columns", "_law_count", "_law_pool", "_law_aliases", "_law_tables", "_law_sources", "_law_equalities", "_law_k", "_law_here", "_law_there", "_law_left", "_law_right", "_law_filters", "_law_told", "_law_order"]
theorem sc__law_question : FnScope N__law_question ["_law_deck_here", "_law_names_here", "_law_columns", "_law_count", "_law_pool"] (defScope s__law_question) := ⟨rfl, rfl, rfl, by decide +kernel, rfl, by decide +kernel, by decide +kernel⟩
def w__law_question_b1 : WS :=
    (wSeq (wDrop (wMeth "list" rmAppend (wVar 7) (wCons (wTup (wCons (wOp roIx (wVar 5) (wVar 9)) (wCons (wOp roIx (wVar 6) (wOp roIx (wFz (wCons (wVar 9) (wCons (wCall sp__law_draw (wCons (wVar 0) (wCons (wOp roAdd (wVar 9) (wC (.int 1))) wNil))) wNil))) (wCB rcInt (wCons (wOp roEq (wCall sp__law_draw (wCons (wVar 0) (wCons (wC (.int 4)) wNil))) (wC (.int 0))) wNil)))) wNil))) wNil)))
      (wIf (wTst (wOp roGt (wVar 9) (wC (.int 0)))) (wSeq (wPar 10 11 (wCons (wCall sp__law_column (wCons (wVar 0) (wCons (wSl (wVar 5) woN (woS (wVar 9))) (wCons (wVar 2) wNil)))) (wCons (wTup (wCons (wOp roIx (wVar 5) (wVar 9)) (wCons (wCall sp__law_pick (wCons (wVar 0) (wCons (wVar 2) wNil))) wNil))) wNil)))
      (wDrop (wMeth "list" rmAppend (wVar 8) (wCons (wOp roIx (wFz (wCons (wTup (wCons (wVar 10) (wCons (wVar 11) wNil))) (wCons (wTup (wCons (wVar 11) (wCons (wVar 10) wNil))) wNil))) (wCall sp__law_draw (wCons (wVar 0) (wCons (wC (.int 2)) wNil)))) wNil)))) wNext))
def w__law_question_b2 : WS :=
    (wSeq (wPar 12 13 (wCons (wCall sp__law_column (wCons (wVar 0) (wCons (wVar 5) (wCons (wVar 2) wNil)))) (wCons (wCall sp__law_column (wCons (wVar 0) (wCons (wVar 5) (wCons (wVar 2) wNil)))) wNil)))
      (wIf (wTst (wOp roNe (wVar 12) (wVar 13))) (wDrop (wMeth "list" rmAppend (wVar 8) (wCons (wTup (wCons (wVar 12) (wCons (wVar 13) wNil))) wNil))) wNext))
def w__law_question_e1 : WE :=
    (wCall sp__law_filter (wCons (wVar 0) (wCons (wVar 5) (wCons (wVar 2) (wCons (wVar 4) wNil)))))
def w__law_question_e2 : WE :=
    (wCall sp__law_column (wCons (wVar 0) (wCons (wVar 5) (wCons (wVar 2) wNil))))
def w__law_question_e3 : WE :=
    (wCall sp__law_pick (wCons (wVar 0) (wCons (wVar 15) wNil)))
def w__law_question_t1 : WS :=
    (wFreeze 8 (wFreeze 7 (wSeq (wAsg (wFz (wLc [9] (wiR1 (wCons (wOp roIx (wFz (wCons (wC (.int 0)) (wCons (wC (.int 0)) (wCons (wC (.int 1)) (wCons (wC (.int 2)) wNil))))) (wCall sp__law_draw (wCons (wVar 0) (wCons (wC (.int 4)) wNil)))) wNil)) (wgName 9) wYes w__law_question_e1)) (wgName 14))
      (wSeq (wAsg (wFz (wLc [9] (wiR1 (wCons (wOp roAdd (wC (.int 1)) (wCall sp__law_draw (wCons (wVar 0) (wCons (wC (.int 3)) wNil)))) wNil)) (wgName 9) wYes w__law_question_e2)) (wgName 15))
      (wSeq (wAsg (wFz (wLc [9] (wiR1 (wCons (wOp roIx (wFz (wCons (wC (.int 0)) (wCons (wC (.int 0)) (wCons (wC (.int 1)) (wCons (wC (.int 2)) wNil))))) (wCall sp__law_draw (wCons (wVar 0) (wCons (wC (.int 4)) wNil)))) wNil)) (wgName 9) wYes w__law_question_e3)) (wgName 16))
      (wRet (wTup (wCons (wCB rcTuple (wCons (wVar 7) wNil)) (wCons (wCB rcTuple (wCons (wVar 8) wNil)) (wCons (wCB rcTuple (wCons (wVar 14) wNil)) (wCons (wCB rcTuple (wCons (wVar 15) wNil)) (wCons (wOp roEq (wCall sp__law_draw (wCons (wVar 0) (wCons (wC (.int 3)) wNil))) (wC (.int 0))) (wCons (wCB rcTuple (wCons (wVar 16) wNil)) wNil)))))))))))))
def w__law_question_t2 : WS :=
    (wSeq (wFor (wiR1 (wCons (wCall sp__law_draw (wCons (wVar 0) (wCons (wC (.int 4)) wNil))) wNil)) (wgName 9) w__law_question_b2)
      w__law_question_t1)
def w__law_question : WS :=
    (wSeq (wAsg (wTup (wCons (wSl (wVar 1) woN (woS (wVar 3))) (wCons (wSl (wVar 1) (woS (wVar 3)) (woS (wOp roMul (wC (.int 2)) (wVar 3)))) wNil))) (wgTup 2 (wgCons (wgName 5) (wgCons (wgName 6) wgNil))))
      (wSeq (wPar 7 8 (wCons (wMk wNil) (wCons (wMk wNil) wNil)))
      (wSeq (wFor (wiR1 (wCons (wVar 3) wNil)) (wgName 9) w__law_question_b1)
      w__law_question_t2)))
theorem b__law_question (T : Txt K mg) {cdv : Value} {A : Around} {outer : List Env} {s : Shared} {H : Hp} {E : XK} (hr : RoomG 4 (A.deeper (envOfC "_law_question" (defScope s__law_question) s.heap.objs.size T.a__law_question cdv))) :
    DSs (cxOf CX0 P w K mg base N__law_question "_law_question" (defScope s__law_question) T.a__law_question cdv A outer s H E).nox (defBody s__law_question) w__law_question :=
    (dss_cons (ds_asg (de_tup (da_cons (de_sl (dvar 1) dpo_none (dpo_some (dvar 3))) (da_cons (de_sl (dvar 1) (dpo_some (dvar 3)) (dpo_some (de_op od_mul dint (dvar 3)))) da_nil))) (dg_tup rfl (dgs_cons (dg_name (i := 5) sc__law_question.nd rfl (by first | exact Or.inl rfl | exact Or.inr rfl)) (dgs_cons (dg_name (i := 6) sc__law_question.nd rfl (by first | exact Or.inl rfl | exact Or.inr rfl)) dgs_nil))))
      (dss_cons (ds_par (i := 7) (j := 8) rfl sc__law_question.nd rfl rfl (by decide) rfl rfl (da_cons (de_mk (del_lst da_nil)) (da_cons (de_mk (del_lst da_nil)) da_nil)) (by rfl))
      (dss_cons (ds_for PassesOwn.never rfl (di_range1 (by rfl) T.n_range (da_cons (dvar 3) da_nil)) (dg_name (i := 9) sc__law_question.nd rfl (by first | exact Or.inl rfl | exact Or.inr rfl)) (dss_cons (ds_expr (de_meth PySem.F.plainAttrs_list PySem.F.slot_list_append PySem.F.type_list_append md_append (dvar 7) (da_cons (de_tup (da_cons (de_ix ixd (dvar 5) (dvar 9) (fun _ _ => rfl)) (da_cons (de_ix ixd (dvar 6) (de_ix ixd (de_fz (del_lst (da_cons (dvar 9) (da_cons (de_call (fn__law_draw T) (hr.mono (by decide)) (by rfl) T.m__law_draw T.F__law_draw.kp (bi__law_draw T) (da_cons (dvar 0) (da_cons (de_op od_add (dvar 9) dint) da_nil))) da_nil)))) (de_callTy cd_int (by rfl) T.n_int bb_int (da_cons (de_cmp (od_eq hr.rm.units) (de_call (fn__law_draw T) (hr.mono (by decide)) (by rfl) T.m__law_draw T.F__law_draw.kp (bi__law_draw T) (da_cons (dvar 0) (da_cons dint da_nil))) dint (nomark _)) da_nil)) (fun _ _ => rfl)) (fun _ _ => rfl)) da_nil))) da_nil)))
      (dss_one (ds_if (dt_cmp od_gt (dvar 9) dint (nomark _)) (dss_cons (ds_par (i := 10) (j := 11) rfl sc__law_question.nd rfl rfl (by decide) rfl rfl (da_cons (de_call (fn__law_column T) (hr.mono (by decide)) (by rfl) T.m__law_column T.F__law_column.kp (bi__law_column T) (da_cons (dvar 0) (da_cons (de_sl (dvar 5) dpo_none (dpo_some (dvar 9))) (da_cons (dvar 2) da_nil)))) (da_cons (de_tup (da_cons (de_ix ixd (dvar 5) (dvar 9) (fun _ _ => rfl)) (da_cons (de_call (fn__law_pick T) (hr.mono (by decide)) (by rfl) T.m__law_pick T.F__law_pick.kp (bi__law_pick T) (da_cons (dvar 0) (da_cons (dvar 2) da_nil))) da_nil))) da_nil)) (by rfl))
      (dss_one (ds_expr (de_meth PySem.F.plainAttrs_list PySem.F.slot_list_append PySem.F.type_list_append md_append (dvar 8) (da_cons (de_ix ixd (de_fz (del_lst (da_cons (de_tup (da_cons (dvar 10) (da_cons (dvar 11) da_nil))) (da_cons (de_tup (da_cons (dvar 11) (da_cons (dvar 10) da_nil))) da_nil)))) (de_call (fn__law_draw T) (hr.mono (by decide)) (by rfl) T.m__law_draw T.F__law_draw.kp (bi__law_draw T) (da_cons (dvar 0) (da_cons dint da_nil))) (fun _ _ => rfl)) da_nil))))) dss_nil))))
      (dss_cons (ds_for PassesOwn.never rfl (di_range1 (by rfl) T.n_range (da_cons (de_call (fn__law_draw T) (hr.mono (by decide)) (by rfl) T.m__law_draw T.F__law_draw.kp (bi__law_draw T) (da_cons (dvar 0) (da_cons dint da_nil))) da_nil)) (dg_name (i := 9) sc__law_question.nd rfl (by first | exact Or.inl rfl | exact Or.inr rfl)) (dss_cons (ds_par (i := 12) (j := 13) rfl sc__law_question.nd rfl rfl (by decide) rfl rfl (da_cons (de_call (fn__law_column T) (hr.mono (by decide)) (by rfl) T.m__law_column T.F__law_column.kp (bi__law_column T) (da_cons (dvar 0) (da_cons (dvar 5) (da_cons (dvar 2) da_nil)))) (da_cons (de_call (fn__law_column T) (hr.mono (by decide)) (by rfl) T.m__law_column T.F__law_column.kp (bi__law_column T) (da_cons (dvar 0) (da_cons (dvar 5) (da_cons (dvar 2) da_nil)))) da_nil)) (by rfl))
      (dss_one (ds_if (dt_cmp (od_ne hr.rm.units) (dvar 12) (dvar 13) (nomark _)) (dss_one (ds_expr (de_meth PySem.F.plainAttrs_list PySem.F.slot_list_append PySem.F.type_list_append md_append (dvar 8) (da_cons (de_tup (da_cons (dvar 12) (da_cons (dvar 13) da_nil))) da_nil)))) dss_nil))))
      (dss_freeze 8 (dss_freeze 7 (dss_cons (ds_setLc (i := 14) [("_law_k", 9)] rfl sc__law_question.nd rfl rfl (sw_true rfl rfl rfl (by decide +kernel)) (di_range1 (by rfl) T.n_range (da_cons (de_ix ixd (de_fz (del_lst (da_cons dint (da_cons dint (da_cons dint (da_cons dint da_nil)))))) (de_call (fn__law_draw T) (hr.mono (by decide)) (by rfl) T.m__law_draw T.F__law_draw.kp (bi__law_draw T) (da_cons (dvar 0) (da_cons dint da_nil))) (fun _ _ => rfl)) da_nil)) (blkOk_by (own := [("_law_k", 9)]) (N := N__law_question) (sc := (defScope s__law_question)) (by decide +kernel)) (fun _ _ _ _ _ => (dg_name (i := 9) sc__law_question.nd rfl (by first | exact Or.inl rfl | exact Or.inr rfl))) (fun _ _ _ _ _ => dts_nil) (fun _ _ _ _ _ => (de_call (fn__law_filter T) (hr.mono (by decide)) (by rfl) T.m__law_filter T.F__law_filter.kp (bi__law_filter T) (da_cons (dvar 0) (da_cons (dvar 5) (da_cons (dvar 2) (da_cons (dvar 4) da_nil)))))))
      (dss_cons (ds_set (i := 15) sc__law_question.nd rfl (by first | exact Or.inl rfl | exact Or.inr rfl) (de_fz (del_lc [("_law_k", 9)] rfl sc__law_question.nd (di_range1 (by rfl) T.n_range (da_cons (de_op od_add dint (de_call (fn__law_draw T) (hr.mono (by decide)) (by rfl) T.m__law_draw T.F__law_draw.kp (bi__law_draw T) (da_cons (dvar 0) (da_cons dint da_nil)))) da_nil)) (blkOk_by (own := [("_law_k", 9)]) (N := N__law_question) (sc := (defScope s__law_question)) (by decide +kernel)) (fun _ _ _ _ _ => (dg_name (i := 9) sc__law_question.nd rfl (by first | exact Or.inl rfl | exact Or.inr rfl))) (fun _ _ _ _ _ => dts_nil) (fun _ _ _ _ _ => (de_call (fn__law_column T) (hr.mono (by decide)) (by rfl) T.m__law_column T.F__law_column.kp (bi__law_column T) (da_cons (dvar 0) (da_cons (dvar 5) (da_cons (dvar 2) da_nil))))))))
      (dss_cons (ds_setLc (i := 16) [("_law_k", 9)] rfl sc__law_question.nd rfl rfl (sw_true rfl rfl rfl (by decide +kernel)) (di_range1 (by rfl) T.n_range (da_cons (de_ix ixd (de_fz (del_lst (da_cons dint (da_cons dint (da_cons dint (da_cons dint da_nil)))))) (de_call (fn__law_draw T) (hr.mono (by decide)) (by rfl) T.m__law_draw T.F__law_draw.kp (bi__law_draw T) (da_cons (dvar 0) (da_cons dint da_nil))) (fun _ _ => rfl)) da_nil)) (blkOk_by (own := [("_law_k", 9)]) (N := N__law_question) (sc := (defScope s__law_question)) (by decide +kernel)) (fun _ _ _ _ _ => (dg_name (i := 9) sc__law_question.nd rfl (by first | exact Or.inl rfl | exact Or.inr rfl))) (fun _ _ _ _ _ => dts_nil) (fun _ _ _ _ _ => (de_call (fn__law_pick T) (hr.mono (by decide)) (by rfl) T.m__law_pick T.F__law_pick.kp (bi__law_pick T) (da_cons (dvar 0) (da_cons (dvar 15) da_nil)))))
      (dss_one (ds_ret (de_tup (da_cons (de_callTy cd_tuple (by rfl) T.n_tuple bb_tuple (da_cons (dvar 7) da_nil)) (da_cons (de_callTy cd_tuple (by rfl) T.n_tuple bb_tuple (da_cons (dvar 8) da_nil)) (da_cons (de_callTy cd_tuple (by rfl) T.n_tuple bb_tuple (da_cons (dvar 14) da_nil)) (da_cons (de_callTy cd_tuple (by rfl) T.n_tuple bb_tuple (da_cons (dvar 15) da_nil)) (da_cons (de_cmp (od_eq hr.rm.units) (de_call (fn__law_draw T) (hr.mono (by decide)) (by rfl) T.m__law_draw T.F__law_draw.kp (bi__law_draw T) (da_cons (dvar 0) (da_cons dint da_nil))) dint (nomark _)) (da_cons (de_callTy cd_tuple (by rfl) T.n_tuple bb_tuple (da_cons (dvar 16) da_nil)) da_nil))))))))))))))))))
local macro_rules | `(tactic| walk_at "un._law_question") => `(tactic| (unfold w__law_question N__law_question; try unfold w__law_question_t2; try unfold w__law_question_t1))
def sp__law_question : SpD := fun ds s P => ∃ a m, ∃ (ns ys : List Str) (n : Nat) (pool : List D), ds = [.ref a, .lst (ns.map .str), .lst (ys.map .str), natD n, .lst pool] ∧ s.dk = some (a, m) ∧ 400 ≤ m ∧ 1 ≤ n ∧ n ≤ 6 ∧ ns.length = 12 ∧ ns.Nodup ∧ (∀ x ∈ ns, Nam x) ∧ ys ≠ [] ∧ ys.length ≤ 12 ∧ (∀ y ∈ ys, Nam y) ∧ pool.length ≤ 6 ∧ (∃ x ∈ pool, isN x = false) ∧ (∀ x ∈ pool, Cel x) ∧ ∀ q m2, AskOk q → q.src.length = n → Tied q → m - 400 ≤ m2 → P (askD q) (s.fuel a m2)
theorem len__law_question : ∀ ds s P, sp__law_question ds s P → ds.length = 5 := by
  rintro ds s P ⟨a, m, ns, ys, n, pool, rfl, _⟩; rfl
theorem sem__law_question : ∀ ds s P, sp__law_question ds s P → w__law_question { nx := fun _ s' => P .non s', rt := P } (startD N__law_question ds) s := by
  rintro ds s P ⟨a, m, ns, ys, n, pool, rfl, hd, hm, n1, n6, hns, hnd, hnam, hy0, hyl, hyn, lp, hp, hpc, h⟩
  have c1 : DL.cutD (ns.map D.str) none (some (n : Int)) = (ns.take n).map .str := by
    rw [cutD_to (by omega), Int.toNat_natCast, List.map_take]
  have c2 : DL.cutD (ns.map D.str) (some (n : Int)) (some (2 * (n : Int))) = ((ns.drop n).take n).map .str := by
    rw [show (2 * (n : Int)) = ((2 * n : Nat) : Int) by omega, cutD_mid (by rw [List.length_map]; omega) (by rw [List.length_map]; omega), List.map_take, List.map_drop, show 2 * n - n = n by omega]
  obtain ⟨A, hA⟩ : ∃ A : Nat → Str, A = fun i => ns.getD i abc := ⟨_, rfl⟩
  have gA : ∀ i, i < 12 → ns[i]? = some (A i) := fun i hi => by
    rw [hA]; show ns[i]? = some (ns.getD i abc)
    rw [List.getD_eq_getElem?_getD, List.getElem?_eq_getElem (by omega)]; rfl
  have mA : ∀ i, i < 12 → A i ∈ ns := fun i hi => List.mem_of_getElem? (gA i hi)
  have iA : ∀ i j, i < 12 → j < 12 → A i = A j → i = j := fun i j hi hj e => by
    have e1 := gA i hi
    have e2 := gA j hj
    rw [List.getElem?_eq_getElem (by omega)] at e1 e2
    injection e1 with e1
    injection e2 with e2
    exact nodup_inj hnd _ _ (e1.trans (e.trans e2.symm))
  have t1 : ∀ i : Nat, i < n → atI ((ns.take n).map D.str) (i : Int) = some (.str (A i)) := fun i hi => by
    rw [atD_nat, List.getElem?_map, List.getElem?_take_of_lt hi, gA i (by omega)]; rfl
  have t2 : ∀ i : Nat, i < n → atI (((ns.drop n).take n).map D.str) (i : Int) = some (.str (A (n + i))) := fun i hi => by
    rw [atD_nat, List.getElem?_map, List.getElem?_take_of_lt hi, List.getElem?_drop, gA _ (by omega)]; rfl
  have tk : ∀ i, i ≤ n → ns.take i = (List.range i).map A := fun i hi => by
    refine List.ext_getElem? fun j => ?_
    by_cases hj : j < i
    · rw [List.getElem?_take_of_lt hj, gA j (by omega), List.getElem?_map, List.getElem?_range hj]; rfl
    · rw [List.getElem?_eq_none (by rw [List.length_take]; omega), List.getElem?_eq_none (by simp; omega)]
  walk_at "un._law_question"
  walk_at "ev"
  rw [c1, c2]
  refine ⟨.inl (by decide), fun p p1 k1 p2 n2 k2 => ⟨by omega, ?_⟩⟩
  have p12 : p ≠ p2 := fun e => by rw [if_pos e.symm] at n2; cases n2
  have p21 : p2 ≠ p := fun e => p12 e.symm
  have n2' : s.M p2 = none := by rw [if_neg p21] at n2; exact n2
  have pa : p ≠ a := k1 a m hd
  have pb : p2 ≠ a := k2 a m hd
  have e0 : ∀ x y, (s.put p x).put p2 y = ((s.put p x).put p2 y).fuel a m := fun x y => (fuel_self (s := (s.put p x).put p2 y) hd).symm
  rw [e0, Int.toNat_natCast]
  let EqOk' : Col × Col → Prop := fun e => e.1 ≠ e.2 ∧ (e.1.1 ∈ ns.take n ∧ e.1.2 ∈ ys) ∧ (e.2.1 ∈ ns.take n ∧ e.2.2 ∈ ys)
  let TI : Nat → List (Col × Col) → Prop := fun i EQ => ∀ k, 1 ≤ k → k < i → ∃ e ∈ EQ, (e.1.1 = A k ∧ ∃ j, j < k ∧ e.2.1 = A j) ∨ (e.2.1 = A k ∧ ∃ j, j < k ∧ e.1.1 = A j)
  refine loopW_rng (I := fun i δ s2 => ∃ (SR : List Col) (EQ : List (Col × Col)) (m2 : Nat) (d9 d10 d11 : Option D), s2 = ((s.put p (.lst (SR.map colD))).put p2 (.lst (EQ.map eqnD))).fuel a m2 ∧
    δ = [some (.ref a), some (.lst (ns.map .str)), some (.lst (ys.map .str)), some (natD n), some (.lst pool), some (.lst ((ns.take n).map .str)), some (.lst (((ns.drop n).take n).map .str)), some (.ref p), some (.ref p2), d9, d10, d11, none, none, none, none, none] ∧
    SR.map (·.1) = ns.take i ∧ (∀ c ∈ SR, Nam c.2) ∧ EQ.length ≤ i ∧ (∀ e ∈ EQ, EqOk' e) ∧ m - 100 + 10 * (n - i) ≤ m2 ∧ TI i EQ) ?_ ?_ ⟨[], [], m, _, _, _, rfl, rfl, by simp, (fun _ h => nomatch h), Nat.le_refl _, (fun _ h => nomatch h), by omega, fun k h1 h2 => absurd h2 (by omega)⟩
  · rintro i δ _ hi ⟨SR, EQ, m2, d9, d10, d11, rfl, rfl, q1, q2, q3, q4, q5, q6⟩ N hN
    have hSR : SR.length = i := by rw [← List.length_map (as := SR) (f := fun c : Col => c.1), q1, List.length_take]; omega
    unfold w__law_question_b1
    walk_at "ev"
    simp only [p12, p21, if_false, if_true]
    rw [Int.zero_add, t1 i hi]
    refine ⟨trivial, ?_⟩
    walk_at "ev"
    refine drawF ⟨by omega, by omega, by omega, fun j j0 j1 => ?_⟩
    obtain ⟨j, rfl⟩ := Int.eq_ofNat_of_zero_le j0
    refine drawF ⟨by omega, by omega, by omega, fun w w0 w1 => ?_⟩
    walk_at "ev"
    obtain ⟨t, ht, et⟩ : ∃ t : Nat, t < n ∧ atI [D.int (i : Int), D.int (j : Int)] (if decide (w = 0) = true then 1 else 0) = some (.int (t : Int)) := by
      by_cases e : w = 0
      · exact ⟨j, by omega, by simp only [e, decide_true, if_true]; exact atI_o _ _ _⟩
      · exact ⟨i, hi, by simp only [e, decide_false, Bool.false_eq_true, if_false]; exact atI_z _ _⟩
    rw [et]
    walk_at "ev"
    rw [t2 t ht]
    walk_at "ev"
    simp only [p12, p21, if_false, if_true]
    refine ⟨by rw [List.length_map, sizeLine_eq]; omega, ?_⟩
    rw [fuel_put, put_swap p12]
    have e3 : List.map colD SR ++ [D.tup [D.str (A i), D.str (A (n + t))]] = (SR ++ [(A i, A (n + t))]).map colD := by rw [List.map_append]; rfl
    rw [e3]
    have tki : ns.take (i + 1) = ns.take i ++ [A i] := by rw [tk _ (by omega), tk _ (by omega), List.range_succ, List.map_append]; rfl
    have hsr1 : (SR ++ [(A i, A (n + t))]).map (·.1) = ns.take (i + 1) := by rw [List.map_append, q1, tki]; rfl
    have hsr2 : ∀ c ∈ SR ++ [(A i, A (n + t))], Nam c.2 := fun c hc => by
      rcases List.mem_append.mp hc with hc | hc
      · exact q2 c hc
      · rw [List.mem_singleton] at hc; subst hc; exact hnam _ (mA _ (by omega))
    have c3 : DL.cutD ((ns.take n).map D.str) none (some (i : Int)) = (ns.take i).map .str := by
      rw [cutD_to (by omega), Int.toNat_natCast, ← List.map_take, List.take_take, Nat.min_eq_left (by omega)]
    rw [c3]
    by_cases hi0 : 0 < i
    · have hi1 : (0 : Int) < i := by omega
      simp only [hi1, decide_true]
      refine ⟨a, _, ns.take i, ys, rfl, rfl, by omega, fun e => by have := congrArg List.length e; rw [List.length_take, List.length_nil] at this; omega, hy0, by rw [List.length_take]; omega, by omega, fun c m3 x1 x2 x3 => ?_⟩
      refine ⟨a, m3, _, rfl, rfl, by omega, .inr ⟨_, rfl, by simpa using hy0, by rw [List.length_map]; omega, fun x hx m4 x4 => ?_⟩⟩
      obtain ⟨y, hy, rfl⟩ := List.mem_map.mp hx
      walk_at "ev"
      refine drawF ⟨by omega, by omega, by omega, fun v v0 v1 => ?_⟩
      have hne : c ≠ (A i, y) := fun z => by
        rw [tk i (by omega)] at x1
        obtain ⟨j, hj, e⟩ := List.mem_map.mp x1
        have hj := List.mem_range.mp hj
        have := iA j i (by omega) (by omega) (by rw [e, z])
        omega
      have sub : ∀ z ∈ ns.take i, z ∈ ns.take n := fun z hz => by
        rw [tk _ (by omega)] at hz ⊢
        obtain ⟨j, hj, e⟩ := List.mem_map.mp hz
        exact e ▸ List.mem_map_of_mem (List.mem_range.mpr (by have := List.mem_range.mp hj; omega))
      have hAi : A i ∈ ns.take n := by rw [tk _ (Nat.le_refl _)]; exact List.mem_map_of_mem (List.mem_range.mpr hi)
      have mb : m - 100 + 10 * (n - (i + 1)) ≤ m4 - 1 := by omega
      have cj : ∃ j, j < i ∧ c.1 = A j := by
        rw [tk i (by omega)] at x1
        obtain ⟨j, hj, e⟩ := List.mem_map.mp x1
        exact ⟨j, List.mem_range.mp hj, e.symm⟩
      have fin : ∀ e : Col × Col, EqOk' e → ((e.1.1 = A i ∧ ∃ j, j < i ∧ e.2.1 = A j) ∨ (e.2.1 = A i ∧ ∃ j, j < i ∧ e.1.1 = A j)) → N [some (.ref a), some (.lst (ns.map .str)), some (.lst (ys.map .str)), some (natD n), some (.lst pool), some (.lst ((ns.take n).map .str)), some (.lst (((ns.drop n).take n).map .str)), some (.ref p), some (.ref p2), some (.int (i : Int)), some (colD c), some (.tup [.str (A i), .str y]), none, none, none, none, none]
          ((((s.put p (.lst ((SR ++ [(A i, A (n + t))]).map colD))).put p2 (.lst (EQ.map eqnD))).fuel a (m4 - 1)).put p2 (.lst (EQ.map eqnD ++ [eqnD e]))) := fun e he he2 => by
        have ti : TI (i + 1) (EQ ++ [e]) := fun k h1 h2 => by
          by_cases ek : k = i
          · subst ek; exact ⟨e, List.mem_append_right _ (List.mem_singleton.mpr rfl), he2⟩
          · obtain ⟨x, y, z⟩ := q6 k h1 (by omega)
            exact ⟨x, List.mem_append_left _ y, z⟩
        refine hN _ _ ⟨SR ++ [(A i, A (n + t))], EQ ++ [e], m4 - 1, _, _, _, ?_, rfl, hsr1, hsr2, ?_, ?_, mb, ti⟩
        · rw [fuel_put, put_put, List.map_append (f := eqnD)]; rfl
        · rw [List.length_append, List.length_singleton]; omega
        · intro x hx
          rcases List.mem_append.mp hx with hx | hx
          · exact q4 x hx
          · rw [List.mem_singleton] at hx; subst hx; exact he
      have hv : v = 0 ∨ v = 1 := by omega
      rcases hv with rfl | rfl
      · walk_at "ev"
        refine ⟨by rw [List.length_map, sizeLine_eq]; omega, fin (c, (A i, y)) ⟨hne, ⟨sub _ x1, x2⟩, ⟨hAi, hy⟩⟩ (.inr ⟨rfl, cj⟩)⟩
      · walk_at "ev"
        refine ⟨by rw [List.length_map, sizeLine_eq]; omega, fin ((A i, y), c) ⟨fun z => hne z.symm, ⟨hAi, hy⟩, ⟨sub _ x1, x2⟩⟩ (.inl ⟨rfl, cj⟩)⟩
    · have hi1 : ¬ (0 : Int) < i := by omega
      simp only [hi1, decide_false]
      exact hN _ _ ⟨_, EQ, _, _, _, _, rfl, rfl, hsr1, hsr2, by omega, q4, by omega, fun k h1 h2 => absurd h1 (by omega)⟩
  · rintro δ _ ⟨SR, EQ, m2, d9, d10, d11, rfl, rfl, q1, q2, q3, q4, q5, q6⟩
    have hSR : SR.length = n := by rw [← List.length_map (as := SR) (f := fun c : Col => c.1), q1, List.length_take]; omega
    walk_at "ev"
    refine drawF ⟨by omega, by omega, by omega, fun w w0 w1 => ?_⟩
    obtain ⟨w, rfl⟩ := Int.eq_ofNat_of_zero_le w0
    walk_at "ev"
    rw [Int.toNat_natCast]
    refine ⟨by omega, ?_⟩
    have htn : ns.take n ≠ [] := fun e => by have := congrArg List.length e; rw [List.length_take, List.length_nil] at this; omega
    refine loopW_rng (I := fun i δ s2 => ∃ (EQ : List (Col × Col)) (m2 : Nat) (d9 d10 d11 d12 d13 : Option D), s2 = ((s.put p (.lst (SR.map colD))).put p2 (.lst (EQ.map eqnD))).fuel a m2 ∧
      δ = [some (.ref a), some (.lst (ns.map .str)), some (.lst (ys.map .str)), some (natD n), some (.lst pool), some (.lst ((ns.take n).map .str)), some (.lst (((ns.drop n).take n).map .str)), some (.ref p), some (.ref p2), d9, d10, d11, d12, d13, none, none, none] ∧
      EQ.length ≤ 6 + i ∧ (∀ e ∈ EQ, EqOk' e) ∧ m - 150 + 10 * (w - i) ≤ m2 ∧ TI n EQ) ?_ ?_ ⟨EQ, _, _, _, _, _, _, rfl, rfl, by omega, q4, by omega, q6⟩
    · rintro i δ _ hi ⟨EQ, m2, d9, d10, d11, d12, d13, rfl, rfl, q3, q4, q5, q6⟩ N hN
      unfold w__law_question_b2
      walk_at "ev"
      refine ⟨a, _, ns.take n, ys, rfl, rfl, by omega, htn, hy0, by rw [List.length_take]; omega, by omega, fun c m3 x1 x2 x3 => ?_⟩
      refine ⟨a, _, ns.take n, ys, rfl, rfl, by omega, htn, hy0, by rw [List.length_take]; omega, by omega, fun e m4 x4 x5 x6 => ?_⟩
      refine ne_it same_col rfl rfl ?_
      by_cases hce : c = e
      · simp only [hce, ne_eq, not_true_eq_false, decide_false]
        exact hN _ _ ⟨EQ, _, _, _, _, _, _, rfl, rfl, by omega, q4, by omega, q6⟩
      · simp only [hce, ne_eq, not_false_eq_true, decide_true]
        walk_at "ev"
        refine ⟨by rw [List.length_map, sizeLine_eq]; omega, ?_⟩
        refine hN _ _ ⟨EQ ++ [(c, e)], m4, _, _, _, _, _, ?_, rfl, ?_, ?_, by omega, fun k h1 h2 => let ⟨x, y, z⟩ := q6 k h1 h2; ⟨x, List.mem_append_left _ y, z⟩⟩
        · rw [fuel_put, put_put, List.map_append (f := eqnD)]; rfl
        · rw [List.length_append, List.length_singleton]; omega
        · intro x hx
          rcases List.mem_append.mp hx with hx | hx
          · exact q4 x hx
          · rw [List.mem_singleton] at hx; subst hx; exact ⟨hce, ⟨x1, x2⟩, ⟨x4, x5⟩⟩
    · rintro δ _ ⟨EQ, m2, d9, d10, d11, d12, d13, rfl, rfl, q3, q4, q5, q6⟩
      have e1 : (((s.put p (.lst (SR.map colD))).put p2 (.lst (EQ.map eqnD))).fuel a m2).M p2 = some (.lst (EQ.map eqnD)) := by simp [S.put, S.fuel]
      have e2 : ((((s.put p (.lst (SR.map colD))).put p2 (.lst (EQ.map eqnD))).fuel a m2).del p2).M p = some (.lst (SR.map colD)) := by simp [S.put, S.del, S.fuel, p12]
      simp only [wFreeze, List.getElem?_cons_zero, List.getElem?_cons_succ, e1, List.set_cons_zero, List.set_cons_succ, e2]
      have e4 : ((((s.put p (.lst (SR.map colD))).put p2 (.lst (EQ.map eqnD))).fuel a m2).del p2).del p = s.fuel a m2 := by
        refine S.same rfl fun c => ?_
        simp only [S.put, S.del, S.fuel]
        by_cases h1 : c = p
        · subst h1; simp [p1]
        · by_cases h2 : c = p2
          · subst h2; simp [n2', h1]
          · simp [h1, h2]
      rw [e4]
      refine ⟨fun b n hb => by cases hb; exact pb, fun b n hb => by cases hb; exact pa, ?_⟩
      obtain ⟨y0, hy1⟩ := List.exists_mem_of_ne_nil _ hy0
      have hA0 : A 0 ∈ ns.take n := by rw [tk _ (Nat.le_refl _)]; exact List.mem_map_of_mem (List.mem_range.mpr (by omega))
      obtain ⟨q0, hq0⟩ : ∃ q : Ask, q = { src := SR, eqs := EQ, fl := [], told := [(A 0, y0)], once := false, ord := [] } := ⟨_, rfl⟩
      have hal0 : q0.al = ns.take n := by rw [hq0]; exact q1
      have mkOk : ∀ q : Ask, q.src = SR → q.eqs = EQ → (q.fl.length ≤ 2 ∧ ∀ d ∈ q.fl, FilOk q d) → (1 ≤ q.told.length ∧ q.told.length ≤ 8 ∧ ∀ c ∈ q.told, ColOk q c) → (q.ord.length ≤ 8 ∧ ∀ c ∈ q.ord, c ∈ q.told) → AskOk q := fun q g1 g2 g3 g4 g5 => by
        have hal : q.al = ns.take n := by rw [show q.al = q.src.map (·.1) from rfl, g1]; exact q1
        refine ⟨by rw [g1]; omega, by rw [g1]; omega, ?_, ?_, by rw [g2]; omega, ?_, g3, g4, g5⟩
        · rw [hal]; exact (List.take_sublist _ _).nodup hnd
        · rw [g1]
          intro c hc
          have : c.1 ∈ ns.take n := by rw [← q1]; exact List.mem_map_of_mem hc
          exact ⟨hnam _ (List.mem_of_mem_take this), q2 c hc⟩
        · rw [g2]
          intro e he
          obtain ⟨x1, x2, x3⟩ := q4 e he
          exact ⟨x1, ⟨by rw [hal]; exact x2.1, hyn _ x2.2⟩, ⟨by rw [hal]; exact x3.1, hyn _ x3.2⟩⟩
      have hok0 : AskOk q0 := mkOk q0 (by rw [hq0]) (by rw [hq0]) (by rw [hq0]; exact ⟨by simp, fun _ h => nomatch h⟩) (by
        refine ⟨by rw [hq0]; simp, by rw [hq0]; simp, fun c hc => ?_⟩
        have hc : c = (A 0, y0) := by rw [hq0] at hc; simpa using hc
        rw [hc]
        exact ⟨by rw [hal0]; exact hA0, hyn _ hy1⟩) (by rw [hq0]; exact ⟨by simp, fun _ h => nomatch h⟩)
      have few : ∀ r : Int, 0 ≤ r → r < 4 → ∃ k : Nat, k ≤ 2 ∧ atI [D.int 0, D.int 0, D.int 1, D.int 2] r = some (.int (k : Int)) := fun r r0 r1 => by
        have : r = 0 ∨ r = 1 ∨ r = 2 ∨ r = 3 := by omega
        rcases this with rfl | rfl | rfl | rfl
        · exact ⟨0, by omega, rfl⟩
        · exact ⟨0, by omega, rfl⟩
        · exact ⟨1, by omega, rfl⟩
        · exact ⟨2, by omega, rfl⟩
      walk_at "ev"
      refine drawF ⟨by omega, by decide, by decide, fun r r0 r1 => ?_⟩
      obtain ⟨k, hk, ek⟩ := few r r0 r1
      simp only [ek]
      walk_at "ev"
      rw [Int.toNat_natCast]
      refine ⟨by omega, by rw [rngD_length, sizeLine_eq]; omega, ?_⟩
      refine lcW_draw (I := fun s' j => ∃ m3, s' = s.fuel a m3 ∧ m - 250 + 20 * j ≤ m3) (Q := fun d => FilOk q0 d) (n := 0) ?_ ⟨_, rfl, by rw [rngD_length]; omega⟩ ?_
      · rintro d - s' j R ⟨m3, rfl, h2⟩ hR
        unfold w__law_question_e1
        walk_at "ev"
        refine ⟨a, m3, q0, ys, pool, by rw [hal0], hok0, rfl, by omega, hy0, by omega, hyn, lp, hp, hpc, fun d m4 hf hm4 => hR _ _ hf ⟨m4, rfl, by omega⟩⟩
      rintro fl s2 hfl hflq ⟨m3, rfl, h3⟩
      rw [rngD_length] at hfl
      walk_at "ev"
      refine drawF ⟨by omega, by decide, by decide, fun u u0 u1 => ?_⟩
      obtain ⟨u, rfl⟩ := Int.eq_ofNat_of_zero_le u0
      walk_at "ev"
      refine ⟨by omega, by rw [rngD_length, sizeLine_eq]; omega, ?_⟩
      refine lcW_draw (I := fun s' j => ∃ m3, s' = s.fuel a m3 ∧ m - 300 + 2 * j ≤ m3) (Q := fun d => ∃ c, d = colD c ∧ ColOk q0 c) (n := 0) ?_ ⟨_, rfl, by rw [rngD_length]; omega⟩ ?_
      · rintro d - s' j R ⟨m3, rfl, h2⟩ hR
        unfold w__law_question_e2
        walk_at "ev"
        exact ⟨a, m3, ns.take n, ys, rfl, rfl, by omega, htn, hy0, by rw [List.length_take]; omega, by omega, fun c m4 x1 x2 x3 => hR _ _ ⟨c, rfl, by rw [hal0]; exact x1, hyn _ x2⟩ ⟨m4, rfl, by omega⟩⟩
      rintro told s2 htl htq ⟨m4, rfl, h4⟩
      obtain ⟨told, rfl, ht1, ht2⟩ := items_of htq
      rw [rngD_length, List.length_map] at htl
      walk_at "ev"
      refine drawF ⟨by omega, by decide, by decide, fun r r0 r1 => ?_⟩
      obtain ⟨k2, hk2, ek2⟩ := few r r0 r1
      simp only [ek2]
      walk_at "ev"
      rw [Int.toNat_natCast]
      refine ⟨by omega, by rw [rngD_length, sizeLine_eq]; omega, ?_⟩
      refine lcW_draw (I := fun s' j => ∃ m3, s' = s.fuel a m3 ∧ m - 350 + j ≤ m3) (Q := fun d => ∃ c, d = colD c ∧ c ∈ told) (n := 0) ?_ ⟨_, rfl, by rw [rngD_length]; omega⟩ ?_
      · rintro d - s' j R ⟨m3, rfl, h2⟩ hR
        unfold w__law_question_e3
        walk_at "ev"
        refine ⟨a, m3, _, rfl, rfl, by omega, .inr ⟨_, rfl, fun e => ?_, by rw [List.length_map]; omega, fun x hx m5 hm5 => ?_⟩⟩
        · have := congrArg List.length e
          rw [List.length_map, List.length_nil] at this
          omega
        · obtain ⟨c, hc, rfl⟩ := List.mem_map.mp hx
          exact hR _ _ ⟨c, rfl, hc⟩ ⟨m5, rfl, by omega⟩
      rintro ord s2 hol hoq ⟨m5, rfl, h5⟩
      obtain ⟨ord, rfl, ho1, ho2⟩ := items_of hoq
      rw [rngD_length, List.length_map] at hol
      walk_at "ev"
      refine drawF ⟨by omega, by decide, by decide, fun v v0 v1 => ?_⟩
      walk_at "ev"
      obtain ⟨q, hq⟩ : ∃ q : Ask, q = { src := SR, eqs := EQ, fl := fl, told := told, once := decide (v = 0), ord := ord } := ⟨_, rfl⟩
      have hal : q.al = q0.al := by rw [hq, hq0]
      have hok : AskOk q := mkOk q (by rw [hq]) (by rw [hq]) (by
        refine ⟨by rw [hq]; show fl.length ≤ 2; omega, fun d hd => filOk_al hal.symm (hflq d (by rw [hq] at hd; exact hd))⟩) (by
        refine ⟨by rw [hq]; show 1 ≤ told.length; omega, by rw [hq]; show told.length ≤ 8; omega, fun c hc => ?_⟩
        have := ht1 c (by rw [hq] at hc; exact hc)
        exact ⟨by rw [hal]; exact this.1, this.2⟩) (by rw [hq]; exact ⟨by show ord.length ≤ 8; omega, ho1⟩)
      have ix : ∀ k, k < n → q.al.idxOf (A k) = k := fun k hk => by
        rw [hal, hal0, tk n (Nat.le_refl _)]
        have nd : ((List.range n).map A).Nodup := by rw [← tk n (Nat.le_refl _)]; exact (List.take_sublist _ _).nodup hnd
        have hm : A k ∈ (List.range n).map A := List.mem_map_of_mem (List.mem_range.mpr hk)
        have h2 := List.idxOf_lt_length_of_mem hm
        refine nodup_inj nd h2 (by rw [List.length_map, List.length_range]; exact hk) ?_
        rw [List.getElem_idxOf h2, List.getElem_map, List.getElem_range]
      have ht : Tied q := fun k h1 h2 => by
        have h2 : k < n := by rw [hq] at h2; exact hSR ▸ h2
        obtain ⟨e, he, hz⟩ := q6 k h1 h2
        refine ⟨e, by rw [hq]; exact he, ?_⟩
        rcases hz with ⟨z1, j, z2, z3⟩ | ⟨z1, j, z2, z3⟩
        · exact .inl ⟨by rw [z1, ix k h2], by rw [z3, ix j (by omega)]; exact z2⟩
        · exact .inr ⟨by rw [z1, ix k h2], by rw [z3, ix j (by omega)]; exact z2⟩
      have := h q (m5 - 1) hok (by rw [hq]; exact hSR) ht (by omega)
      rw [hq] at this
      exact this

theorem fn__law_question (T : Txt K mg) : FnD P w K mg base 5 T.a__law_question T.fd__law_question ["_law_deck_here", "_law_names_here", "_law_columns", "_law_count", "_law_pool"] sp__law_question :=
  fnD_of T.F__law_question sc__law_question len__law_question (fun cdv A outer s H E hr => b__law_question T hr) sem__law_question
/-! #### _law_classes -/
theorem bi__law_classes (T : Txt K mg) : Binds K T.fd__law_classes ["_law_asked"] [] := T.F__law_classes.binds fun _ _ _ _ _ _ us hl => match us, hl with | [_], _ => rfl
def N__law_classes : List Str := ["_law_asked", "_law_aliases", "_law_alias", "_law_table", "_law_found", "_law_left", "_law_right", "_law_hit", "_law_some", "_law_grown", "_law_rows", "_law_name", "_law_k", "_law_row"]
theorem sc__law_classes : FnScope N__law_classes ["_law_asked"] (defScope s__law_classes) := ⟨rfl, rfl, rfl, by decide +kernel, rfl, by decide +kernel, by decide +kernel⟩
def w__law_classes_e1 : WE :=
    (wVar 2)
def w__law_classes_q1 : WT :=
    (wOr (wTst (wOp roIn (wVar 5) (wVar 8))) (wTst (wOp roIn (wVar 6) (wVar 8))))
def w__law_classes_e2 : WE :=
    (wVar 8)
def w__law_classes_b1 : WS :=
    (wDrop (wMeth "list" rmExtend (wVar 9) (wCons (wVar 8) wNil)))
def w__law_classes_q2 : WT :=
    (wTst (wOp roNotIn (wVar 8) (wVar 7)))
def w__law_classes_e3 : WE :=
    (wVar 8)
def w__law_classes_t1 : WS :=
    (wFreeze 9 (wAsg (wOp roAdd (wFz (wLc [8] (wiSeq (wVar 4)) (wgName 8) w__law_classes_q2 w__law_classes_e3)) (wFz (wCons (wVar 9) wNil))) (wgName 4)))
def w__law_classes_b2 : WS :=
    (wSeq (wAsg (wFz (wLc [8] (wiSeq (wVar 4)) (wgName 8) w__law_classes_q1 w__law_classes_e2)) (wgName 7))
      (wSeq (wSetM 9 (wCons (wVar 5) (wCons (wVar 6) wNil)))
      (wSeq (wFor (wiSeq (wVar 7)) (wgName 8) w__law_classes_b1)
      w__law_classes_t1)))
def w__law_classes_e4 : WE :=
    (wTup (wCons (wMeth "list" rmIndex (wVar 1) (wCons (wVar 2) wNil)) (wCons (wVar 11) (wCons (wVar 2) wNil))))
def w__law_classes_b3 : WS :=
    (wDrop (wMeth "list" rmAppend (wVar 10) (wCons (wFz (wSortSet (wFz (wLc [2, 11] (wiSeq (wVar 8)) (wgTup 2 (wgCons (wgName 2) (wgCons (wgName 11) wgNil))) wYes w__law_classes_e4)))) wNil)))
def w__law_classes_e5 : WE :=
    (wTup (wCons (wVar 2) (wCons (wVar 11) wNil)))
def w__law_classes_e6 : WE :=
    (wCB rcTuple (wCons (wFz (wLc [12, 11, 2] (wiSeq (wVar 13)) (wgTup 3 (wgCons (wgName 12) (wgCons (wgName 11) (wgCons (wgName 2) wgNil)))) wYes w__law_classes_e5)) wNil))
def w__law_classes_t2 : WS :=
    (wFreeze 10 (wRet (wFz (wLc [13] (wiSeq (wFz (wCBL rcSort (wCons (wVar 10) wNil)))) (wgName 13) wYes w__law_classes_e6))))
def w__law_classes_t3 : WS :=
    (wSeq (wSetM 10 wNil)
      (wSeq (wFor (wiSeq (wVar 4)) (wgName 8) w__law_classes_b3)
      w__law_classes_t2))
def w__law_classes : WS :=
    (wSeq (wAsg (wFz (wLc [2, 3] (wiSeq (wOp roIx (wVar 0) (wC (.int 0)))) (wgTup 2 (wgCons (wgName 2) (wgCons (wgName 3) wgNil))) wYes w__law_classes_e1)) (wgName 1))
      (wSeq (wAsg (wFz wNil) (wgName 4))
      (wSeq (wFor (wiSeq (wOp roIx (wVar 0) (wC (.int 1)))) (wgTup 2 (wgCons (wgName 5) (wgCons (wgName 6) wgNil))) w__law_classes_b2)
      w__law_classes_t3)))
theorem b__law_classes (T : Txt K mg) {cdv : Value} {A : Around} {outer : List Env} {s : Shared} {H : Hp} {E : XK} (hr : RoomG 0 (A.deeper (envOfC "_law_classes" (defScope s__law_classes) s.heap.objs.size T.a__law_classes cdv))) :
    DSs (cxOf CX0 P w K mg base N__law_classes "_law_classes" (defScope s__law_classes) T.a__law_classes cdv A outer s H E).nox (defBody s__law_classes) w__law_classes :=
    (dss_cons (ds_set (i := 1) sc__law_classes.nd rfl (by first | exact Or.inl rfl | exact Or.inr rfl) (de_fz (del_lc [("_law_alias", 2), ("_law_table", 3)] rfl sc__law_classes.nd (di_seq (de_ix ixd (dvar 0) dint (fun _ _ => rfl))) (blkOk_by (own := [("_law_alias", 2), ("_law_table", 3)]) (N := N__law_classes) (sc := (defScope s__law_classes)) (by decide +kernel)) (fun _ _ _ _ _ => (dg_tup rfl (dgs_cons (dg_name (i := 2) sc__law_classes.nd rfl (by first | exact Or.inl rfl | exact Or.inr rfl)) (dgs_cons (dg_name (i := 3) sc__law_classes.nd rfl (by first | exact Or.inl rfl | exact Or.inr rfl)) dgs_nil)))) (fun _ _ _ _ _ => dts_nil) (fun _ _ _ _ _ => (dvar 2)))))
      (dss_cons (ds_set (i := 4) sc__law_classes.nd rfl (by first | exact Or.inl rfl | exact Or.inr rfl) (de_fz (del_lst da_nil)))
      (dss_cons (ds_for PassesOwn.never rfl (di_seq (de_ix ixd (dvar 0) dint (fun _ _ => rfl))) (dg_tup rfl (dgs_cons (dg_name (i := 5) sc__law_classes.nd rfl (by first | exact Or.inl rfl | exact Or.inr rfl)) (dgs_cons (dg_name (i := 6) sc__law_classes.nd rfl (by first | exact Or.inl rfl | exact Or.inr rfl)) dgs_nil))) (dss_cons (ds_set (i := 7) sc__law_classes.nd rfl (by first | exact Or.inl rfl | exact Or.inr rfl) (de_fz (del_lc [("_law_some", 8)] rfl sc__law_classes.nd (di_seq (dvar 4)) (blkOk_by (own := [("_law_some", 8)]) (N := N__law_classes) (sc := (defScope s__law_classes)) (by decide +kernel)) (fun _ _ _ _ _ => (dg_name (i := 8) sc__law_classes.nd rfl (by first | exact Or.inl rfl | exact Or.inr rfl))) (fun _ _ _ _ _ => (dts_one (PW.pt (dw_or (dt_cmp (od_in hr.rm.units) (dvar 5) (dvar 8) (by rfl)) (dw_or1 (dt_cmp (od_in hr.rm.units) (dvar 6) (dvar 8) (by rfl))))))) (fun _ _ _ _ _ => (dvar 8)))))
      (dss_cons (ds_setM (i := 9) sc__law_classes.nd rfl (by first | exact Or.inl rfl | exact Or.inr rfl) (del_lst (da_cons (dvar 5) (da_cons (dvar 6) da_nil))))
      (dss_cons (ds_for PassesOwn.never rfl (di_seq (dvar 7)) (dg_name (i := 8) sc__law_classes.nd rfl (by first | exact Or.inl rfl | exact Or.inr rfl)) (dss_one (ds_expr (de_meth PySem.F.plainAttrs_list PySem.F.slot_list_extend PySem.F.type_list_extend md_extend (dvar 9) (da_cons (dvar 8) da_nil)))))
      (dss_freeze 9 (dss_one (ds_set (i := 4) sc__law_classes.nd rfl (by first | exact Or.inl rfl | exact Or.inr rfl) (de_op od_add (de_fz (del_lc [("_law_some", 8)] rfl sc__law_classes.nd (di_seq (dvar 4)) (blkOk_by (own := [("_law_some", 8)]) (N := N__law_classes) (sc := (defScope s__law_classes)) (by decide +kernel)) (fun _ _ _ _ _ => (dg_name (i := 8) sc__law_classes.nd rfl (by first | exact Or.inl rfl | exact Or.inr rfl))) (fun _ _ _ _ _ => (dts_one (dt_cmp (od_notin hr.rm.units) (dvar 8) (dvar 7) (by rfl)))) (fun _ _ _ _ _ => (dvar 8)))) (de_fz (del_lst (da_cons (dvar 9) da_nil)))))))))))
      (dss_cons (ds_setM (i := 10) sc__law_classes.nd rfl (by first | exact Or.inl rfl | exact Or.inr rfl) (del_lst da_nil))
      (dss_cons (ds_for PassesOwn.never rfl (di_seq (dvar 4)) (dg_name (i := 8) sc__law_classes.nd rfl (by first | exact Or.inl rfl | exact Or.inr rfl)) (dss_one (ds_expr (de_meth PySem.F.plainAttrs_list PySem.F.slot_list_append PySem.F.type_list_append md_append (dvar 10) (da_cons (de_fz (del_sortSet rfl hr.rm.units (by rfl) T.n_sorted (by rfl) T.n_set (de_fz (del_lc [("_law_alias", 2), ("_law_name", 11)] rfl sc__law_classes.nd (di_seq (dvar 8)) (blkOk_by (own := [("_law_alias", 2), ("_law_name", 11)]) (N := N__law_classes) (sc := (defScope s__law_classes)) (by decide +kernel)) (fun _ _ _ _ _ => (dg_tup rfl (dgs_cons (dg_name (i := 2) sc__law_classes.nd rfl (by first | exact Or.inl rfl | exact Or.inr rfl)) (dgs_cons (dg_name (i := 11) sc__law_classes.nd rfl (by first | exact Or.inl rfl | exact Or.inr rfl)) dgs_nil)))) (fun _ _ _ _ _ => dts_nil) (fun _ _ _ _ _ => (de_tup (da_cons (de_meth PySem.F.plainAttrs_list PySem.F.slot_list_index PySem.F.type_list_index md_index (dvar 1) (da_cons (dvar 2) da_nil)) (da_cons (dvar 11) (da_cons (dvar 2) da_nil))))))))) da_nil)))))
      (dss_freeze 10 (dss_one (ds_ret (de_fz (del_lc [("_law_row", 13)] rfl sc__law_classes.nd (di_seq (de_fz (del_callB (cd_sort hr.rm.units) (by rfl) T.n_sorted bb_sorted (da_cons (dvar 10) da_nil)))) (blkOk_by (own := [("_law_row", 13)]) (N := N__law_classes) (sc := (defScope s__law_classes)) (by decide +kernel)) (fun _ _ _ _ _ => (dg_name (i := 13) sc__law_classes.nd rfl (by first | exact Or.inl rfl | exact Or.inr rfl))) (fun _ _ _ _ _ => dts_nil) (fun _ _ _ _ _ => (de_callTy cd_tuple (by rfl) T.n_tuple bb_tuple (da_cons (de_fz (del_lc [("_law_k", 12), ("_law_name", 11), ("_law_alias", 2)] rfl sc__law_classes.nd (di_seq (dvar 13)) (blkOk_by (own := [("_law_k", 12), ("_law_name", 11), ("_law_alias", 2)]) (N := N__law_classes) (sc := (relS _ (defScope s__law_classes))) (by decide +kernel)) (fun _ _ _ _ _ => (dg_tup rfl (dgs_cons (dg_name (i := 12) sc__law_classes.nd rfl (by first | exact Or.inl rfl | exact Or.inr rfl)) (dgs_cons (dg_name (i := 11) sc__law_classes.nd rfl (by first | exact Or.inl rfl | exact Or.inr rfl)) (dgs_cons (dg_name (i := 2) sc__law_classes.nd rfl (by first | exact Or.inl rfl | exact Or.inr rfl)) dgs_nil))))) (fun _ _ _ _ _ => dts_nil) (fun _ _ _ _ _ => (de_tup (da_cons (dvar 2) (da_cons (dvar 11) da_nil)))))) da_nil)))))))))))))
local macro_rules | `(tactic| walk_at "un._law_classes") => `(tactic| (unfold w__law_classes N__law_classes; try unfold w__law_classes_t3; try unfold w__law_classes_t2; try unfold w__law_classes_t1))
def sp__law_classes : SpD := fun ds s P => ∃ q, ds = [askD q] ∧ AskOk q ∧ P (.lst ((jcls q).map clsD)) s
theorem len__law_classes : ∀ ds s P, sp__law_classes ds s P → ds.length = 1 := by
  rintro ds s P ⟨q, rfl, _⟩; rfl
theorem sem__law_classes : ∀ ds s P, sp__law_classes ds s P → w__law_classes { nx := fun _ s' => P .non s', rt := P } (startD N__law_classes ds) s := by
  rintro ds s P ⟨q, rfl, hq, h⟩
  walk_at "un._law_classes"
  unfold askD
  walk_at "ev"
  have h16 := hq.e16
  have h6 := hq.n6
  refine ⟨by rw [List.length_map, sizeLine_eq]; omega, lcW_each (f := fun c => .str c.1) (fun c hc R hR => ?_) ?_⟩
  · unfold w__law_classes_e1 colD
    walk_at "ev"
    exact hR
  rw [show (q.src.map fun c => D.str c.1) = q.al.map .str by rw [List.map_map]; rfl]
  refine loopW_inv (I := fun r δ s' => s' = s ∧ ∃ (F : List (List Col)) (d5 d6 d7 d8 d9 : Option D), δ = [some (askD q), some (.lst (q.al.map .str)), none, none, some (.lst (F.map fun cs => .lst (cs.map colD))), d5, d6, d7, d8, d9, none, none, none, none] ∧
    F.length + r.length ≤ 16 ∧ (F.map List.length).sum + 2 * r.length ≤ 32 ∧ r.foldl (fun F e => withEqL F e.1 e.2) F = clsL q.eqs) ?_ ?_ ⟨rfl, [], _, _, _, _, _, rfl, by simpa using h16, by simp; omega, rfl⟩
  · rintro e r δ s' ⟨rfl, F, d5, d6, d7, d8, d9, rfl, f1, f2, f3⟩ N hN
    unfold w__law_classes_b2 eqnD
    walk_at "ev"
    rw [List.length_cons] at f1 f2
    refine ⟨by rw [List.length_map, sizeLine_eq]; omega, lcW_sel (p := hitB e.1 e.2) (f := fun cs => .lst (cs.map colD)) (fun cs hcs R0 R1 r0 r1 => ?_) ?_⟩
    · unfold w__law_classes_q1 w__law_classes_e2
      walk_at "ev"
      refine in_it same_col (l := cs) (.inl rfl) ?_
      unfold hitB at r0 r1
      by_cases qa : e.1 ∈ cs
      · simp only [qa, decide_true, Bool.true_or] at r1 ⊢
        exact r1 trivial
      · simp only [qa, decide_false, Bool.false_or] at r0 r1 ⊢
        refine in_it same_col (l := cs) (.inl rfl) ?_
        by_cases qb : e.2 ∈ cs
        · simp only [qb, decide_true] at r1 ⊢; exact r1 trivial
        · simp only [qb, decide_false] at r0 ⊢; exact r0 trivial
    unfold wSetM
    walk_at "ev"
    intro p n k
    walk_at "ev"
    have fs : ((F.filter (hitB e.1 e.2)).map List.length).sum + 2 ≤ 32 := by
      have h1 := withEqL_sum F e.1 e.2
      unfold withEqL at h1
      rw [List.map_append, List.sum_append, List.map_singleton, List.sum_singleton, List.length_append, List.length_flatten] at h1
      simp only [List.length_cons, List.length_nil] at h1
      omega
    refine loopW_inv (I := fun r2 δ s2 => ∃ (T : List Col) (d8 : Option D), s2 = s'.put p (.lst (T.map colD)) ∧ δ = [some (askD q), some (.lst (q.al.map .str)), none, none, some (.lst (F.map fun cs => .lst (cs.map colD))), some (colD e.1), some (colD e.2), some (.lst ((F.filter (hitB e.1 e.2)).map fun cs => .lst (cs.map colD))), d8, some (.ref p), none, none, none, none] ∧
      T.length + (r2.map List.length).sum ≤ 32 ∧ T ++ r2.flatten = [e.1, e.2] ++ (F.filter (hitB e.1 e.2)).flatten) ?_ ?_ ⟨[e.1, e.2], _, rfl, rfl, by simp only [List.length_cons, List.length_nil]; omega, rfl⟩
    · rintro cs r2 δ _ ⟨T, d8, rfl, rfl, t1, t2⟩ N hN
      rw [List.map_cons, List.sum_cons] at t1
      unfold w__law_classes_b1
      walk_at "ev"
      refine ext_eq (show (s'.put p (.lst (T.map colD))).M p = some (.lst (T.map colD)) by simp [S.put]) rfl (by rw [List.length_map, List.length_map, sizeLine_eq]; omega) ?_
      rw [put_put, ← List.map_append]
      exact hN _ _ ⟨T ++ cs, _, rfl, rfl, by rw [List.length_append]; omega, by rw [List.flatten_cons] at t2; rw [List.append_assoc]; exact t2⟩
    · rintro δ _ ⟨T, d8, rfl, rfl, t1, t2⟩
      unfold w__law_classes_t1
      simp only [wFreeze, List.getElem?_cons_zero, List.getElem?_cons_succ, put_M, if_true]
      refine ⟨fun b n hb => k b n hb, ?_⟩
      rw [put_del n]
      walk_at "ev"
      refine ⟨by rw [List.length_map, sizeLine_eq]; omega, lcW_sel (p := fun cs => !hitB e.1 e.2 cs) (f := fun cs => .lst (cs.map colD)) (fun cs hcs R0 R1 r0 r1 => ?_) ?_⟩
      · unfold w__law_classes_q2 w__law_classes_e3
        walk_at "ev"
        refine notIn_it same_cls (l := F.filter (hitB e.1 e.2)) (.inl rfl) ?_
        cases hh : hitB e.1 e.2 cs
        · have : cs ∉ F.filter (hitB e.1 e.2) := fun z => by rw [List.mem_filter, hh] at z; cases z.2
          simp only [this, not_false_eq_true, decide_true]
          exact r1 (by rw [hh]; rfl)
        · have : cs ∈ F.filter (hitB e.1 e.2) := List.mem_filter.mpr ⟨hcs, hh⟩
          simp only [this, not_true_eq_false, decide_false]
          exact r0 (by rw [hh]; rfl)
      · have fl := List.length_filter_le (fun cs => !hitB e.1 e.2 cs) F
        walk_at "ev"
        refine ⟨by rw [List.length_map, sizeLine_eq]; omega, ?_⟩
        have te : T = [e.1, e.2] ++ (F.filter (hitB e.1 e.2)).flatten := by simpa using t2
        have fe : ((F.filter fun cs => !hitB e.1 e.2 cs).map fun cs => D.lst (cs.map colD)) ++ [D.lst (T.map colD)] = (withEqL F e.1 e.2).map fun cs => .lst (cs.map colD) := by
          unfold withEqL
          rw [List.map_append, List.map_singleton, te]
        rw [fe]
        refine hN _ _ ⟨rfl, withEqL F e.1 e.2, _, _, _, _, _, rfl, ?_, ?_, f3⟩
        · have := withEqL_length F e.1 e.2; omega
        · have := withEqL_sum F e.1 e.2; omega
  · rintro δ s' ⟨rfl, F, d5, d6, d7, d8, d9, rfl, f1, f2, f3⟩
    obtain rfl : F = clsL q.eqs := f3
    simp only [List.length_nil] at f1 f2
    walk_at "ev"
    unfold wSetM
    walk_at "ev"
    intro p n k
    walk_at "ev"
    have hr : ((clsL q.eqs).map fun cs => srt3 ((dd cs).map (numC q.al))) = (clsOf q.eqs).map fun cs => srt3 (cs.map (numC q.al)) := by
      rw [clsOf_dd fun e he => (hq.eq e he).1, List.map_map]; rfl
    have hcol : ∀ cs ∈ clsL q.eqs, ∀ c ∈ cs, c.1 ∈ q.al := fun cs hcs c hc => by
      refine (clsOf_all (fun e he => (hq.eq e he).2) (dd cs) ?_ c (mem_dd.mpr hc)).1
      rw [clsOf_dd fun e he => (hq.eq e he).1]
      exact List.mem_map_of_mem hcs
    refine loopW_inv (I := fun r2 δ s2 => ∃ (T : List (List Tri)) (d2 d8 d11 : Option D), s2 = s'.put p (.lst (T.map rowD)) ∧ δ = [some (askD q), some (.lst (q.al.map .str)), d2, none, some (.lst ((clsL q.eqs).map fun cs => .lst (cs.map colD))), d5, d6, d7, d8, d9, some (.ref p), d11, none, none] ∧
      T.length + r2.length ≤ 16 ∧ (∀ cs ∈ r2, cs ∈ clsL q.eqs) ∧ T ++ (r2.map fun cs => srt3 ((dd cs).map (numC q.al))) = (clsL q.eqs).map fun cs => srt3 ((dd cs).map (numC q.al))) ?_ ?_ ⟨[], _, _, _, rfl, rfl, by simpa using f1, fun cs h => h, rfl⟩
    · rintro cs r2 δ _ ⟨T, d2, d8, d11, rfl, rfl, t1, t3, t2⟩ N hN
      rw [List.length_cons] at t1
      unfold w__law_classes_b3
      walk_at "ev"
      have hcs := t3 cs List.mem_cons_self
      have hc := mem_sum hcs
      refine ⟨by rw [List.length_map, sizeLine_eq]; omega, lcW_each (f := fun c => tri (numC q.al c)) (fun c hcc R hR => ?_) ?_⟩
      · unfold w__law_classes_e4 colD
        walk_at "ev"
        unfold rmIndex
        walk_at "ev"
        exact ⟨hcol cs hcs c hcc, hR⟩
      · rw [show (cs.map fun c => tri (numC q.al c)) = (cs.map (numC q.al)).map tri by rw [List.map_map]; rfl]
        refine ⟨setOk_tri (by rw [List.length_map]; omega), row_dd ?_⟩
        rw [show (s'.put p (.lst (T.map rowD))).M p = some (.lst (T.map rowD)) by simp [S.put]]
        refine ⟨by rw [List.length_map, sizeLine_eq]; omega, ?_⟩
        rw [put_put]
        refine hN _ _ ⟨T ++ [srt3 ((dd cs).map (numC q.al))], _, _, _, ?_, rfl, ?_, fun x hx => t3 x (List.mem_cons_of_mem _ hx), ?_⟩
        · rw [List.map_append]; rfl
        · rw [List.length_append, List.length_singleton]; omega
        · rw [List.map_cons] at t2; rw [List.append_assoc]; exact t2
    · rintro δ _ ⟨T, d2, d8, d11, rfl, rfl, t1, t3, t2⟩
      have te : T = (clsOf q.eqs).map fun cs => srt3 (cs.map (numC q.al)) := by rw [← hr]; simpa using t2
      simp only [wFreeze, List.getElem?_cons_zero, List.getElem?_cons_succ, put_M, if_true]
      refine ⟨fun b n hb => k b n hb, ?_⟩
      rw [put_del n]
      walk_at "ev"
      unfold rcSort
      walk_at "ev"
      refine ⟨sortOk_rowD _, ?_⟩
      rw [srtD_rowD]
      have ht : T.length ≤ 16 := by simpa using t1
      refine ⟨?_, lcW_each (f := fun r => .tup (r.map fun t => colD (t.2.2, t.2.1))) (fun r hr R hR => ?_) ?_⟩
      · unfold srtR
        rw [List.length_map, List.length_mergeSort, sizeLine_eq]; omega
      · unfold w__law_classes_e6 rowD
        walk_at "ev"
        have hr2 : r.length ≤ 32 := by
          unfold srtR at hr
          rw [List.mem_mergeSort, te] at hr
          obtain ⟨cs, hcs, rfl⟩ := List.mem_map.mp hr
          unfold srt3
          rw [List.length_mergeSort, List.length_map]
          have := mem_sum hcs
          have := clsOf_sum q.eqs
          omega
        refine ⟨by rw [List.length_map, sizeLine_eq]; omega, lcW_each (f := fun t => colD (t.2.2, t.2.1)) (fun t ht R hR => ?_) hR⟩
        unfold w__law_classes_e5 tri
        walk_at "ev"
        exact hR
      · walk_at "ev"
        unfold jcls jrows at h
        rw [List.map_map, ← te] at h
        have e : (clsD ∘ fun r : List Tri => r.map fun t => ((t.2.2, t.2.1) : Col)) = fun r => .tup (r.map fun t => colD (t.2.2, t.2.1)) := by
          funext r
          show clsD _ = _
          unfold clsD
          rw [List.map_map]; rfl
        rw [e] at h
        exact h

theorem fn__law_classes (T : Txt K mg) : FnD P w K mg base 1 T.a__law_classes T.fd__law_classes ["_law_asked"] sp__law_classes :=
  fnD_of T.F__law_classes sc__law_classes len__law_classes (fun cdv A outer s H E hr => b__law_classes T hr) sem__law_classes
/-! #### _law_members -/
theorem bi__law_members (T : Txt K mg) : Binds K T.fd__law_members ["_law_asked", "_law_classes_here"] [] := T.F__law_members.binds fun _ _ _ _ _ _ us hl => match us, hl with | [_, _], _ => rfl
def N__law_members : List Str := ["_law_asked", "_law_classes_here", "_law_aliases", "_law_alias", "_law_table", "_law_name", "_law_left"]
theorem sc__law_members : FnScope N__law_members ["_law_asked", "_law_classes_here"] (defScope s__law_members) := ⟨rfl, rfl, rfl, by decide +kernel, rfl, by decide +kernel, by decide +kernel⟩
def w__law_members_e1 : WE :=
    (wVar 3)
def w__law_members_e2 : WE :=
    (wMeth "list" rmIndex (wVar 2) (wCons (wVar 3) wNil))
def w__law_members_e3 : WE :=
    (wFz (wSortSet (wFz (wLc [3, 5] (wiSeq (wVar 6)) (wgTup 2 (wgCons (wgName 3) (wgCons (wgName 5) wgNil))) wYes w__law_members_e2))))
def w__law_members : WS :=
    (wSeq (wAsg (wFz (wLc [3, 4] (wiSeq (wOp roIx (wVar 0) (wC (.int 0)))) (wgTup 2 (wgCons (wgName 3) (wgCons (wgName 4) wgNil))) wYes w__law_members_e1)) (wgName 2))
      (wRet (wFz (wLc [6] (wiSeq (wVar 1)) (wgName 6) wYes w__law_members_e3))))
theorem b__law_members (T : Txt K mg) {cdv : Value} {A : Around} {outer : List Env} {s : Shared} {H : Hp} {E : XK} (hr : RoomG 0 (A.deeper (envOfC "_law_members" (defScope s__law_members) s.heap.objs.size T.a__law_members cdv))) :
    DSs (cxOf CX0 P w K mg base N__law_members "_law_members" (defScope s__law_members) T.a__law_members cdv A outer s H E).nox (defBody s__law_members) w__law_members :=
    (dss_cons (ds_set (i := 2) sc__law_members.nd rfl (by first | exact Or.inl rfl | exact Or.inr rfl) (de_fz (del_lc [("_law_alias", 3), ("_law_table", 4)] rfl sc__law_members.nd (di_seq (de_ix ixd (dvar 0) dint (fun _ _ => rfl))) (blkOk_by (own := [("_law_alias", 3), ("_law_table", 4)]) (N := N__law_members) (sc := (defScope s__law_members)) (by decide +kernel)) (fun _ _ _ _ _ => (dg_tup rfl (dgs_cons (dg_name (i := 3) sc__law_members.nd rfl (by first | exact Or.inl rfl | exact Or.inr rfl)) (dgs_cons (dg_name (i := 4) sc__law_members.nd rfl (by first | exact Or.inl rfl | exact Or.inr rfl)) dgs_nil)))) (fun _ _ _ _ _ => dts_nil) (fun _ _ _ _ _ => (dvar 3)))))
      (dss_one (ds_ret (de_fz (del_lc [("_law_left", 6)] rfl sc__law_members.nd (di_seq (dvar 1)) (blkOk_by (own := [("_law_left", 6)]) (N := N__law_members) (sc := (defScope s__law_members)) (by decide +kernel)) (fun _ _ _ _ _ => (dg_name (i := 6) sc__law_members.nd rfl (by first | exact Or.inl rfl | exact Or.inr rfl))) (fun _ _ _ _ _ => dts_nil) (fun _ _ _ _ _ => (de_fz (del_sortSet rfl hr.rm.units (by rfl) T.n_sorted (by rfl) T.n_set (de_fz (del_lc [("_law_alias", 3), ("_law_name", 5)] rfl sc__law_members.nd (di_seq (dvar 6)) (blkOk_by (own := [("_law_alias", 3), ("_law_name", 5)]) (N := N__law_members) (sc := (relS _ (defScope s__law_members))) (by decide +kernel)) (fun _ _ _ _ _ => (dg_tup rfl (dgs_cons (dg_name (i := 3) sc__law_members.nd rfl (by first | exact Or.inl rfl | exact Or.inr rfl)) (dgs_cons (dg_name (i := 5) sc__law_members.nd rfl (by first | exact Or.inl rfl | exact Or.inr rfl)) dgs_nil)))) (fun _ _ _ _ _ => dts_nil) (fun _ _ _ _ _ => (de_meth PySem.F.plainAttrs_list PySem.F.slot_list_index PySem.F.type_list_index md_index (dvar 2) (da_cons (dvar 3) da_nil)))))))))))))
local macro_rules | `(tactic| walk_at "un._law_members") => `(tactic| (unfold w__law_members N__law_members))
def sp__law_members : SpD := fun ds s P => ∃ q, ds = [askD q, .lst ((jcls q).map clsD)] ∧ AskOk q ∧ P (.lst ((memb q).map natsL)) s
theorem len__law_members : ∀ ds s P, sp__law_members ds s P → ds.length = 2 := by
  rintro ds s P ⟨q, rfl, _⟩; rfl
theorem sem__law_members : ∀ ds s P, sp__law_members ds s P → w__law_members { nx := fun _ s' => P .non s', rt := P } (startD N__law_members ds) s := by
  rintro ds s P ⟨q, rfl, hq, h⟩
  walk_at "un._law_members"
  unfold askD
  walk_at "ev"
  have h6 := hq.n6
  refine ⟨by rw [List.length_map, sizeLine_eq]; omega, lcW_each (f := fun c => .str c.1) (fun c hc R hR => ?_) ?_⟩
  · unfold w__law_members_e1 colD
    walk_at "ev"
    exact hR
  refine ⟨by rw [List.length_map, jcls_length, sizeLine_eq]; have := clsOf_length q.eqs; have := hq.e16; omega, lcW_each (f := fun cs => natsL ((List.range q.src.length).filter fun i => decide (i ∈ cs.map fun c => q.al.idxOf c.1))) (fun cs hcs R hR => ?_) ?_⟩
  · unfold w__law_members_e3 clsD
    walk_at "ev"
    obtain ⟨k1, k2⟩ := jcls_ok hq hcs
    refine ⟨by rw [List.length_map, sizeLine_eq]; omega, lcW_each (f := fun c => natD (q.al.idxOf c.1)) (fun c hc R hR => ?_) ?_⟩
    · unfold w__law_members_e2 colD
      walk_at "ev"
      unfold rmIndex
      walk_at "ev"
      rw [show List.map (fun c : Col => D.str c.1) q.src = q.al.map .str by rw [List.map_map]; rfl, strsD_map]
      exact ⟨(k2 c hc).1, hR⟩
    · rw [show List.map (fun c : Col => natD (q.al.idxOf c.1)) cs = (cs.map fun c => q.al.idxOf c.1).map natD by rw [List.map_map]; rfl]
      refine ⟨setOk_nat (by rw [List.length_map]; omega), sortedSet_nat (n := q.src.length) (fun j hj => ?_) hR⟩
      obtain ⟨c, hc, rfl⟩ := List.mem_map.mp hj
      have := List.idxOf_lt_length_of_mem (k2 c hc).1
      rw [List.length_map] at this
      exact this
  · unfold memb at h
    rw [List.map_map] at h
    exact h

theorem fn__law_members (T : Txt K mg) : FnD P w K mg base 1 T.a__law_members T.fd__law_members ["_law_asked", "_law_classes_here"] sp__law_members :=
  fnD_of T.F__law_members sc__law_members len__law_members (fun cdv A outer s H E hr => b__law_members T hr) sem__law_members
/-! #### _law_rank -/
theorem bi__law_rank (T : Txt K mg) : Binds K T.fd__law_rank ["_law_part"] [] := T.F__law_rank.binds fun _ _ _ _ _ _ us hl => match us, hl with | [_], _ => rfl
def N__law_rank : List Str := ["_law_part"]
theorem sc__law_rank : FnScope N__law_rank ["_law_part"] (defScope s__law_rank) := ⟨rfl, rfl, rfl, by decide +kernel, rfl, by decide +kernel, by decide +kernel⟩
def w__law_rank : WS :=
    (wRet (wTup (wCons (wCB rcLen (wCons (wVar 0) wNil)) (wCons (wVar 0) wNil))))
theorem b__law_rank (T : Txt K mg) {cdv : Value} {A : Around} {outer : List Env} {s : Shared} {H : Hp} {E : XK} (hr : RoomG 0 (A.deeper (envOfC "_law_rank" (defScope s__law_rank) s.heap.objs.size T.a__law_rank cdv))) :
    DSs (cxOf CX0 P w K mg base N__law_rank "_law_rank" (defScope s__law_rank) T.a__law_rank cdv A outer s H E).nox (defBody s__law_rank) w__law_rank :=
    (dss_one (ds_ret (de_tup (da_cons (de_callB cd_len (by rfl) T.n_len bb_len (da_cons (dvar 0) da_nil)) (da_cons (dvar 0) da_nil)))))
local macro_rules | `(tactic| walk_at "un._law_rank") => `(tactic| (unfold w__law_rank N__law_rank))
def sp__law_rank : SpD := fun ds s P => ∃ g, ds = [natsT g] ∧ P (rankD g) s
theorem len__law_rank : ∀ ds s P, sp__law_rank ds s P → ds.length = 1 := by
  rintro ds s P ⟨g, rfl, _⟩; rfl
theorem sem__law_rank : ∀ ds s P, sp__law_rank ds s P → w__law_rank { nx := fun _ s' => P .non s', rt := P } (startD N__law_rank ds) s := by
  rintro ds s P ⟨g, rfl, h⟩
  walk_at "un._law_rank"
  unfold natsT
  walk_at "ev"
  simp only [List.length_map]
  exact h

theorem fn__law_rank (T : Txt K mg) : FnD P w K mg base 1 T.a__law_rank T.fd__law_rank ["_law_part"] sp__law_rank :=
  fnD_of T.F__law_rank sc__law_rank len__law_rank (fun cdv A outer s H E hr => b__law_rank T hr) sem__law_rank
/-! #### _law_is_linked -/
theorem bi__law_is_linked (T : Txt K mg) : Binds K T.fd__law_is_linked ["_law_part", "_law_members_here"] [] := T.F__law_is_linked.binds fun _ _ _ _ _ _ us hl => match us, hl with | [_, _], _ => rfl
def N__law_is_linked : List Str := ["_law_part", "_law_members_here", "_law_met", "_law_turn", "_law_some", "_law_a"]
theorem sc__law_is_linked : FnScope N__law_is_linked ["_law_part", "_law_members_here"] (defScope s__law_is_linked) := ⟨rfl, rfl, rfl, by decide +kernel, rfl, by decide +kernel, by decide +kernel⟩
def w__law_is_linked_q1 : WT :=
    (wTst (wOp roIn (wVar 5) (wVar 2)))
def w__law_is_linked_e1 : WE :=
    (wVar 5)
def w__law_is_linked_q2 : WT :=
    (wAnd (wTst (wOp roIn (wVar 5) (wVar 0))) (wTst (wOp roNotIn (wVar 5) (wVar 2))))
def w__law_is_linked_e2 : WE :=
    (wVar 5)
def w__law_is_linked_b1 : WS :=
    (wIf (wTst (wOp roNe (wFz (wLc [5] (wiSeq (wVar 4)) (wgName 5) w__law_is_linked_q1 w__law_is_linked_e1)) (wFz wNil))) (wDrop (wMeth "list" rmExtend (wVar 2) (wCons (wFz (wLc [5] (wiSeq (wVar 4)) (wgName 5) w__law_is_linked_q2 w__law_is_linked_e2)) wNil))) wNext)
def w__law_is_linked_b2 : WS :=
    (wFor (wiSeq (wVar 1)) (wgName 4) w__law_is_linked_b1)
def w__law_is_linked_t1 : WS :=
    (wFreeze 2 (wRet (wOp roEq (wCB rcLen (wCons (wVar 2) wNil)) (wCB rcLen (wCons (wVar 0) wNil)))))
def w__law_is_linked : WS :=
    (wSeq (wSetM 2 (wCons (wOp roIx (wVar 0) (wC (.int 0))) wNil))
      (wSeq (wFor (wiSeq (wVar 0)) (wgName 3) w__law_is_linked_b2)
      w__law_is_linked_t1))
theorem b__law_is_linked (T : Txt K mg) {cdv : Value} {A : Around} {outer : List Env} {s : Shared} {H : Hp} {E : XK} (hr : RoomG 0 (A.deeper (envOfC "_law_is_linked" (defScope s__law_is_linked) s.heap.objs.size T.a__law_is_linked cdv))) :
    DSs (cxOf CX0 P w K mg base N__law_is_linked "_law_is_linked" (defScope s__law_is_linked) T.a__law_is_linked cdv A outer s H E).nox (defBody s__law_is_linked) w__law_is_linked :=
    (dss_cons (ds_setM (i := 2) sc__law_is_linked.nd rfl (by first | exact Or.inl rfl | exact Or.inr rfl) (del_lst (da_cons (de_ix ixd (dvar 0) dint (fun _ _ => rfl)) da_nil)))
      (dss_cons (ds_for PassesOwn.never rfl (di_seq (dvar 0)) (dg_name (i := 3) sc__law_is_linked.nd rfl (by first | exact Or.inl rfl | exact Or.inr rfl)) (dss_one (ds_for PassesOwn.never rfl (di_seq (dvar 1)) (dg_name (i := 4) sc__law_is_linked.nd rfl (by first | exact Or.inl rfl | exact Or.inr rfl)) (dss_one (ds_if (dt_cmp (od_ne hr.rm.units) (de_fz (del_lc [("_law_a", 5)] rfl sc__law_is_linked.nd (di_seq (dvar 4)) (blkOk_by (own := [("_law_a", 5)]) (N := N__law_is_linked) (sc := (defScope s__law_is_linked)) (by decide +kernel)) (fun _ _ _ _ _ => (dg_name (i := 5) sc__law_is_linked.nd rfl (by first | exact Or.inl rfl | exact Or.inr rfl))) (fun _ _ _ _ _ => (dts_one (dt_cmp (od_in hr.rm.units) (dvar 5) (dvar 2) (by rfl)))) (fun _ _ _ _ _ => (dvar 5)))) (de_fz (del_lst da_nil)) (nomark _)) (dss_one (ds_expr (de_meth PySem.F.plainAttrs_list PySem.F.slot_list_extend PySem.F.type_list_extend md_extend (dvar 2) (da_cons (de_fz (del_lc [("_law_a", 5)] rfl sc__law_is_linked.nd (di_seq (dvar 4)) (blkOk_by (own := [("_law_a", 5)]) (N := N__law_is_linked) (sc := (defScope s__law_is_linked)) (by decide +kernel)) (fun _ _ _ _ _ => (dg_name (i := 5) sc__law_is_linked.nd rfl (by first | exact Or.inl rfl | exact Or.inr rfl))) (fun _ _ _ _ _ => (dts_one (PW.pt (dw_and (dt_cmp (od_in hr.rm.units) (dvar 5) (dvar 0) (by rfl)) (dw_and1 (dt_cmp (od_notin hr.rm.units) (dvar 5) (dvar 2) (by rfl))))))) (fun _ _ _ _ _ => (dvar 5)))) da_nil)))) dss_nil)))))
      (dss_freeze 2 (dss_one (ds_ret (de_cmp (od_eq hr.rm.units) (de_callB cd_len (by rfl) T.n_len bb_len (da_cons (dvar 2) da_nil)) (de_callB cd_len (by rfl) T.n_len bb_len (da_cons (dvar 0) da_nil)) (nomark _)))))))
local macro_rules | `(tactic| walk_at "un._law_is_linked") => `(tactic| (unfold w__law_is_linked N__law_is_linked; try unfold w__law_is_linked_t1))
def sp__law_is_linked : SpD := fun ds s P => ∃ g M, ds = [natsT g, .lst (M.map natsL)] ∧ g ≠ [] ∧ GOk g ∧ MOk M ∧ P (.bl (linked M g)) s
theorem len__law_is_linked : ∀ ds s P, sp__law_is_linked ds s P → ds.length = 2 := by
  rintro ds s P ⟨g, M, rfl, _⟩; rfl
theorem sem__law_is_linked : ∀ ds s P, sp__law_is_linked ds s P → w__law_is_linked { nx := fun _ s' => P .non s', rt := P } (startD N__law_is_linked ds) s := by
  rintro ds s P ⟨g, M, rfl, hg, hG, hM, h⟩
  obtain ⟨g0, gr, rfl⟩ := List.exists_cons_of_ne_nil hg
  have g6 := hG.2.1
  have m16 := hM.1
  walk_at "un._law_is_linked"
  unfold natsT wSetM
  walk_at "ev"
  intro p n k
  walk_at "ev"
  rw [← List.map_cons (f := natD)]
  refine loopW_inv (I := fun r δ s2 => ∃ (met : List Nat) (d3 d4 d5 : Option D), s2 = s.put p (.lst (met.map natD)) ∧ δ = [some (.tup ((g0 :: gr).map natD)), some (.lst (M.map natsL)), some (.ref p), d3, d4, d5] ∧
    met.length + 96 * r.length ≤ 600 ∧ r.foldl (fun met _ => M.foldl (metN (g0 :: gr)) met) met = metAll M (g0 :: gr)) ?_ ?_ ⟨[g0], _, _, _, rfl, rfl, by rw [List.length_singleton]; omega, rfl⟩
  · rintro a r δ _ ⟨met, d3, d4, d5, rfl, rfl, l1, l2⟩ N hN
    rw [List.length_cons] at l1
    rw [List.foldl_cons] at l2
    unfold w__law_is_linked_b2
    walk_at "ev"
    refine loopW_inv (I := fun r2 δ s2 => ∃ (met : List Nat) (d4 d5 : Option D), s2 = s.put p (.lst (met.map natD)) ∧ δ = [some (.tup ((g0 :: gr).map natD)), some (.lst (M.map natsL)), some (.ref p), some (natD a), d4, d5] ∧
      met.length + 6 * r2.length + 96 * r.length ≤ 600 ∧ (∀ cs ∈ r2, cs ∈ M) ∧ r.foldl (fun met _ => M.foldl (metN (g0 :: gr)) met) (r2.foldl (metN (g0 :: gr)) met) = metAll M (g0 :: gr)) ?_ ?_ ⟨met, _, _, rfl, rfl, by omega, fun _ h => h, l2⟩
    · rintro cs r2 δ _ ⟨met, d4, d5, rfl, rfl, k1, k2, k3⟩ N2 hN2
      have c6 := (hM.2 cs (k2 cs List.mem_cons_self)).1
      rw [List.length_cons] at k1
      rw [List.foldl_cons] at k3
      have M1 : (s.put p (.lst (met.map natD))).M p = some (.lst (met.map natD)) := by simp [S.put]
      unfold w__law_is_linked_b1
      rw [show natsL cs = D.lst (cs.map natD) from rfl]
      walk_at "ev"
      refine ⟨by rw [List.length_map, sizeLine_eq]; omega, lcW_sel (p := fun a => decide (a ∈ met)) (f := natD) (fun b hb R0 R1 r0 r1 => ?_) ?_⟩
      · unfold w__law_is_linked_q1 w__law_is_linked_e1
        walk_at "ev"
        refine in_it same_nat (l := met) (.inl (view_ref M1)) ?_
        by_cases e : b ∈ met
        · simp only [e, decide_true] at r1 ⊢; exact r1 trivial
        · simp only [e, decide_false] at r0 ⊢; exact r0 trivial
      · rw [roNe_emp rfl (allData_it same_nat.data _)]
        by_cases e : cs.filter (fun a => decide (a ∈ met)) = []
        · have e3 : metN (g0 :: gr) met cs = met := by unfold metN; rw [e]; rfl
          rw [e3] at k3
          rw [e]
          walk_at "ev"
          exact hN2 _ _ ⟨met, _, _, rfl, rfl, by omega, fun x hx => k2 x (List.mem_cons_of_mem _ hx), k3⟩
        · have e3 : metN (g0 :: gr) met cs = met ++ cs.filter (fun a => decide (a ∈ g0 :: gr) && decide (a ∉ met)) := by unfold metN; rw [if_pos e]
          rw [e3] at k3
          have e2 : ((cs.filter (fun a => decide (a ∈ met))).map natD).isEmpty = false := by
            cases q : cs.filter (fun a => decide (a ∈ met)) with
            | nil => exact absurd q e
            | cons x l => rfl
          rw [e2]
          simp only [Bool.not_false]
          rw [M1]
          refine ⟨trivial, by rw [List.length_map, sizeLine_eq]; omega, lcW_sel (p := fun a => decide (a ∈ g0 :: gr) && decide (a ∉ met)) (f := natD) (fun b hb R0 R1 r0 r1 => ?_) ?_⟩
          · unfold w__law_is_linked_q2 w__law_is_linked_e2
            walk_at "ev"
            refine in_it same_nat (l := g0 :: gr) (.inr rfl) ?_
            by_cases e : b ∈ g0 :: gr
            · simp only [e, decide_true, Bool.true_and] at r0 r1 ⊢
              refine notIn_it same_nat (l := met) (.inl (view_ref M1)) ?_
              by_cases e : b ∈ met
              · simp only [e, not_true_eq_false, decide_false] at r0 ⊢; exact r0 trivial
              · simp only [e, not_false_eq_true, decide_true] at r1 ⊢; exact r1 trivial
            · simp only [e, decide_false, Bool.false_and] at r0 ⊢; exact r0 trivial
          · have hl := List.length_filter_le (fun a => decide (a ∈ g0 :: gr) && decide (a ∉ met)) cs
            refine ext_eq M1 rfl (by rw [List.length_map, List.length_map, sizeLine_eq]; omega) ?_
            rw [put_put, ← List.map_append]
            exact hN2 _ _ ⟨_, _, _, rfl, rfl, by rw [List.length_append]; omega, fun x hx => k2 x (List.mem_cons_of_mem _ hx), k3⟩
    · rintro δ _ ⟨met, d4, d5, rfl, rfl, k1, k2, k3⟩
      exact hN _ _ ⟨met, _, _, _, rfl, rfl, by simp only [List.length_nil] at k1; omega, k3⟩
  · rintro δ _ ⟨met, d3, d4, d5, rfl, rfl, l1, l2⟩
    obtain rfl : met = metAll M (g0 :: gr) := l2
    simp only [wFreeze, List.getElem?_cons_zero, List.getElem?_cons_succ, put_M, if_true]
    refine ⟨fun b n hb => k b n hb, ?_⟩
    rw [put_del n]
    walk_at "ev"
    rw [List.length_map, dec_nat]
    have e : linked M (g0 :: gr) = decide ((metAll M (g0 :: gr)).length = gr.length + 1) := rfl
    rw [e] at h
    rw [List.length_map]
    exact h

theorem fn__law_is_linked (T : Txt K mg) : FnD P w K mg base 1 T.a__law_is_linked T.fd__law_is_linked ["_law_part", "_law_members_here"] sp__law_is_linked :=
  fnD_of T.F__law_is_linked sc__law_is_linked len__law_is_linked (fun cdv A outer s H E hr => b__law_is_linked T hr) sem__law_is_linked
/-! #### _law_groups -/
theorem bi__law_groups (T : Txt K mg) : Binds K T.fd__law_groups ["_law_count", "_law_members_here"] [] := T.F__law_groups.binds fun _ _ _ _ _ _ us hl => match us, hl with | [_, _], _ => rfl
def N__law_groups : List Str := ["_law_count", "_law_members_here", "_law_parts", "_law_a", "_law_part"]
theorem sc__law_groups : FnScope N__law_groups ["_law_count", "_law_members_here"] (defScope s__law_groups) := ⟨rfl, rfl, rfl, by decide +kernel, rfl, by decide +kernel, by decide +kernel⟩
def w__law_groups_e1 : WE :=
    (wOp roAdd (wVar 4) (wTup (wCons (wVar 3) wNil)))
def w__law_groups_b1 : WS :=
    (wAsg (wOp roAdd (wVar 2) (wFz (wLc [4] (wiSeq (wVar 2)) (wgName 4) wYes w__law_groups_e1))) (wgName 2))
def w__law_groups_q1 : WT :=
    (wAnd (wTst (wOp roGt (wCB rcLen (wCons (wVar 4) wNil)) (wC (.int 1)))) (wTru (wCall sp__law_is_linked (wCons (wVar 4) (wCons (wVar 1) wNil)))))
def w__law_groups_e2 : WE :=
    (wVar 4)
def w__law_groups_t1 : WS :=
    (wRet (wFz (wSortKey sp__law_rank (wFz (wLc [4] (wiSeq (wVar 2)) (wgName 4) w__law_groups_q1 w__law_groups_e2)))))
def w__law_groups : WS :=
    (wSeq (wAsg (wFz (wCons (wTup wNil) wNil)) (wgName 2))
      (wSeq (wFor (wiR1 (wCons (wVar 0) wNil)) (wgName 3) w__law_groups_b1)
      w__law_groups_t1))
theorem b__law_groups (T : Txt K mg) {cdv : Value} {A : Around} {outer : List Env} {s : Shared} {H : Hp} {E : XK} (hr : RoomG 3 (A.deeper (envOfC "_law_groups" (defScope s__law_groups) s.heap.objs.size T.a__law_groups cdv))) :
    DSs (cxOf CX0 P w K mg base N__law_groups "_law_groups" (defScope s__law_groups) T.a__law_groups cdv A outer s H E).nox (defBody s__law_groups) w__law_groups :=
    (dss_cons (ds_set (i := 2) sc__law_groups.nd rfl (by first | exact Or.inl rfl | exact Or.inr rfl) (de_fz (del_lst (da_cons (de_tup da_nil) da_nil))))
      (dss_cons (ds_for PassesOwn.never rfl (di_range1 (by rfl) T.n_range (da_cons (dvar 0) da_nil)) (dg_name (i := 3) sc__law_groups.nd rfl (by first | exact Or.inl rfl | exact Or.inr rfl)) (dss_one (ds_set (i := 2) sc__law_groups.nd rfl (by first | exact Or.inl rfl | exact Or.inr rfl) (de_op od_add (dvar 2) (de_fz (del_lc [("_law_part", 4)] rfl sc__law_groups.nd (di_seq (dvar 2)) (blkOk_by (own := [("_law_part", 4)]) (N := N__law_groups) (sc := (defScope s__law_groups)) (by decide +kernel)) (fun _ _ _ _ _ => (dg_name (i := 4) sc__law_groups.nd rfl (by first | exact Or.inl rfl | exact Or.inr rfl))) (fun _ _ _ _ _ => dts_nil) (fun _ _ _ _ _ => (de_op od_add (dvar 4) (de_tup (da_cons (dvar 3) da_nil))))))))))
      (dss_one (ds_ret (de_fz (del_sortKey (fn__law_rank T) (hr.mono (by decide)) (by rfl) T.m__law_rank (bi__law_rank T) (by rfl) T.n_sorted (de_fz (del_lc [("_law_part", 4)] rfl sc__law_groups.nd (di_seq (dvar 2)) (blkOk_by (own := [("_law_part", 4)]) (N := N__law_groups) (sc := (defScope s__law_groups)) (by decide +kernel)) (fun _ _ _ _ _ => (dg_name (i := 4) sc__law_groups.nd rfl (by first | exact Or.inl rfl | exact Or.inr rfl))) (fun _ _ _ _ _ => (dts_one (PW.pt (dw_and (dt_cmp od_gt (de_callB cd_len (by rfl) T.n_len bb_len (da_cons (dvar 4) da_nil)) dint (nomark _)) (dw_and1 (dt_truth (de_call (fn__law_is_linked T) (hr.mono (by decide)) (by rfl) T.m__law_is_linked T.F__law_is_linked.kp (bi__law_is_linked T) (da_cons (dvar 4) (da_cons (dvar 1) da_nil))))))))) (fun _ _ _ _ _ => (dvar 4))))))))))
local macro_rules | `(tactic| walk_at "un._law_groups") => `(tactic| (unfold w__law_groups N__law_groups; try unfold w__law_groups_t1))
def sp__law_groups : SpD := fun ds s P => ∃ n M, ds = [natD n, .lst (M.map natsL)] ∧ n ≤ 6 ∧ MOk M ∧ P (.lst ((grps n M).map natsT)) s
theorem len__law_groups : ∀ ds s P, sp__law_groups ds s P → ds.length = 2 := by
  rintro ds s P ⟨n, M, rfl, _⟩; rfl
theorem sem__law_groups : ∀ ds s P, sp__law_groups ds s P → w__law_groups { nx := fun _ s' => P .non s', rt := P } (startD N__law_groups ds) s := by
  rintro ds s P ⟨n, M, rfl, hn, hM, h⟩
  walk_at "un._law_groups"
  walk_at "ev"
  rw [Int.toNat_natCast]
  refine ⟨by omega, ?_⟩
  refine loopW_rng (I := fun i δ s2 => s2 = s ∧ i ≤ n ∧ ∃ (d3 : Option D), δ = [some (natD n), some (.lst (M.map natsL)), some (.lst ((subs i).map natsT)), d3, none]) ?_ ?_ ⟨rfl, Nat.zero_le _, _, rfl⟩
  · rintro i δ s2 hi ⟨rfl, -, d3, rfl⟩ N hN
    have hs : (subs i).length ≤ 64 := by rw [subs_length]; exact Nat.pow_le_pow_right (n := 2) (by omega) (show i ≤ 6 by omega)
    unfold w__law_groups_b1
    walk_at "ev"
    refine ⟨by rw [List.length_map, sizeLine_eq]; omega, lcW_each (f := fun g => natsT (g ++ [i])) (fun g hg R hR => ?_) ?_⟩
    · have hg2 := (subs_ok (by omega) g hg).2.1
      unfold w__law_groups_e1
      rw [show natsT g = D.tup (g.map natD) from rfl]
      walk_at "ev"
      rw [Int.zero_add]
      unfold natsT at hR
      rw [List.map_append] at hR
      exact ⟨by rw [List.length_map, sizeLine_eq]; omega, hR⟩
    · walk_at "ev"
      refine ⟨by rw [List.length_map, List.length_map, sizeLine_eq]; omega, hN _ _ ⟨rfl, by omega, some (.int (0 + (i : Int))), ?_⟩⟩
      rw [subs_succ, List.map_append, List.map_map]
      rfl
  · rintro δ s2 ⟨rfl, -, d3, rfl⟩
    have hs : (subs n).length ≤ 64 := by rw [subs_length]; exact Nat.pow_le_pow_right (n := 2) (by omega) (show n ≤ 6 by omega)
    walk_at "ev"
    unfold wSortKey
    walk_at "ev"
    refine ⟨by rw [List.length_map, sizeLine_eq]; omega, lcW_sel (p := fun g => decide (1 < g.length) && linked M g) (f := natsT) (fun g hg R0 R1 r0 r1 => ?_) ?_⟩
    · have hG := subs_ok hn g hg
      unfold w__law_groups_q1 w__law_groups_e2
      rw [show natsT g = D.tup (g.map natD) from rfl] at r1 ⊢
      walk_at "ev"
      rw [List.length_map]
      by_cases e : 1 < g.length
      · have e2 : (1 : Int) < (g.length : Int) := by omega
        simp only [e, e2, decide_true, Bool.true_and] at r0 r1 ⊢
        refine ⟨g, M, rfl, fun z => by rw [z] at e; simp at e, hG, hM, ?_⟩
        walk_at "ev"
        cases q : linked M g
        · exact r0 q
        · exact r1 q
      · have e2 : ¬ (1 : Int) < (g.length : Int) := by omega
        simp only [e, e2, decide_false, Bool.false_and] at r0 ⊢
        exact r0 trivial
    · refine ⟨keyRank, keyOk_rank fun g _ => keyRank_nats g, fun e he R hR => ?_, ?_⟩
      · obtain ⟨g, hg, rfl⟩ := List.mem_map.mp he
        rw [keyRank_nats] at hR
        exact ⟨g, rfl, hR⟩
      · rw [mergeSort_nats _ fun a _ b _ => le_rank a b]
        exact h

theorem fn__law_groups (T : Txt K mg) : FnD P w K mg base 4 T.a__law_groups T.fd__law_groups ["_law_count", "_law_members_here"] sp__law_groups :=
  fnD_of T.F__law_groups sc__law_groups len__law_groups (fun cdv A outer s H E hr => b__law_groups T hr) sem__law_groups
/-! #### _law_parted -/
theorem bi__law_parted (T : Txt K mg) : Binds K T.fd__law_parted ["_law_bunch", "_law_groups_here"] [] := T.F__law_parted.binds fun _ _ _ _ _ _ us hl => match us, hl with | [_, _], _ => rfl
def N__law_parted : List Str := ["_law_bunch", "_law_groups_here", "_law_found", "_law_number", "_law_left", "_law_k", "_law_alias", "_law_right", "_law_part", "_law_rank_here", "_law_pair"]
theorem sc__law_parted : FnScope N__law_parted ["_law_bunch", "_law_groups_here"] (defScope s__law_parted) := ⟨rfl, rfl, rfl, by decide +kernel, rfl, by decide +kernel, by decide +kernel⟩
def w__law_parted_q1 : WT :=
    (wTst (wOp roEq (wOp roBand (wOp roShr (wVar 3) (wVar 5)) (wC (.int 1))) (wC (.int 1))))
def w__law_parted_e1 : WE :=
    (wVar 6)
def w__law_parted_q2 : WT :=
    (wTst (wOp roEq (wOp roBand (wOp roShr (wVar 3) (wVar 5)) (wC (.int 1))) (wC (.int 0))))
def w__law_parted_e2 : WE :=
    (wVar 6)
def w__law_parted_q3 : WT :=
    (wAnd (wTst (wOp roGt (wCB rcLen (wCons (wVar 8) wNil)) (wC (.int 1)))) (wTst (wOp roNotIn (wVar 8) (wVar 1))))
def w__law_parted_e3 : WE :=
    (wVar 8)
def w__law_parted_b1 : WS :=
    (wSeq (wAsg (wCB rcTuple (wCons (wFz (wLc [5, 6] (wiEnum (wCons (wVar 0) wNil)) (wgTup 2 (wgCons (wgName 5) (wgCons (wgName 6) wgNil))) w__law_parted_q1 w__law_parted_e1)) wNil)) (wgName 4))
      (wSeq (wAsg (wCB rcTuple (wCons (wFz (wLc [5, 6] (wiEnum (wCons (wVar 0) wNil)) (wgTup 2 (wgCons (wgName 5) (wgCons (wgName 6) wgNil))) w__law_parted_q2 w__law_parted_e2)) wNil)) (wgName 7))
      (wIf (wTst (wOp roEq (wFz (wLc [8] (wiSeq (wTup (wCons (wVar 4) (wCons (wVar 7) wNil)))) (wgName 8) w__law_parted_q3 w__law_parted_e3)) (wFz wNil))) (wIf (wTst (wOp roLtD (wCall sp__law_rank (wCons (wVar 4) wNil)) (wCall sp__law_rank (wCons (wVar 7) wNil)))) (wDrop (wMeth "list" rmAppend (wVar 2) (wCons (wTup (wCons (wCall sp__law_rank (wCons (wVar 4) wNil)) (wCons (wTup (wCons (wVar 4) (wCons (wVar 7) wNil))) wNil))) wNil))) wNext) wNext)))
def w__law_parted_e4 : WE :=
    (wVar 10)
def w__law_parted_t1 : WS :=
    (wFreeze 2 (wRet (wCB rcTuple (wCons (wFz (wLc [9, 10] (wiSeq (wFz (wCBL rcSort (wCons (wVar 2) wNil)))) (wgTup 2 (wgCons (wgName 9) (wgCons (wgName 10) wgNil))) wYes w__law_parted_e4)) wNil))))
def w__law_parted : WS :=
    (wSeq (wSetM 2 wNil)
      (wSeq (wFor (wiR2 (wCons (wC (.int 1)) (wCons (wOp roSub (wOp roShl (wC (.int 1)) (wCB rcLen (wCons (wVar 0) wNil))) (wC (.int 1))) wNil))) (wgName 3) w__law_parted_b1)
      w__law_parted_t1))
theorem b__law_parted (T : Txt K mg) {cdv : Value} {A : Around} {outer : List Env} {s : Shared} {H : Hp} {E : XK} (hr : RoomG 1 (A.deeper (envOfC "_law_parted" (defScope s__law_parted) s.heap.objs.size T.a__law_parted cdv))) :
    DSs (cxOf CX0 P w K mg base N__law_parted "_law_parted" (defScope s__law_parted) T.a__law_parted cdv A outer s H E).nox (defBody s__law_parted) w__law_parted :=
    (dss_cons (ds_setM (i := 2) sc__law_parted.nd rfl (by first | exact Or.inl rfl | exact Or.inr rfl) (del_lst da_nil))
      (dss_cons (ds_for PassesOwn.never rfl (di_range2 (by rfl) T.n_range (da_cons dint (da_cons (de_op od_sub (de_op od_shl dint (de_callB cd_len (by rfl) T.n_len bb_len (da_cons (dvar 0) da_nil))) dint) da_nil))) (dg_name (i := 3) sc__law_parted.nd rfl (by first | exact Or.inl rfl | exact Or.inr rfl)) (dss_cons (ds_set (i := 4) sc__law_parted.nd rfl (by first | exact Or.inl rfl | exact Or.inr rfl) (de_callTy cd_tuple (by rfl) T.n_tuple bb_tuple (da_cons (de_fz (del_lc [("_law_k", 5), ("_law_alias", 6)] rfl sc__law_parted.nd (di_enum (by rfl) T.n_enumerate (da_cons (dvar 0) da_nil)) (blkOk_by (own := [("_law_k", 5), ("_law_alias", 6)]) (N := N__law_parted) (sc := (defScope s__law_parted)) (by decide +kernel)) (fun _ _ _ _ _ => (dg_tup rfl (dgs_cons (dg_name (i := 5) sc__law_parted.nd rfl (by first | exact Or.inl rfl | exact Or.inr rfl)) (dgs_cons (dg_name (i := 6) sc__law_parted.nd rfl (by first | exact Or.inl rfl | exact Or.inr rfl)) dgs_nil)))) (fun _ _ _ _ _ => (dts_one (dt_cmp (od_eq hr.rm.units) (de_op od_band (de_op od_shr (dvar 3) (dvar 5)) dint) dint (nomark _)))) (fun _ _ _ _ _ => (dvar 6)))) da_nil)))
      (dss_cons (ds_set (i := 7) sc__law_parted.nd rfl (by first | exact Or.inl rfl | exact Or.inr rfl) (de_callTy cd_tuple (by rfl) T.n_tuple bb_tuple (da_cons (de_fz (del_lc [("_law_k", 5), ("_law_alias", 6)] rfl sc__law_parted.nd (di_enum (by rfl) T.n_enumerate (da_cons (dvar 0) da_nil)) (blkOk_by (own := [("_law_k", 5), ("_law_alias", 6)]) (N := N__law_parted) (sc := (defScope s__law_parted)) (by decide +kernel)) (fun _ _ _ _ _ => (dg_tup rfl (dgs_cons (dg_name (i := 5) sc__law_parted.nd rfl (by first | exact Or.inl rfl | exact Or.inr rfl)) (dgs_cons (dg_name (i := 6) sc__law_parted.nd rfl (by first | exact Or.inl rfl | exact Or.inr rfl)) dgs_nil)))) (fun _ _ _ _ _ => (dts_one (dt_cmp (od_eq hr.rm.units) (de_op od_band (de_op od_shr (dvar 3) (dvar 5)) dint) dint (nomark _)))) (fun _ _ _ _ _ => (dvar 6)))) da_nil)))
      (dss_one (ds_if (dt_cmp (od_eq hr.rm.units) (de_fz (del_lc [("_law_part", 8)] rfl sc__law_parted.nd (di_seq (de_tup (da_cons (dvar 4) (da_cons (dvar 7) da_nil)))) (blkOk_by (own := [("_law_part", 8)]) (N := N__law_parted) (sc := (defScope s__law_parted)) (by decide +kernel)) (fun _ _ _ _ _ => (dg_name (i := 8) sc__law_parted.nd rfl (by first | exact Or.inl rfl | exact Or.inr rfl))) (fun _ _ _ _ _ => (dts_one (PW.pt (dw_and (dt_cmp od_gt (de_callB cd_len (by rfl) T.n_len bb_len (da_cons (dvar 8) da_nil)) dint (nomark _)) (dw_and1 (dt_cmp (od_notin hr.rm.units) (dvar 8) (dvar 1) (by rfl))))))) (fun _ _ _ _ _ => (dvar 8)))) (de_fz (del_lst da_nil)) (nomark _)) (dss_one (ds_if (dt_cmp (od_ltD hr.rm.units) (de_call (fn__law_rank T) (hr.mono (by decide)) (by rfl) T.m__law_rank T.F__law_rank.kp (bi__law_rank T) (da_cons (dvar 4) da_nil)) (de_call (fn__law_rank T) (hr.mono (by decide)) (by rfl) T.m__law_rank T.F__law_rank.kp (bi__law_rank T) (da_cons (dvar 7) da_nil)) (nomark _)) (dss_one (ds_expr (de_meth PySem.F.plainAttrs_list PySem.F.slot_list_append PySem.F.type_list_append md_append (dvar 2) (da_cons (de_tup (da_cons (de_call (fn__law_rank T) (hr.mono (by decide)) (by rfl) T.m__law_rank T.F__law_rank.kp (bi__law_rank T) (da_cons (dvar 4) da_nil)) (da_cons (de_tup (da_cons (dvar 4) (da_cons (dvar 7) da_nil))) da_nil))) da_nil)))) dss_nil)) dss_nil)))))
      (dss_freeze 2 (dss_one (ds_ret (de_callTy cd_tuple (by rfl) T.n_tuple bb_tuple (da_cons (de_fz (del_lc [("_law_rank_here", 9), ("_law_pair", 10)] rfl sc__law_parted.nd (di_seq (de_fz (del_callB (cd_sort hr.rm.units) (by rfl) T.n_sorted bb_sorted (da_cons (dvar 2) da_nil)))) (blkOk_by (own := [("_law_rank_here", 9), ("_law_pair", 10)]) (N := N__law_parted) (sc := (defScope s__law_parted)) (by decide +kernel)) (fun _ _ _ _ _ => (dg_tup rfl (dgs_cons (dg_name (i := 9) sc__law_parted.nd rfl (by first | exact Or.inl rfl | exact Or.inr rfl)) (dgs_cons (dg_name (i := 10) sc__law_parted.nd rfl (by first | exact Or.inl rfl | exact Or.inr rfl)) dgs_nil)))) (fun _ _ _ _ _ => dts_nil) (fun _ _ _ _ _ => (dvar 10)))) da_nil)))))))
local macro_rules | `(tactic| walk_at "un._law_parted") => `(tactic| (unfold w__law_parted N__law_parted; try unfold w__law_parted_t1))
def sp__law_parted : SpD := fun ds s P => ∃ g gs, ds = [natsT g, .lst (gs.map natsT)] ∧ GOk g ∧ gs.length ≤ 64 ∧ (∀ h ∈ gs, GOk h) ∧ P (.tup ((parted g gs).map prD)) s
theorem len__law_parted : ∀ ds s P, sp__law_parted ds s P → ds.length = 2 := by
  rintro ds s P ⟨g, gs, rfl, _⟩; rfl
theorem sem__law_parted : ∀ ds s P, sp__law_parted ds s P → w__law_parted { nx := fun _ s' => P .non s', rt := P } (startD N__law_parted ds) s := by
  rintro ds s P ⟨g, gs, rfl, hg, hgs, hG, h⟩
  walk_at "un._law_parted"
  have g6 := hg.2.1
  have p2 : 0 < 2 ^ g.length := Nat.two_pow_pos _
  have p6 : 2 ^ g.length ≤ 2 ^ 6 := Nat.pow_le_pow_right (n := 2) (by omega) g6
  unfold wSetM
  walk_at "ev"
  refine fun q q1 k1 => ?_
  rw [show natsT g = D.tup (g.map natD) from rfl]
  walk_at "ev"
  have ez : (1 * 2 ^ (((g.map natD).length : Nat) : Int).toNat : Int) = ((2 ^ g.length : Nat) : Int) := by rw [List.length_map, Int.toNat_natCast, Int.one_mul]; simp
  rw [ez]
  have en : ((((2 ^ g.length : Nat) : Int) - 1 - 1).toNat) = 2 ^ g.length - 2 := by omega
  rw [en]
  refine ⟨⟨by omega, by rw [List.length_map]; omega, by decide⟩, ⟨by omega, by omega, by omega, by omega⟩, ?_⟩
  have lL : ∀ i, i ≤ 2 ^ g.length - 2 → ((partedN g gs i).map prK).length ≤ 64 := fun i hi => by
    have := partedN_len g gs i
    rw [List.length_map]; omega
  refine loopW_rng (I := fun i δ s2 => s2 = s.put q (.lst ((partedN g gs i).map prK)) ∧ i ≤ 2 ^ g.length - 2 ∧ ∃ (d3 d4 d7 : Option D), δ = [some (.tup (g.map natD)), some (.lst (gs.map natsT)), some (.ref q), d3, d4, none, none, d7, none, none, none]) ?_ ?_ ⟨rfl, Nat.zero_le _, none, none, none, rfl⟩
  · rintro i δ s2 hi ⟨rfl, _, d3, d4, d7, rfl⟩ N hN
    have bit : ∀ (k : Nat), Builtin.bitAnd ((1 + (i : Int)) / 2 ^ ((k : Nat) : Int).toNat) 1 = ((((i + 1) / 2 ^ k % 2 : Nat) : Int)) := fun k => by
      rw [bitAnd_m1, Int.toNat_natCast]
      have : (1 + (i : Int)) = ((i + 1 : Nat) : Int) := by omega
      rw [this]
      simp
    unfold w__law_parted_b1
    walk_at "ev"
    rw [enuD_map]
    have zl : (((List.range g.length).zip g).map fun p => D.tpw [.int ((p.1 : Nat) : Int), natD p.2]).length ≤ sizeLine := by rw [List.length_map, List.length_zip, List.length_range, sizeLine_eq]; omega
    have lok : ∀ k b, GOk (bitP g k b) := fun k b => ⟨by
      unfold bitP
      rw [List.Nodup, List.pairwise_map]
      refine List.Pairwise.imp_of_mem (R := (· ≠ ·)) (fun {x y} hx hy hne e => ?_) (List.Pairwise.filter _ List.nodup_range)
      have h1 := List.mem_range.mp (List.mem_filter.mp hx).1
      have h2 := List.mem_range.mp (List.mem_filter.mp hy).1
      rw [List.getD_eq_getElem?_getD, List.getElem?_eq_getElem h1, List.getD_eq_getElem?_getD, List.getElem?_eq_getElem h2] at e
      exact hne (nodup_inj hg.1 h1 h2 e), Nat.le_trans (bit_len g k b) g6, fun x hx => by
      unfold bitP at hx
      obtain ⟨j, hj, rfl⟩ := List.mem_map.mp hx
      have h1 := List.mem_range.mp (List.mem_filter.mp hj).1
      rw [List.getD_eq_getElem?_getD, List.getElem?_eq_getElem h1]
      exact hg.2.2 _ (List.getElem_mem _)⟩
    refine ⟨zl, lcW_sel (p := fun p : Nat × Nat => decide ((i + 1) / 2 ^ p.1 % 2 = 1)) (f := fun p => natD p.2) (fun p hp R0 R1 r0 r1 => ?_) ?_⟩
    · unfold w__law_parted_q1 w__law_parted_e1
      walk_at "ev"
      rw [bit]
      refine ⟨by omega, ?_⟩
      rw [show (1 : Int) = ((1 : Nat) : Int) from rfl, dec_nat]
      by_cases e : (i + 1) / 2 ^ p.1 % 2 = 1
      · simp only [e, decide_true] at r1 ⊢
        exact r1 trivial
      · simp only [e, decide_false] at r0 ⊢
        exact r0 trivial
    rw [zip_bit]
    refine ⟨zl, lcW_sel (p := fun p : Nat × Nat => decide ((i + 1) / 2 ^ p.1 % 2 = 0)) (f := fun p => natD p.2) (fun p hp R0 R1 r0 r1 => ?_) ?_⟩
    · unfold w__law_parted_q2 w__law_parted_e2
      walk_at "ev"
      rw [bit]
      refine ⟨by omega, ?_⟩
      rw [show (0 : Int) = ((0 : Nat) : Int) from rfl, dec_nat]
      by_cases e : (i + 1) / 2 ^ p.1 % 2 = 0
      · simp only [e, decide_true] at r1 ⊢
        exact r1 trivial
      · simp only [e, decide_false] at r0 ⊢
        exact r0 trivial
    rw [zip_bit]
    refine ⟨by rw [sizeLine_eq]; decide, ?_⟩
    have lr : [D.tup ((bitP g (i + 1) 1).map natD), D.tup ((bitP g (i + 1) 0).map natD)] = [bitP g (i + 1) 1, bitP g (i + 1) 0].map natsT := rfl
    rw [lr]
    refine lcW_sel (p := fun p => decide (1 < p.length) && decide (p ∉ gs)) (f := natsT) (fun p hp R0 R1 r0 r1 => ?_) ?_
    · unfold w__law_parted_q3 w__law_parted_e3
      rw [show natsT p = D.tup (p.map natD) from rfl] at r1 ⊢
      walk_at "ev"
      rw [List.length_map]
      by_cases e : 1 < p.length
      · have e2 : (1 : Int) < (p.length : Int) := by omega
        simp only [e, e2, decide_true, Bool.true_and] at r0 r1 ⊢
        refine notIn_it same_T (x := p) (.inl rfl) ?_
        by_cases e3 : p ∈ gs
        · simp only [e3, not_true_eq_false, decide_false] at r0 ⊢
          exact r0 trivial
        · simp only [e3, not_false_eq_true, decide_true] at r1 ⊢
          exact r1 trivial
      · have e2 : ¬ (1 : Int) < (p.length : Int) := by omega
        simp only [e, e2, decide_false, Bool.false_and] at r0 ⊢
        exact r0 trivial
    refine (roEq_emp rfl (allData_it same_T.data _)).mpr ?_
    have em : ((([bitP g (i + 1) 1, bitP g (i + 1) 0].filter fun p => decide (1 < p.length) && decide (p ∉ gs))).map natsT).isEmpty = (okPart gs (bitP g (i + 1) 1) && okPart gs (bitP g (i + 1) 0)) := by
      have e : ∀ p, okPart gs p = !(decide (1 < p.length) && decide (p ∉ gs)) := fun p => rfl
      rw [e, e]
      generalize (bitP g (i + 1) 1) = A
      generalize (bitP g (i + 1) 0) = B
      cases h1 : decide (1 < A.length) && decide (A ∉ gs) <;> cases h2 : decide (1 < B.length) && decide (B ∉ gs) <;> simp only [List.filter_cons, h1, h2, List.filter_nil] <;> rfl
    rw [em]
    have ps := partedN_succ g gs i
    have nx : ∀ d4 d7, (okPart gs (bitP g (i + 1) 1) && okPart gs (bitP g (i + 1) 0) && ltD (rankD (bitP g (i + 1) 1)) (rankD (bitP g (i + 1) 0))) = false →
        N [some (.tup (g.map natD)), some (.lst (gs.map natsT)), some (.ref q), some (.int (1 + (i : Int))), d4, none, none, d7, none, none, none] (s.put q (.lst ((partedN g gs i).map prK))) := fun d4 d7 e => by
      rw [e, if_neg Bool.false_ne_true, List.append_nil] at ps
      exact hN _ _ ⟨by rw [ps], hi, _, _, _, rfl⟩
    cases e1 : okPart gs (bitP g (i + 1) 1) && okPart gs (bitP g (i + 1) 0)
    · exact nx _ _ (by rw [e1]; rfl)
    · refine ⟨bitP g (i + 1) 1, rfl, ⟨bitP g (i + 1) 0, rfl, ?_⟩⟩
      refine rank_lt ?_
      cases e2 : ltD (rankD (bitP g (i + 1) 1)) (rankD (bitP g (i + 1) 0))
      · exact nx _ _ (by rw [e1, e2]; rfl)
      · rw [e1, e2, Bool.and_self, if_pos rfl] at ps
        have M1 : (s.put q (.lst ((partedN g gs i).map prK))).M q = some (.lst ((partedN g gs i).map prK)) := by simp [S.put]
        simp only [M1]
        refine ⟨trivial, bitP g (i + 1) 1, rfl, ?_⟩
        simp only [M1]
        have := lL i (by omega)
        refine ⟨by rw [sizeLine_eq]; omega, ?_⟩
        rw [put_put]
        exact hN _ _ ⟨by rw [ps, List.map_append]; rfl, hi, _, _, _, rfl⟩
  · rintro δ s2 ⟨rfl, _, d3, d4, d7, rfl⟩
    unfold wFreeze
    walk_at "ev"
    rw [put_del q1]
    have lz := lL _ (Nat.le_refl (2 ^ g.length - 2))
    refine ⟨fun b j hb => k1 b j hb, (⟨sortOk_prK _, ?_⟩ : SortOk _ ∧ _)⟩
    rw [srtD_map]
    refine ⟨by rw [List.length_map, List.length_mergeSort]; rw [List.length_map] at lz; rw [sizeLine_eq]; omega, lcW_each (f := prD) (fun p hp R hR => ?_) ?_⟩
    · unfold w__law_parted_e4 prK
      walk_at "ev"
      exact hR
    · exact h

theorem fn__law_parted (T : Txt K mg) : FnD P w K mg base 2 T.a__law_parted T.fd__law_parted ["_law_bunch", "_law_groups_here"] sp__law_parted :=
  fnD_of T.F__law_parted sc__law_parted len__law_parted (fun cdv A outer s H E hr => b__law_parted T hr) sem__law_parted
/-! #### _law_is_less -/
theorem bi__law_is_less (T : Txt K mg) : Binds K T.fd__law_is_less ["_law_left", "_law_right"] [] := T.F__law_is_less.binds fun _ _ _ _ _ _ us hl => match us, hl with | [_, _], _ => rfl
def N__law_is_less : List Str := ["_law_left", "_law_right", "_law_different", "_law_k"]
theorem sc__law_is_less : FnScope N__law_is_less ["_law_left", "_law_right"] (defScope s__law_is_less) := ⟨rfl, rfl, rfl, by decide +kernel, rfl, by decide +kernel, by decide +kernel⟩
def w__law_is_less_q1 : WT :=
    (wTst (wOp roNe (wOp roIx (wVar 0) (wVar 3)) (wOp roIx (wVar 1) (wVar 3))))
def w__law_is_less_e1 : WE :=
    (wVar 3)
def w__law_is_less_t1 : WS :=
    (wSeq (wAsg (wFz (wLc [3] (wiR1 (wCons (wCB rcLen (wCons (wVar 0) wNil)) wNil)) (wgName 3) w__law_is_less_q1 w__law_is_less_e1)) (wgName 2))
      (wRet (wAndV (wOp roNe (wVar 2) (wFz wNil)) (wOp roLt (wOp roIx (wVar 0) (wOp roIx (wVar 2) (wC (.int 0)))) (wOp roIx (wVar 1) (wOp roIx (wVar 2) (wC (.int 0))))))))
def w__law_is_less : WS :=
    (wSeq (wIf (wTst (wOp roNe (wCB rcLen (wCons (wVar 0) wNil)) (wCB rcLen (wCons (wVar 1) wNil)))) (wRet (wOp roLt (wCB rcLen (wCons (wVar 0) wNil)) (wCB rcLen (wCons (wVar 1) wNil)))) wNext)
      w__law_is_less_t1)
theorem b__law_is_less (T : Txt K mg) {cdv : Value} {A : Around} {outer : List Env} {s : Shared} {H : Hp} {E : XK} (hr : RoomG 0 (A.deeper (envOfC "_law_is_less" (defScope s__law_is_less) s.heap.objs.size T.a__law_is_less cdv))) :
    DSs (cxOf CX0 P w K mg base N__law_is_less "_law_is_less" (defScope s__law_is_less) T.a__law_is_less cdv A outer s H E).nox (defBody s__law_is_less) w__law_is_less :=
    (dss_cons (ds_if (dt_cmp (od_ne hr.rm.units) (de_callB cd_len (by rfl) T.n_len bb_len (da_cons (dvar 0) da_nil)) (de_callB cd_len (by rfl) T.n_len bb_len (da_cons (dvar 1) da_nil)) (nomark _)) (dss_one (ds_ret (de_cmp od_lt (de_callB cd_len (by rfl) T.n_len bb_len (da_cons (dvar 0) da_nil)) (de_callB cd_len (by rfl) T.n_len bb_len (da_cons (dvar 1) da_nil)) (nomark _)))) dss_nil)
      (dss_cons (ds_setLc (i := 2) [("_law_k", 3)] rfl sc__law_is_less.nd rfl rfl (sw_true rfl rfl rfl (by decide +kernel)) (di_range1 (by rfl) T.n_range (da_cons (de_callB cd_len (by rfl) T.n_len bb_len (da_cons (dvar 0) da_nil)) da_nil)) (blkOk_by (own := [("_law_k", 3)]) (N := N__law_is_less) (sc := (defScope s__law_is_less)) (by decide +kernel)) (fun _ _ _ _ _ => (dg_name (i := 3) sc__law_is_less.nd rfl (by first | exact Or.inl rfl | exact Or.inr rfl))) (fun _ _ _ _ _ => (dts_one (dt_cmp (od_ne hr.rm.units) (de_ix ixd (dvar 0) (dvar 3) (fun _ _ => rfl)) (de_ix ixd (dvar 1) (dvar 3) (fun _ _ => rfl)) (nomark _)))) (fun _ _ _ _ _ => (dvar 3)))
      (dss_one (ds_ret (de_and (de_cmp (od_ne hr.rm.units) (dvar 2) (de_fz (del_lst da_nil)) (nomark _)) (de_one (de_cmp od_lt (de_ix ixd (dvar 0) (de_ix ixd (dvar 2) dint (fun _ _ => rfl)) (fun _ _ => rfl)) (de_ix ixd (dvar 1) (de_ix ixd (dvar 2) dint (fun _ _ => rfl)) (fun _ _ => rfl)) (nomark _))))))))
local macro_rules | `(tactic| walk_at "un._law_is_less") => `(tactic| (unfold w__law_is_less N__law_is_less; try unfold w__law_is_less_t1))
def sp__law_is_less : SpD := fun ds s P => ∃ g h, ds = [natsT g, natsT h] ∧ GOk g ∧ GOk h ∧ P (.bl (ltD (rankD g) (rankD h))) s
theorem len__law_is_less : ∀ ds s P, sp__law_is_less ds s P → ds.length = 2 := by
  rintro ds s P ⟨g, h, rfl, _⟩; rfl
theorem sem__law_is_less : ∀ ds s P, sp__law_is_less ds s P → w__law_is_less { nx := fun _ s' => P .non s', rt := P } (startD N__law_is_less ds) s := by
  rintro ds s P ⟨g, h, rfl, hg, hh, hP⟩
  walk_at "un._law_is_less"
  have g6 := hg.2.1
  have h6 := hh.2.1
  rw [ltD_is] at hP
  rw [show natsT g = D.tup (g.map natD) from rfl, show natsT h = D.tup (h.map natD) from rfl]
  walk_at "ev"
  rw [List.length_map, List.length_map]
  by_cases e : g.length = h.length
  · have e2 : (g.length : Int) = (h.length : Int) := by omega
    rw [if_pos e] at hP
    simp only [e2, decide_true, Bool.not_true]
    walk_at "ev"
    refine ⟨by omega, by rw [rngD_length, sizeLine_eq]; omega, ?_⟩
    rw [Int.toNat_natCast]
    have er : rngD 0 h.length = (List.range h.length).map natD := by
      have := rngD_map (lo := 0) (n := h.length) id
      rw [List.map_id] at this
      rw [this]
      refine List.map_congr_left fun i _ => ?_
      rw [Int.zero_add]; rfl
    have ga : ∀ k, k < g.length → atI (g.map natD) (k : Int) = some (natD (g.getD k 0)) := fun k hk => by
      rw [atD_nat, List.getElem?_map, List.getD_eq_getElem?_getD, List.getElem?_eq_getElem hk]; rfl
    have ha : ∀ k, k < h.length → atI (h.map natD) (k : Int) = some (natD (h.getD k 0)) := fun k hk => by
      rw [atD_nat, List.getElem?_map, List.getD_eq_getElem?_getD, List.getElem?_eq_getElem hk]; rfl
    rw [er]
    refine lcW_sel (p := fun k => decide (g.getD k 0 ≠ h.getD k 0)) (f := natD) (fun k hk R0 R1 r0 r1 => ?_) ?_
    · have hk := List.mem_range.mp hk
      unfold w__law_is_less_q1 w__law_is_less_e1
      walk_at "ev"
      rw [ga k (by omega), ha k hk]
      walk_at "ev"
      rw [dec_nat]
      by_cases e3 : g.getD k 0 = h.getD k 0
      · simp only [e3, decide_true, Bool.not_true, ne_eq, not_true_eq_false, decide_false] at r0 ⊢
        exact r0 trivial
      · simp only [e3, decide_false, Bool.not_false, ne_eq, not_false_eq_true, decide_true] at r1 ⊢
        exact r1 trivial
    · rw [show ((List.range h.length).filter fun k => decide (g.getD k 0 ≠ h.getD k 0)) = diffs g h by unfold diffs; rw [e]]
      refine (roNe_emp rfl (allData_it same_nat.data _)).mpr ?_
      cases ed : diffs g h with
      | nil =>
        rw [ed] at hP
        exact hP
      | cons k r =>
        rw [ed] at hP
        have hk : k < g.length := mem_diffs (h := h) (by rw [ed]; exact List.mem_cons_self)
        have a0 : atI ((k :: r).map natD) 0 = some (natD k) := by rw [List.map_cons]; exact atI_z _ _
        have i0 : (!((k :: r).map natD).isEmpty) = true := rfl
        rw [i0, a0]
        simp only [natD, ga k hk, ha k (by omega)]
        rw [show decide (((g.getD k 0 : Nat) : Int) < ((h.getD k 0 : Nat) : Int)) = decide (g.getD k 0 < h.getD k 0) from decide_eq_decide.mpr (by omega)]
        exact hP
  · have e2 : ¬ (g.length : Int) = (h.length : Int) := by omega
    rw [if_neg e] at hP
    simp only [e2, decide_false, Bool.not_false]
    rw [show decide ((g.length : Int) < (h.length : Int)) = decide (g.length < h.length) from decide_eq_decide.mpr (by omega)]
    exact hP

theorem fn__law_is_less (T : Txt K mg) : FnD P w K mg base 1 T.a__law_is_less T.fd__law_is_less ["_law_left", "_law_right"] sp__law_is_less :=
  fnD_of T.F__law_is_less sc__law_is_less len__law_is_less (fun cdv A outer s H E hr => b__law_is_less T hr) sem__law_is_less
/-! #### _law_order_right -/
theorem bi__law_order_right (T : Txt K mg) : Binds K T.fd__law_order_right ["_law_parts"] [] := T.F__law_order_right.binds fun _ _ _ _ _ _ us hl => match us, hl with | [_], _ => rfl
def N__law_order_right : List Str := ["_law_parts", "_law_left", "_law_right", "_law_due"]
theorem sc__law_order_right : FnScope N__law_order_right ["_law_parts"] (defScope s__law_order_right) := ⟨rfl, rfl, rfl, by decide +kernel, rfl, by decide +kernel, by decide +kernel⟩
def w__law_order_right_b1 : WS :=
    (wSeq (wAsg (wCB rcRepr (wCons (wCall sp__law_is_less (wCons (wVar 1) (wCons (wVar 2) wNil))) wNil)) (wgName 3))
      (wIf (wOr (wTst (wOp roNe (wCB rcRepr (wCons (wCall sp_comes_before (wCons (wVar 1) (wCons (wVar 2) wNil))) wNil)) (wVar 3))) (wTst (wOp roNe (wCB rcRepr (wCons (wCallK sp_comes_before kd_comes_before_0 wNil (wCons (wVar 2) (wCons (wVar 1) wNil))) wNil)) (wVar 3)))) (wRet (wC (.bl false))) wNext))
def w__law_order_right_b2 : WS :=
    (wFor (wiSeq (wVar 0)) (wgName 2) w__law_order_right_b1)
def w__law_order_right : WS :=
    (wSeq (wFor (wiSeq (wVar 0)) (wgName 1) w__law_order_right_b2)
      (wRet (wC (.bl true))))
theorem b__law_order_right (T : Txt K mg) {cdv : Value} {A : Around} {outer : List Env} {s : Shared} {H : Hp} {E : XK} (hr : RoomG 2 (A.deeper (envOfC "_law_order_right" (defScope s__law_order_right) s.heap.objs.size T.a__law_order_right cdv))) :
    DSs (cxOf CX0 P w K mg base N__law_order_right "_law_order_right" (defScope s__law_order_right) T.a__law_order_right cdv A outer s H E).nox (defBody s__law_order_right) w__law_order_right :=
    (dss_cons (ds_for PassesOwn.never rfl (di_seq (dvar 0)) (dg_name (i := 1) sc__law_order_right.nd rfl (by first | exact Or.inl rfl | exact Or.inr rfl)) (dss_one (ds_for PassesOwn.never rfl (di_seq (dvar 0)) (dg_name (i := 2) sc__law_order_right.nd rfl (by first | exact Or.inl rfl | exact Or.inr rfl)) (dss_cons (ds_set (i := 3) sc__law_order_right.nd rfl (by first | exact Or.inl rfl | exact Or.inr rfl) (de_callB (cd_repr hr.gd hr.rm.units) (by rfl) T.n_repr bb_repr (da_cons (de_call (fn__law_is_less T) (hr.mono (by decide)) (by rfl) T.m__law_is_less T.F__law_is_less.kp (bi__law_is_less T) (da_cons (dvar 1) (da_cons (dvar 2) da_nil))) da_nil)))
      (dss_one (ds_if (PW.pt (dw_or (dt_cmp (od_ne hr.rm.units) (de_callB (cd_repr hr.gd hr.rm.units) (by rfl) T.n_repr bb_repr (da_cons (de_call (fn_comes_before T) (hr.mono (by decide)) (by rfl) T.m_comes_before T.F_comes_before.kp (bi_comes_before T) (da_cons (dvar 1) (da_cons (dvar 2) da_nil))) da_nil)) (dvar 3) (nomark _)) (dw_or1 (dt_cmp (od_ne hr.rm.units) (de_callB (cd_repr hr.gd hr.rm.units) (by rfl) T.n_repr bb_repr (da_cons (de_callK0 (fn_comes_before T) (hr.mono (by decide)) (by rfl) T.m_comes_before T.F_comes_before.kp (kb_comes_before_0 T) kr_mk (dk_cons (dvar 2) (dk_cons (dvar 1) dk_nil))) da_nil)) (dvar 3) (nomark _))))) (dss_one (ds_ret dbl)) dss_nil))))))
      (dss_one (ds_ret dbl)))
local macro_rules | `(tactic| walk_at "un._law_order_right") => `(tactic| (unfold w__law_order_right N__law_order_right))
def sp__law_order_right : SpD := fun ds s P => ∃ gs : List (List Nat), ds = [.lst (gs.map natsT)] ∧ gs.length ≤ 80 ∧ (∀ h ∈ gs, GOk h) ∧ P (.bl true) s
theorem len__law_order_right : ∀ ds s P, sp__law_order_right ds s P → ds.length = 1 := by
  rintro ds s P ⟨gs, rfl, _⟩; rfl
theorem sem__law_order_right : ∀ ds s P, sp__law_order_right ds s P → w__law_order_right { nx := fun _ s' => P .non s', rt := P } (startD N__law_order_right ds) s := by
  rintro ds s P ⟨gs, rfl, hl, hG, h⟩
  walk_at "un._law_order_right"
  walk_at "ev"
  refine loopW_inv (I := fun r δ s2 => s2 = s ∧ (∀ g ∈ r, g ∈ gs) ∧ ∃ d1 d2 d3 : Option D, δ = [some (.lst (gs.map natsT)), d1, d2, d3]) ?_ ?_ ⟨rfl, fun _ h => h, none, none, none, rfl⟩
  · rintro g r δ s2 ⟨rfl, hr, d1, d2, d3, rfl⟩ N hN
    unfold w__law_order_right_b2
    walk_at "ev"
    refine loopW_inv (I := fun r2 δ s3 => s3 = s2 ∧ (∀ g ∈ r2, g ∈ gs) ∧ ∃ d2 d3 : Option D, δ = [some (.lst (gs.map natsT)), some (natsT g), d2, d3]) ?_ ?_ ⟨rfl, fun _ h => h, d2, d3, rfl⟩
    · rintro g2 r2 δ s3 ⟨rfl, hr2, d2, d3, rfl⟩ N2 hN2
      have hg := hG g (hr g List.mem_cons_self)
      have hg2 := hG g2 (hr2 g2 List.mem_cons_self)
      unfold w__law_order_right_b1
      walk_at "ev"
      refine ⟨g, g2, rfl, hg, hg2, ?_⟩
      have hb : Fit 6 6 1 (.bl (ltD (rankD g) (rankD g2))) := leaf_fit (by unfold Leaf; trivial) 1
      refine repr_fit hb (by decide) (by decide) (by rw [sizeLine_eq]; decide) ?_
      refine ⟨g, g2, rfl, ?_⟩
      refine repr_fit hb (by decide) (by decide) (by rw [sizeLine_eq]; decide) ?_
      rw [roNe_ss]
      simp only [decide_true, Bool.not_true]
      refine ⟨g, g2, rfl, ?_⟩
      refine repr_fit hb (by decide) (by decide) (by rw [sizeLine_eq]; decide) ?_
      rw [roNe_ss]
      simp only [decide_true, Bool.not_true]
      exact hN2 _ _ ⟨rfl, fun x hx => hr2 x (List.mem_cons_of_mem _ hx), _, _, rfl⟩
    · rintro δ s3 ⟨rfl, _, d2, d3, rfl⟩
      exact hN _ _ ⟨rfl, fun x hx => hr x (List.mem_cons_of_mem _ hx), _, _, _, rfl⟩
  · rintro δ s2 ⟨rfl, _, d1, d2, d3, rfl⟩
    walk_at "ev"
    exact h

theorem fn__law_order_right (T : Txt K mg) : FnD P w K mg base 3 T.a__law_order_right T.fd__law_order_right ["_law_parts"] sp__law_order_right :=
  fnD_of T.F__law_order_right sc__law_order_right len__law_order_right (fun cdv A outer s H E hr => b__law_order_right T hr) sem__law_order_right
/-! #### law -/
theorem bi_law (T : Txt K mg) : Binds K T.fd_law ["_law_script"] [] := T.F_law.binds fun _ _ _ _ _ _ us hl => match us, hl with | [_], _ => rfl
def N_law : List Str := ["_law_script", "_law_deck_here", "_law_turn", "_law_count", "_law_names_here", "_law_columns", "_law_asked", "_law_groups_here", "_law_alias", "_law_bunch", "_law_due"]
theorem sc_law : FnScope N_law ["_law_script"] (defScope s_law) := ⟨rfl, rfl, rfl, by decide +kernel, rfl, by decide +kernel, by decide +kernel⟩
def w_law_e1 : WE :=
    (wTup (wCons (wVar 8) wNil))
def w_law_b1 : WS :=
    (wSeq (wAsg (wCB rcRepr (wCons (wCall sp__law_parted (wCons (wVar 9) (wCons (wVar 7) wNil))) wNil)) (wgName 10))
      (wIf (wOr (wTst (wOp roNe (wCB rcRepr (wCons (wCall sp_pairs_of (wCons (wVar 6) (wCons (wVar 9) wNil))) wNil)) (wVar 10))) (wTst (wOp roNe (wCB rcRepr (wCons (wCallK sp_pairs_of kd_pairs_of_0 wNil (wCons (wVar 9) (wCons (wVar 6) wNil))) wNil)) (wVar 10)))) (wRet (wC (.bl false))) wNext))
def w_law_t1 : WS :=
    (wIf (wTst (wOp roNe (wCB rcRepr (wCons (wCall sp_pairs_of (wCons (wVar 6) (wCons (wOp roIx (wVar 7) (wNeg (wC (.int 1)))) wNil))) wNil)) (wCB rcRepr (wCons (wCall sp__law_parted (wCons (wOp roIx (wVar 7) (wNeg (wC (.int 1)))) (wCons (wVar 7) wNil))) wNil)))) (wRet (wC (.bl false))) wNext)
def w_law_t2 : WS :=
    (wSeq (wFor (wiSeq (wVar 7)) (wgName 9) w_law_b1)
      w_law_t1)
def w_law_b2 : WS :=
    (wSeq (wAsg (wOp roIx (wFz (wCons (wC (.int 2)) (wCons (wC (.int 3)) (wCons (wC (.int 4)) (wCons (wC (.int 4)) (wCons (wC (.int 5)) (wCons (wC (.int 5)) (wCons (wC (.int 6)) (wCons (wC (.int 6)) wNil))))))))) (wCall sp__law_draw (wCons (wVar 1) (wCons (wC (.int 8)) wNil)))) (wgName 3))
      (wSeq (wPar 4 5 (wCons (wCall sp__law_names (wCons (wVar 1) (wCons (wC (.int 12)) wNil))) (wCons (wCall sp__law_names (wCons (wVar 1) (wCons (wOp roAdd (wC (.int 1)) (wCall sp__law_draw (wCons (wVar 1) (wCons (wC (.int 4)) wNil)))) wNil))) wNil)))
      (wSeq (wAsg (wCall sp__law_question (wCons (wVar 1) (wCons (wVar 4) (wCons (wVar 5) (wCons (wVar 3) (wCons (wFz (wCons (wC (.int 0)) (wCons (wC (.int 1)) wNil))) wNil)))))) (wgName 6))
      (wSeq (wAsg (wCall sp__law_groups (wCons (wVar 3) (wCons (wCall sp__law_members (wCons (wVar 6) (wCons (wCall sp__law_classes (wCons (wVar 6) wNil)) wNil))) wNil))) (wgName 7))
      (wSeq (wIf (wNot (wTru (wCall sp__law_order_right (wCons (wOp roAdd (wFz (wLc [8] (wiR1 (wCons (wVar 3) wNil)) (wgName 8) wYes w_law_e1)) (wVar 7)) wNil)))) (wRet (wC (.bl false))) wNext)
      w_law_t2)))))
def w_law : WS :=
    (wSeq (wAsg (wCall sp__law_deck (wCons (wVar 0) wNil)) (wgName 1))
      (wSeq (wFor (wiR1 (wCons (wC (.int 2)) wNil)) (wgName 2) w_law_b2)
      (wRet (wC (.bl true)))))
theorem b_law (T : Txt K mg) {cdv : Value} {A : Around} {outer : List Env} {s : Shared} {H : Hp} {E : XK} (hr : RoomG 5 (A.deeper (envOfC "law" (defScope s_law) s.heap.objs.size T.a_law cdv))) :
    DSs (cxOf CX0 P w K mg base N_law "law" (defScope s_law) T.a_law cdv A outer s H E).nox (defBody s_law) w_law :=
    (dss_cons (ds_set (i := 1) sc_law.nd rfl (by first | exact Or.inl rfl | exact Or.inr rfl) (de_call (fn__law_deck T) (hr.mono (by decide)) (by rfl) T.m__law_deck T.F__law_deck.kp (bi__law_deck T) (da_cons (dvar 0) da_nil)))
      (dss_cons (ds_for PassesOwn.never rfl (di_range1 (by rfl) T.n_range (da_cons dint da_nil)) (dg_name (i := 2) sc_law.nd rfl (by first | exact Or.inl rfl | exact Or.inr rfl)) (dss_cons (ds_set (i := 3) sc_law.nd rfl (by first | exact Or.inl rfl | exact Or.inr rfl) (de_ix ixd (de_fz (del_lst (da_cons dint (da_cons dint (da_cons dint (da_cons dint (da_cons dint (da_cons dint (da_cons dint (da_cons dint da_nil)))))))))) (de_call (fn__law_draw T) (hr.mono (by decide)) (by rfl) T.m__law_draw T.F__law_draw.kp (bi__law_draw T) (da_cons (dvar 1) (da_cons dint da_nil))) (fun _ _ => rfl)))
      (dss_cons (ds_par (i := 4) (j := 5) rfl sc_law.nd rfl rfl (by decide) rfl rfl (da_cons (de_call (fn__law_names T) (hr.mono (by decide)) (by rfl) T.m__law_names T.F__law_names.kp (bi__law_names T) (da_cons (dvar 1) (da_cons dint da_nil))) (da_cons (de_call (fn__law_names T) (hr.mono (by decide)) (by rfl) T.m__law_names T.F__law_names.kp (bi__law_names T) (da_cons (dvar 1) (da_cons (de_op od_add dint (de_call (fn__law_draw T) (hr.mono (by decide)) (by rfl) T.m__law_draw T.F__law_draw.kp (bi__law_draw T) (da_cons (dvar 1) (da_cons dint da_nil)))) da_nil))) da_nil)) (by rfl))
      (dss_cons (ds_set (i := 6) sc_law.nd rfl (by first | exact Or.inl rfl | exact Or.inr rfl) (de_call (fn__law_question T) (hr.mono (by decide)) (by rfl) T.m__law_question T.F__law_question.kp (bi__law_question T) (da_cons (dvar 1) (da_cons (dvar 4) (da_cons (dvar 5) (da_cons (dvar 3) (da_cons (de_fz (del_lst (da_cons dint (da_cons dint da_nil)))) da_nil)))))))
      (dss_cons (ds_set (i := 7) sc_law.nd rfl (by first | exact Or.inl rfl | exact Or.inr rfl) (de_call (fn__law_groups T) (hr.mono (by decide)) (by rfl) T.m__law_groups T.F__law_groups.kp (bi__law_groups T) (da_cons (dvar 3) (da_cons (de_call (fn__law_members T) (hr.mono (by decide)) (by rfl) T.m__law_members T.F__law_members.kp (bi__law_members T) (da_cons (dvar 6) (da_cons (de_call (fn__law_classes T) (hr.mono (by decide)) (by rfl) T.m__law_classes T.F__law_classes.kp (bi__law_classes T) (da_cons (dvar 6) da_nil)) da_nil))) da_nil))))
      (dss_cons (ds_if (dt_not (dt_truth (de_call (fn__law_order_right T) (hr.mono (by decide)) (by rfl) T.m__law_order_right T.F__law_order_right.kp (bi__law_order_right T) (da_cons (de_op od_add (de_fz (del_lc [("_law_alias", 8)] rfl sc_law.nd (di_range1 (by rfl) T.n_range (da_cons (dvar 3) da_nil)) (blkOk_by (own := [("_law_alias", 8)]) (N := N_law) (sc := (defScope s_law)) (by decide +kernel)) (fun _ _ _ _ _ => (dg_name (i := 8) sc_law.nd rfl (by first | exact Or.inl rfl | exact Or.inr rfl))) (fun _ _ _ _ _ => dts_nil) (fun _ _ _ _ _ => (de_tup (da_cons (dvar 8) da_nil))))) (dvar 7)) da_nil)))) (dss_one (ds_ret dbl)) dss_nil)
      (dss_cons (ds_for PassesOwn.never rfl (di_seq (dvar 7)) (dg_name (i := 9) sc_law.nd rfl (by first | exact Or.inl rfl | exact Or.inr rfl)) (dss_cons (ds_set (i := 10) sc_law.nd rfl (by first | exact Or.inl rfl | exact Or.inr rfl) (de_callB (cd_repr hr.gd hr.rm.units) (by rfl) T.n_repr bb_repr (da_cons (de_call (fn__law_parted T) (hr.mono (by decide)) (by rfl) T.m__law_parted T.F__law_parted.kp (bi__law_parted T) (da_cons (dvar 9) (da_cons (dvar 7) da_nil))) da_nil)))
      (dss_one (ds_if (PW.pt (dw_or (dt_cmp (od_ne hr.rm.units) (de_callB (cd_repr hr.gd hr.rm.units) (by rfl) T.n_repr bb_repr (da_cons (de_call (fn_pairs_of T) (hr.mono (by decide)) (by rfl) T.m_pairs_of T.F_pairs_of.kp (bi_pairs_of T) (da_cons (dvar 6) (da_cons (dvar 9) da_nil))) da_nil)) (dvar 10) (nomark _)) (dw_or1 (dt_cmp (od_ne hr.rm.units) (de_callB (cd_repr hr.gd hr.rm.units) (by rfl) T.n_repr bb_repr (da_cons (de_callK0 (fn_pairs_of T) (hr.mono (by decide)) (by rfl) T.m_pairs_of T.F_pairs_of.kp (kb_pairs_of_0 T) kr_mk (dk_cons (dvar 9) (dk_cons (dvar 6) dk_nil))) da_nil)) (dvar 10) (nomark _))))) (dss_one (ds_ret dbl)) dss_nil))))
      (dss_one (ds_if (dt_cmp (od_ne hr.rm.units) (de_callB (cd_repr hr.gd hr.rm.units) (by rfl) T.n_repr bb_repr (da_cons (de_call (fn_pairs_of T) (hr.mono (by decide)) (by rfl) T.m_pairs_of T.F_pairs_of.kp (bi_pairs_of T) (da_cons (dvar 6) (da_cons (de_ix ixd (dvar 7) (de_neg dint) (fun _ _ => rfl)) da_nil))) da_nil)) (de_callB (cd_repr hr.gd hr.rm.units) (by rfl) T.n_repr bb_repr (da_cons (de_call (fn__law_parted T) (hr.mono (by decide)) (by rfl) T.m__law_parted T.F__law_parted.kp (bi__law_parted T) (da_cons (de_ix ixd (dvar 7) (de_neg dint) (fun _ _ => rfl)) (da_cons (dvar 7) da_nil))) da_nil)) (nomark _)) (dss_one (ds_ret dbl)) dss_nil)))))))))
      (dss_one (ds_ret dbl))))
local macro_rules | `(tactic| walk_at "un.law") => `(tactic| (unfold w_law N_law; try unfold w_law_t2; try unfold w_law_t1))
def sp_law : SpD := spLaw
theorem len_law : ∀ ds s P, sp_law ds s P → ds.length = 1 := by
  rintro ds s P ⟨ns, rfl, _⟩; rfl
theorem sem_law : ∀ ds s P, sp_law ds s P → w_law { nx := fun _ s' => P .non s', rt := P } (startD N_law ds) s := by
  rintro ds s P ⟨ns, rfl, hl, hd, hM, h⟩
  walk_at "un.law"
  walk_at "ev"
  refine ⟨ns, rfl, hl, hd, fun a => ?_⟩
  walk_at "ev"
  refine ⟨by decide, ?_⟩
  rw [show Int.toNat 2 = 2 from rfl]
  refine loopW_rng (I := fun i δ s2 => ∃ (m : Nat) (d2 d3 d4 d5 d6 d7 d9 d10 : Option D), s2 = s.fuel a m ∧ δ = [some (.lsk (ns.map .int)), some (.ref a), d2, d3, d4, d5, d6, d7, none, d9, d10] ∧ 1000 * (2 - i) ≤ m) ?_ ?_ ⟨deckMax, _, _, _, _, _, _, _, _, rfl, rfl, by decide⟩
  · rintro i δ _ hi ⟨m, d2, d3, d4, d5, d6, d7, d9, d10, rfl, rfl, hm⟩ N hN
    unfold w_law_b2
    walk_at "ev"
    refine drawF ⟨by omega, by decide, by decide, fun r r0 r1 => ?_⟩
    obtain ⟨n, n2, n6, en⟩ : ∃ n : Nat, 2 ≤ n ∧ n ≤ 6 ∧ atI [D.int 2, D.int 3, D.int 4, D.int 4, D.int 5, D.int 5, D.int 6, D.int 6] r = some (.int (n : Int)) := by
      have : r = 0 ∨ r = 1 ∨ r = 2 ∨ r = 3 ∨ r = 4 ∨ r = 5 ∨ r = 6 ∨ r = 7 := by omega
      rcases this with rfl | rfl | rfl | rfl | rfl | rfl | rfl | rfl
      · exact ⟨2, by omega, by omega, rfl⟩
      · exact ⟨3, by omega, by omega, rfl⟩
      · exact ⟨4, by omega, by omega, rfl⟩
      · exact ⟨4, by omega, by omega, rfl⟩
      · exact ⟨5, by omega, by omega, rfl⟩
      · exact ⟨5, by omega, by omega, rfl⟩
      · exact ⟨6, by omega, by omega, rfl⟩
      · exact ⟨6, by omega, by omega, rfl⟩
    simp only [en]
    walk_at "ev"
    refine ⟨a, _, 12, rfl, rfl, by omega, by omega, fun ns2 m2 l1 l2 l3 l4 => ?_⟩
    refine drawF ⟨by omega, by decide, by decide, fun u u0 u1 => ?_⟩
    obtain ⟨u, rfl⟩ := Int.eq_ofNat_of_zero_le u0
    walk_at "ev"
    rw [show (1 : Int) + (u : Int) = ((1 + u : Nat) : Int) by omega]
    refine ⟨a, _, 1 + u, rfl, rfl, by omega, by omega, fun ys m3 y1 y2 y3 y4 => ?_⟩
    walk_at "ev"
    refine ⟨a, _, ns2, ys, n, [.int 0, .int 1], rfl, rfl, by omega, by omega, by omega, l1, l2, l3, fun z => by rw [z] at y1; simp at y1; omega, by omega, y3, by decide, ⟨.int 0, by simp, rfl⟩, fun x hx => ?_, fun q m4 hq ql ht hm4 => ?_⟩
    · simp only [List.mem_cons, List.not_mem_nil, or_false] at hx
      rcases hx with rfl | rfl
      · exact .inr (.inl ⟨0, rfl, by decide⟩)
      · exact .inr (.inl ⟨1, rfl, by decide⟩)
    subst ql
    walk_at "ev"
    refine ⟨q, rfl, hq, ?_⟩
    refine ⟨q, rfl, hq, ?_⟩
    refine ⟨q.src.length, memb q, rfl, hq.n6, memb_ok hq, ?_⟩
    have gl := grps_len (M := memb q) hq.n6
    have gok : ∀ g ∈ grps q.src.length (memb q), GOk g := fun g hg => (grps_ok hq.n6 g hg).1
    have gw := whole_grp hq ht n2
    have gp : ∀ g ∈ grps q.src.length (memb q), parted g (grps q.src.length (memb q)) = pairs (grps q.src.length (memb q)) g := fun g hg => grps_pairs hg
    generalize hgs : grps q.src.length (memb q) = gs at gl gok gw gp
    walk_at "ev"
    rw [Int.toNat_natCast]
    refine ⟨by omega, by rw [rngD_length, sizeLine_eq]; omega, lcW_rng (f := fun a => natsT [a]) (fun a ha R hR => ?_) ?_⟩
    · unfold w_law_e1
      walk_at "ev"
      rw [Int.zero_add]
      exact hR
    walk_at "ev"
    have ea : (List.range q.src.length).map (fun a => natsT [a]) ++ gs.map natsT = ((List.range q.src.length).map (fun a => [a]) ++ gs).map natsT := by rw [List.map_append, List.map_map]; rfl
    refine ⟨by rw [List.length_map, List.length_range, List.length_map, sizeLine_eq]; omega, ?_⟩
    rw [ea]
    refine ⟨_, rfl, by rw [List.length_append, List.length_map, List.length_range]; omega, fun g hg => ?_, ?_⟩
    · rcases List.mem_append.mp hg with hg | hg
      · obtain ⟨x, hx, rfl⟩ := List.mem_map.mp hg
        have := List.mem_range.mp hx
        exact ⟨List.pairwise_singleton _ _, by rw [List.length_singleton]; decide, fun i hi => by rw [List.mem_singleton] at hi; omega⟩
      · exact gok g hg
    simp only [Bool.not_true]
    unfold w_law_t2
    walk_at "ev"
    have bd : bnd 6 70 3 ≤ sizeLine := by rw [sizeLine_eq]; decide
    refine loopW_inv (I := fun r δ s2 => s2 = s.fuel a m4 ∧ (∀ g ∈ r, g ∈ gs) ∧ ∃ (d9 d10 : Option D), δ = [some (.lsk (ns.map .int)), some (.ref a), some (.int (0 + (i : Int))), some (natD q.src.length), some (.lst (ns2.map .str)), some (.lst (ys.map .str)), some (askD q), some (.lst (gs.map natsT)), none, d9, d10]) ?_ ?_ ⟨rfl, fun _ h => h, _, _, rfl⟩
    · rintro g r δ _ ⟨rfl, hr, d9, d10, rfl⟩ N2 hN2
      have hg := hr g List.mem_cons_self
      have pf := pairs_fit gok gl (gok g hg)
      unfold w_law_b1
      walk_at "ev"
      refine ⟨g, gs, rfl, gok g hg, gl, gok, ?_⟩
      rw [gp g hg]
      refine repr_fit pf (by decide) (by decide) bd ?_
      refine ⟨q, g, rfl, hq, gok g hg, ?_⟩
      rw [hgs]
      refine repr_fit pf (by decide) (by decide) bd ?_
      rw [roNe_ss]
      simp only [decide_true, Bool.not_true]
      refine ⟨q, g, rfl, hq, gok g hg, ?_⟩
      rw [hgs]
      refine repr_fit pf (by decide) (by decide) bd ?_
      rw [roNe_ss]
      simp only [decide_true, Bool.not_true]
      exact hN2 _ _ ⟨rfl, fun x hx => hr x (List.mem_cons_of_mem _ hx), _, _, rfl⟩
    · rintro δ _ ⟨rfl, hr, d9, d10, rfl⟩
      obtain ⟨x, hx, ex⟩ := atI_last (l := gs.map natsT) fun e => by
        rw [List.map_eq_nil_iff] at e
        rw [e] at gw; cases gw
      obtain ⟨g, hg, rfl⟩ := List.mem_map.mp hx
      have pf := pairs_fit gok gl (gok g hg)
      unfold w_law_t1
      walk_at "ev"
      rw [ex]
      simp only []
      refine ⟨q, g, rfl, hq, gok g hg, ?_⟩
      rw [hgs]
      refine repr_fit pf (by decide) (by decide) bd ?_
      refine ⟨g, gs, rfl, gok g hg, gl, gok, ?_⟩
      rw [gp g hg]
      refine repr_fit pf (by decide) (by decide) bd ?_
      rw [roNe_ss]
      simp only [decide_true, Bool.not_true]
      exact hN _ _ ⟨m4, _, _, _, _, _, _, _, _, rfl, rfl, by omega⟩
  · rintro δ _ ⟨m, d2, d3, d4, d5, d6, d7, d9, d10, rfl, rfl, hm⟩
    exact h _


theorem fn_law (T : Txt K mg) : FnD P w K mg base 6 T.a_law T.fd_law ["_law_script"] sp_law :=
  fnD_of T.F_law sc_law len_law (fun cdv A outer s H E hr => b_law T hr) sem_law
end
theorem all_mk {l : PySem.W.OpenLaw} {w : World} {K : PySem.W.Frag} {h : Heap} {mg : Str → Option Value} {fa : Addr} (X : K.In h) (G : h.Ns mainGlobals mg) (hfa : mg "law" = some (.ref fa))
    {f_alias_numbers : Addr} {oc_alias_numbers kV_alias_numbers dc_alias_numbers pm_alias_numbers cd_alias_numbers ct_alias_numbers : Value} {od_alias_numbers an_alias_numbers : Option Addr} {sl_alias_numbers : Array (Option Value)}
    {f_with_equality : Addr} {oc_with_equality kV_with_equality dc_with_equality pm_with_equality cd_with_equality ct_with_equality : Value} {od_with_equality an_with_equality : Option Addr} {sl_with_equality : Array (Option Value)}
    {f_join_classes : Addr} {oc_join_classes kV_join_classes dc_join_classes pm_join_classes cd_join_classes ct_join_classes : Value} {od_join_classes an_join_classes : Option Addr} {sl_join_classes : Array (Option Value)}
    {f_part_key : Addr} {oc_part_key kV_part_key dc_part_key pm_part_key cd_part_key ct_part_key : Value} {od_part_key an_part_key : Option Addr} {sl_part_key : Array (Option Value)}
    {f_comes_before : Addr} {oc_comes_before kV_comes_before dc_comes_before pm_comes_before cd_comes_before ct_comes_before : Value} {od_comes_before an_comes_before : Option Addr} {sl_comes_before : Array (Option Value)}
    {f_neighbours : Addr} {oc_neighbours kV_neighbours dc_neighbours pm_neighbours cd_neighbours ct_neighbours : Value} {od_neighbours an_neighbours : Option Addr} {sl_neighbours : Array (Option Value)}
    {f_extensions : Addr} {oc_extensions kV_extensions dc_extensions pm_extensions cd_extensions ct_extensions : Value} {od_extensions an_extensions : Option Addr} {sl_extensions : Array (Option Value)}
    {f_groups_of : Addr} {oc_groups_of kV_groups_of dc_groups_of pm_groups_of cd_groups_of ct_groups_of : Value} {od_groups_of an_groups_of : Option Addr} {sl_groups_of : Array (Option Value)}
    {f_is_within : Addr} {oc_is_within kV_is_within dc_is_within pm_is_within cd_is_within ct_is_within : Value} {od_is_within an_is_within : Option Addr} {sl_is_within : Array (Option Value)}
    {f_pairs_among : Addr} {oc_pairs_among kV_pairs_among dc_pairs_among pm_pairs_among cd_pairs_among ct_pairs_among : Value} {od_pairs_among an_pairs_among : Option Addr} {sl_pairs_among : Array (Option Value)}
    {f_pairs_of : Addr} {oc_pairs_of kV_pairs_of dc_pairs_of pm_pairs_of cd_pairs_of ct_pairs_of : Value} {od_pairs_of an_pairs_of : Option Addr} {sl_pairs_of : Array (Option Value)}
    {f__law_deck : Addr} {oc__law_deck kV__law_deck dc__law_deck pm__law_deck cd__law_deck ct__law_deck : Value} {od__law_deck an__law_deck : Option Addr} {sl__law_deck : Array (Option Value)}
    {f__law_draw : Addr} {oc__law_draw kV__law_draw dc__law_draw pm__law_draw cd__law_draw ct__law_draw : Value} {od__law_draw an__law_draw : Option Addr} {sl__law_draw : Array (Option Value)}
    {f__law_pick : Addr} {oc__law_pick kV__law_pick dc__law_pick pm__law_pick cd__law_pick ct__law_pick : Value} {od__law_pick an__law_pick : Option Addr} {sl__law_pick : Array (Option Value)}
    {f__law_names : Addr} {oc__law_names kV__law_names dc__law_names pm__law_names cd__law_names ct__law_names : Value} {od__law_names an__law_names : Option Addr} {sl__law_names : Array (Option Value)}
    {f__law_column : Addr} {oc__law_column kV__law_column dc__law_column pm__law_column cd__law_column ct__law_column : Value} {od__law_column an__law_column : Option Addr} {sl__law_column : Array (Option Value)}
    {f__law_filter : Addr} {oc__law_filter kV__law_filter dc__law_filter pm__law_filter cd__law_filter ct__law_filter : Value} {od__law_filter an__law_filter : Option Addr} {sl__law_filter : Array (Option Value)}
    {f__law_question : Addr} {oc__law_question kV__law_question dc__law_question pm__law_question cd__law_question ct__law_question : Value} {od__law_question an__law_question : Option Addr} {sl__law_question : Array (Option Value)}
    {f__law_classes : Addr} {oc__law_classes kV__law_classes dc__law_classes pm__law_classes cd__law_classes ct__law_classes : Value} {od__law_classes an__law_classes : Option Addr} {sl__law_classes : Array (Option Value)}
    {f__law_members : Addr} {oc__law_members kV__law_members dc__law_members pm__law_members cd__law_members ct__law_members : Value} {od__law_members an__law_members : Option Addr} {sl__law_members : Array (Option Value)}
    {f__law_rank : Addr} {oc__law_rank kV__law_rank dc__law_rank pm__law_rank cd__law_rank ct__law_rank : Value} {od__law_rank an__law_rank : Option Addr} {sl__law_rank : Array (Option Value)}
    {f__law_is_linked : Addr} {oc__law_is_linked kV__law_is_linked dc__law_is_linked pm__law_is_linked cd__law_is_linked ct__law_is_linked : Value} {od__law_is_linked an__law_is_linked : Option Addr} {sl__law_is_linked : Array (Option Value)}
    {f__law_groups : Addr} {oc__law_groups kV__law_groups dc__law_groups pm__law_groups cd__law_groups ct__law_groups : Value} {od__law_groups an__law_groups : Option Addr} {sl__law_groups : Array (Option Value)}
    {f__law_parted : Addr} {oc__law_parted kV__law_parted dc__law_parted pm__law_parted cd__law_parted ct__law_parted : Value} {od__law_parted an__law_parted : Option Addr} {sl__law_parted : Array (Option Value)}
    {f__law_is_less : Addr} {oc__law_is_less kV__law_is_less dc__law_is_less pm__law_is_less cd__law_is_less ct__law_is_less : Value} {od__law_is_less an__law_is_less : Option Addr} {sl__law_is_less : Array (Option Value)}
    {f__law_order_right : Addr} {oc__law_order_right kV__law_order_right dc__law_order_right pm__law_order_right cd__law_order_right ct__law_order_right : Value} {od__law_order_right an__law_order_right : Option Addr} {sl__law_order_right : Array (Option Value)}
    {f_law : Addr} {oc_law kV_law dc_law pm_law cd_law ct_law : Value} {od_law an_law : Option Addr} {sl_law : Array (Option Value)}
    (a_alias_numbers : PySem.W.nsIn K mainGlobals "alias_numbers" = some (some (.ref f_alias_numbers)))
    (l_alias_numbers : K.lookup f_alias_numbers = some ⟨oc_alias_numbers, od_alias_numbers, .func (PySem.W.fnOf "alias_numbers" "alias_numbers" (defArgs s_alias_numbers) (defBody s_alias_numbers) (defScope s_alias_numbers) .none kV_alias_numbers dc_alias_numbers pm_alias_numbers an_alias_numbers cd_alias_numbers ct_alias_numbers), sl_alias_numbers⟩)
    (c_alias_numbers : PySem.W.codeIn K cd_alias_numbers "alias_numbers" = true)
    (k_alias_numbers : PySem.W.keepIn K (.ref f_alias_numbers) = true)
    (a_with_equality : PySem.W.nsIn K mainGlobals "with_equality" = some (some (.ref f_with_equality)))
    (l_with_equality : K.lookup f_with_equality = some ⟨oc_with_equality, od_with_equality, .func (PySem.W.fnOf "with_equality" "with_equality" (defArgs s_with_equality) (defBody s_with_equality) (defScope s_with_equality) .none kV_with_equality dc_with_equality pm_with_equality an_with_equality cd_with_equality ct_with_equality), sl_with_equality⟩)
    (c_with_equality : PySem.W.codeIn K cd_with_equality "with_equality" = true)
    (k_with_equality : PySem.W.keepIn K (.ref f_with_equality) = true)
    (a_join_classes : PySem.W.nsIn K mainGlobals "join_classes" = some (some (.ref f_join_classes)))
    (l_join_classes : K.lookup f_join_classes = some ⟨oc_join_classes, od_join_classes, .func (PySem.W.fnOf "join_classes" "join_classes" (defArgs s_join_classes) (defBody s_join_classes) (defScope s_join_classes) .none kV_join_classes dc_join_classes pm_join_classes an_join_classes cd_join_classes ct_join_classes), sl_join_classes⟩)
    (c_join_classes : PySem.W.codeIn K cd_join_classes "join_classes" = true)
    (k_join_classes : PySem.W.keepIn K (.ref f_join_classes) = true)
    (a_part_key : PySem.W.nsIn K mainGlobals "part_key" = some (some (.ref f_part_key)))
    (l_part_key : K.lookup f_part_key = some ⟨oc_part_key, od_part_key, .func (PySem.W.fnOf "part_key" "part_key" (defArgs s_part_key) (defBody s_part_key) (defScope s_part_key) .none kV_part_key dc_part_key pm_part_key an_part_key cd_part_key ct_part_key), sl_part_key⟩)
    (c_part_key : PySem.W.codeIn K cd_part_key "part_key" = true)
    (k_part_key : PySem.W.keepIn K (.ref f_part_key) = true)
    (a_comes_before : PySem.W.nsIn K mainGlobals "comes_before" = some (some (.ref f_comes_before)))
    (l_comes_before : K.lookup f_comes_before = some ⟨oc_comes_before, od_comes_before, .func (PySem.W.fnOf "comes_before" "comes_before" (defArgs s_comes_before) (defBody s_comes_before) (defScope s_comes_before) .none kV_comes_before dc_comes_before pm_comes_before an_comes_before cd_comes_before ct_comes_before), sl_comes_before⟩)
    (c_comes_before : PySem.W.codeIn K cd_comes_before "comes_before" = true)
    (k_comes_before : PySem.W.keepIn K (.ref f_comes_before) = true)
    (a_neighbours : PySem.W.nsIn K mainGlobals "neighbours" = some (some (.ref f_neighbours)))
    (l_neighbours : K.lookup f_neighbours = some ⟨oc_neighbours, od_neighbours, .func (PySem.W.fnOf "neighbours" "neighbours" (defArgs s_neighbours) (defBody s_neighbours) (defScope s_neighbours) .none kV_neighbours dc_neighbours pm_neighbours an_neighbours cd_neighbours ct_neighbours), sl_neighbours⟩)
    (c_neighbours : PySem.W.codeIn K cd_neighbours "neighbours" = true)
    (k_neighbours : PySem.W.keepIn K (.ref f_neighbours) = true)
    (a_extensions : PySem.W.nsIn K mainGlobals "extensions" = some (some (.ref f_extensions)))
    (l_extensions : K.lookup f_extensions = some ⟨oc_extensions, od_extensions, .func (PySem.W.fnOf "extensions" "extensions" (defArgs s_extensions) (defBody s_extensions) (defScope s_extensions) .none kV_extensions dc_extensions pm_extensions an_extensions cd_extensions ct_extensions), sl_extensions⟩)
    (c_extensions : PySem.W.codeIn K cd_extensions "extensions" = true)
    (k_extensions : PySem.W.keepIn K (.ref f_extensions) = true)
    (a_groups_of : PySem.W.nsIn K mainGlobals "groups_of" = some (some (.ref f_groups_of)))
    (l_groups_of : K.lookup f_groups_of = some ⟨oc_groups_of, od_groups_of, .func (PySem.W.fnOf "groups_of" "groups_of" (defArgs s_groups_of) (defBody s_groups_of) (defScope s_groups_of) .none kV_groups_of dc_groups_of pm_groups_of an_groups_of cd_groups_of ct_groups_of), sl_groups_of⟩)
    (c_groups_of : PySem.W.codeIn K cd_groups_of "groups_of" = true)
    (k_groups_of : PySem.W.keepIn K (.ref f_groups_of) = true)
    (a_is_within : PySem.W.nsIn K mainGlobals "is_within" = some (some (.ref f_is_within)))
    (l_is_within : K.lookup f_is_within = some ⟨oc_is_within, od_is_within, .func (PySem.W.fnOf "is_within" "is_within" (defArgs s_is_within) (defBody s_is_within) (defScope s_is_within) .none kV_is_within dc_is_within pm_is_within an_is_within cd_is_within ct_is_within), sl_is_within⟩)
    (c_is_within : PySem.W.codeIn K cd_is_within "is_within" = true)
    (k_is_within : PySem.W.keepIn K (.ref f_is_within) = true)
    (a_pairs_among : PySem.W.nsIn K mainGlobals "pairs_among" = some (some (.ref f_pairs_among)))
    (l_pairs_among : K.lookup f_pairs_among = some ⟨oc_pairs_among, od_pairs_among, .func (PySem.W.fnOf "pairs_among" "pairs_among" (defArgs s_pairs_among) (defBody s_pairs_among) (defScope s_pairs_among) .none kV_pairs_among dc_pairs_among pm_pairs_among an_pairs_among cd_pairs_among ct_pairs_among), sl_pairs_among⟩)
    (c_pairs_among : PySem.W.codeIn K cd_pairs_among "pairs_among" = true)
    (k_pairs_among : PySem.W.keepIn K (.ref f_pairs_among) = true)
    (a_pairs_of : PySem.W.nsIn K mainGlobals "pairs_of" = some (some (.ref f_pairs_of)))
    (l_pairs_of : K.lookup f_pairs_of = some ⟨oc_pairs_of, od_pairs_of, .func (PySem.W.fnOf "pairs_of" "pairs_of" (defArgs s_pairs_of) (defBody s_pairs_of) (defScope s_pairs_of) .none kV_pairs_of dc_pairs_of pm_pairs_of an_pairs_of cd_pairs_of ct_pairs_of), sl_pairs_of⟩)
    (c_pairs_of : PySem.W.codeIn K cd_pairs_of "pairs_of" = true)
    (k_pairs_of : PySem.W.keepIn K (.ref f_pairs_of) = true)
    (a__law_deck : PySem.W.nsIn K mainGlobals "_law_deck" = some (some (.ref f__law_deck)))
    (l__law_deck : K.lookup f__law_deck = some ⟨oc__law_deck, od__law_deck, .func (PySem.W.fnOf "_law_deck" "_law_deck" (defArgs s__law_deck) (defBody s__law_deck) (defScope s__law_deck) .none kV__law_deck dc__law_deck pm__law_deck an__law_deck cd__law_deck ct__law_deck), sl__law_deck⟩)
    (c__law_deck : PySem.W.codeIn K cd__law_deck "_law_deck" = true)
    (k__law_deck : PySem.W.keepIn K (.ref f__law_deck) = true)
    (a__law_draw : PySem.W.nsIn K mainGlobals "_law_draw" = some (some (.ref f__law_draw)))
    (l__law_draw : K.lookup f__law_draw = some ⟨oc__law_draw, od__law_draw, .func (PySem.W.fnOf "_law_draw" "_law_draw" (defArgs s__law_draw) (defBody s__law_draw) (defScope s__law_draw) .none kV__law_draw dc__law_draw pm__law_draw an__law_draw cd__law_draw ct__law_draw), sl__law_draw⟩)
    (c__law_draw : PySem.W.codeIn K cd__law_draw "_law_draw" = true)
    (k__law_draw : PySem.W.keepIn K (.ref f__law_draw) = true)
    (a__law_pick : PySem.W.nsIn K mainGlobals "_law_pick" = some (some (.ref f__law_pick)))
    (l__law_pick : K.lookup f__law_pick = some ⟨oc__law_pick, od__law_pick, .func (PySem.W.fnOf "_law_pick" "_law_pick" (defArgs s__law_pick) (defBody s__law_pick) (defScope s__law_pick) .none kV__law_pick dc__law_pick pm__law_pick an__law_pick cd__law_pick ct__law_pick), sl__law_pick⟩)
    (c__law_pick : PySem.W.codeIn K cd__law_pick "_law_pick" = true)
    (k__law_pick : PySem.W.keepIn K (.ref f__law_pick) = true)
    (a__law_names : PySem.W.nsIn K mainGlobals "_law_names" = some (some (.ref f__law_names)))
    (l__law_names : K.lookup f__law_names = some ⟨oc__law_names, od__law_names, .func (PySem.W.fnOf "_law_names" "_law_names" (defArgs s__law_names) (defBody s__law_names) (defScope s__law_names) .none kV__law_names dc__law_names pm__law_names an__law_names cd__law_names ct__law_names), sl__law_names⟩)
    (c__law_names : PySem.W.codeIn K cd__law_names "_law_names" = true)
    (k__law_names : PySem.W.keepIn K (.ref f__law_names) = true)
    (a__law_column : PySem.W.nsIn K mainGlobals "_law_column" = some (some (.ref f__law_column)))
    (l__law_column : K.lookup f__law_column = some ⟨oc__law_column, od__law_column, .func (PySem.W.fnOf "_law_column" "_law_column" (defArgs s__law_column) (defBody s__law_column) (defScope s__law_column) .none kV__law_column dc__law_column pm__law_column an__law_column cd__law_column ct__law_column), sl__law_column⟩)
    (c__law_column : PySem.W.codeIn K cd__law_column "_law_column" = true)
    (k__law_column : PySem.W.keepIn K (.ref f__law_column) = true)
    (a__law_filter : PySem.W.nsIn K mainGlobals "_law_filter" = some (some (.ref f__law_filter)))
    (l__law_filter : K.lookup f__law_filter = some ⟨oc__law_filter, od__law_filter, .func (PySem.W.fnOf "_law_filter" "_law_filter" (defArgs s__law_filter) (defBody s__law_filter) (defScope s__law_filter) .none kV__law_filter dc__law_filter pm__law_filter an__law_filter cd__law_filter ct__law_filter), sl__law_filter⟩)
    (c__law_filter : PySem.W.codeIn K cd__law_filter "_law_filter" = true)
    (k__law_filter : PySem.W.keepIn K (.ref f__law_filter) = true)
    (a__law_question : PySem.W.nsIn K mainGlobals "_law_question" = some (some (.ref f__law_question)))
    (l__law_question : K.lookup f__law_question = some ⟨oc__law_question, od__law_question, .func (PySem.W.fnOf "_law_question" "_law_question" (defArgs s__law_question) (defBody s__law_question) (defScope s__law_question) .none kV__law_question dc__law_question pm__law_question an__law_question cd__law_question ct__law_question), sl__law_question⟩)
    (c__law_question : PySem.W.codeIn K cd__law_question "_law_question" = true)
    (k__law_question : PySem.W.keepIn K (.ref f__law_question) = true)
    (a__law_classes : PySem.W.nsIn K mainGlobals "_law_classes" = some (some (.ref f__law_classes)))
    (l__law_classes : K.lookup f__law_classes = some ⟨oc__law_classes, od__law_classes, .func (PySem.W.fnOf "_law_classes" "_law_classes" (defArgs s__law_classes) (defBody s__law_classes) (defScope s__law_classes) .none kV__law_classes dc__law_classes pm__law_classes an__law_classes cd__law_classes ct__law_classes), sl__law_classes⟩)
    (c__law_classes : PySem.W.codeIn K cd__law_classes "_law_classes" = true)
    (k__law_classes : PySem.W.keepIn K (.ref f__law_classes) = true)
    (a__law_members : PySem.W.nsIn K mainGlobals "_law_members" = some (some (.ref f__law_members)))
    (l__law_members : K.lookup f__law_members = some ⟨oc__law_members, od__law_members, .func (PySem.W.fnOf "_law_members" "_law_members" (defArgs s__law_members) (defBody s__law_members) (defScope s__law_members) .none kV__law_members dc__law_members pm__law_members an__law_members cd__law_members ct__law_members), sl__law_members⟩)
    (c__law_members : PySem.W.codeIn K cd__law_members "_law_members" = true)
    (k__law_members : PySem.W.keepIn K (.ref f__law_members) = true)
    (a__law_rank : PySem.W.nsIn K mainGlobals "_law_rank" = some (some (.ref f__law_rank)))
    (l__law_rank : K.lookup f__law_rank = some ⟨oc__law_rank, od__law_rank, .func (PySem.W.fnOf "_law_rank" "_law_rank" (defArgs s__law_rank) (defBody s__law_rank) (defScope s__law_rank) .none kV__law_rank dc__law_rank pm__law_rank an__law_rank cd__law_rank ct__law_rank), sl__law_rank⟩)
    (c__law_rank : PySem.W.codeIn K cd__law_rank "_law_rank" = true)
    (k__law_rank : PySem.W.keepIn K (.ref f__law_rank) = true)
    (a__law_is_linked : PySem.W.nsIn K mainGlobals "_law_is_linked" = some (some (.ref f__law_is_linked)))
    (l__law_is_linked : K.lookup f__law_is_linked = some ⟨oc__law_is_linked, od__law_is_linked, .func (PySem.W.fnOf "_law_is_linked" "_law_is_linked" (defArgs s__law_is_linked) (defBody s__law_is_linked) (defScope s__law_is_linked) .none kV__law_is_linked dc__law_is_linked pm__law_is_linked an__law_is_linked cd__law_is_linked ct__law_is_linked), sl__law_is_linked⟩)
    (c__law_is_linked : PySem.W.codeIn K cd__law_is_linked "_law_is_linked" = true)
    (k__law_is_linked : PySem.W.keepIn K (.ref f__law_is_linked) = true)
    (a__law_groups : PySem.W.nsIn K mainGlobals "_law_groups" = some (some (.ref f__law_groups)))
    (l__law_groups : K.lookup f__law_groups = some ⟨oc__law_groups, od__law_groups, .func (PySem.W.fnOf "_law_groups" "_law_groups" (defArgs s__law_groups) (defBody s__law_groups) (defScope s__law_groups) .none kV__law_groups dc__law_groups pm__law_groups an__law_groups cd__law_groups ct__law_groups), sl__law_groups⟩)
    (c__law_groups : PySem.W.codeIn K cd__law_groups "_law_groups" = true)
    (k__law_groups : PySem.W.keepIn K (.ref f__law_groups) = true)
    (a__law_parted : PySem.W.nsIn K mainGlobals "_law_parted" = some (some (.ref f__law_parted)))
    (l__law_parted : K.lookup f__law_parted = some ⟨oc__law_parted, od__law_parted, .func (PySem.W.fnOf "_law_parted" "_law_parted" (defArgs s__law_parted) (defBody s__law_parted) (defScope s__law_parted) .none kV__law_parted dc__law_parted pm__law_parted an__law_parted cd__law_parted ct__law_parted), sl__law_parted⟩)
    (c__law_parted : PySem.W.codeIn K cd__law_parted "_law_parted" = true)
    (k__law_parted : PySem.W.keepIn K (.ref f__law_parted) = true)
    (a__law_is_less : PySem.W.nsIn K mainGlobals "_law_is_less" = some (some (.ref f__law_is_less)))
    (l__law_is_less : K.lookup f__law_is_less = some ⟨oc__law_is_less, od__law_is_less, .func (PySem.W.fnOf "_law_is_less" "_law_is_less" (defArgs s__law_is_less) (defBody s__law_is_less) (defScope s__law_is_less) .none kV__law_is_less dc__law_is_less pm__law_is_less an__law_is_less cd__law_is_less ct__law_is_less), sl__law_is_less⟩)
    (c__law_is_less : PySem.W.codeIn K cd__law_is_less "_law_is_less" = true)
    (k__law_is_less : PySem.W.keepIn K (.ref f__law_is_less) = true)
    (a__law_order_right : PySem.W.nsIn K mainGlobals "_law_order_right" = some (some (.ref f__law_order_right)))
    (l__law_order_right : K.lookup f__law_order_right = some ⟨oc__law_order_right, od__law_order_right, .func (PySem.W.fnOf "_law_order_right" "_law_order_right" (defArgs s__law_order_right) (defBody s__law_order_right) (defScope s__law_order_right) .none kV__law_order_right dc__law_order_right pm__law_order_right an__law_order_right cd__law_order_right ct__law_order_right), sl__law_order_right⟩)
    (c__law_order_right : PySem.W.codeIn K cd__law_order_right "_law_order_right" = true)
    (k__law_order_right : PySem.W.keepIn K (.ref f__law_order_right) = true)
    (a_law : PySem.W.nsIn K mainGlobals "law" = some (some (.ref f_law)))
    (l_law : K.lookup f_law = some ⟨oc_law, od_law, .func (PySem.W.fnOf "law" "law" (defArgs s_law) (defBody s_law) (defScope s_law) .none kV_law dc_law pm_law an_law cd_law ct_law), sl_law⟩)
    (c_law : PySem.W.codeIn K cd_law "law" = true)
    (k_law : PySem.W.keepIn K (.ref f_law) = true)
    (z_enumerate : PySem.W.nsIn K mainGlobals "enumerate" = some none)
    (z_sorted : PySem.W.nsIn K mainGlobals "sorted" = some none)
    (z_tuple : PySem.W.nsIn K mainGlobals "tuple" = some none)
    (z_len : PySem.W.nsIn K mainGlobals "len" = some none)
    (z_range : PySem.W.nsIn K mainGlobals "range" = some none)
    (z_all : PySem.W.nsIn K mainGlobals "all" = some none)
    (z_list : PySem.W.nsIn K mainGlobals "list" = some none)
    (z_int : PySem.W.nsIn K mainGlobals "int" = some none)
    (z_set : PySem.W.nsIn K mainGlobals "set" = some none)
    (z_repr : PySem.W.nsIn K mainGlobals "repr" = some none)
    : ∃ fd : FuncData, (∀ (s : Shared) (v : Value), BindsTo s fd ⟨[v], []⟩ [("_law_script", v)]) ∧ ∀ base : Heap, K.In base → base.Ns mainGlobals mg → FnD l.prog w K mg base 6 fa fd ["_law_script"] spLaw := by
  have e := hfa.symm.trans (PySem.W.mg_of X G a_law)
  have e2 : f_law = fa := by cases e; rfl
  subst e2
  let T : Txt K mg := {
    a_alias_numbers := f_alias_numbers
    fd_alias_numbers := _
    F_alias_numbers := fun_mk (st := s_alias_numbers) l_alias_numbers c_alias_numbers k_alias_numbers
    m_alias_numbers := PySem.W.mg_of X G a_alias_numbers
    a_with_equality := f_with_equality
    fd_with_equality := _
    F_with_equality := fun_mk (st := s_with_equality) l_with_equality c_with_equality k_with_equality
    m_with_equality := PySem.W.mg_of X G a_with_equality
    a_join_classes := f_join_classes
    fd_join_classes := _
    F_join_classes := fun_mk (st := s_join_classes) l_join_classes c_join_classes k_join_classes
    m_join_classes := PySem.W.mg_of X G a_join_classes
    a_part_key := f_part_key
    fd_part_key := _
    F_part_key := fun_mk (st := s_part_key) l_part_key c_part_key k_part_key
    m_part_key := PySem.W.mg_of X G a_part_key
    a_comes_before := f_comes_before
    fd_comes_before := _
    F_comes_before := fun_mk (st := s_comes_before) l_comes_before c_comes_before k_comes_before
    m_comes_before := PySem.W.mg_of X G a_comes_before
    a_neighbours := f_neighbours
    fd_neighbours := _
    F_neighbours := fun_mk (st := s_neighbours) l_neighbours c_neighbours k_neighbours
    m_neighbours := PySem.W.mg_of X G a_neighbours
    a_extensions := f_extensions
    fd_extensions := _
    F_extensions := fun_mk (st := s_extensions) l_extensions c_extensions k_extensions
    m_extensions := PySem.W.mg_of X G a_extensions
    a_groups_of := f_groups_of
    fd_groups_of := _
    F_groups_of := fun_mk (st := s_groups_of) l_groups_of c_groups_of k_groups_of
    m_groups_of := PySem.W.mg_of X G a_groups_of
    a_is_within := f_is_within
    fd_is_within := _
    F_is_within := fun_mk (st := s_is_within) l_is_within c_is_within k_is_within
    m_is_within := PySem.W.mg_of X G a_is_within
    a_pairs_among := f_pairs_among
    fd_pairs_among := _
    F_pairs_among := fun_mk (st := s_pairs_among) l_pairs_among c_pairs_among k_pairs_among
    m_pairs_among := PySem.W.mg_of X G a_pairs_among
    a_pairs_of := f_pairs_of
    fd_pairs_of := _
    F_pairs_of := fun_mk (st := s_pairs_of) l_pairs_of c_pairs_of k_pairs_of
    m_pairs_of := PySem.W.mg_of X G a_pairs_of
    a__law_deck := f__law_deck
    fd__law_deck := _
    F__law_deck := fun_mk (st := s__law_deck) l__law_deck c__law_deck k__law_deck
    m__law_deck := PySem.W.mg_of X G a__law_deck
    a__law_draw := f__law_draw
    fd__law_draw := _
    F__law_draw := fun_mk (st := s__law_draw) l__law_draw c__law_draw k__law_draw
    m__law_draw := PySem.W.mg_of X G a__law_draw
    a__law_pick := f__law_pick
    fd__law_pick := _
    F__law_pick := fun_mk (st := s__law_pick) l__law_pick c__law_pick k__law_pick
    m__law_pick := PySem.W.mg_of X G a__law_pick
    a__law_names := f__law_names
    fd__law_names := _
    F__law_names := fun_mk (st := s__law_names) l__law_names c__law_names k__law_names
    m__law_names := PySem.W.mg_of X G a__law_names
    a__law_column := f__law_column
    fd__law_column := _
    F__law_column := fun_mk (st := s__law_column) l__law_column c__law_column k__law_column
    m__law_column := PySem.W.mg_of X G a__law_column
    a__law_filter := f__law_filter
    fd__law_filter := _
    F__law_filter := fun_mk (st := s__law_filter) l__law_filter c__law_filter k__law_filter
    m__law_filter := PySem.W.mg_of X G a__law_filter
    a__law_question := f__law_question
    fd__law_question := _
    F__law_question := fun_mk (st := s__law_question) l__law_question c__law_question k__law_question
    m__law_question := PySem.W.mg_of X G a__law_question
    a__law_classes := f__law_classes
    fd__law_classes := _
    F__law_classes := fun_mk (st := s__law_classes) l__law_classes c__law_classes k__law_classes
    m__law_classes := PySem.W.mg_of X G a__law_classes
    a__law_members := f__law_members
    fd__law_members := _
    F__law_members := fun_mk (st := s__law_members) l__law_members c__law_members k__law_members
    m__law_members := PySem.W.mg_of X G a__law_members
    a__law_rank := f__law_rank
    fd__law_rank := _
    F__law_rank := fun_mk (st := s__law_rank) l__law_rank c__law_rank k__law_rank
    m__law_rank := PySem.W.mg_of X G a__law_rank
    a__law_is_linked := f__law_is_linked
    fd__law_is_linked := _
    F__law_is_linked := fun_mk (st := s__law_is_linked) l__law_is_linked c__law_is_linked k__law_is_linked
    m__law_is_linked := PySem.W.mg_of X G a__law_is_linked
    a__law_groups := f__law_groups
    fd__law_groups := _
    F__law_groups := fun_mk (st := s__law_groups) l__law_groups c__law_groups k__law_groups
    m__law_groups := PySem.W.mg_of X G a__law_groups
    a__law_parted := f__law_parted
    fd__law_parted := _
    F__law_parted := fun_mk (st := s__law_parted) l__law_parted c__law_parted k__law_parted
    m__law_parted := PySem.W.mg_of X G a__law_parted
    a__law_is_less := f__law_is_less
    fd__law_is_less := _
    F__law_is_less := fun_mk (st := s__law_is_less) l__law_is_less c__law_is_less k__law_is_less
    m__law_is_less := PySem.W.mg_of X G a__law_is_less
    a__law_order_right := f__law_order_right
    fd__law_order_right := _
    F__law_order_right := fun_mk (st := s__law_order_right) l__law_order_right c__law_order_right k__law_order_right
    m__law_order_right := PySem.W.mg_of X G a__law_order_right
    a_law := f_law
    fd_law := _
    F_law := fun_mk (st := s_law) l_law c_law k_law
    m_law := PySem.W.mg_of X G a_law
    n_enumerate := PySem.W.mg_none_of X G z_enumerate
    n_sorted := PySem.W.mg_none_of X G z_sorted
    n_tuple := PySem.W.mg_none_of X G z_tuple
    n_len := PySem.W.mg_none_of X G z_len
    n_range := PySem.W.mg_none_of X G z_range
    n_all := PySem.W.mg_none_of X G z_all
    n_list := PySem.W.mg_none_of X G z_list
    n_int := PySem.W.mg_none_of X G z_int
    n_set := PySem.W.mg_none_of X G z_set
    n_repr := PySem.W.mg_none_of X G z_repr }
  exact ⟨T.fd_law, fun s v => .of_eq rfl, fun base _ _ => fn_law T⟩
end LW
open PySem PySem.W PyProof.Rows L2 in
set_option maxRecDepth 100000 in
set_option maxHeartbeats 0 in
theorem PySem.Challenge.cw_noguess_k18_pairs_and_the_order_of_parts_holds : PySem.Challenge.rw_noguess_k18_pairs_and_the_order_of_parts.Holds := by
  w_on; o_law; k_head; (case hw => w_witness2)
  k_fill
  refine DL.walkD (l := PySem.Challenge.rw_noguess_k18_pairs_and_the_order_of_parts) (k := 6) (x := PySem.Str.ofString "_law_script") rfl rfl ⟨rfl, by decide, by decide⟩ (fun w h Y => PySem.W.kIn_of Y) ?F
  case F =>
    intro w mg fa h KX G hmg
    refine' LW.all_mk KX G hmg ?a_alias_numbers ?l_alias_numbers ?c_alias_numbers ?k_alias_numbers ?a_with_equality ?l_with_equality ?c_with_equality ?k_with_equality ?a_join_classes ?l_join_classes ?c_join_classes ?k_join_classes ?a_part_key ?l_part_key ?c_part_key ?k_part_key ?a_comes_before ?l_comes_before ?c_comes_before ?k_comes_before ?a_neighbours ?l_neighbours ?c_neighbours ?k_neighbours ?a_extensions ?l_extensions ?c_extensions ?k_extensions ?a_groups_of ?l_groups_of ?c_groups_of ?k_groups_of ?a_is_within ?l_is_within ?c_is_within ?k_is_within ?a_pairs_among ?l_pairs_among ?c_pairs_among ?k_pairs_among ?a_pairs_of ?l_pairs_of ?c_pairs_of ?k_pairs_of ?a__law_deck ?l__law_deck ?c__law_deck ?k__law_deck ?a__law_draw ?l__law_draw ?c__law_draw ?k__law_draw ?a__law_pick ?l__law_pick ?c__law_pick ?k__law_pick ?a__law_names ?l__law_names ?c__law_names ?k__law_names ?a__law_column ?l__law_column ?c__law_column ?k__law_column ?a__law_filter ?l__law_filter ?c__law_filter ?k__law_filter ?a__law_question ?l__law_question ?c__law_question ?k__law_question ?a__law_classes ?l__law_classes ?c__law_classes ?k__law_classes ?a__law_members ?l__law_members ?c__law_members ?k__law_members ?a__law_rank ?l__law_rank ?c__law_rank ?k__law_rank ?a__law_is_linked ?l__law_is_linked ?c__law_is_linked ?k__law_is_linked ?a__law_groups ?l__law_groups ?c__law_groups ?k__law_groups ?a__law_parted ?l__law_parted ?c__law_parted ?k__law_parted ?a__law_is_less ?l__law_is_less ?c__law_is_less ?k__law_is_less ?a__law_order_right ?l__law_order_right ?c__law_order_right ?k__law_order_right ?a_law ?l_law ?c_law ?k_law ?z_enumerate ?z_sorted ?z_tuple ?z_len ?z_range ?z_all ?z_list ?z_int ?z_set ?z_repr
    (case a_alias_numbers => k_is)
    (case l_alias_numbers => k_is)
    (case c_alias_numbers => k_is)
    (case k_alias_numbers => k_is)
    (case a_with_equality => k_is)
    (case l_with_equality => k_is)
    (case c_with_equality => k_is)
    (case k_with_equality => k_is)
    (case a_join_classes => k_is)
    (case l_join_classes => k_is)
    (case c_join_classes => k_is)
    (case k_join_classes => k_is)
    (case a_part_key => k_is)
    (case l_part_key => k_is)
    (case c_part_key => k_is)
    (case k_part_key => k_is)
    (case a_comes_before => k_is)
    (case l_comes_before => k_is)
    (case c_comes_before => k_is)
    (case k_comes_before => k_is)
    (case a_neighbours => k_is)
    (case l_neighbours => k_is)
    (case c_neighbours => k_is)
    (case k_neighbours => k_is)
    (case a_extensions => k_is)
    (case l_extensions => k_is)
    (case c_extensions => k_is)
    (case k_extensions => k_is)
    (case a_groups_of => k_is)
    (case l_groups_of => k_is)
    (case c_groups_of => k_is)
    (case k_groups_of => k_is)
    (case a_is_within => k_is)
    (case l_is_within => k_is)
    (case c_is_within => k_is)
    (case k_is_within => k_is)
    (case a_pairs_among => k_is)
    (case l_pairs_among => k_is)
    (case c_pairs_among => k_is)
    (case k_pairs_among => k_is)
    (case a_pairs_of => k_is)
    (case l_pairs_of => k_is)
    (case c_pairs_of => k_is)
    (case k_pairs_of => k_is)
    (case a__law_deck => k_is)
    (case l__law_deck => k_is)
    (case c__law_deck => k_is)
    (case k__law_deck => k_is)
    (case a__law_draw => k_is)
    (case l__law_draw => k_is)
    (case c__law_draw => k_is)
    (case k__law_draw => k_is)
    (case a__law_pick => k_is)
    (case l__law_pick => k_is)
    (case c__law_pick => k_is)
    (case k__law_pick => k_is)
    (case a__law_names => k_is)
    (case l__law_names => k_is)
    (case c__law_names => k_is)
    (case k__law_names => k_is)
    (case a__law_column => k_is)
    (case l__law_column => k_is)
    (case c__law_column => k_is)
    (case k__law_column => k_is)
    (case a__law_filter => k_is)
    (case l__law_filter => k_is)
    (case c__law_filter => k_is)
    (case k__law_filter => k_is)
    (case a__law_question => k_is)
    (case l__law_question => k_is)
    (case c__law_question => k_is)
    (case k__law_question => k_is)
    (case a__law_classes => k_is)
    (case l__law_classes => k_is)
    (case c__law_classes => k_is)
    (case k__law_classes => k_is)
    (case a__law_members => k_is)
    (case l__law_members => k_is)
    (case c__law_members => k_is)
    (case k__law_members => k_is)
    (case a__law_rank => k_is)
    (case l__law_rank => k_is)
    (case c__law_rank => k_is)
    (case k__law_rank => k_is)
    (case a__law_is_linked => k_is)
    (case l__law_is_linked => k_is)
    (case c__law_is_linked => k_is)
    (case k__law_is_linked => k_is)
    (case a__law_groups => k_is)
    (case l__law_groups => k_is)
    (case c__law_groups => k_is)
    (case k__law_groups => k_is)
    (case a__law_parted => k_is)
    (case l__law_parted => k_is)
    (case c__law_parted => k_is)
    (case k__law_parted => k_is)
    (case a__law_is_less => k_is)
    (case l__law_is_less => k_is)
    (case c__law_is_less => k_is)
    (case k__law_is_less => k_is)
    (case a__law_order_right => k_is)
    (case l__law_order_right => k_is)
    (case c__law_order_right => k_is)
    (case k__law_order_right => k_is)
    (case a_law => k_is)
    (case l_law => k_is)
    (case c_law => k_is)
    (case k_law => k_is)
    (case z_enumerate => k_is)
    (case z_sorted => k_is)
    (case z_tuple => k_is)
    (case z_len => k_is)
    (case z_range => k_is)
    (case z_all => k_is)
    (case z_list => k_is)
    (case z_int => k_is)
    (case z_set => k_is)
    (case z_repr => k_is)
