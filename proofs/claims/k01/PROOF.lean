import PyProof.Rows.All
import Wide.All
import OpenK.AllK
import Wide.FinOn
import PyProof.EqAt
import PyProof.EqKinds
import PyProof.TupleCall
import HandS.Base
import HandS.Call
import HandS.List
import HandS.Comp
import HandS.TupAny
import HandS.Wide
import HandS.Deep
import HandS.Words
import HandS.IsInst
import HandS.Gcd
import HandS.TryOnly
import HandS.Iter
import HandS.Exc
import HandS.ExcOwn
import HandS.ExcInit
import HandS.ExcField
import HandS.WordsExc
import KE.SortData
import PySem.Challenge.RW_everygain_k01_all_roots_of_one
set_option Elab.async false
set_option linter.all false
set_option maxRecDepth 100000
set_option maxHeartbeats 4000000
/-! a layer of values over the hand layer: tuples are values, the heap holds lists alone -/
namespace G
open PySem PySem.Spec PyProof.Rows L2

abbrev St := L2.St
inductive D where
  | non | bl (b : Bool) | int (i : Int) | str (x : Str) | tup (xs : List D) | rol (xs : List D) | v (x : V)

inductive LO where
  | lst (ds : List D)
  | xd (fs : List (Str × D))

abbrev LH := Addr → Option LO
def lup (L : LH) (p : Addr) (o : LO) : LH := fun b => if b = p then some o else L b
theorem lup_same {L : LH} {p : Addr} {o : LO} : lup L p o p = some o := by unfold lup; rw [if_pos rfl]
theorem lup_ne {L : LH} {p b : Addr} {o : LO} (h : b ≠ p) : lup L p o b = L b := by unfold lup; rw [if_neg h]
theorem lup_lup {L : LH} {p : Addr} {o u : LO} : lup (lup L p o) p u = lup L p u := by
  funext b; unfold lup; split <;> rfl
theorem ne_free {L : LH} {a b : Addr} {o : LO} (h : L a = some o) (h' : L b = none) : a ≠ b := by
  intro e; subst e; rw [h] at h'; cases h'

def RolOk (K : PySem.W.Frag) (H : Hp) (a : Addr) (xs : List V) : Prop :=
  (∃ o, H a = some (.frz o (.lst xs))) ∨
    ∃ (o : Obj) (its : Array Value) (n : Nat), K.lookup a = some o ∧ o.cls = .type "list" ∧ o.dict = none ∧ o.data = .seq its n ∧ its.size ≤ sizeLine ∧ Vals xs its.toList
theorem RolOk.sq {K : PySem.W.Frag} {H : Hp} {a : Addr} {xs : List V} (h : RolOk K H a xs) : SqL K H a xs := by
  rcases h with ⟨o, h⟩ | h
  · exact .inl (.inr ⟨o, h⟩)
  · exact .inr h

mutual
def Rp (K : PySem.W.Frag) (H : Hp) : D → V → Prop
  | .non, x => x = .non
  | .bl b, x => x = .bl b
  | .int i, x => x = .int i
  | .str z, x => x = .str z
  | .tup ds, x => ∃ a xs, x = .ref a ∧ SqT K H a xs ∧ RpL K H ds xs
  | .rol ds, x => ∃ a xs, x = .ref a ∧ RolOk K H a xs ∧ RpL K H ds xs
  | .v y, x => x = y
def RpL (K : PySem.W.Frag) (H : Hp) : List D → List V → Prop
  | [], xs => xs = []
  | d :: ds, xs => ∃ x r, xs = x :: r ∧ Rp K H d x ∧ RpL K H ds r
end

structure Ext (K : PySem.W.Frag) (H H' : Hp) : Prop where
  tup : ∀ a xs, SqT K H a xs → SqT K H' a xs
  frz : ∀ a o xs, H a = some (.frz o (.lst xs)) → H' a = some (.frz o (.lst xs))
  xd : ∀ a xs, H a = some (.xd xs) → H' a = some (.xd xs)
theorem Ext.refl (K : PySem.W.Frag) (H : Hp) : Ext K H H := ⟨fun _ _ h => h, fun _ _ _ h => h, fun _ _ h => h⟩
theorem Ext.trans {K : PySem.W.Frag} {H H1 H2 : Hp} (a : Ext K H H1) (b : Ext K H1 H2) : Ext K H H2 := ⟨fun c xs h => b.tup c xs (a.tup c xs h), fun c o xs h => b.frz c o xs (a.frz c o xs h), fun c xs h => b.xd c xs (a.xd c xs h)⟩
theorem RolOk.ext {K : PySem.W.Frag} {H H' : Hp} {a : Addr} {xs : List V} (e : Ext K H H') (h : RolOk K H a xs) : RolOk K H' a xs := by
  rcases h with ⟨o, h⟩ | h
  · exact .inl ⟨o, e.frz _ _ _ h⟩
  · exact .inr h
mutual
theorem Rp.ext {K : PySem.W.Frag} {H H' : Hp} (e : Ext K H H') : ∀ (d : D) (x : V), Rp K H d x → Rp K H' d x
  | .non, _, h => h
  | .bl _, _, h => h
  | .int _, _, h => h
  | .str _, _, h => h
  | .tup ds, _, h => by
    obtain ⟨a, xs, rfl, s, r⟩ := h
    exact ⟨a, xs, rfl, e.tup _ _ s, RpL.ext e ds xs r⟩
  | .rol ds, _, h => by
    obtain ⟨a, xs, rfl, s, r⟩ := h
    exact ⟨a, xs, rfl, s.ext e, RpL.ext e ds xs r⟩
  | .v _, _, h => h
theorem RpL.ext {K : PySem.W.Frag} {H H' : Hp} (e : Ext K H H') : ∀ (ds : List D) (xs : List V), RpL K H ds xs → RpL K H' ds xs
  | [], _, h => h
  | d :: ds, _, h => by
    obtain ⟨x, r, rfl, h1, h2⟩ := h
    exact ⟨x, r, rfl, Rp.ext e d x h1, RpL.ext e ds r h2⟩
end
theorem Ext.upd {K : PySem.W.Frag} {H : Hp} {p : Addr} {o : HO} (h1 : ∀ xs, H p ≠ some (.tup xs)) (h2 : ∀ ob u, H p ≠ some (.frz ob u)) (h3 : ∀ xs, H p ≠ some (.xd xs)) : Ext K H (upd H p o) := by
  refine ⟨fun a xs s => ?_, fun a ob xs s => ?_, fun a xs s => ?_⟩
  · rcases s with (s | ⟨ob, s⟩) | s
    · exact .inl (.inl (by rw [upd_ne (by rintro rfl; exact h1 _ s)]; exact s))
    · exact .inl (.inr ⟨ob, by rw [upd_ne (by rintro rfl; exact h2 _ _ s)]; exact s⟩)
    · exact .inr s
  · rw [upd_ne (by rintro rfl; exact h2 _ _ s)]; exact s
  · rw [upd_ne (by rintro rfl; exact h3 _ s)]; exact s
theorem Ext.new {K : PySem.W.Frag} {H : Hp} {p : Addr} {o : HO} (h : H p = none) : Ext K H (L2.upd H p o) := .upd (by rw [h]; simp) (by rw [h]; simp) (by rw [h]; simp)
theorem Ext.lst {K : PySem.W.Frag} {H : Hp} {p : Addr} {o : HO} {xs : List V} (h : H p = some (.lst xs)) : Ext K H (L2.upd H p o) := .upd (by rw [h]; simp) (by rw [h]; simp) (by rw [h]; simp)

/-! ### lists of values -/
section
variable {K : PySem.W.Frag} {H : Hp}
theorem RpL.length : ∀ {ds : List D} {xs : List V}, RpL K H ds xs → ds.length = xs.length
  | [], _, h => by cases (show _ = [] from h); rfl
  | d :: ds, _, h => by
    obtain ⟨x, r, rfl, _, h2⟩ := h
    rw [List.length_cons, List.length_cons, RpL.length h2]
theorem RpL.get : ∀ {ds : List D} {xs : List V} {i : Nat} {d : D}, RpL K H ds xs → ds[i]? = some d → ∃ x, xs[i]? = some x ∧ Rp K H d x
  | [], _, _, _, _, e => by simp at e
  | d :: ds, _, 0, _, h, e => by
    obtain ⟨x, r, rfl, h1, _⟩ := h
    simp at e; subst e
    exact ⟨x, rfl, h1⟩
  | d :: ds, _, i + 1, _, h, e => by
    obtain ⟨x, r, rfl, _, h2⟩ := h
    obtain ⟨y, a, b⟩ := RpL.get (i := i) h2 (by simpa using e)
    exact ⟨y, by simpa using a, b⟩
theorem RpL.getD : ∀ {ds : List D} {xs : List V} {i : Nat} {x : V}, RpL K H ds xs → xs[i]? = some x → ∃ d, ds[i]? = some d ∧ Rp K H d x := by
  intro ds xs i x h e
  have hl := h.length
  have hi : i < ds.length := by
    have := (List.getElem?_eq_some_iff.mp e).1
    omega
  obtain ⟨y, a, b⟩ := h.get (i := i) (List.getElem?_eq_getElem hi)
  rw [e] at a; cases a
  exact ⟨_, List.getElem?_eq_getElem hi, b⟩
theorem RpL.append : ∀ {ds es : List D} {xs ys : List V}, RpL K H ds xs → RpL K H es ys → RpL K H (ds ++ es) (xs ++ ys)
  | [], _, _, _, h, q => by cases (show _ = [] from h); exact q
  | d :: ds, _, _, _, h, q => by
    obtain ⟨x, r, rfl, h1, h2⟩ := h
    exact ⟨x, r ++ _, rfl, h1, RpL.append h2 q⟩
theorem RpL.one {d : D} {x : V} (h : Rp K H d x) : RpL K H [d] [x] := ⟨x, [], rfl, h, rfl⟩
theorem RpL.cons {d : D} {x : V} {ds : List D} {xs : List V} (h : Rp K H d x) (q : RpL K H ds xs) : RpL K H (d :: ds) (x :: xs) := ⟨x, xs, rfl, h, q⟩
theorem RpL.take : ∀ (n : Nat) {ds : List D} {xs : List V}, RpL K H ds xs → RpL K H (ds.take n) (xs.take n)
  | 0, _, _, _ => by simp [RpL]
  | _ + 1, [], _, h => by cases (show _ = [] from h); simp [RpL]
  | n + 1, d :: ds, _, h => by
    obtain ⟨x, r, rfl, h1, h2⟩ := h
    exact ⟨x, _, rfl, h1, RpL.take n h2⟩
theorem RpL.drop : ∀ (n : Nat) {ds : List D} {xs : List V}, RpL K H ds xs → RpL K H (ds.drop n) (xs.drop n)
  | 0, _, _, h => h
  | _ + 1, [], _, h => by cases (show _ = [] from h); simp [RpL]
  | n + 1, d :: ds, _, h => by
    obtain ⟨x, r, rfl, h1, h2⟩ := h
    exact RpL.drop n h2
theorem RpL.set {d : D} {x : V} (q : Rp K H d x) : ∀ (i : Nat) {ds : List D} {xs : List V}, RpL K H ds xs → RpL K H (ds.set i d) (xs.set i x)
  | _, [], _, h => by cases (show _ = [] from h); simp [RpL]
  | 0, _ :: ds, _, h => by
    obtain ⟨y, r, rfl, h1, h2⟩ := h
    exact ⟨x, r, rfl, q, h2⟩
  | i + 1, e :: ds, _, h => by
    obtain ⟨y, r, rfl, h1, h2⟩ := h
    exact ⟨y, r.set i x, rfl, h1, RpL.set q i h2⟩
theorem RpL.erase : ∀ (i : Nat) {ds : List D} {xs : List V}, RpL K H ds xs → RpL K H (ds.eraseIdx i) (xs.eraseIdx i)
  | _, [], _, h => by cases (show _ = [] from h); simp [RpL]
  | 0, _ :: ds, _, h => by
    obtain ⟨y, r, rfl, h1, h2⟩ := h
    exact h2
  | i + 1, e :: ds, _, h => by
    obtain ⟨y, r, rfl, h1, h2⟩ := h
    exact ⟨y, r.eraseIdx i, rfl, h1, RpL.erase i h2⟩
theorem RpL.dropLast {ds : List D} {xs : List V} (h : RpL K H ds xs) : RpL K H ds.dropLast xs.dropLast := by
  rw [List.dropLast_eq_take, List.dropLast_eq_take, h.length]
  exact h.take _
theorem RpL.reverse : ∀ {ds : List D} {xs : List V}, RpL K H ds xs → RpL K H ds.reverse xs.reverse
  | [], _, h => by cases (show _ = [] from h); simp [RpL]
  | d :: ds, _, h => by
    obtain ⟨x, r, rfl, h1, h2⟩ := h
    rw [List.reverse_cons, List.reverse_cons]
    exact (RpL.reverse h2).append (.one h1)
theorem RpL.ints : ∀ {ns : List Int} {xs : List V}, RpL K H (ns.map D.int) xs → xs = ns.map V.int
  | [], _, h => h
  | n :: ns, _, h => by
    obtain ⟨x, r, rfl, h1, h2⟩ := h
    cases (show x = _ from h1)
    rw [List.map_cons, RpL.ints h2]
theorem RpL.ofInts : ∀ (ns : List Int), RpL K H (ns.map D.int) (ns.map V.int)
  | [] => rfl
  | n :: ns => ⟨_, _, rfl, rfl, RpL.ofInts ns⟩
theorem RpL.ofGet : ∀ {ds : List D} {xs : List V}, ds.length = xs.length → (∀ (i : Nat) d x, ds[i]? = some d → xs[i]? = some x → Rp K H d x) → RpL K H ds xs
  | [], [], _, _ => rfl
  | [], _ :: _, h, _ => by simp at h
  | _ :: _, [], h, _ => by simp at h
  | d :: ds, x :: xs, h, q => ⟨x, xs, rfl, q 0 d x rfl rfl, RpL.ofGet (by simpa using h) fun i d' x' a b => q (i + 1) d' x' (by simpa using a) (by simpa using b)⟩
end

def RpF (K : PySem.W.Frag) (H : Hp) : List (Str × D) → List (Str × V) → Prop
  | [], xs => xs = []
  | (f, d) :: ds, xs => ∃ x r, xs = (f, x) :: r ∧ Rp K H d x ∧ RpF K H ds r
theorem RpF.ext {K : PySem.W.Frag} {H H' : Hp} (e : Ext K H H') : ∀ (ds : List (Str × D)) (xs : List (Str × V)), RpF K H ds xs → RpF K H' ds xs
  | [], _, h => h
  | (f, d) :: ds, _, h => by
    obtain ⟨x, r, rfl, h1, h2⟩ := h
    exact ⟨x, r, rfl, h1.ext e, RpF.ext e ds r h2⟩
theorem RpF.look {K : PySem.W.Frag} {H : Hp} {f : Str} : ∀ {ds : List (Str × D)} {xs : List (Str × V)} {d : D}, RpF K H ds xs → ds.lookup f = some d → ∃ x, xs.lookup f = some x ∧ Rp K H d x
  | [], _, _, _, e => by simp at e
  | (g, d') :: ds, _, d, h, e => by
    obtain ⟨x, r, rfl, h1, h2⟩ := h
    rw [List.lookup_cons] at e ⊢
    cases q : f == g with
    | true => rw [q] at e; cases e; exact ⟨x, rfl, h1⟩
    | false => rw [q] at e; exact RpF.look h2 e
/-! ### the heap of lists -/
def RO (K : PySem.W.Frag) (H : Hp) (a : Addr) : LO → Prop
  | .lst ds => ∃ xs, H a = some (.lst xs) ∧ RpL K H ds xs
  | .xd fs => ∃ xs, H a = some (.xd xs) ∧ RpF K H fs xs
def LR (K : PySem.W.Frag) (L : LH) (H : Hp) : Prop := ∀ a o, L a = some o → RO K H a o
section
variable {K : PySem.W.Frag} {H H' : Hp} {L : LH}
theorem RO.some {a : Addr} {o : LO} (h : RO K H a o) : ∃ u, H a = some u := by
  cases o with
  | lst ds => obtain ⟨xs, q, _⟩ := h; exact ⟨_, q⟩
  | xd ds => obtain ⟨xs, q, _⟩ := h; exact ⟨_, q⟩
theorem RO.keep {a : Addr} {o : LO} (h : RO K H a o) (e : Ext K H H') (s : H' a = H a) : RO K H' a o := by
  cases o with
  | lst ds => obtain ⟨xs, q, r⟩ := h; exact ⟨xs, s.trans q, r.ext e⟩
  | xd ds => obtain ⟨xs, q, r⟩ := h; exact ⟨xs, s.trans q, r.ext e⟩
theorem LR.lst (l : LR K L H) {a : Addr} {ds : List D} (h : L a = some (.lst ds)) : ∃ xs, H a = some (.lst xs) ∧ RpL K H ds xs := l a _ h
theorem LR.free (l : LR K L H) {p : Addr} (h : H p = none) : L p = none := by
  cases e : L p with
  | none => rfl
  | some o =>
    obtain ⟨u, q⟩ := (l p o e).some
    rw [h] at q; cases q
theorem LR.put (l : LR K L H) {p : Addr} {o : LO} {u : HO} (e : Ext K H (L2.upd H p u)) (r : RO K (L2.upd H p u) p o) : LR K (lup L p o) (L2.upd H p u) := fun a o' h => by
  by_cases hp : a = p
  · subst hp
    rw [lup_same] at h; cases h
    exact r
  · rw [lup_ne hp] at h
    exact (l a _ h).keep e (upd_ne hp)
theorem LR.upd (l : LR K L H) {p : Addr} {ds : List D} {xs : List V} (e : Ext K H (L2.upd H p (.lst xs))) (r : RpL K H ds xs) : LR K (lup L p (.lst ds)) (L2.upd H p (.lst xs)) := l.put e ⟨xs, upd_same, r.ext e⟩
/-- a new object that is not tracked here (a tuple) -/
theorem LR.tup (l : LR K L H) {p : Addr} {o : HO} (n : H p = none) : LR K L (L2.upd H p o) := fun a u h => by
  obtain ⟨u', q⟩ := (l a u h).some
  exact (l a _ h).keep (.new n) (upd_ne (ne_of_none q n))
end

/-! ### slots -/
abbrev SD := List (Option D)
@[reducible] def nth : SD → Nat → Option D
  | [], _ => none
  | x :: _, 0 => x
  | _ :: r, n + 1 => nth r n
@[reducible] def put : SD → Nat → Option D → SD
  | [], _, _ => []
  | _ :: r, 0, d => d :: r
  | x :: r, n + 1, d => x :: put r n d
@[reducible] def wip : SD → List Nat → SD
  | δ, [] => δ
  | δ, i :: is => put (wip δ is) i none
structure RS (K : PySem.W.Frag) (δ : SD) (L : LH) (σ : St) (H : Hp) : Prop where
  loc : ∀ i d, nth δ i = some d → ∃ x, σ[i]? = some (some x) ∧ Rp K H d x
  len : δ.length = σ.length
  hp : LR K L H
theorem put_length : ∀ (δ : SD) (i : Nat) (d : Option D), (put δ i d).length = δ.length
  | [], _, _ => rfl
  | _ :: _, 0, _ => rfl
  | x :: r, i + 1, d => by show (put r i d).length + 1 = r.length + 1; rw [put_length r i d]
theorem nth_put : ∀ (δ : SD) (i j : Nat) (d : Option D) (e : D), nth (put δ i d) j = some e → (j = i ∧ d = some e ∧ i < δ.length) ∨ (j ≠ i ∧ nth δ j = some e)
  | [], _, _, _, _, h => by cases (show none = some _ from h)
  | _ :: _, 0, 0, _, _, h => .inl ⟨rfl, h, by simp⟩
  | _ :: _, 0, j + 1, _, _, h => .inr ⟨by omega, h⟩
  | _ :: _, i + 1, 0, _, _, h => .inr ⟨by omega, h⟩
  | x :: r, i + 1, j + 1, d, e, h => by
    rcases nth_put r i j d e h with ⟨a, b, c⟩ | ⟨a, b⟩
    · exact .inl ⟨by omega, b, by simp; omega⟩
    · exact .inr ⟨by omega, b⟩
section
variable {K : PySem.W.Frag} {H H' : Hp} {L L' : LH} {δ : SD} {σ : St}
theorem RS.step (r : RS K δ L σ H) (e : Ext K H H') (l : LR K L' H') : RS K δ L' σ H' := ⟨fun i d h => let ⟨x, a, b⟩ := r.loc i d h; ⟨x, a, b.ext e⟩, r.len, l⟩
theorem RS.put (r : RS K δ L σ H) {i : Nat} {d : D} {x : V} (h : Rp K H d x) : RS K (G.put δ i (some d)) L (σ.set i (some x)) H := by
  refine ⟨fun j e q => ?_, by rw [put_length, List.length_set]; exact r.len, r.hp⟩
  rcases nth_put δ i j (some d) e q with ⟨rfl, a, c⟩ | ⟨a, b⟩
  · cases a
    exact ⟨x, by rw [List.getElem?_set_self (by rw [← r.len]; exact c)], h⟩
  · obtain ⟨y, s, t⟩ := r.loc j e b
    exact ⟨y, by rw [List.getElem?_set_ne (Ne.symm a)]; exact s, t⟩
theorem RS.putN (r : RS K δ L σ H) {i : Nat} : RS K (G.put δ i none) L (σ.set i none) H := by
  refine ⟨fun j e q => ?_, by rw [put_length, List.length_set]; exact r.len, r.hp⟩
  rcases nth_put δ i j none e q with ⟨rfl, a, c⟩ | ⟨a, b⟩
  · cases a
  · obtain ⟨y, s, t⟩ := r.loc j e b
    exact ⟨y, by rw [List.getElem?_set_ne (Ne.symm a)]; exact s, t⟩
theorem RS.wip (r : RS K δ L σ H) : ∀ vs : List Nat, RS K (G.wip δ vs) L (wipe σ vs) H
  | [] => r
  | v :: vs => (RS.wip r vs).putN
/-- what was known may be forgotten -/
theorem RS.less (r : RS K δ L σ H) {δ' : SD} (h : ∀ i d, nth δ' i = some d → nth δ i = some d) (hl : δ'.length = δ.length) : RS K δ' L σ H := ⟨fun i d q => r.loc i d (h i d q), hl.trans r.len, r.hp⟩
end

/-! ### readings of values -/
abbrev DK := D → LH → Prop
abbrev DTE := SD → LH → DK → Prop
abbrev DTT := SD → LH → (Bool → LH → Prop) → Prop
abbrev DTA := SD → LH → (List D → LH → Prop) → Prop
structure DEnds where
  nx : SD → LH → Prop
  rt : DK
  bk : SD → LH → Prop := fun _ _ => False
  ct : SD → LH → Prop := fun _ _ => False
abbrev DTS := DEnds → SD → LH → Prop
def up (K : PySem.W.Frag) (t : DTE) : TE := fun σ H Q => ∃ δ L Qd, RS K δ L σ H ∧ t δ L Qd ∧ ∀ x H' d L', Ext K H H' → Rp K H' d x → LR K L' H' → Qd d L' → Q x H'
def upT (K : PySem.W.Frag) (t : DTT) : TT := fun σ H Q => ∃ δ L Qd, RS K δ L σ H ∧ t δ L Qd ∧ ∀ b H' L', Ext K H H' → LR K L' H' → Qd b L' → Q b H'
def upA (K : PySem.W.Frag) (t : DTA) : TA := fun σ H Q => ∃ δ L Qd, RS K δ L σ H ∧ t δ L Qd ∧ ∀ xs H' ds L', Ext K H H' → RpL K H' ds xs → LR K L' H' → Qd ds L' → Q xs H'
structure EndsOk (K : PySem.W.Frag) (H : Hp) (D : Ends) (E : DEnds) : Prop where
  nx : ∀ σ' H' δ' L', Ext K H H' → RS K δ' L' σ' H' → E.nx δ' L' → D.nx σ' H'
  rt : ∀ x H' d L', Ext K H H' → Rp K H' d x → LR K L' H' → E.rt d L' → D.rt x H'
  bk : ∀ σ' H' δ' L', Ext K H H' → RS K δ' L' σ' H' → E.bk δ' L' → D.bk σ' H'
  ct : ∀ σ' H' δ' L', Ext K H H' → RS K δ' L' σ' H' → E.ct δ' L' → D.ct σ' H'
theorem EndsOk.mono {K : PySem.W.Frag} {H H1 : Hp} {D : Ends} {E : DEnds} (k : EndsOk K H D E) (e : Ext K H H1) : EndsOk K H1 D E :=
  ⟨fun a b c d x => k.nx a b c d (e.trans x), fun a b c d x => k.rt a b c d (e.trans x), fun a b c d x => k.bk a b c d (e.trans x), fun a b c d x => k.ct a b c d (e.trans x)⟩
def upS (K : PySem.W.Frag) (t : DTS) : TS := fun D σ H => ∃ δ L E, RS K δ L σ H ∧ t E δ L ∧ EndsOk K H D E

def DE (X : Cx) (e : Expr) (t : DTE) : Prop := PE X e (up X.K t)
def DT (X : Cx) (e : Expr) (t : DTT) : Prop := PT X e (upT X.K t)
def DW (X : Cx) (e : Expr) (t : DTT) : Prop := PW X e (upT X.K t)
def DA (X : Cx) (es : List Expr) (t : DTA) : Prop := PA X es (upA X.K t)
def DS (X : Cx) (st : Stmt) (t : DTS) : Prop := PS X st (upS X.K t)
def DSs (X : Cx) (st : List Stmt) (t : DTS) : Prop := PSs X st (upS X.K t)

section
variable {X : Cx}
theorem PE.wk {e : Expr} {t t' : TE} (h : PE X e t) (w : ∀ σ H Q, t' σ H Q → t σ H Q) : PE X e t' := ⟨fun pins s σ H Q I q => h.run pins s σ H Q I (w σ H Q q)⟩
theorem PT.wk {e : Expr} {t t' : TT} (h : PT X e t) (w : ∀ σ H Q, t' σ H Q → t σ H Q) : PT X e t' := ⟨fun pins s σ H Q I q => h.run pins s σ H Q I (w σ H Q q)⟩
theorem PW.wk {e : Expr} {t t' : TT} (h : PW X e t) (w : ∀ σ H Q, t' σ H Q → t σ H Q) : PW X e t' := ⟨fun wh pins s σ H Q I q => h.run wh pins s σ H Q I (w σ H Q q)⟩
theorem PA.wk {e : List Expr} {t t' : TA} (h : PA X e t) (w : ∀ σ H Q, t' σ H Q → t σ H Q) : PA X e t' := ⟨fun pos pins s σ H Q I q => h.run pos pins s σ H Q I (w σ H Q q)⟩
theorem PS.wk {e : Stmt} {t t' : TS} (h : PS X e t) (w : ∀ D σ H, t' D σ H → t D σ H) : PS X e t' := ⟨fun pins s σ H D I q => h.run pins s σ H D I (w D σ H q)⟩
theorem PSs.wk {e : List Stmt} {t t' : TS} (h : PSs X e t) (w : ∀ D σ H, t' D σ H → t D σ H) : PSs X e t' := ⟨fun pins s σ H D I q => h.run pins s σ H D I (w D σ H q)⟩
end

/-- a branch -/
@[reducible] def BIf (b : Bool) (A B : Prop) : Prop := (b = true → A) ∧ (b = false → B)
theorem BIf.ite {b : Bool} {A B : Prop} (h : BIf b A B) : if b = true then A else B := by
  cases b with
  | true => rw [if_pos rfl]; exact h.1 rfl
  | false => rw [if_neg Bool.false_ne_true]; exact h.2 rfl
end G
namespace G
open PySem PySem.Spec PyProof.Rows L2
section
variable {X : Cx}

abbrev KK (K : PySem.W.Frag) (H : Hp) (Qd : DK) (Q : VK) : Prop := ∀ z H' d' L', Ext K H H' → Rp K H' d' z → LR K L' H' → Qd d' L' → Q z H'
section
variable {K : PySem.W.Frag} {H H' : Hp} {L L' : LH} {Qd : DK} {Q : VK}
theorem KK.int (k : KK K H Qd Q) {i : Int} (l : LR K L H) (h : Qd (.int i) L) : Q (.int i) H := k _ _ (.int i) _ (.refl _ _) rfl l h
theorem KK.bl (k : KK K H Qd Q) {i : Bool} (l : LR K L H) (h : Qd (.bl i) L) : Q (.bl i) H := k _ _ (.bl i) _ (.refl _ _) rfl l h
theorem KK.str (k : KK K H Qd Q) {i : Str} (l : LR K L H) (h : Qd (.str i) L) : Q (.str i) H := k _ _ (.str i) _ (.refl _ _) rfl l h
theorem KK.non (k : KK K H Qd Q) (l : LR K L H) (h : Qd .non L) : Q .non H := k _ _ .non _ (.refl _ _) rfl l h
theorem KK.ref (k : KK K H Qd Q) {p : Addr} (e : Ext K H H') (l : LR K L' H') (h : Qd (.v (.ref p)) L') : Q (.ref p) H' := k _ _ (.v (.ref p)) _ e rfl l h
end
/-! ### names and constants -/
@[reducible] def dVar (i : Nat) : DTE := fun δ L Q => match nth δ i with
  | some d => Q d L
  | none => False
@[reducible] def dC (d : D) : DTE := fun _ L Q => Q d L
theorem dv (i : Nat) {x : Str} {pos : Pos} (hN : X.N[i]? = some x := by rfl) (hv : Vis X.env.scope x := by first | exact Or.inl rfl | exact Or.inr (Or.inl rfl) | exact Or.inr (Or.inr rfl)) (hd : (x == ("__debug__" : Str)) = false := by decide)
    (hcd : (x == ("__classdict__" : Str)) = false := by decide) : DE X (.Name x pos) (dVar i) := by
  refine PE.wk (pe_var hN hv hd hcd) fun σ H Q h => ?_
  obtain ⟨δ, L, Qd, rs, h, k⟩ := h
  cases e : nth δ i with
  | none => rw [show dVar i δ L Qd = False by unfold dVar; rw [e]] at h; exact h.elim
  | some d =>
    rw [show dVar i δ L Qd = Qd d L by unfold dVar; rw [e]] at h
    obtain ⟨x, a, b⟩ := rs.loc i d e
    exact ⟨x, a, k x H d L (.refl _ _) b rs.hp h⟩
theorem dc_of {e : Expr} {v : V} {d : D} (h : PE X e (tC v)) (r : ∀ H, Rp X.K H d v) : DE X e (dC d) := PE.wk h fun σ H Q h => by
  obtain ⟨δ, L, Qd, rs, h, k⟩ := h
  exact k v H d L (.refl _ _) (r H) rs.hp h
theorem d_int {i j pos} : DE X (.Constant (.int i) j pos) (dC (.int i)) := dc_of pe_int fun _ => rfl
theorem d_bl {b j pos} : DE X (.Constant (.bool b) j pos) (dC (.bl b)) := dc_of pe_bl fun _ => rfl
theorem d_non {j pos} : DE X (.Constant .none j pos) (dC .non) := dc_of pe_non fun _ => rfl
theorem d_str {x j pos} : DE X (.Constant (.str x) j pos) (dC (.str x)) := dc_of pe_str fun _ => rfl
/-- a constant of the module: a tuple's value is told by r -/
theorem d_glob {x : Str} {v : V} {u : Value} {d : D} {pos : Pos} (hg : Gl X x) (hm : X.mg x = some u) (r : RelV v u) (rd : ∀ H, Rp X.K H d v) (hd : (x == ("__debug__" : Str)) = false := by decide) : DE X (.Name x pos) (dC d) := dc_of (pe_glob hg hm r hd) rd
/-- a built-in's name as a value -/
theorem d_ty {x : Str} {T : String} {pos : Pos} (hg : Gl X x) (hm : X.mg x = none) (hv : bootBuiltins x = some (.type T)) (hn : x ≠ "__name__" := by decide) (hd : (x == ("__debug__" : Str)) = false := by decide) : DE X (.Name x pos) (dC (.v (.ty T))) := dc_of (v := .ty T) (pe_bltn hg hm hv (show RelV (.ty T) (.type T) from rfl) hn hd) fun _ => rfl

/-! ### operators -/
abbrev DR2 := D → D → LH → DK → Prop
abbrev DR1 := D → LH → DK → Prop
abbrev DRL := List D → LH → DK → Prop
def Lift2 (K : PySem.W.Frag) (r : DR2) (rH : R2) : Prop := ∀ d e x y L H Qd Q, Rp K H d x → Rp K H e y → LR K L H → r d e L Qd → (∀ z H' d' L', Ext K H H' → Rp K H' d' z → LR K L' H' → Qd d' L' → Q z H') → rH x y H Q
def Lift1 (K : PySem.W.Frag) (r : DR1) (rH : V → Hp → VK → Prop) : Prop := ∀ d x L H Qd Q, Rp K H d x → LR K L H → r d L Qd → (∀ z H' d' L', Ext K H H' → Rp K H' d' z → LR K L' H' → Qd d' L' → Q z H') → rH x H Q
def LiftL (K : PySem.W.Frag) (r : DRL) (rH : List V → Hp → VK → Prop) : Prop := ∀ ds xs L H Qd Q, RpL K H ds xs → LR K L H → r ds L Qd → (∀ z H' d' L', Ext K H H' → Rp K H' d' z → LR K L' H' → Qd d' L' → Q z H') → rH xs H Q
@[reducible] def dOp (r : DR2) (ta tb : DTE) : DTE := fun δ L Q => ta δ L fun x L1 => tb δ L1 fun y L2 => r x y L2 Q
@[reducible] def dUn (r : DR1) (ta : DTE) : DTE := fun δ L Q => ta δ L fun x L1 => r x L1 Q
variable {a b : Expr} {ta tb : DTE} {pos : Pos}
theorem op_core {r : DR2} {rH : R2} (hl : Lift2 X.K r rH) (σ : St) (H : Hp) (Q : VK) (h : up X.K (dOp r ta tb) σ H Q) : tOp rH (up X.K ta) (up X.K tb) σ H Q := by
  obtain ⟨δ, L, Qd, rs, h, k⟩ := h
  refine ⟨δ, L, _, rs, h, fun x H1 d L1 e1 r1 l1 h1 => ⟨δ, L1, _, rs.step e1 l1, h1, fun y H2 e L2 e2 r2 l2 h2 => ?_⟩⟩
  exact hl _ _ _ _ _ _ _ _ (r1.ext e2) r2 l2 h2 fun z H' d' L' e3 r3 l3 q3 => k z H' d' L' ((e1.trans e2).trans e3) r3 l3 q3
theorem d_op {op : Operator} {r : DR2} {rH : R2} (ho : OpR X (binaryOp op) rH) (hl : Lift2 X.K r rH) (ha : DE X a ta) (hb : DE X b tb) : DE X (.BinOp a op b pos) (dOp r ta tb) := PE.wk (pe_op ho ha hb) (op_core hl)
theorem d_un {op : UnaryOp} {r : DR1} {rH : V → Hp → VK → Prop} (ho : UnR X (unaryOp op) rH) (hl : Lift1 X.K r rH) (ha : DE X a ta) : DE X (.UnaryOp op a pos) (dUn r ta) := PE.wk (pe_un ho ha) fun σ H Q h => by
  obtain ⟨δ, L, Qd, rs, h, k⟩ := h
  refine ⟨δ, L, _, rs, h, fun x H1 d L1 e1 r1 l1 h1 => ?_⟩
  exact hl _ _ _ _ _ _ r1 l1 h1 fun z H' d' L' e3 r3 l3 q3 => k z H' d' L' (e1.trans e3) r3 l3 q3
theorem d_cmp {op : CmpOp} {r : DR2} {rH : R2} (ho : OpR X (compareOp op) rH) (hl : Lift2 X.K r rH) (ha : DE X a ta) (hb : DE X b tb) (hm : behindInMarks op b = false) : DE X (.Compare a [op] [b] pos) (dOp r ta tb) := PE.wk (pe_cmpR ho ha hb hm) (op_core hl)

/-! ints, tuples, texts, lists -/
@[reducible] def rAdd : DR2 := fun x y L Q => match x, y with
  | .int i, .int j => Q (.int (i + j)) L
  | .str s, .str t => s.length + t.length ≤ sizeLine ∧ Q (.str (s ++ t)) L
  | .tup xs, .tup ys => xs.length + ys.length ≤ sizeLine ∧ Q (.tup (xs ++ ys)) L
  | .v (.ref p), .v (.ref q) => ∃ xs ys, L p = some (.lst xs) ∧ L q = some (.lst ys) ∧ xs.length + ys.length ≤ sizeLine ∧ ∀ n, L n = none → Q (.v (.ref n)) (lup L n (.lst (xs ++ ys)))
  | _, _ => False
theorem op_addD : ∃ rH, OpR X (binaryOp .Add) rH ∧ Lift2 X.K rAdd rH := by
  refine ⟨_, op_add.or (op_add_str.or (op_cat.or op_catA)), fun d e x y L H Qd Q r1 r2 l h k => ?_⟩
  cases d with
  | int i =>
    cases e with
    | int j => exact .inl ⟨i, j, r1, r2, KK.int k l h⟩
    | _ => exact h.elim
  | str i =>
    cases e with
    | str j => exact .inr (.inl ⟨i, j, r1, r2, h.1, KK.str k l h.2⟩)
    | _ => exact h.elim
  | tup ds =>
    cases e with
    | tup es =>
      obtain ⟨p, xs, ex, s1, q1⟩ := r1
      obtain ⟨q, ys, ey, s2, q2⟩ := r2
      have e1 := q1.length
      have e2 := q2.length
      refine .inr (.inr (.inr ⟨p, q, xs, ys, ex, ey, s1, s2, by omega, fun hx => ?_, fun hx hy => ?_, fun hx hy n hn => ?_⟩))
      · subst hx
        cases (List.length_eq_zero_iff.mp e1)
        exact k _ _ (.tup es) _ (.refl _ _) ⟨q, ys, rfl, s2, q2⟩ l h.2
      · subst hy
        cases (List.length_eq_zero_iff.mp e2)
        exact k _ _ (.tup (ds ++ [])) _ (.refl _ _) ⟨p, xs, rfl, s1, by rw [List.append_nil]; exact q1⟩ l h.2
      · exact k _ _ (.tup (ds ++ es)) _ (.new hn) ⟨n, _, rfl, .inl (.inl upd_same), (q1.append q2).ext (.new hn)⟩ (l.tup hn) h.2
    | _ => exact h.elim
  | v u =>
    cases u with
    | ref p =>
      cases e with
      | v u' =>
        cases u' with
        | ref q =>
          obtain ⟨xs, ys, h1, h2, hz, h⟩ := h
          obtain ⟨vs, a1, b1⟩ := l.lst h1
          obtain ⟨ws, a2, b2⟩ := l.lst h2
          refine .inr (.inr (.inl ⟨p, q, vs, ws, r1, r2, a1, a2, by rw [← b1.length, ← b2.length]; exact hz, fun n hn => ?_⟩))
          exact KK.ref k (.new hn) (l.upd (.new hn) (b1.append b2)) (h n (l.free hn))
        | _ => exact h.elim
      | _ => exact h.elim
    | _ => exact h.elim
  | _ => exact h.elim
theorem d_add (ha : DE X a ta) (hb : DE X b tb) : DE X (.BinOp a .Add b pos) (dOp rAdd ta tb) := let ⟨_, h, l⟩ := op_addD (X := X); d_op h l ha hb
/-- two ints -/
@[reducible] def rII (C : Int → Int → Prop) (g : Int → Int → D) : DR2 := fun x y L Q => match x, y with
  | .int i, .int j => C i j ∧ Q (g i j) L
  | _, _ => False
@[reducible] def rI0 (g : Int → Int → D) : DR2 := fun x y L Q => match x, y with
  | .int i, .int j => Q (g i j) L
  | _, _ => False
theorem lift_I {C C' : Int → Int → Prop} {g : Int → Int → D} {g' : Int → Int → V} (hC : ∀ i j, C i j → C' i j) (hg : ∀ i j, C i j → ∀ K H, Rp K H (g i j) (g' i j)) : Lift2 X.K (rII C g) (L2.rI C' g') := fun d e x y L H Qd Q r1 r2 l h k => by
  cases d with
  | int i =>
    cases e with
    | int j => exact ⟨i, j, r1, r2, hC i j h.1, k _ _ _ _ (.refl _ _) (hg i j h.1 _ _) l h.2⟩
    | _ => exact h.elim
  | _ => exact h.elim
theorem lift_I0 {g : Int → Int → D} {g' : Int → Int → V} (hg : ∀ i j K H, Rp K H (g i j) (g' i j)) : Lift2 X.K (rI0 g) (L2.rI0 g') := fun d e x y L H Qd Q r1 r2 l h k => by
  cases d with
  | int i =>
    cases e with
    | int j => exact ⟨i, j, r1, r2, k _ _ _ _ (.refl _ _) (hg i j _ _) l h⟩
    | _ => exact h.elim
  | _ => exact h.elim
theorem d_sub (ha : DE X a ta) (hb : DE X b tb) : DE X (.BinOp a .Sub b pos) (dOp (rI0 fun i j => .int (i - j)) ta tb) := d_op op_sub (lift_I0 fun _ _ _ _ => rfl) ha hb
theorem d_mul (ha : DE X a ta) (hb : DE X b tb) : DE X (.BinOp a .Mult b pos) (dOp (rII CMul fun i j => .int (i * j)) ta tb) := d_op op_mul (lift_I (fun _ _ h => h) fun _ _ _ _ _ => rfl) ha hb
theorem d_mod (ha : DE X a ta) (hb : DE X b tb) : DE X (.BinOp a .Mod b pos) (dOp (rII (fun _ j => 0 < j) fun i j => .int (i % j)) ta tb) := d_op op_mod (lift_I (fun _ _ h => h) fun _ _ _ _ _ => rfl) ha hb
/-- a positive divisor below 2^30 -/
theorem d_div (ha : DE X a ta) (hb : DE X b tb) : DE X (.BinOp a .FloorDiv b pos) (dOp (rII CDiv fun i j => .int (i / j)) ta tb) := d_op op_fdiv (lift_I (fun _ _ h => h) fun _ _ _ _ _ => rfl) ha hb
theorem d_pow (ha : DE X a ta) (hb : DE X b tb) : DE X (.BinOp a .Pow b pos) (dOp (rII CPow fun i j => .int (i ^ j.toNat)) ta tb) := d_op op_pow (lift_I (fun _ _ h => h) fun _ _ _ _ _ => rfl) ha hb
theorem d_shl (ha : DE X a ta) (hb : DE X b tb) : DE X (.BinOp a .LShift b pos) (dOp (rII CPow fun i j => .int (i * 2 ^ j.toNat)) ta tb) := d_op op_shl (lift_I (fun _ _ h => h) fun _ _ _ _ _ => rfl) ha hb
@[reducible] def rNeg : DR1 := fun x L Q => match x with
  | .int i => Q (.int (-i)) L
  | _ => False
theorem d_neg (ha : DE X a ta) : DE X (.UnaryOp .USub a pos) (dUn rNeg ta) := d_un un_neg (fun d x L H Qd Q r l h k => by
  cases d with
  | int i => exact ⟨i, r, KK.int k l h⟩
  | _ => exact h.elim) ha

/-! ### comparisons -/
theorem d_lt (ha : DE X a ta) (hb : DE X b tb) : DE X (.Compare a [.Lt] [b] pos) (dOp (rI0 fun i j => .bl (decide (i < j))) ta tb) := d_cmp op_lt (lift_I0 fun _ _ _ _ => rfl) ha hb (nomark _)
theorem d_le (ha : DE X a ta) (hb : DE X b tb) : DE X (.Compare a [.LtE] [b] pos) (dOp (rI0 fun i j => .bl (decide (i ≤ j))) ta tb) := d_cmp op_le (lift_I0 fun _ _ _ _ => rfl) ha hb (nomark _)
theorem d_gt (ha : DE X a ta) (hb : DE X b tb) : DE X (.Compare a [.Gt] [b] pos) (dOp (rI0 fun i j => .bl (decide (j < i))) ta tb) := d_cmp op_gt (lift_I0 fun _ _ _ _ => rfl) ha hb (nomark _)
theorem d_ge (ha : DE X a ta) (hb : DE X b tb) : DE X (.Compare a [.GtE] [b] pos) (dOp (rI0 fun i j => .bl (decide (j ≤ i))) ta tb) := d_cmp op_ge (lift_I0 fun _ _ _ _ => rfl) ha hb (nomark _)
end

/-! == of data -/
mutual
def D.py : D → PyData
  | .non => .none
  | .bl b => .bool b
  | .int i => .int i
  | .str x => .str x
  | .tup xs => .tuple (D.pys xs)
  | .rol xs => .list (D.pys xs)
  | .v _ => .none
def D.pys : List D → List PyData
  | [] => []
  | d :: ds => d.py :: D.pys ds
end
mutual
def D.dat : D → Bool
  | .tup xs => D.dats xs
  | .rol xs => D.dats xs
  | .v _ => false
  | _ => true
def D.dats : List D → Bool
  | [] => true
  | d :: ds => d.dat && D.dats ds
end
theorem D.pys_eq : ∀ ds : List D, D.pys ds = ds.map D.py
  | [] => rfl
  | d :: ds => by rw [List.map_cons, ← D.pys_eq ds]; rfl
theorem D.dats_iff : ∀ ds : List D, D.dats ds = true ↔ ∀ d ∈ ds, d.dat = true
  | [] => by simp [D.dats]
  | d :: ds => by rw [D.dats, Bool.and_eq_true, D.dats_iff ds]; simp
mutual
theorem Rp.dp {K : PySem.W.Frag} {H : Hp} : ∀ (d : D) (x : V), Rp K H d x → d.dat = true → Dp K H x d.py
  | .non, _, h, _ => by cases (show _ = _ from h); exact .non
  | .bl b, _, h, _ => by cases (show _ = _ from h); exact .bl b
  | .int i, _, h, _ => by cases (show _ = _ from h); exact .int i
  | .str z, _, h, _ => by cases (show _ = _ from h); exact .str z
  | .tup ds, _, h, e => by
    obtain ⟨a, xs, rfl, s, r⟩ := h
    exact .tup s (RpL.dp ds xs r e)
  | .rol ds, _, h, e => by
    obtain ⟨a, xs, rfl, s, r⟩ := h
    exact .lst s.sq (RpL.dp ds xs r e)
  | .v _, _, _, e => by cases e
theorem RpL.dp {K : PySem.W.Frag} {H : Hp} : ∀ (ds : List D) (xs : List V), RpL K H ds xs → D.dats ds = true → DpAll K H xs (D.pys ds)
  | [], _, h, _ => by cases (show _ = [] from h); exact .nil
  | d :: ds, _, h, e => by
    obtain ⟨x, r, rfl, h1, h2⟩ := h
    have e' := Bool.and_eq_true_iff.mp (show (d.dat && D.dats ds) = true from e)
    exact .cons (Rp.dp d x h1 e'.1) (RpL.dp ds r h2 e'.2)
end
def D.ok (d : D) : Bool := d.dat && SeqAt.shaped d.py
def D.eq (d e : D) : Bool := PyData.eqv d.py e.py
@[reducible] def rEq (f : Bool → Bool) : DR2 := fun x y L Q => match x, y with
  | .int i, .int j => Q (.bl (f (decide (i = j)))) L
  | .str i, .str j => Q (.bl (f (decide (i = j)))) L
  | .bl i, .bl j => Q (.bl (f (decide (i = j)))) L
  | x, y => x.ok = true ∧ y.ok = true ∧ Q (.bl (f (D.eq x y))) L
section
variable {X : Cx} {a b : Expr} {ta tb : DTE} {pos : Pos}
theorem rEq_core {K : PySem.W.Frag} {H : Hp} {L : LH} {d e : D} {x y : V} {Qd : DK} {f : Bool → Bool} (r1 : Rp K H d x) (r2 : Rp K H e y) (h : rEq f d e L Qd) : (scal x y = true ∧ Qd (.bl (f (decide (x = y)))) L) ∨ ∃ d' e', Dp K H x d' ∧ Dp K H y e' ∧ SeqAt.shaped d' = true ∧ SeqAt.shaped e' = true ∧ Qd (.bl (f (PyData.eqv d' e'))) L := by
  have gen : d.ok = true ∧ e.ok = true ∧ Qd (.bl (f (D.eq d e))) L → (scal x y = true ∧ Qd (.bl (f (decide (x = y)))) L) ∨ ∃ d' e', Dp K H x d' ∧ Dp K H y e' ∧ SeqAt.shaped d' = true ∧ SeqAt.shaped e' = true ∧ Qd (.bl (f (PyData.eqv d' e'))) L := fun ⟨h1, h2, h⟩ => by
    have a1 := Bool.and_eq_true_iff.mp (show (d.dat && SeqAt.shaped d.py) = true from h1)
    have a2 := Bool.and_eq_true_iff.mp (show (e.dat && SeqAt.shaped e.py) = true from h2)
    exact .inr ⟨d.py, e.py, r1.dp _ _ a1.1, r2.dp _ _ a2.1, a1.2, a2.2, h⟩
  cases d with
  | int i =>
    cases e with
    | int j =>
      cases (show x = _ from r1)
      cases (show y = _ from r2)
      exact .inl ⟨rfl, by rw [show decide (V.int i = V.int j) = decide (i = j) from by rw [dec_int, Bool.beq_eq_decide_eq]]; exact h⟩
    | _ => exact gen h
  | str i =>
    cases e with
    | str j =>
      cases (show x = _ from r1)
      cases (show y = _ from r2)
      exact .inl ⟨rfl, by rw [show decide (V.str i = V.str j) = decide (i = j) from by rw [dec_str, Bool.beq_eq_decide_eq]]; exact h⟩
    | _ => exact gen h
  | bl i =>
    cases e with
    | bl j =>
      cases (show x = _ from r1)
      cases (show y = _ from r2)
      exact .inl ⟨rfl, by rw [show decide (V.bl i = V.bl j) = decide (i = j) from by rw [dec_bl, Bool.beq_eq_decide_eq]]; exact h⟩
    | _ => exact gen h
  | _ => exact gen h
theorem d_eq (hu : X.A.units + 64 < cLine) (ha : DE X a ta) (hb : DE X b tb) : DE X (.Compare a [.Eq] [b] pos) (dOp (rEq id) ta tb) := d_cmp (op_eq.or (op_eqD hu)) (fun d e x y L H Qd Q r1 r2 l h k => by
  rcases rEq_core r1 r2 h with ⟨s, q⟩ | ⟨d', e', p1, p2, s1, s2, q⟩
  · exact .inl ⟨s, KK.bl k l q⟩
  · exact .inr ⟨d', e', p1, p2, s1, s2, KK.bl k l q⟩) ha hb (nomark _)
theorem d_ne (hu : X.A.units + 64 < cLine) (ha : DE X a ta) (hb : DE X b tb) : DE X (.Compare a [.NotEq] [b] pos) (dOp (rEq not) ta tb) := d_cmp (op_ne.or (op_neD hu)) (fun d e x y L H Qd Q r1 r2 l h k => by
  rcases rEq_core r1 r2 h with ⟨s, q⟩ | ⟨d', e', p1, p2, s1, s2, q⟩
  · exact .inl ⟨s, KK.bl k l q⟩
  · exact .inr ⟨d', e', p1, p2, s1, s2, KK.bl k l q⟩) ha hb (nomark _)
/-! is None -/
@[reducible] def isN : D → Bool
  | .non => true
  | .v x => decide (x = .non)
  | _ => false
theorem isN_rp {K : PySem.W.Frag} {H : Hp} {d : D} {x : V} (r : Rp K H d x) : decide (x = .non) = isN d := by
  cases d with
  | non => cases (show x = _ from r); rfl
  | bl _ => cases (show x = _ from r); rfl
  | int _ => cases (show x = _ from r); rfl
  | str _ => cases (show x = _ from r); rfl
  | tup ds => obtain ⟨_, _, rfl, _⟩ := r; rfl
  | rol ds => obtain ⟨_, _, rfl, _⟩ := r; rfl
  | v y => cases (show x = y from r); rfl
@[reducible] def rIsN (f : Bool → Bool) : DR2 := fun x y L Q => match y with
  | .non => Q (.bl (f (isN x))) L
  | _ => False
theorem d_isN (ha : DE X a ta) (hb : DE X b tb) : DE X (.Compare a [.Is] [b] pos) (dOp (rIsN id) ta tb) := d_cmp op_isN (fun d e x y L H Qd Q r1 r2 l h k => by
  cases e with
  | non => exact ⟨r2, by rw [isN_rp r1]; exact KK.bl k l h⟩
  | _ => exact h.elim) ha hb (nomark _)
theorem d_notN (ha : DE X a ta) (hb : DE X b tb) : DE X (.Compare a [.IsNot] [b] pos) (dOp (rIsN not) ta tb) := d_cmp op_notN (fun d e x y L H Qd Q r1 r2 l h k => by
  cases e with
  | non => exact ⟨r2, by rw [isN_rp r1]; exact KK.bl k l h⟩
  | _ => exact h.elim) ha hb (nomark _)

/-! ### tests -/
@[reducible] def dTest (t : DTE) : DTT := fun δ L Q => t δ L fun x L1 => match x with
  | .bl k => Q k L1
  | _ => False
theorem d_test {e : Expr} {t : DTE} (h : DE X e t) (he : ∀ whole, isTrue e X.env whole = (do let v ← whole; standAt e.pos; holding [v] (truthy v)) := by intro _; rfl) : DT X e (dTest t) := PT.wk (pt_val h he) fun σ H Q h => by
  obtain ⟨δ, L, Qd, rs, h, k⟩ := h
  refine ⟨δ, L, _, rs, h, fun x H1 d L1 e1 r1 l1 h1 => ?_⟩
  cases d with
  | bl c => exact ⟨c, r1, k _ _ _ e1 l1 h1⟩
  | _ => exact h1.elim
end
end G
namespace G
open PySem PySem.Spec PyProof.Rows L2
theorem BIf.map {b : Bool} {A B A' B' : Prop} (h : BIf b A B) (f : A → A') (g : B → B') : if b = true then A' else B' := by
  cases b with
  | true => rw [if_pos rfl]; exact f (h.1 rfl)
  | false => rw [if_neg Bool.false_ne_true]; exact g (h.2 rfl)
section
variable {X : Cx} {a b c : Expr} {ta tb tc : DTE} {uA uB : DTT} {pos : Pos} {rest : List Expr}

/-! ### and, or, not, if .. else -/
@[reducible] def dAnd (t u : DTT) : DTT := fun δ L Q => t δ L fun b L1 => BIf b (u δ L1 Q) (Q false L1)
@[reducible] def dOr (t u : DTT) : DTT := fun δ L Q => t δ L fun b L1 => BIf b (Q true L1) (u δ L1 Q)
@[reducible] def dNot (t : DTT) : DTT := fun δ L Q => t δ L fun b L1 => Q (!b) L1
theorem dw_and1 (ha : DT X a uA) : DW X (.BoolOp .And [a] pos) uA := pw_and1 ha
theorem dw_or1 (ha : DT X a uA) : DW X (.BoolOp .Or [a] pos) uA := pw_or1 ha
theorem dw_and (ha : DT X a uA) (hb : DW X (.BoolOp .And (b :: rest) pos) uB) : DW X (.BoolOp .And (a :: b :: rest) pos) (dAnd uA uB) := PW.wk (pw_and ha hb) fun σ H Q h => by
  obtain ⟨δ, L, Qd, rs, h, k⟩ := h
  exact ⟨δ, L, _, rs, h, fun x H1 L1 e1 l1 h1 => BIf.map h1 (fun h2 => ⟨δ, L1, Qd, rs.step e1 l1, h2, fun x' H2 L2 e2 l2 h3 => k x' H2 L2 (e1.trans e2) l2 h3⟩) fun h2 => k _ _ _ e1 l1 h2⟩
theorem dw_or (ha : DT X a uA) (hb : DW X (.BoolOp .Or (b :: rest) pos) uB) : DW X (.BoolOp .Or (a :: b :: rest) pos) (dOr uA uB) := PW.wk (pw_or ha hb) fun σ H Q h => by
  obtain ⟨δ, L, Qd, rs, h, k⟩ := h
  exact ⟨δ, L, _, rs, h, fun x H1 L1 e1 l1 h1 => BIf.map h1 (fun h2 => k _ _ _ e1 l1 h2) fun h2 => ⟨δ, L1, Qd, rs.step e1 l1, h2, fun x' H2 L2 e2 l2 h3 => k x' H2 L2 (e1.trans e2) l2 h3⟩⟩
theorem DW.dt {e : Expr} {t : DTT} (h : DW X e t) : DT X e t := PW.pt h
theorem dt_not (ha : DT X a uA) : DT X (.UnaryOp .Not a pos) (dNot uA) := PT.wk (pt_not ha) fun σ H Q h => by
  obtain ⟨δ, L, Qd, rs, h, k⟩ := h
  exact ⟨δ, L, _, rs, h, fun x H1 L1 e1 l1 h1 => k _ _ _ e1 l1 h1⟩
@[reducible] def dAndV (ta tb : DTE) : DTE := fun δ L Q => ta δ L fun x L1 => match x with
  | .bl c => BIf c (tb δ L1 Q) (Q (.bl false) L1)
  | _ => False
@[reducible] def dOrV (ta tb : DTE) : DTE := fun δ L Q => ta δ L fun x L1 => match x with
  | .bl c => BIf c (Q (.bl true) L1) (tb δ L1 Q)
  | _ => False
@[reducible] def dNotV (ta : DTE) : DTE := fun δ L Q => ta δ L fun x L1 => match x with
  | .bl c => Q (.bl (!c)) L1
  | _ => False
theorem d_one {op} (h : DE X a ta) : DE X (.BoolOp op [a] pos) ta := pe_one h
theorem d_and (ha : DE X a ta) (hb : DE X (.BoolOp .And (b :: rest) pos) tb) : DE X (.BoolOp .And (a :: b :: rest) pos) (dAndV ta tb) := PE.wk (pe_and ha hb) fun σ H Q h => by
  obtain ⟨δ, L, Qd, rs, h, k⟩ := h
  refine ⟨δ, L, _, rs, h, fun x H1 d L1 e1 r1 l1 h1 => ?_⟩
  cases d with
  | bl c => exact ⟨c, r1, BIf.map h1 (fun h2 => ⟨δ, L1, Qd, rs.step e1 l1, h2, fun x' H2 d2 L2 e2 r2 l2 h3 => k x' H2 d2 L2 (e1.trans e2) r2 l2 h3⟩) fun h2 => k _ _ (.bl false) _ e1 rfl l1 h2⟩
  | _ => exact h1.elim
theorem d_or (ha : DE X a ta) (hb : DE X (.BoolOp .Or (b :: rest) pos) tb) : DE X (.BoolOp .Or (a :: b :: rest) pos) (dOrV ta tb) := PE.wk (pe_or ha hb) fun σ H Q h => by
  obtain ⟨δ, L, Qd, rs, h, k⟩ := h
  refine ⟨δ, L, _, rs, h, fun x H1 d L1 e1 r1 l1 h1 => ?_⟩
  cases d with
  | bl c => exact ⟨c, r1, BIf.map h1 (fun h2 => k _ _ (.bl true) _ e1 rfl l1 h2) fun h2 => ⟨δ, L1, Qd, rs.step e1 l1, h2, fun x' H2 d2 L2 e2 r2 l2 h3 => k x' H2 d2 L2 (e1.trans e2) r2 l2 h3⟩⟩
  | _ => exact h1.elim
theorem d_not (ha : DE X a ta) : DE X (.UnaryOp .Not a pos) (dNotV ta) := PE.wk (pe_not ha) fun σ H Q h => by
  obtain ⟨δ, L, Qd, rs, h, k⟩ := h
  refine ⟨δ, L, _, rs, h, fun x H1 d L1 e1 r1 l1 h1 => ?_⟩
  cases d with
  | bl c => exact ⟨c, r1, k _ _ (.bl _) _ e1 rfl l1 h1⟩
  | _ => exact h1.elim
@[reducible] def dIf (t : DTT) (ta tb : DTE) : DTE := fun δ L Q => t δ L fun c L1 => BIf c (ta δ L1 Q) (tb δ L1 Q)
theorem d_if (hc : DT X c uA) (ha : DE X a ta) (hb : DE X b tb) : DE X (.IfExp c a b pos) (dIf uA ta tb) := PE.wk (pe_ifExp hc ha hb) fun σ H Q h => by
  obtain ⟨δ, L, Qd, rs, h, k⟩ := h
  exact ⟨δ, L, _, rs, h, fun x H1 L1 e1 l1 h1 => BIf.map h1 (fun h2 => ⟨δ, L1, Qd, rs.step e1 l1, h2, fun x' H2 d2 L2 e2 r2 l2 h3 => k x' H2 d2 L2 (e1.trans e2) r2 l2 h3⟩) fun h2 => ⟨δ, L1, Qd, rs.step e1 l1, h2, fun x' H2 d2 L2 e2 r2 l2 h3 => k x' H2 d2 L2 (e1.trans e2) r2 l2 h3⟩⟩
/-! ### a op b op' c -/
@[reducible] def dChain (r r' : DR2) (ta tb tc : DTE) : DTE := fun δ L Q => ta δ L fun x L1 => tb δ L1 fun y L2 => r x y L2 fun z L3 => match z with
  | .bl k => BIf k (tc δ L3 fun w L4 => r' y w L4 Q) (Q (.bl false) L3)
  | _ => False
theorem chain_core {r r' : DR2} {rH rH' : R2} (hl : Lift2 X.K r rH) (hl' : Lift2 X.K r' rH') (σ : St) (H : Hp) (Q : VK) (h : up X.K (dChain r r' ta tb tc) σ H Q) : tChain rH rH' (up X.K ta) (up X.K tb) (up X.K tc) σ H Q := by
  obtain ⟨δ, L, Qd, rs, h, k⟩ := h
  refine ⟨δ, L, _, rs, h, fun x H1 d L1 e1 r1 l1 h1 => ⟨δ, L1, _, rs.step e1 l1, h1, fun y H2 e L2 e2 r2 l2 h2 => ?_⟩⟩
  refine hl _ _ _ _ _ _ _ _ (r1.ext e2) r2 l2 h2 fun z H3 d3 L3 e3 r3 l3 q3 => ?_
  cases d3 with
  | bl c =>
    refine ⟨c, r3, BIf.map q3 (fun q => ⟨δ, L3, _, rs.step ((e1.trans e2).trans e3) l3, q, fun w H4 d4 L4 e4 r4 l4 q4 => ?_⟩) fun q => k _ _ (.bl false) _ ((e1.trans e2).trans e3) rfl l3 q⟩
    exact hl' _ _ _ _ _ _ _ _ ((r2.ext e3).ext e4) r4 l4 q4 fun z' H5 d5 L5 e5 r5 l5 q5 => k _ _ _ _ ((((e1.trans e2).trans e3).trans e4).trans e5) r5 l5 q5
  | _ => exact q3.elim
theorem d_chain {op op' : CmpOp} {r r' : DR2} {rH rH' : R2} (ho : OpR X (compareOp op) rH) (ho' : OpR X (compareOp op') rH') (hl : Lift2 X.K r rH) (hl' : Lift2 X.K r' rH') (ha : DE X a ta) (hb : DE X b tb) (hc : DE X c tc)
    (hm : lastMarks [op, op'] [b, c] = false := by with_unfolding_all rfl) : DE X (.Compare a [op, op'] [b, c] pos) (dChain r r' ta tb tc) := PE.wk (pe_chain ho ho' ha hb hc hm) (chain_core hl hl')
theorem dt_chain {op op' : CmpOp} {r r' : DR2} {rH rH' : R2} (ho : OpR X (compareOp op) rH) (ho' : OpR X (compareOp op') rH') (hl : Lift2 X.K r rH) (hl' : Lift2 X.K r' rH') (ha : DE X a ta) (hb : DE X b tb) (hc : DE X c tc)
    (hm : lastMarks [op, op'] [b, c] = false := by with_unfolding_all rfl) : DT X (.Compare a [op, op'] [b, c] pos) (dTest (dChain r r' ta tb tc)) := PT.wk (pt_chain ho ho' ha hb hc hm) fun σ H Q h => by
  obtain ⟨δ, L, Qd, rs, h, k⟩ := h
  refine chain_core hl hl' σ H _ ⟨δ, L, _, rs, h, fun x H1 d L1 e1 r1 l1 h1 => ?_⟩
  cases d with
  | bl c => exact ⟨c, r1, k _ _ _ e1 l1 h1⟩
  | _ => exact h1.elim
/-- a comparison as a test (the statement of a comparison in an if) -/
theorem dt_cmp {op : CmpOp} {r : DR2} {rH : R2} (ho : OpR X (compareOp op) rH) (hl : Lift2 X.K r rH) (ha : DE X a ta) (hb : DE X b tb) (hm : behindInMarks op b = false) : DT X (.Compare a [op] [b] pos) (dTest (dOp r ta tb)) := PT.wk (pt_cmpR ho ha hb hm) fun σ H Q h => by
  obtain ⟨δ, L, Qd, rs, h, k⟩ := h
  refine op_core hl σ H _ ⟨δ, L, _, rs, h, fun x H1 d L1 e1 r1 l1 h1 => ?_⟩
  cases d with
  | bl c => exact ⟨c, r1, k _ _ _ e1 l1 h1⟩
  | _ => exact h1.elim

/-! ### truth of any value -/
@[reducible] def dTru (t : DTE) : DTT := fun δ L Q => t δ L fun x L1 => match x with
  | .bl k => Q k L1
  | .non => Q false L1
  | .int i => Q (i != 0) L1
  | .str y => y.length ≤ sizeLine ∧ Q ((y.length : Int) != 0) L1
  | .tup xs => Q (!xs.isEmpty) L1
  | .rol xs => Q (!xs.isEmpty) L1
  | .v (.ref p) => ∃ xs, L1 p = some (.lst xs) ∧ Q (!xs.isEmpty) L1
  | _ => False
theorem RpL.isEmpty {K : PySem.W.Frag} {H : Hp} {ds : List D} {xs : List V} (r : RpL K H ds xs) : (!xs.isEmpty) = !ds.isEmpty := by
  have := r.length
  cases ds <;> cases xs <;> simp_all
theorem dt_tru (ha : DE X a ta) (he : ∀ whole, isTrue a X.env whole = (do let v ← whole; standAt a.pos; holding [v] (truthy v)) := by intro _; rfl) : DT X a (dTru ta) := PT.wk (pt_truth ha he) fun σ H Q h => by
  obtain ⟨δ, L, Qd, rs, h, k⟩ := h
  refine ⟨δ, L, _, rs, h, fun x H1 d L1 e1 r1 l1 h1 => ?_⟩
  cases d with
  | bl c => cases (show x = _ from r1); exact ⟨c, rfl, k _ _ _ e1 l1 h1⟩
  | non => cases (show x = _ from r1); exact ⟨false, rfl, k _ _ _ e1 l1 h1⟩
  | int i => cases (show x = _ from r1); exact ⟨_, rfl, k _ _ _ e1 l1 h1⟩
  | str i => cases (show x = _ from r1); exact ⟨_, ⟨h1.1, rfl⟩, k _ _ _ e1 l1 h1.2⟩
  | tup ds =>
    obtain ⟨p, xs, rfl, s, r⟩ := r1
    exact ⟨_, .inr (.inl ⟨xs, s, (r.isEmpty).symm⟩), k _ _ _ e1 l1 h1⟩
  | rol ds =>
    obtain ⟨p, xs, rfl, s, r⟩ := r1
    exact ⟨_, .inl ⟨xs, s.sq, (r.isEmpty).symm⟩, k _ _ _ e1 l1 h1⟩
  | v u =>
    cases u with
    | ref p =>
      cases (show x = _ from r1)
      obtain ⟨ds, hL, h1⟩ := h1
      obtain ⟨xs, s, r⟩ := l1.lst hL
      exact ⟨_, .inl ⟨xs, .of s, (r.isEmpty).symm⟩, k _ _ _ e1 l1 h1⟩
    | _ => exact h1.elim

/-! ### arguments, displays -/
variable {e : Expr} {es : List Expr} {te : DTE} {t : DTA}
@[reducible] def dNil : DTA := fun _ L Q => Q [] L
@[reducible] def dCons (te : DTE) (t : DTA) : DTA := fun δ L Q => te δ L fun x L1 => t δ L1 fun xs L2 => Q (x :: xs) L2
theorem da_nil : DA X [] dNil := PA.wk pa_nil fun σ H Q h => by
  obtain ⟨δ, L, Qd, rs, h, k⟩ := h
  exact k [] H [] L (.refl _ _) rfl rs.hp h
theorem da_cons (ha : DE X e te) (hr : DA X es t) (hs : starEach (e :: es) X.env = (false, eval e X.env) :: starEach es X.env := by rfl) : DA X (e :: es) (dCons te t) := PA.wk (pa_cons ha hr hs) fun σ H Q h => by
  obtain ⟨δ, L, Qd, rs, h, k⟩ := h
  refine ⟨δ, L, _, rs, h, fun x H1 d L1 e1 r1 l1 h1 => ⟨δ, L1, _, rs.step e1 l1, h1, fun ys H2 ds L2 e2 r2 l2 h2 => ?_⟩⟩
  exact k _ H2 (d :: ds) L2 (e1.trans e2) (.cons (r1.ext e2) r2) l2 h2
@[reducible] def dTup (t : DTA) : DTE := fun δ L Q => t δ L fun xs L1 => Q (.tup xs) L1
@[reducible] def dLst (t : DTA) : DTE := fun δ L Q => t δ L fun xs L1 => ∀ p, L1 p = none → Q (.v (.ref p)) (lup L1 p (.lst xs))
end
theorem len_da {K : PySem.W.Frag} {H : Hp} {ds : List D} {xs : List V} (r : RpL K H ds xs) : ds.length = xs.length := r.length
section
variable {X : Cx} {e : Expr} {es : List Expr} {te : DTE} {t : DTA} {pos : Pos}
/-- a display of few items: n, their number, is told by the text -/
structure DAn (X : Cx) (es : List Expr) (n : Nat) (t : DTA) : Prop where
  run : PA X es fun σ H Q => upA X.K t σ H fun xs H1 => xs.length = n → Q xs H1
theorem dan_nil : DAn X [] 0 dNil := ⟨PA.wk pa_nil fun σ H Q h => by
  obtain ⟨δ, L, Qd, rs, h, k⟩ := h
  exact k [] H [] L (.refl _ _) rfl rs.hp h rfl⟩
theorem dan_cons {n : Nat} (ha : DE X e te) (hr : DAn X es n t) (hs : starEach (e :: es) X.env = (false, eval e X.env) :: starEach es X.env := by rfl) : DAn X (e :: es) (n + 1) (dCons te t) := ⟨PA.wk (pa_cons ha hr.run hs) fun σ H Q h => by
  obtain ⟨δ, L, Qd, rs, h, k⟩ := h
  refine ⟨δ, L, _, rs, h, fun x H1 d L1 e1 r1 l1 h1 => ⟨δ, L1, _, rs.step e1 l1, h1, fun ys H2 ds L2 e2 r2 l2 h2 hn => ?_⟩⟩
  exact k _ H2 (d :: ds) L2 (e1.trans e2) (.cons (r1.ext e2) r2) l2 h2 (by rw [List.length_cons, hn])⟩
theorem d_tup {n : Nat} {x1} (h : DAn X es n t) (hn : n ≤ 1000 := by decide) : DE X (.Tuple es x1 pos) (dTup t) := PE.wk (pe_tup h.run) fun σ H Q h => by
  obtain ⟨δ, L, Qd, rs, h, k⟩ := h
  refine ⟨δ, L, _, rs, h, fun xs H1 ds L1 e1 r1 l1 h1 hl => ⟨by rw [hl, sizeLine_eq]; omega, fun p hp => ?_⟩⟩
  exact k _ _ (.tup ds) _ (e1.trans (.new hp)) ⟨p, xs, rfl, .inl (.inl upd_same), r1.ext (.new hp)⟩ (l1.tup hp) h1
theorem d_lst {n : Nat} (h : DAn X es n t) (hn : n ≤ 1000 := by decide) : DE X (.List es pos) (dLst t) := PE.wk (pe_lst h.run) fun σ H Q h => by
  obtain ⟨δ, L, Qd, rs, h, k⟩ := h
  refine ⟨δ, L, _, rs, h, fun xs H1 ds L1 e1 r1 l1 h1 hl => ⟨by rw [hl, sizeLine_eq]; omega, fun p hp => ?_⟩⟩
  exact KK.ref k (e1.trans (.new hp)) (l1.upd (.new hp) r1) (h1 p (l1.free hp))

/-! ### items, slices -/
variable {a b : Expr} {ta tb : DTE}
/-- the items of a sequence -/
@[reducible] def itemsOf (x : D) (L : LH) (R : List D → Prop) : Prop := match x with
  | .tup xs => R xs
  | .rol xs => R xs
  | .v (.ref p) => ∃ xs, L p = some (.lst xs) ∧ R xs
  | _ => False
theorem itemsOf.sq {K : PySem.W.Frag} {H : Hp} {L : LH} {d : D} {x : V} {R : List D → Prop} (h : itemsOf d L R) (r : Rp K H d x) (l : LR K L H) : ∃ p ds xs, x = .ref p ∧ (SqL K H p xs ∨ SqT K H p xs) ∧ RpL K H ds xs ∧ R ds := by
  cases d with
  | tup ds => obtain ⟨p, xs, rfl, s, q⟩ := r; exact ⟨p, ds, xs, rfl, .inr s, q, h⟩
  | rol ds => obtain ⟨p, xs, rfl, s, q⟩ := r; exact ⟨p, ds, xs, rfl, .inl s.sq, q, h⟩
  | v u =>
    cases u with
    | ref p =>
      obtain ⟨ds, hL, h⟩ := h
      obtain ⟨xs, s, q⟩ := l.lst hL
      exact ⟨p, ds, xs, r, .inl (.of s), q, h⟩
    | _ => exact h.elim
  | _ => exact h.elim
@[reducible] def rIx : DR2 := fun x y L Q => match y with
  | .int i => itemsOf x L fun xs => ∃ d, atI xs i = some d ∧ Q d L
  | _ => False
theorem d_ix (ha : DE X a ta) (hb : DE X b tb) (hs : PlainIx b := by exact fun _ _ => rfl) : DE X (.Subscript a b pos) (dOp rIx ta tb) := PE.wk (pe_ix (ix_list.or ix_tup) ha hb hs) (op_core fun d e x y L H Qd Q r1 r2 l h k => by
  cases e with
  | int i =>
    obtain ⟨p, ds, xs, rfl, s, r, v, hv, q⟩ := itemsOf.sq h r1 l
    have hl := r.length
    unfold atI at hv
    cases e : ixN ds.length i with
    | none => rw [e] at hv; cases hv
    | some j =>
      rw [e] at hv
      obtain ⟨z, hz, rz⟩ := r.get (show ds[j]? = some v from hv)
      have at_ : atI xs i = some z := by unfold atI; rw [← hl, e]; exact hz
      have fin := k z H v L (.refl _ _) rz l q
      rcases s with s | s
      · exact .inl ⟨p, xs, i, z, rfl, r2, s, at_, fin⟩
      · exact .inr ⟨p, xs, i, z, rfl, r2, s, at_, fin⟩
  | _ => exact h.elim)
/-- the cut of a list -/
def cutD (xs : List D) (lo hi : Option Int) : List D := (xs.drop (HT.sIx xs.length 0 lo)).take (HT.sIx xs.length xs.length hi - HT.sIx xs.length 0 lo)
abbrev DTO := SD → LH → (Option Int → LH → Prop) → Prop
def upO (K : PySem.W.Frag) (t : DTO) : TO := fun σ H Q => ∃ δ L Qd, RS K δ L σ H ∧ t δ L Qd ∧ ∀ o H' L', Ext K H H' → LR K L' H' → Qd o L' → Q o H'
def DO (X : Cx) (e : Option Expr) (t : DTO) : Prop := PO X e (upO X.K t)
theorem PO.wk {e : Option Expr} {t t' : TO} (h : PO X e t) (w : ∀ σ H Q, t' σ H Q → t σ H Q) : PO X e t' := ⟨fun pins s σ H Q I q => h.run pins s σ H Q I (w σ H Q q)⟩
@[reducible] def dNoPart : DTO := fun _ L Q => Q none L
@[reducible] def dPart (t : DTE) : DTO := fun δ L Q => t δ L fun x L1 => match x with
  | .int i => Q (some i) L1
  | _ => False
theorem do_none : DO X none dNoPart := PO.wk po_none fun σ H Q h => by
  obtain ⟨δ, L, Qd, rs, h, k⟩ := h
  exact k _ _ _ (.refl _ _) rs.hp h
theorem do_some (ha : DE X a ta) : DO X (some a) (dPart ta) := PO.wk (po_some ha) fun σ H Q h => by
  obtain ⟨δ, L, Qd, rs, h, k⟩ := h
  refine ⟨δ, L, _, rs, h, fun x H1 d L1 e1 r1 l1 h1 => ?_⟩
  cases d with
  | int i => exact ⟨i, r1, k _ _ _ e1 l1 h1⟩
  | _ => exact h1.elim
variable {lo hi : Option Expr} {tl th : DTO} {p2 : Pos}
@[reducible] def dSl (ta : DTE) (tl th : DTO) : DTE := fun δ L Q => ta δ L fun x L1 => tl δ L1 fun l L2 => th δ L2 fun u L3 => match x with
  | .tup xs => Q (.tup (cutD xs l u)) L3
  | .rol xs => ∀ p, L3 p = none → Q (.v (.ref p)) (lup L3 p (.lst (cutD xs l u)))
  | .v (.ref p) => ∃ xs, L3 p = some (.lst xs) ∧ ∀ p, L3 p = none → Q (.v (.ref p)) (lup L3 p (.lst (cutD xs l u)))
  | _ => False
theorem RpL.cut {K : PySem.W.Frag} {H : Hp} {ds : List D} {xs : List V} (r : RpL K H ds xs) (l u : Option Int) : RpL K H (cutD ds l u) (cutV xs l u) := by
  unfold cutD cutV
  rw [← r.length]
  exact (r.drop _).take _
theorem cutD_whole {xs : List D} {l u : Option Int} (h : HT.sIx xs.length 0 l = 0 ∧ HT.sIx xs.length xs.length u = xs.length) : cutD xs l u = xs := by
  unfold cutD
  rw [h.1, h.2]
  exact List.take_length
theorem d_slice (ha : DE X a ta) (hl : DO X lo tl) (hh : DO X hi th) : DE X (.Subscript a (.Slice lo hi none p2) pos) (dSl ta tl th) := PE.wk (pe_slice (sl_list.or sl_tupA) ha hl hh) fun σ H Q h => by
  obtain ⟨δ, L, Qd, rs, h, k⟩ := h
  refine ⟨δ, L, _, rs, h, fun x H1 d L1 e1 r1 l1 h1 => ⟨δ, L1, _, rs.step e1 l1, h1, fun l H2 L2 e2 l2 h2 => ⟨δ, L2, _, rs.step (e1.trans e2) l2, h2, fun u H3 L3 e3 l3 h3 => ?_⟩⟩⟩
  have r3 := (r1.ext e2).ext e3
  have e03 := (e1.trans e2).trans e3
  cases d with
  | tup ds =>
    obtain ⟨p, xs, rfl, s, q⟩ := r3
    refine .inr ⟨p, xs, rfl, s, fun w => ?_, fun w n hn => ?_⟩
    · refine k _ _ (.tup (cutD ds l u)) _ e03 ⟨p, xs, rfl, s, ?_⟩ l3 h3
      rw [← q.length] at w
      rw [cutD_whole w]
      exact q
    · exact k _ _ (.tup (cutD ds l u)) _ (e03.trans (.new hn)) ⟨n, _, rfl, .inl (.inl upd_same), (q.cut l u).ext (.new hn)⟩ (l3.tup hn) h3
  | rol ds =>
    obtain ⟨p, xs, rfl, s, q⟩ := r3
    exact .inl ⟨p, xs, rfl, s.sq, fun n hn => KK.ref k (e03.trans (.new hn)) (l3.upd (.new hn) (q.cut l u)) (h3 n (l3.free hn))⟩
  | v z =>
    cases z with
    | ref p =>
      obtain ⟨ds, hL, h3⟩ := h3
      obtain ⟨xs, s, q⟩ := l3.lst hL
      cases (show x = _ from r3)
      exact .inl ⟨p, xs, rfl, .of s, fun n hn => KK.ref k (e03.trans (.new hn)) (l3.upd (.new hn) (q.cut l u)) (h3 n (l3.free hn))⟩
    | _ => exact h3.elim
  | _ => exact h3.elim
end
end G
namespace G
open PySem PySem.Spec PyProof.Rows L2

/-! ### promises -/
/-- an exception: its class's address, its fields -/
abbrev DXK := Addr → List (Str × D) → LH → Prop
abbrev DSp := List D → LH → DK → DXK → Prop
abbrev KX (K : PySem.W.Frag) (H : Hp) (Ed : DXK) (E : XK) : Prop := ∀ C fs d vs H' L', Ext K H H' → LR K L' H' → H' d = some (.xd vs) → RpF K H' fs vs → Ed C fs L' → E (.ref C) (some d) H'
def upF (K : PySem.W.Frag) (sp : DSp) : Sp := fun vs H Q E => ∃ ds L Qd Ed, RpL K H ds vs ∧ LR K L H ∧ sp ds L Qd Ed ∧ KK K H Qd Q ∧ KX K H Ed E
abbrev X0 : DXK := fun _ _ _ => False
theorem KX.none {K : PySem.W.Frag} {H : Hp} {E : XK} : KX K H X0 E := fun _ _ _ _ _ _ _ _ _ _ h => h.elim
/-- the heap may be forgotten in part -/
def Les (L L' : LH) : Prop := ∀ a o, L a = some o → L' a = some o
theorem Les.refl (L : LH) : Les L L := fun _ _ h => h
theorem Les.trans {L L1 L2 : LH} (a : Les L L1) (b : Les L1 L2) : Les L L2 := fun p o h => b p o (a p o h)
theorem Les.new {L L' : LH} {p : Addr} {o : LO} (h : Les L L') (n : L' p = none) : Les L (lup L' p o) := fun a u e => by
  have e' := h a u e
  rw [lup_ne (ne_free e' n)]; exact e'
theorem Les.own {L L' : LH} {p : Addr} {o : LO} (h : Les L L') (n : L p = none) : Les L (lup L' p o) := fun a u e => by
  rw [lup_ne (ne_free e n)]; exact h a u e
theorem Les.free {L L' : LH} (h : Les L L') {p : Addr} (n : L' p = none) : L p = none := by
  cases e : L p with
  | none => rfl
  | some o => rw [h p o e] at n; cases n
theorem LR.les {K : PySem.W.Frag} {L L' : LH} {H : Hp} (l : LR K L' H) (h : Les L L') : LR K L H := fun a o e => l a o (h a o e)
/-- the slots at a def's entry -/
@[reducible] def stD : Nat → List D → SD
  | 0, _ => []
  | n + 1, [] => none :: stD n []
  | n + 1, d :: ds => some d :: stD n ds
theorem stD_length : ∀ (n : Nat) (ds : List D), (stD n ds).length = n
  | 0, _ => rfl
  | n + 1, [] => by show (stD n []).length + 1 = n + 1; rw [stD_length n []]
  | n + 1, d :: ds => by show (stD n ds).length + 1 = n + 1; rw [stD_length n ds]
theorem nth_stD : ∀ (n : Nat) (ds : List D) (i : Nat) (d : D), nth (stD n ds) i = some d → ds[i]? = some d
  | 0, _, _, _, h => by cases (show none = some _ from h)
  | n + 1, [], 0, _, h => by cases (show none = some _ from h)
  | n + 1, [], i + 1, d, h => by
    have := nth_stD n [] i d h
    simp at this
  | n + 1, e :: ds, 0, d, h => by
    cases (show some e = some d from h)
    rfl
  | n + 1, e :: ds, i + 1, d, h => by
    have := nth_stD n ds i d h
    simpa using this
/-- a def's end: what it made besides may be forgotten -/
@[reducible] def endD (Q : DK) : DEnds := { nx := fun _ L' => ∃ L1, Les L1 L' ∧ Q .non L1, rt := fun d L' => ∃ L1, Les L1 L' ∧ Q d L1 }
section
variable {P : Program} {w : World} {K : PySem.W.Frag} {mg : Str → Option Value} {base : Heap}
theorem start_rs {N : List Str} {n : Nat} {ds : List D} {vs : List V} {H : Hp} {L : LH} (hn : N.length = n) (hl : vs.length ≤ n) (r : RpL K H ds vs) (l : LR K L H) : RS K (stD n ds) L (L2.start N vs) H := by
  refine ⟨fun i d h => ?_, ?_, l⟩
  · have h1 := nth_stD n ds i d h
    obtain ⟨x, hx, rx⟩ := r.get h1
    refine ⟨x, ?_, rx⟩
    unfold L2.start
    rw [List.getElem?_append_left (by rw [List.length_map]; exact (List.getElem?_eq_some_iff.mp hx).1), List.getElem?_map, hx]
    rfl
  · rw [stD_length]
    unfold L2.start
    rw [List.length_append, List.length_map, List.length_replicate]
    omega
abbrev DFn (P : Program) (w : World) (K : PySem.W.Frag) (mg : Str → Option Value) (base : Heap) (CX : CXT) (k : Nat) (f : Addr) (fd : FuncData) (ps : List Str) (sp : DSp) : Prop := FnOk P w K mg base CX k f fd ps (upF K sp)
/-- THE RULE for a def: its body as a term of rules, and the reading of that term -/
theorem dfn {x qual : Str} {st : Stmt} {f : Addr} {fd : FuncData} {N ps : List Str} {k n : Nat} {sp : DSp} (F : Fun K x qual st f fd) (S : FnScope N ps (defScope st)) (hn : N.length = n) (hps : ps.length ≤ n) (len : ∀ ds L Q E, sp ds L Q E → ds.length = ps.length)
    (body : ∀ (cdv : Value) (A : Around) (outer : List Env) (s : Shared) (H : Hp) (E : XK), Room k (A.deeper (envOfC qual (defScope st) s.heap.objs.size f cdv)) → ∃ t, DSs (cxOf CX0 P w K mg base N qual (defScope st) f cdv A outer s H E).nox (defBody st) t ∧ ∀ ds L Q Ed, sp ds L Q Ed → t (endD Q) (stD n ds) L) :
    DFn P w K mg base CX0 (k + 1) f fd ps sp := by
  have hlen : ∀ vs H Q E, upF K sp vs H Q E → vs.length = ps.length := fun vs H Q E ⟨ds, L, Qd, Ed, r, l, h, _⟩ => by rw [← r.length]; exact len _ _ _ _ h
  refine F.ok S hlen fun cdv A outer s H vs Q E hr hsp => ?_
  have hl := hlen _ _ _ _ hsp
  obtain ⟨ds, L, Qd, Ed, r, l, h, kk, kx⟩ := hsp
  obtain ⟨t, ht, hq⟩ := body cdv A outer s H E hr
  refine ⟨_, ht, stD n ds, L, endD Qd, start_rs hn (by omega) r l, hq ds L Qd Ed h, ?_⟩
  exact ⟨fun σ' H' δ' L' e rs ⟨L1, ls, q⟩ => kk _ _ .non _ e rfl (rs.hp.les ls) q, fun x H' d L' e rd l' ⟨L1, ls, q⟩ => kk _ _ _ _ e rd (l'.les ls) q, fun _ _ _ _ _ _ z => z.elim, fun _ _ _ _ _ _ z => z.elim⟩
end

/-! ### calls -/
section
variable {X : Cx} {CX : CXT} {k : Nat} {f : Addr} {fd : FuncData} {ps : List Str} {sp : DSp} {x : Str} {p pos : Pos} {e : Expr} {es : List Expr} {t : DTA}
@[reducible] def dCall (sp : DSp) (t : DTA) : DTE := fun δ L Q => t δ L fun ds L1 => sp ds L1 Q X0
theorem d_call (F : FnOk X.prog X.w X.K X.mg X.base CX0 k f fd ps (upF X.K sp)) (hr : Room k X.A) (hg : Gl X x) (hm : X.mg x = some (.ref f)) (hk : PySem.W.keepIn X.K (.ref f) = true) (hb : Binds X.K fd ps [])
    (ha : DA X (e :: es) t) (hdb : (x == ("__debug__" : Str)) = false := by decide) (he : starEach (e :: es) X.env = (false, eval e X.env) :: starEach es X.env := by rfl) (hpl : (backTo pos (starEach es X.env)).any (·.1) = false := by rfl) :
    DE X (.Call (.Name x p) (e :: es) [] pos) (dCall sp t) := PE.wk (pe_call F hr hg hm hk hb .nil pass0 ha hdb he hpl) fun σ H Q h => by
  obtain ⟨δ, L, Qd, rs, h, k⟩ := h
  refine ⟨δ, L, _, rs, h, fun vs H1 ds L1 e1 r1 l1 h1 => ?_⟩
  show upF X.K sp (vs ++ []) H1 Q E0
  rw [List.append_nil]
  exact ⟨ds, L1, Qd, X0, r1, l1, h1, fun z H' d' L' e2 r2 l2 q2 => k z H' d' L' (e1.trans e2) r2 l2 q2, KX.none⟩
/-- .. given with keywords -/
@[reducible] def dCallK (sp : DSp) (g : List D → List D → List D) (t tk : DTA) : DTE := fun δ L Q => t δ L fun ds L1 => tk δ L1 fun es L2 => sp (g ds es) L2 Q X0
def DKw (X : Cx) (kws : List Keyword) (t : DTA) : Prop := PK X kws (upA X.K t)
theorem PK.wk {e : List Keyword} {t t' : TA} (h : PK X e t) (w : ∀ σ H Q, t' σ H Q → t σ H Q) : PK X e t' := ⟨fun pos pins s σ H Q I q => h.run pos pins s σ H Q I (w σ H Q q)⟩
theorem dk_nil : DKw X [] dNil := PK.wk pk_nil fun σ H Q h => by
  obtain ⟨δ, L, Qd, rs, h, k⟩ := h
  exact k [] H [] L (.refl _ _) rfl rs.hp h
theorem dk_cons {nm : Option Str} {kpos : Pos} {kws : List Keyword} {te : DTE} (ha : DE X e te) (hr : DKw X kws t) : DKw X (⟨nm, e, kpos⟩ :: kws) (dCons te t) := PK.wk (pk_cons ha hr) fun σ H Q h => by
  obtain ⟨δ, L, Qd, rs, h, k⟩ := h
  refine ⟨δ, L, _, rs, h, fun x H1 d L1 e1 r1 l1 h1 => ⟨δ, L1, _, rs.step e1 l1, h1, fun ys H2 ds L2 e2 r2 l2 h2 => ?_⟩⟩
  exact k _ H2 (d :: ds) L2 (e1.trans e2) (.cons (r1.ext e2) r2) l2 h2
end

/-! ### built-ins by name -/
section
variable {X : Cx} {x : Str} {p pos : Pos} {e : Expr} {es : List Expr} {t : DTA} {id T : String} {r : DRL} {rH : List V → Hp → VK → Prop}
@[reducible] def dCB (r : DRL) (t : DTA) : DTE := fun δ L Q => t δ L fun ds L1 => r ds L1 Q
theorem cb_core (hl : LiftL X.K r rH) (σ : St) (H : Hp) (Q : VK) (h : up X.K (dCB r t) σ H Q) : tCB rH (upA X.K t) σ H Q := by
  obtain ⟨δ, L, Qd, rs, h, k⟩ := h
  refine ⟨δ, L, _, rs, h, fun vs H1 ds L1 e1 r1 l1 h1 => ?_⟩
  exact hl _ _ _ _ _ _ r1 l1 h1 fun z H' d' L' e2 r2 l2 q2 => k z H' d' L' (e1.trans e2) r2 l2 q2
theorem d_callB (hc : CallR X (.builtin id) rH) (hl : LiftL X.K r rH) (hg : Gl X x) (hm : X.mg x = none) (hv : bootBuiltins x = some (.builtin id)) (ha : DA X (e :: es) t) (hn : x ≠ "__name__" := by decide) (hdb : (x == ("__debug__" : Str)) = false := by decide)
    (he : starEach (e :: es) X.env = (false, eval e X.env) :: starEach es X.env := by rfl) (hpl : (backTo pos (starEach es X.env)).any (·.1) = false := by rfl) : DE X (.Call (.Name x p) (e :: es) [] pos) (dCB r t) := PE.wk (pe_callB hc hg hm hv ha hn hdb he hpl) (cb_core hl)
theorem d_callTy (hc : CallR X (.type T) rH) (hl : LiftL X.K r rH) (hg : Gl X x) (hm : X.mg x = none) (hv : bootBuiltins x = some (.type T)) (ha : DA X (e :: es) t) (hn : x ≠ "__name__" := by decide) (hdb : (x == ("__debug__" : Str)) = false := by decide)
    (he : starEach (e :: es) X.env = (false, eval e X.env) :: starEach es X.env := by rfl) (hpl : (backTo pos (starEach es X.env)).any (·.1) = false := by rfl) : DE X (.Call (.Name x p) (e :: es) [] pos) (dCB r t) := PE.wk (pe_callTy hc hg hm hv ha hn hdb he hpl) (cb_core hl)
theorem d_callBfun (hc : CallR X (.builtin id) rH) (hl : LiftL X.K r rH) (hg : Gl X x) (hm : X.mg x = some (.builtin id)) (ha : DA X (e :: es) t) (hdb : (x == ("__debug__" : Str)) = false := by decide)
    (he : starEach (e :: es) X.env = (false, eval e X.env) :: starEach es X.env := by rfl) (hpl : (backTo pos (starEach es X.env)).any (·.1) = false := by rfl) : DE X (.Call (.Name x p) (e :: es) [] pos) (dCB r t) := PE.wk (pe_callBfun hc hg hm ha hdb he hpl) (cb_core hl)

section
variable {K : PySem.W.Frag}
theorem rp1 {H : Hp} {d : D} {ds : List D} {vs : List V} (h : RpL K H (d :: ds) vs) : ∃ x r, vs = x :: r ∧ Rp K H d x ∧ RpL K H ds r := h
/-- len -/
@[reducible] def rLen : DRL := fun ds L Q => match ds with
  | [.str z] => z.length ≤ sizeLine ∧ Q (.int z.length) L
  | [.tup xs] => Q (.int xs.length) L
  | [.rol xs] => Q (.int xs.length) L
  | [.v (.ref p)] => ∃ xs, L p = some (.lst xs) ∧ Q (.int xs.length) L
  | _ => False
theorem lift_len : LiftL K rLen (fun xs H Q => ∃ x n, xs = [x] ∧ LenV K x H n ∧ Q (.int n) H) := fun ds vs L H Qd Q r l h k => by
  cases ds with
  | nil => exact h.elim
  | cons d ds =>
    cases ds with
    | cons d' ds' => cases d <;> (try exact h.elim); rename_i u; cases u <;> exact h.elim
    | nil =>
      obtain ⟨x, rr, rfl, rx, rn⟩ := r
      cases (show rr = [] from rn)
      cases d with
      | str z => cases (show x = _ from rx); exact ⟨_, _, rfl, ⟨h.1, rfl⟩, KK.int k l h.2⟩
      | tup es =>
        obtain ⟨p, xs, rfl, s, q⟩ := rx
        exact ⟨_, _, rfl, .inr ⟨xs, s, rfl⟩, by rw [← q.length]; exact KK.int k l h⟩
      | rol es =>
        obtain ⟨p, xs, rfl, s, q⟩ := rx
        exact ⟨_, _, rfl, .inl ⟨xs, s.sq, rfl⟩, by rw [← q.length]; exact KK.int k l h⟩
      | v u =>
        cases u with
        | ref p =>
          cases (show x = _ from rx)
          obtain ⟨es, hL, h⟩ := h
          obtain ⟨xs, s, q⟩ := l.lst hL
          exact ⟨_, _, rfl, .inl ⟨xs, .of s, rfl⟩, by rw [← q.length]; exact KK.int k l h⟩
        | _ => exact h.elim
      | _ => exact h.elim
/-- int, abs, max, min, gcd -/
@[reducible] def rInt : DRL := fun ds L Q => match ds with
  | [.int i] => Q (.int i) L
  | [.bl b] => Q (.int (if b then 1 else 0)) L
  | _ => False
theorem lift_int : LiftL K rInt (fun xs H Q => (∃ i, xs = [.int i] ∧ Q (.int i) H) ∨ ∃ k, xs = [.bl k] ∧ Q (.int (if k then 1 else 0)) H) := fun ds vs L H Qd Q r l h k => by
  match ds, h with
  | [.int i], h =>
    obtain ⟨x, rr, rfl, rx, rn⟩ := r
    cases (show rr = [] from rn)
    cases (show x = _ from rx)
    exact .inl ⟨i, rfl, KK.int k l h⟩
  | [.bl i], h =>
    obtain ⟨x, rr, rfl, rx, rn⟩ := r
    cases (show rr = [] from rn)
    cases (show x = _ from rx)
    exact .inr ⟨i, rfl, KK.int k l h⟩
@[reducible] def rI1 (g : Int → Int) : DRL := fun ds L Q => match ds with
  | [.int i] => Q (.int (g i)) L
  | _ => False
theorem lift_I1 {g : Int → Int} : LiftL K (rI1 g) (fun xs H Q => ∃ i, xs = [.int i] ∧ Q (.int (g i)) H) := fun ds vs L H Qd Q r l h k => by
  match ds, h with
  | [.int i], h =>
    obtain ⟨x, rr, rfl, rx, rn⟩ := r
    cases (show rr = [] from rn)
    cases (show x = _ from rx)
    exact ⟨i, rfl, KK.int k l h⟩
@[reducible] def rI2 (g : Int → Int → Int) : DRL := fun ds L Q => match ds with
  | [.int i, .int j] => Q (.int (g i j)) L
  | _ => False
theorem lift_I2 {g : Int → Int → Int} : LiftL K (rI2 g) (fun xs H Q => ∃ i j, xs = [.int i, .int j] ∧ Q (.int (g i j)) H) := fun ds vs L H Qd Q r l h k => by
  match ds, h with
  | [.int i, .int j], h =>
    obtain ⟨x, rr, rfl, rx, y, rr', rfl, ry, rn⟩ := r
    cases (show rr' = [] from rn)
    cases (show x = _ from rx)
    cases (show y = _ from ry)
    exact ⟨i, j, rfl, KK.int k l h⟩
/-- list(..), tuple(..) of a sequence -/
@[reducible] def rListOf : DRL := fun ds L Q => match ds with
  | [x] => itemsOf x L fun xs => ∀ p, L p = none → Q (.v (.ref p)) (lup L p (.lst xs))
  | _ => False
theorem lift_list : LiftL K rListOf (fun xs H Q => ∃ p ys, xs = [.ref p] ∧ (SqL K H p ys ∨ SqT K H p ys) ∧ ∀ l, H l = none → Q (.ref l) (upd H l (.lst ys))) := fun ds vs L H Qd Q r l h k => by
  match ds, h with
  | [d], h =>
    obtain ⟨x, rr, rfl, rx, rn⟩ := r
    cases (show rr = [] from rn)
    obtain ⟨p, es, xs, rfl, s, q, h⟩ := itemsOf.sq h rx l
    exact ⟨p, xs, rfl, s, fun n hn => KK.ref k (.new hn) (l.upd (.new hn) q) (h n (l.free hn))⟩
@[reducible] def rTupOf : DRL := fun ds L Q => match ds with
  | [x] => itemsOf x L fun xs => Q (.tup xs) L
  | _ => False
theorem lift_tuple : LiftL K rTupOf (fun xs H Q => ∃ p ys, xs = [.ref p] ∧ ((SqL K H p ys ∧ ∀ l, H l = none → Q (.ref l) (upd H l (.tup ys))) ∨ (SqT K H p ys ∧ Q (.ref p) H))) := fun ds vs L H Qd Q r l h k => by
  match ds, h with
  | [d], h =>
    obtain ⟨x, rr, rfl, rx, rn⟩ := r
    cases (show rr = [] from rn)
    obtain ⟨p, es, xs, rfl, s, q, h⟩ := itemsOf.sq h rx l
    refine ⟨p, xs, rfl, ?_⟩
    rcases s with s | s
    · exact .inl ⟨s, fun n hn => k _ _ (.tup es) _ (.new hn) ⟨n, xs, rfl, .inl (.inl upd_same), q.ext (.new hn)⟩ (l.tup hn) h⟩
    · exact .inr ⟨s, k _ _ (.tup es) _ (.refl _ _) ⟨p, xs, rfl, s, q⟩ l h⟩
/-- isinstance -/
@[reducible] def tyOf (x : D) (L : LH) (R : String → Prop) : Prop := match x with
  | .non => R "NoneType"
  | .bl _ => R "bool"
  | .int _ => R "int"
  | .str _ => R "str"
  | .tup _ => R "tuple"
  | .rol _ => R "list"
  | .v (.ref p) => (∃ xs, L p = some (.lst xs)) ∧ R "list"
  | _ => False
@[reducible] def rIsi : DRL := fun ds L Q => match ds with
  | [x, .v (.ty T)] => tyOf x L fun t => ∃ b, kitB t T = some b ∧ Q (.bl b) L
  | _ => False
theorem sqT_ty {H : Hp} {a : Addr} {xs : List V} (s : SqT K H a xs) : TyX K H (.ref a) (.type "tuple") := by
  rcases s with (s | ⟨o, s⟩) | ⟨o, its, n, hk, hc, _⟩
  · exact .base (.tup s)
  · exact .fTuple s
  · exact .kTuple hk hc
theorem rol_ty {H : Hp} {a : Addr} {xs : List V} (s : RolOk K H a xs) : TyX K H (.ref a) (.type "list") := by
  rcases s with ⟨o, s⟩ | ⟨o, its, n, hk, hc, _⟩
  · exact .base (.frz s)
  · exact .kList hk hc
theorem lift_isi : LiftL K rIsi (L2.rIsi K) := fun ds vs L H Qd Q r l h k => by
  match ds, h with
  | [d, .v (.ty T)], h =>
    obtain ⟨x, rr, rfl, rx, y, rr', rfl, ry, rn⟩ := r
    cases (show rr' = [] from rn)
    cases (show y = _ from ry)
    cases d with
    | non => cases (show x = _ from rx); obtain ⟨b, hb, q⟩ := h; exact ⟨_, _, _, _, b, rfl, .ty T, .base .non, kit_ty hb, KK.bl k l q⟩
    | bl _ => cases (show x = _ from rx); obtain ⟨b, hb, q⟩ := h; exact ⟨_, _, _, _, b, rfl, .ty T, .base (.bl _), kit_ty hb, KK.bl k l q⟩
    | int _ => cases (show x = _ from rx); obtain ⟨b, hb, q⟩ := h; exact ⟨_, _, _, _, b, rfl, .ty T, .base (.int _), kit_ty hb, KK.bl k l q⟩
    | str _ => cases (show x = _ from rx); obtain ⟨b, hb, q⟩ := h; exact ⟨_, _, _, _, b, rfl, .ty T, .base (.str _), kit_ty hb, KK.bl k l q⟩
    | tup es => obtain ⟨p, xs, rfl, s, _⟩ := rx; obtain ⟨b, hb, q⟩ := h; exact ⟨_, _, _, _, b, rfl, .ty T, sqT_ty s, kit_ty hb, KK.bl k l q⟩
    | rol es => obtain ⟨p, xs, rfl, s, _⟩ := rx; obtain ⟨b, hb, q⟩ := h; exact ⟨_, _, _, _, b, rfl, .ty T, rol_ty s, kit_ty hb, KK.bl k l q⟩
    | v u =>
      cases u with
      | ref p =>
        cases (show x = _ from rx)
        obtain ⟨⟨es, hL⟩, b, hb, q⟩ := h
        obtain ⟨xs, s, _⟩ := l.lst hL
        exact ⟨_, _, _, _, b, rfl, .ty T, .base (.lst s), kit_ty hb, KK.bl k l q⟩
      | _ => exact h.elim
end
theorem d_len (hg : Gl X "len") (hm : X.mg "len" = none) (ha : DA X (e :: es) t)  (he : starEach (e :: es) X.env = (false, eval e X.env) :: starEach es X.env := by rfl) (hpl : (backTo pos (starEach es X.env)).any (·.1) = false := by rfl) : DE X (.Call (.Name "len" p) (e :: es) [] pos) (dCB rLen t) := d_callB call_len lift_len hg hm PySem.boot_len ha (he := he) (hpl := hpl)
theorem d_intC (hg : Gl X "int") (hm : X.mg "int" = none) (ha : DA X (e :: es) t)  (he : starEach (e :: es) X.env = (false, eval e X.env) :: starEach es X.env := by rfl) (hpl : (backTo pos (starEach es X.env)).any (·.1) = false := by rfl) : DE X (.Call (.Name "int" p) (e :: es) [] pos) (dCB rInt t) := d_callTy call_int1 lift_int hg hm (by decide +kernel) ha (he := he) (hpl := hpl)
theorem d_abs (hg : Gl X "abs") (hm : X.mg "abs" = none) (ha : DA X (e :: es) t)  (he : starEach (e :: es) X.env = (false, eval e X.env) :: starEach es X.env := by rfl) (hpl : (backTo pos (starEach es X.env)).any (·.1) = false := by rfl) : DE X (.Call (.Name "abs" p) (e :: es) [] pos) (dCB (rI1 fun i => if i < 0 then -i else i) t) := d_callB call_abs lift_I1 hg hm (by decide +kernel) ha (he := he) (hpl := hpl)
theorem d_max2 (hc : X.calm = true) (hg : Gl X "max") (hm : X.mg "max" = none) (ha : DA X (e :: es) t)  (he : starEach (e :: es) X.env = (false, eval e X.env) :: starEach es X.env := by rfl) (hpl : (backTo pos (starEach es X.env)).any (·.1) = false := by rfl) : DE X (.Call (.Name "max" p) (e :: es) [] pos) (dCB (rI2 fun i j => if j > i then j else i) t) := d_callB (call_max2 hc) lift_I2 hg hm (by decide +kernel) ha (he := he) (hpl := hpl)
theorem d_min2 (hc : X.calm = true) (hg : Gl X "min") (hm : X.mg "min" = none) (ha : DA X (e :: es) t)  (he : starEach (e :: es) X.env = (false, eval e X.env) :: starEach es X.env := by rfl) (hpl : (backTo pos (starEach es X.env)).any (·.1) = false := by rfl) : DE X (.Call (.Name "min" p) (e :: es) [] pos) (dCB (rI2 fun i j => if j < i then j else i) t) := d_callB (call_min2 hc) lift_I2 hg hm (by decide +kernel) ha (he := he) (hpl := hpl)
theorem d_gcd (hg : Gl X x) (hm : X.mg x = some (.builtin "math.gcd")) (ha : DA X (e :: es) t) (hdb : (x == ("__debug__" : Str)) = false := by decide) (he : starEach (e :: es) X.env = (false, eval e X.env) :: starEach es X.env := by rfl) (hpl : (backTo pos (starEach es X.env)).any (·.1) = false := by rfl) : DE X (.Call (.Name x p) (e :: es) [] pos) (dCB (rI2 fun a b => ((Nat.gcd a.natAbs b.natAbs : Nat) : Int)) t) := d_callBfun cr_gcd lift_I2 hg hm ha hdb he hpl
theorem d_listC (hg : Gl X "list") (hm : X.mg "list" = none) (ha : DA X (e :: es) t)  (he : starEach (e :: es) X.env = (false, eval e X.env) :: starEach es X.env := by rfl) (hpl : (backTo pos (starEach es X.env)).any (·.1) = false := by rfl) : DE X (.Call (.Name "list" p) (e :: es) [] pos) (dCB rListOf t) := d_callTy call_list_of lift_list hg hm (by decide +kernel) ha (he := he) (hpl := hpl)
theorem d_tupC (hg : Gl X "tuple") (hm : X.mg "tuple" = none) (ha : DA X (e :: es) t)  (he : starEach (e :: es) X.env = (false, eval e X.env) :: starEach es X.env := by rfl) (hpl : (backTo pos (starEach es X.env)).any (·.1) = false := by rfl) : DE X (.Call (.Name "tuple" p) (e :: es) [] pos) (dCB rTupOf t) := d_callTy call_tuple_of lift_tuple hg hm (by decide +kernel) ha (he := he) (hpl := hpl)
theorem d_isi (hg : Gl X "isinstance") (hm : X.mg "isinstance" = none) (ha : DA X (e :: es) t)  (he : starEach (e :: es) X.env = (false, eval e X.env) :: starEach es X.env := by rfl) (hpl : (backTo pos (starEach es X.env)).any (·.1) = false := by rfl) : DE X (.Call (.Name "isinstance" p) (e :: es) [] pos) (dCB rIsi t) := d_callB call_isi lift_isi hg hm (by decide +kernel) ha (he := he) (hpl := hpl)
end
end G
namespace G
open PySem PySem.Spec PyProof.Rows L2

/-! ### methods of lists -/
abbrev DRM := Addr → List D → LH → DK → Prop
@[reducible] def dLM (r : DRM) (to : DTE) (t : DTA) : DTE := fun δ L Q => to δ L fun x L1 => match x with
  | .v (.ref p) => (∃ xs, L1 p = some (.lst xs)) ∧ t δ L1 fun vs L2 => r p vs L2 Q
  | _ => False
def LiftM (K : PySem.W.Frag) (r : DRM) (rH : V → List V → Hp → VK → Prop) : Prop := ∀ p ds vs L H Qd Q, RpL K H ds vs → LR K L H → r p ds L Qd → KK K H Qd Q → rH (.ref p) vs H Q
@[reducible] def rAppend : DRM := fun p vs L Q => match vs with
  | [y] => ∃ xs, L p = some (.lst xs) ∧ xs.length < sizeLine ∧ Q .non (lup L p (.lst (xs ++ [y])))
  | _ => False
@[reducible] def rPop : DRM := fun p vs L Q => match vs with
  | [] => ∃ xs y, L p = some (.lst xs) ∧ xs[xs.length - 1]? = some y ∧ Q y (lup L p (.lst xs.dropLast))
  | _ => False
@[reducible] def rPopAt : DRM := fun p vs L Q => match vs with
  | [.int i] => ∃ xs y k, L p = some (.lst xs) ∧ (-(2 ^ 62) ≤ i ∧ i < 2 ^ 62) ∧ ixN xs.length i = some k ∧ xs[k]? = some y ∧ Q y (lup L p (.lst (xs.eraseIdx k)))
  | _ => False
@[reducible] def rExtend : DRM := fun p vs L Q => match vs with
  | [.v (.ref q)] => ∃ xs ys, L p = some (.lst xs) ∧ L q = some (.lst ys) ∧ xs.length + ys.length ≤ sizeLine ∧ Q .non (lup L p (.lst (xs ++ ys)))
  | _ => False
@[reducible] def rReverse : DRM := fun p vs L Q => match vs with
  | [] => ∃ xs, L p = some (.lst xs) ∧ Q .non (lup L p (.lst xs.reverse))
  | _ => False
section
variable {K : PySem.W.Frag}
theorem lift_append : LiftM K rAppend L2.rAppend := fun p ds vs L H Qd Q r l h k => by
  match ds, h with
  | [d], ⟨es, hL, hz, h⟩ =>
    obtain ⟨x, rr, rfl, rx, rn⟩ := r
    cases (show rr = [] from rn)
    obtain ⟨xs, s, q⟩ := l.lst hL
    exact ⟨p, xs, x, rfl, rfl, s, by rw [← q.length]; exact hz, k _ _ .non _ (.lst s) rfl (l.upd (.lst s) (q.append (.one rx))) h⟩
theorem lift_pop0 : LiftM K rPop L2.rPop := fun p ds vs L H Qd Q r l h k => by
  match ds, h with
  | [], ⟨es, y, hL, hy, h⟩ =>
    cases (show vs = [] from r)
    obtain ⟨xs, s, q⟩ := l.lst hL
    obtain ⟨z, hz, rz⟩ := q.get hy
    exact ⟨p, xs, z, rfl, rfl, s, by rw [← q.length]; exact hz, k _ _ y _ (.lst s) (rz.ext (.lst s)) (l.upd (.lst s) q.dropLast) h⟩
theorem lift_popAt : LiftM K rPopAt L2.rPopAt := fun p ds vs L H Qd Q r l h k => by
  match ds, h with
  | [.int i], ⟨es, y, j, hL, ⟨b1, b2⟩, hj, hy, h⟩ =>
    obtain ⟨x, rr, rfl, rx, rn⟩ := r
    cases (show rr = [] from rn)
    cases (show x = _ from rx)
    obtain ⟨xs, s, q⟩ := l.lst hL
    obtain ⟨z, hz, rz⟩ := q.get hy
    refine ⟨p, xs, i, j, z, rfl, rfl, s, by omega, by omega, ?_, hz, k _ _ y _ (.lst s) (rz.ext (.lst s)) (l.upd (.lst s) (q.erase j)) h⟩
    rw [← q.length]
    exact (ixN_seq hj).1
theorem lift_extend : LiftM K rExtend L2.rExtend := fun p ds vs L H Qd Q r l h k => by
  match ds, h with
  | [.v (.ref b)], ⟨es, fs, hL, hM, hz, h⟩ =>
    obtain ⟨x, rr, rfl, rx, rn⟩ := r
    cases (show rr = [] from rn)
    cases (show x = _ from rx)
    obtain ⟨xs, s, q⟩ := l.lst hL
    obtain ⟨ys, s2, q2⟩ := l.lst hM
    exact ⟨p, b, xs, ys, rfl, rfl, s, s2, by rw [← q.length, ← q2.length]; exact hz, k _ _ .non _ (.lst s) rfl (l.upd (.lst s) (q.append q2)) h⟩
theorem lift_reverse : LiftM K rReverse L2.rReverse := fun p ds vs L H Qd Q r l h k => by
  match ds, h with
  | [], ⟨es, hL, h⟩ =>
    cases (show vs = [] from r)
    obtain ⟨xs, s, q⟩ := l.lst hL
    exact ⟨p, xs, rfl, rfl, s, k _ _ .non _ (.lst s) rfl (l.upd (.lst s) q.reverse) h⟩
end
section
variable {X : Cx} {o e : Expr} {es : List Expr} {to te : DTE} {t : DTA} {apos cpos : Pos}
theorem d_lm {name : Str} {id : String} {r : DRM} {rH : V → List V → Hp → VK → Prop} (slot : Slot "list" name id) (hty : typeOf (.builtin id) = pure (.type "method_descriptor")) (hm : MtR X id rH) (hl : LiftM X.K r rH) (ho : DE X o to) (ha : DA X (e :: es) t)
    (hbase : attributeBase o name X.env (eval o X.env) = eval o X.env := by rfl)
    (hfew : ((backTo cpos (starEach (e :: es) X.env)).all (fun x => !x.1) && (backToKw cpos (keywordEach [] X.env)).all (fun x => x.1.isSome)
      && decide ((e :: es).length + ([] : List Keyword).length + (if ([] : List Keyword).isEmpty then 0 else 1) < 30)) = true := by rfl)
    (hline : (apos.endLine == cpos.line) = true := by rfl) (hs : starEach (e :: es) X.env = (false, eval e X.env) :: starEach es X.env := by rfl) (hplain : (backTo cpos (starEach es X.env)).any (·.1) = false := by rfl) :
    DE X (.Call (.Attribute o name apos) (e :: es) [] cpos) (dLM r to t) := PE.wk (pe_bm PySem.F.plainAttrs_list slot hty hm ho ha hbase hfew hline hs hplain) fun σ H Q h => by
  obtain ⟨δ, L, Qd, rs, h, k⟩ := h
  refine ⟨δ, L, _, rs, h, fun x H1 d L1 e1 r1 l1 h1 => ?_⟩
  cases d with
  | v u =>
    cases u with
    | ref p =>
      cases (show x = _ from r1)
      obtain ⟨⟨xs, hL⟩, h1⟩ := h1
      obtain ⟨ys, s, _⟩ := l1.lst hL
      refine ⟨.inl ⟨rfl, ys, .of s⟩, δ, L1, _, rs.step e1 l1, h1, fun vs H2 ds L2 e2 r2 l2 h2 => ?_⟩
      exact hl p _ _ _ _ _ _ r2 l2 h2 fun z H3 d3 L3 e3 r3 l3 q3 => k z H3 d3 L3 ((e1.trans e2).trans e3) r3 l3 q3
    | _ => exact h1.elim
  | _ => exact h1.elim
theorem d_lm0 {name : Str} {id : String} {r : DRM} {rH : V → List V → Hp → VK → Prop} (slot : Slot "list" name id) (hty : typeOf (.builtin id) = pure (.type "method_descriptor")) (hm : MtR X id rH) (hl : LiftM X.K r rH) (ho : DE X o to)
    (hbase : attributeBase o name X.env (eval o X.env) = eval o X.env := by rfl) (hline : (apos.endLine == cpos.line) = true := by rfl) :
    DE X (.Call (.Attribute o name apos) [] [] cpos) (dLM r to dNil) := PE.wk (pe_bm0 PySem.F.plainAttrs_list slot hty hm ho hbase hline) fun σ H Q h => by
  obtain ⟨δ, L, Qd, rs, h, k⟩ := h
  refine ⟨δ, L, _, rs, h, fun x H1 d L1 e1 r1 l1 h1 => ?_⟩
  cases d with
  | v u =>
    cases u with
    | ref p =>
      cases (show x = _ from r1)
      obtain ⟨⟨xs, hL⟩, h1⟩ := h1
      obtain ⟨ys, s, _⟩ := l1.lst hL
      refine ⟨.inl ⟨rfl, ys, .of s⟩, ?_⟩
      exact hl p [] [] _ _ _ _ rfl l1 h1 fun z H3 d3 L3 e3 r3 l3 q3 => k z H3 d3 L3 (e1.trans e3) r3 l3 q3
    | _ => exact h1.elim
  | _ => exact h1.elim
theorem m_append (ho : DE X o to) (ha : DA X (e :: es) t) (hbase : attributeBase o "append" X.env (eval o X.env) = eval o X.env := by rfl) (hfew : ((backTo cpos (starEach (e :: es) X.env)).all (fun x => !x.1) && (backToKw cpos (keywordEach [] X.env)).all (fun x => x.1.isSome) && decide ((e :: es).length + ([] : List Keyword).length + (if ([] : List Keyword).isEmpty then 0 else 1) < 30)) = true := by rfl)
    (hline : (apos.endLine == cpos.line) = true := by rfl) (hs : starEach (e :: es) X.env = (false, eval e X.env) :: starEach es X.env := by rfl) (hplain : (backTo cpos (starEach es X.env)).any (·.1) = false := by rfl) : DE X (.Call (.Attribute o "append" apos) (e :: es) [] cpos) (dLM rAppend to t) :=
  d_lm PySem.F.slot_list_append PySem.F.type_list_append mt_append lift_append ho ha hbase hfew hline hs hplain
theorem m_extend (ho : DE X o to) (ha : DA X (e :: es) t) (hbase : attributeBase o "extend" X.env (eval o X.env) = eval o X.env := by rfl) (hfew : ((backTo cpos (starEach (e :: es) X.env)).all (fun x => !x.1) && (backToKw cpos (keywordEach [] X.env)).all (fun x => x.1.isSome) && decide ((e :: es).length + ([] : List Keyword).length + (if ([] : List Keyword).isEmpty then 0 else 1) < 30)) = true := by rfl)
    (hline : (apos.endLine == cpos.line) = true := by rfl) (hs : starEach (e :: es) X.env = (false, eval e X.env) :: starEach es X.env := by rfl) (hplain : (backTo cpos (starEach es X.env)).any (·.1) = false := by rfl) : DE X (.Call (.Attribute o "extend" apos) (e :: es) [] cpos) (dLM rExtend to t) :=
  d_lm PySem.F.slot_list_extend PySem.F.type_list_extend mt_extend lift_extend ho ha hbase hfew hline hs hplain
theorem m_popAt (ho : DE X o to) (ha : DA X (e :: es) t) (hbase : attributeBase o "pop" X.env (eval o X.env) = eval o X.env := by rfl) (hfew : ((backTo cpos (starEach (e :: es) X.env)).all (fun x => !x.1) && (backToKw cpos (keywordEach [] X.env)).all (fun x => x.1.isSome) && decide ((e :: es).length + ([] : List Keyword).length + (if ([] : List Keyword).isEmpty then 0 else 1) < 30)) = true := by rfl)
    (hline : (apos.endLine == cpos.line) = true := by rfl) (hs : starEach (e :: es) X.env = (false, eval e X.env) :: starEach es X.env := by rfl) (hplain : (backTo cpos (starEach es X.env)).any (·.1) = false := by rfl) : DE X (.Call (.Attribute o "pop" apos) (e :: es) [] cpos) (dLM rPopAt to t) :=
  d_lm PySem.F.slot_list_pop PySem.F.type_list_pop mt_popAt lift_popAt ho ha hbase hfew hline hs hplain
theorem m_pop (ho : DE X o to) (hbase : attributeBase o "pop" X.env (eval o X.env) = eval o X.env := by rfl) (hline : (apos.endLine == cpos.line) = true := by rfl) : DE X (.Call (.Attribute o "pop" apos) [] [] cpos) (dLM rPop to dNil) :=
  d_lm0 PySem.F.slot_list_pop PySem.F.type_list_pop mt_pop lift_pop0 ho hbase hline
theorem m_reverse (ho : DE X o to) (hbase : attributeBase o "reverse" X.env (eval o X.env) = eval o X.env := by rfl) (hline : (apos.endLine == cpos.line) = true := by rfl) : DE X (.Call (.Attribute o "reverse" apos) [] [] cpos) (dLM rReverse to dNil) :=
  d_lm0 PySem.F.slot_list_reverse PySem.F.type_list_reverse mt_reverse lift_reverse ho hbase hline
end

/-! ### targets -/
abbrev DTG := D → SD → LH → (SD → LH → Prop) → Prop
abbrev DTGs := List D → SD → LH → (SD → LH → Prop) → Prop
/-- a target whose names have the slots vs -/
def upG (K : PySem.W.Frag) (vs : List Nat) (g : DTG) : TG := fun v σ H Q => ∃ d δ L Qd, Rp K H d v ∧ RS K δ L σ H ∧ g d δ L Qd ∧ ∀ σ' H' δ' L', Ext K H H' → RS K δ' L' σ' H' → wipe σ' vs = wipe σ vs → Qd δ' L' → Q σ' H'
def upGs (K : PySem.W.Frag) (vs : List Nat) (g : DTGs) : TGs := fun xs σ H Q => ∃ ds δ L Qd, RpL K H ds xs ∧ RS K δ L σ H ∧ g ds δ L Qd ∧ ∀ σ' H' δ' L', Ext K H H' → RS K δ' L' σ' H' → wipe σ' vs = wipe σ vs → Qd δ' L' → Q σ' H'
def DG (X : Cx) (vs : List Nat) (tg : Expr) (g : DTG) : Prop := PG X tg (upG X.K vs g)
def DGs (X : Cx) (vs : List Nat) (tgs : List Expr) (g : DTGs) : Prop := PGs X tgs (upGs X.K vs g)
theorem PG.wk {X : Cx} {e : Expr} {t t' : TG} (h : PG X e t) (w : ∀ v σ H Q, t' v σ H Q → t v σ H Q) : PG X e t' := ⟨fun pins s σ H v u Q I r q => h.run pins s σ H v u Q I r (w v σ H Q q)⟩
theorem PGs.wk {X : Cx} {e : List Expr} {t t' : TGs} (h : PGs X e t) (w : ∀ v σ H Q, t' v σ H Q → t v σ H Q) : PGs X e t' := ⟨fun pins s σ H v u Q I r q => h.run pins s σ H v u Q I r (w v σ H Q q)⟩
theorem PG.or {X : Cx} {e : Expr} {t u : TG} (h : PG X e t) (h' : PG X e u) : PG X e (fun v σ H Q => t v σ H Q ∨ u v σ H Q) := ⟨fun pins s σ H v w Q I r q => by
  rcases q with q | q
  · exact h.run pins s σ H v w Q I r q
  · exact h'.run pins s σ H v w Q I r q⟩
theorem wipe_set_out {σ : St} {i : Nat} {z : Option V} : ∀ {vs : List Nat}, i ∉ vs → wipe (σ.set i z) vs = (wipe σ vs).set i z
  | [], _ => rfl
  | v :: vs, h => by
    have h1 : i ≠ v := fun e => h (by simp [e])
    have h2 : i ∉ vs := fun e => h (by simp [e])
    show (wipe (σ.set i z) vs).set v none = ((wipe σ vs).set v none).set i z
    rw [wipe_set_out h2, List.set_comm _ _ h1]
theorem wipe_set {σ : St} {i : Nat} {z : Option V} : ∀ {vs : List Nat}, i ∈ vs → wipe (σ.set i z) vs = wipe σ vs
  | [], h => by simp at h
  | v :: vs, h => by
    show (wipe (σ.set i z) vs).set v none = (wipe σ vs).set v none
    by_cases hi : i ∈ vs
    · rw [wipe_set hi]
    · have e : i = v := (List.mem_cons.mp h).resolve_right hi
      subst e
      rw [wipe_set_out hi, List.set_set]
section
variable {X : Cx} {vs : List Nat} {pos : Pos}
@[reducible] def gNm (i : Nat) : DTG := fun d δ L Q => Q (put δ i (some d)) L
theorem g_name {i : Nat} {x : Str} (hN : X.N.Nodup) (hi : X.N[i]? = some x) (hx : Loc X.env.scope x) (hv : i ∈ vs) (hf : X.fn x = true ∨ X.env.scope.names.lookup x = some .local) : DG X vs (.Name x pos) (gNm i) := PG.wk (pg_name hN hi hx hf) fun v σ H Q h => by
  obtain ⟨d, δ, L, Qd, r, rs, h, k⟩ := h
  exact k _ _ _ _ (.refl _ _) (rs.put r) (wipe_set hv) h
@[reducible] def gsNil : DTGs := fun ds δ L Q => match ds with
  | [] => Q δ L
  | _ => False
@[reducible] def gsCons (g : DTG) (gs : DTGs) : DTGs := fun ds δ L Q => match ds with
  | d :: r => g d δ L fun δ1 L1 => gs r δ1 L1 Q
  | _ => False
theorem gs_nil : DGs X vs [] gsNil := PGs.wk pgs_nil fun xs σ H Q h => by
  obtain ⟨ds, δ, L, Qd, r, rs, h, k⟩ := h
  cases ds with
  | nil => exact ⟨r, k _ _ _ _ (.refl _ _) rs rfl h⟩
  | cons _ _ => exact h.elim
theorem gs_cons {e : Expr} {es : List Expr} {g : DTG} {gs : DTGs} (h1 : DG X vs e g) (h2 : DGs X vs es gs) (hs : (assignEach (e :: es) X.env).map (·.2) = assign e X.env :: (assignEach es X.env).map (·.2) := by rfl) : DGs X vs (e :: es) (gsCons g gs) := PGs.wk (pgs_cons h1 h2 hs) fun xs σ H Q h => by
  obtain ⟨ds, δ, L, Qd, r, rs, h, k⟩ := h
  cases ds with
  | nil => exact h.elim
  | cons d ds =>
    obtain ⟨x, rr, rfl, rx, rr'⟩ := r
    exact ⟨x, rr, rfl, d, δ, L, _, rx, rs, h, fun σ1 H1 δ1 L1 e1 rs1 w1 q1 => ⟨ds, δ1, L1, Qd, rr'.ext e1, rs1, q1, fun σ2 H2 δ2 L2 e2 rs2 w2 q2 => k σ2 H2 δ2 L2 (e1.trans e2) rs2 (w2.trans w1) q2⟩⟩
@[reducible] def gTp (n : Nat) (gs : DTGs) : DTG := fun d δ L Q => match d with
  | .tup ds => ds.length = n ∧ gs ds δ L Q
  | .v (.ref p) => ∃ ds, L p = some (.lst ds) ∧ ds.length = n ∧ gs ds δ L Q
  | _ => False
theorem g_tup {es : List Expr} {k : Nat} {gs : DTGs} {n : Nat} (hc : X.calm = true) (h : DGs X vs es gs) (hn : (assignEach es X.env).length = n := by rfl) (hst : (assignEach es X.env).findIdx? (·.1) = none := by rfl) : DG X vs (.Tuple es k pos) (gTp n gs) := PG.wk (PG.or (pg_tup hc h hn hst) (pg_lst hc h hn hst)) fun v σ H Q h => by
  obtain ⟨d, δ, L, Qd, r, rs, h, k⟩ := h
  cases d with
  | tup ds =>
    obtain ⟨p, xs, rfl, s, q⟩ := r
    exact .inl ⟨p, xs, rfl, s, by rw [← q.length]; exact h.1, ds, δ, L, Qd, q, rs, h.2, k⟩
  | v u =>
    cases u with
    | ref p =>
      cases (show v = _ from r)
      obtain ⟨ds, hL, hl, h⟩ := h
      obtain ⟨xs, s, q⟩ := rs.hp.lst hL
      exact .inr ⟨p, xs, rfl, .of s, by rw [← q.length]; exact hl, ds, δ, L, Qd, q, rs, h, k⟩
    | _ => exact h.elim
  | _ => exact h.elim
end

/-! ### statements -/
section
variable {X : Cx} {st : Stmt} {rest : List Stmt} {t u : DTS} {e : Expr} {te : DTE} {pos : Pos}
@[reducible] def sNext : DTS := fun D δ L => D.nx δ L
@[reducible] def sSeq (t u : DTS) : DTS := fun D δ L => t { D with nx := u D } δ L
theorem ss_nil : DSs X [] sNext := PSs.wk pss_nil fun D σ H h => by
  obtain ⟨δ, L, E, rs, h, k⟩ := h
  exact k.nx _ _ _ _ (.refl _ _) rs h
theorem ss_cons (h1 : DS X st t) (h2 : DSs X rest u) : DSs X (st :: rest) (sSeq t u) := PSs.wk (pss_cons h1 h2) fun D σ H h => by
  obtain ⟨δ, L, E, rs, h, k⟩ := h
  exact ⟨δ, L, { E with nx := u E }, rs, h, ⟨fun σ' H' δ' L' e1 rs1 q => ⟨δ', L', E, rs1, q, k.mono e1⟩, k.rt, k.bk, k.ct⟩⟩
theorem ss_one (h1 : DS X st t) : DSs X [st] t := pss_one h1
@[reducible] def sBreak : DTS := fun D δ L => D.bk δ L
@[reducible] def sCont : DTS := fun D δ L => D.ct δ L
theorem s_pass : DS X (.Pass pos) sNext := PS.wk ps_pass fun D σ H ⟨δ, L, E, rs, h, k⟩ => k.nx _ _ _ _ (.refl _ _) rs h
theorem s_break : DS X (.Break pos) sBreak := PS.wk ps_break fun D σ H ⟨δ, L, E, rs, h, k⟩ => k.bk _ _ _ _ (.refl _ _) rs h
theorem s_continue : DS X (.Continue pos) sCont := PS.wk ps_continue fun D σ H ⟨δ, L, E, rs, h, k⟩ => k.ct _ _ _ _ (.refl _ _) rs h
@[reducible] def sExpr (te : DTE) : DTS := fun D δ L => te δ L fun _ L1 => D.nx δ L1
theorem s_expr (he : DE X e te) (hs : swapsWith e none pos.line X.env = pure false := by rfl) : DS X (.Expr e pos) (sExpr te) := PS.wk (ps_expr he hs) fun D σ H h => by
  obtain ⟨δ, L, E, rs, h, k⟩ := h
  exact ⟨δ, L, _, rs, h, fun x H1 d L1 e1 r1 l1 q => k.nx _ _ _ _ e1 (rs.step e1 l1) q⟩
@[reducible] def sRet (te : DTE) : DTS := fun D δ L => te δ L D.rt
theorem s_ret (he : DE X e te) : DS X (.Return (some e) pos) (sRet te) := PS.wk (ps_ret he) fun D σ H h => by
  obtain ⟨δ, L, E, rs, h, k⟩ := h
  exact ⟨δ, L, _, rs, h, fun x H1 d L1 e1 r1 l1 q => k.rt _ _ _ _ e1 r1 l1 q⟩
theorem s_retN : DS X (.Return none pos) (fun D δ L => D.rt .non L) := PS.wk ps_retN fun D σ H ⟨δ, L, E, rs, h, k⟩ => k.rt _ _ .non _ (.refl _ _) rfl rs.hp h
@[reducible] def sIf (c : DTT) (t u : DTS) : DTS := fun D δ L => c δ L fun b L1 => BIf b (t D δ L1) (u D δ L1)
theorem s_if {c : Expr} {a b : List Stmt} {tc : DTT} (hc : DT X c tc) (ha : DSs X a t) (hb : DSs X b u) : DS X (.If c a b pos) (sIf tc t u) := PS.wk (ps_if hc ha hb) fun D σ H h => by
  obtain ⟨δ, L, E, rs, h, k⟩ := h
  exact ⟨δ, L, _, rs, h, fun b H1 L1 e1 l1 q => BIf.map q (fun q => ⟨δ, L1, E, rs.step e1 l1, q, k.mono e1⟩) fun q => ⟨δ, L1, E, rs.step e1 l1, q, k.mono e1⟩⟩
/-- name = e -/
@[reducible] def sSet (i : Nat) (te : DTE) : DTS := fun D δ L => te δ L fun d L1 => D.nx (put δ i (some d)) L1
theorem s_set (i : Nat) {x : Str} {pos' : Pos} (hN : X.N.Nodup) (hi : X.N[i]? = some x) (hx : Loc X.env.scope x) (he : DE X e te) (hs : swapsWith e (some (.Name x pos')) pos.line X.env = pure false := by rfl) (hf : X.fn x = true ∨ X.env.scope.names.lookup x = some .local := by first | exact .inl rfl | exact .inr rfl) :
    DS X (.Assign [.Name x pos'] e pos) (sSet i te) := PS.wk (ps_set hN hi hx he hs hf) fun D σ H h => by
  obtain ⟨δ, L, E, rs, h, k⟩ := h
  exact ⟨δ, L, _, rs, h, fun x H1 d L1 e1 r1 l1 q => k.nx _ _ _ _ e1 ((rs.step e1 l1).put r1) q⟩
/-- target = e -/
@[reducible] def sAsg (te : DTE) (g : DTG) : DTS := fun D δ L => te δ L fun d L1 => g d δ L1 D.nx
theorem s_asg {vs : List Nat} {tg : Expr} {g : DTG} (he : DE X e te) (hg : DG X vs tg g) (hs : swapsWithSole [tg] e pos.line X.env = pure false := by rfl) (hw : swappedStores [tg] e X.env = pure none := by rfl)
    (h1 : (assignEach [tg] X.env).map (·.2) = [assign tg X.env] := by rfl) : DS X (.Assign [tg] e pos) (sAsg te g) := PS.wk (ps_asg he hg hs hw h1) fun D σ H h => by
  obtain ⟨δ, L, E, rs, h, k⟩ := h
  exact ⟨δ, L, _, rs, h, fun x H1 d L1 e1 r1 l1 q => ⟨d, δ, L1, _, r1, rs.step e1 l1, q, fun σ2 H2 δ2 L2 e2 rs2 _ q2 => k.nx _ _ _ _ (e1.trans e2) rs2 q2⟩⟩
/-- a, b = x, y, plain local names -/
@[reducible] def sPar (i j : Nat) (ta tb : DTE) : DTS := fun D δ L => ta δ L fun x L1 => tb δ L1 fun y L2 => D.nx (put (put δ i (some x)) j (some y)) L2
theorem s_par (i j : Nat) {x y : Str} {a b : Expr} {ta tb : DTE} {px py pt : Pos} {kt k2 pt2} (hc : X.calm = true) (hN : X.N.Nodup) (hi : X.N[i]? = some x) (hj : X.N[j]? = some y) (hij : i ≠ j)
    (hx : X.env.scope.names.lookup x = some .local) (hy : X.env.scope.names.lookup y = some .local) (ha : DE X a ta) (hb : DE X b tb)
    (hw : swappedStores [.Tuple [.Name x px, .Name y py] kt pt] (.Tuple [a, b] k2 pt2) X.env = pure (some [x, y]) := by rfl)
    (hs : swapsWithSole [.Tuple [.Name x px, .Name y py] kt pt] (.Tuple [a, b] k2 pt2) pos.line X.env = pure false := by rfl)
    (h1 : starEach [a, b] X.env = (false, eval a X.env) :: starEach [b] X.env := by rfl) (h2 : starEach [b] X.env = (false, eval b X.env) :: starEach [] X.env := by rfl) :
    DS X (.Assign [.Tuple [.Name x px, .Name y py] kt pt] (.Tuple [a, b] k2 pt2) pos) (sPar i j ta tb) := PS.wk (ps_par hc hN hi hj hij hx hy (pa_cons ha (pa_cons hb pa_nil h2) h1) hw hs) fun D σ H h => by
  obtain ⟨δ, L, E, rs, h, k⟩ := h
  refine ⟨δ, L, _, rs, h, fun x H1 d L1 e1 r1 l1 h1 => ⟨δ, L1, _, rs.step e1 l1, h1, fun y H2 e L2 e2 r2 l2 h2 => ⟨x, y, rfl, ?_⟩⟩⟩
  exact k.nx _ _ _ _ (e1.trans e2) (((rs.step (e1.trans e2) l2).put (r1.ext e2)).put r2) h2
/-- o[i] = e, a list -/
@[reducible] def sSub (te to ti : DTE) : DTS := fun D δ L => te δ L fun y L1 => to δ L1 fun x L2 => ti δ L2 fun z L3 => match x, z with
  | .v (.ref p), .int k => ∃ xs j, L3 p = some (.lst xs) ∧ ixN xs.length k = some j ∧ D.nx δ (lup L3 p (.lst (xs.set j y)))
  | _, _ => False
theorem s_sub {o i : Expr} {to ti : DTE} {pos' : Pos} (he : DE X e te) (ho : DE X o to) (hi : DE X i ti) (ha : ∀ v, assign (.Subscript o i pos') X.env v = (do
      let ov ← holding [v] (eval o X.env)
      let iv ← holding [v, ov] (eval i X.env)
      standAt pos'
      holding [v, ov, iv] (setItem ov iv v)
      release [v, ov, iv] []) := by intro _; rfl) (hs : swapsWithSole [.Subscript o i pos'] e pos.line X.env = pure false := by rfl) (hw : swappedStores [.Subscript o i pos'] e X.env = pure none := by rfl)
    (h1 : (assignEach [.Subscript o i pos'] X.env).map (·.2) = [assign (.Subscript o i pos') X.env] := by rfl) : DS X (.Assign [.Subscript o i pos'] e pos) (sSub te to ti) := PS.wk (ps_asg he (pg_sub ho hi set_list ha) hs hw h1) fun D σ H h => by
  obtain ⟨δ, L, E, rs, h, k⟩ := h
  refine ⟨δ, L, _, rs, h, fun y H1 d L1 e1 r1 l1 h1 => ⟨δ, L1, _, rs.step e1 l1, h1, fun x H2 c L2 e2 r2 l2 h2 => ⟨δ, L2, _, rs.step (e1.trans e2) l2, h2, fun z H3 b L3 e3 r3 l3 h3 => ?_⟩⟩⟩
  have e03 := (e1.trans e2).trans e3
  cases c with
  | v w =>
    cases w with
    | ref p =>
      cases b with
      | int q =>
        obtain ⟨xs, j, hL, hj, h3⟩ := h3
        obtain ⟨ys, s, r⟩ := l3.lst hL
        refine ⟨p, ys, q, j, r2, r3, s, by rw [← r.length]; exact hj, ?_⟩
        exact k.nx _ _ _ _ (e03.trans (.lst s)) (rs.step (e03.trans (.lst s)) (l3.upd (.lst s) (r.set ((r1.ext e2).ext e3) j))) h3
      | _ => exact h3.elim
    | _ => exact h3.elim
  | _ => exact h3.elim
/-- name += e and the like, ints -/
@[reducible] def sAug (i : Nat) (te : DTE) (r : DR2) : DTS := fun D δ L => match nth δ i with
  | some x => te δ L fun y L1 => r x y L1 fun z L2 => D.nx (put δ i (some z)) L2
  | none => False
theorem s_augI (i : Nat) {x : Str} {op : Operator} {f : Int → Int → Int} {pos' : Pos} (hN : X.N.Nodup) (hi : X.N[i]? = some x) (hx : Loc X.env.scope x) (he : DE X e te) (ho : PIp X op (ipI f)) (hf : X.fn x = true ∨ X.env.scope.names.lookup x = some .local := by first | exact .inl rfl | exact .inr rfl) :
    DS X (.AugAssign (.Name x pos') op e pos) (sAug i te (rI0 fun a b => .int (f a b))) := PS.wk (ps_aug hN hi hx he ho hf) fun D σ H h => by
  obtain ⟨δ, L, E, rs, h, k⟩ := h
  cases hx' : nth δ i with
  | none => rw [show sAug i te (rI0 fun a b => .int (f a b)) E δ L = False by unfold sAug; rw [hx']] at h; exact h.elim
  | some d =>
    rw [show sAug i te (rI0 fun a b => .int (f a b)) E δ L = (te δ L fun y L1 => rI0 (fun a b => .int (f a b)) d y L1 fun z L2 => E.nx (put δ i (some z)) L2) by unfold sAug; rw [hx']] at h
    obtain ⟨v, hv, rv⟩ := rs.loc i d hx'
    refine ⟨v, hv, δ, L, _, rs, h, fun y H1 c L1 e1 r1 l1 q => ?_⟩
    cases d with
    | int a =>
      cases c with
      | int b => exact ⟨a, b, rv, r1, k.nx _ _ _ _ e1 ((rs.step e1 l1).put (d := .int (f a b)) rfl) q⟩
      | _ => exact q.elim
    | _ => exact q.elim
end
end G
namespace G
open PySem PySem.Spec PyProof.Rows L2

/-! ### while -/
section
variable {X : Cx} {pos : Pos}
@[reducible] def sWhile (c : DTT) (tb : DTS) : DTS := fun D δ L => ∃ W : Nat → SD → LH → Prop, (∃ m, W m δ L) ∧ ∀ m δ L, W m δ L →
  c δ L fun b L1 => BIf b (tb { D with nx := fun δ' L' => ∃ m', m' < m ∧ W m' δ' L', ct := fun δ' L' => ∃ m', m' < m ∧ W m' δ' L', bk := D.nx } δ L1) (D.nx δ L1)
theorem s_while {c : Expr} {body : List Stmt} {tc : DTT} {tb : DTS} (hp : PassesOwn (model X.prog X.w) X.A X.env X.xe) (hc : DT X c tc) (hb : DSs X body tb) : DS X (.While c body [] pos) (sWhile tc tb) := PS.wk (ps_while hp hc hb) fun D σ H h => by
  obtain ⟨δ, L, E, rs, ⟨W, ⟨m0, w0⟩, turn⟩, k⟩ := h
  refine ⟨fun m σ' H' => ∃ δ' L', Ext X.K H H' ∧ RS X.K δ' L' σ' H' ∧ W m δ' L', ⟨m0, δ, L, .refl _ _, rs, w0⟩, ?_⟩
  rintro m σ1 H1 ⟨δ1, L1, e1, rs1, w1⟩
  refine ⟨δ1, L1, _, rs1, turn m δ1 L1 w1, fun b H2 L2 e2 l2 q => ?_⟩
  have e02 := e1.trans e2
  refine BIf.map q (fun q => ?_) fun q => k.nx _ _ _ _ e02 (rs1.step e2 l2) q
  refine ⟨fun σ' H' => ∃ m', m' < m ∧ ∃ δ' L', Ext X.K H H' ∧ RS X.K δ' L' σ' H' ∧ W m' δ' L', fun σ' H' ⟨m', hm, z⟩ => ⟨m', hm, z⟩, δ1, L2, _, rs1.step e2 l2, q, ?_⟩
  exact ⟨fun σ' H' δ' L' e rs' ⟨m', hm, z⟩ => ⟨m', hm, δ', L', e02.trans e, rs', z⟩, fun x H' d L' e => k.rt _ _ _ _ (e02.trans e), fun σ' H' δ' L' e rs' q => k.nx _ _ _ _ (e02.trans e) rs' q, fun σ' H' δ' L' e rs' ⟨m', hm, z⟩ => ⟨m', hm, δ', L', e02.trans e, rs', z⟩⟩

/-! ### what is walked -/
/-- a walk of n turns; St: what the heap keeps (a list as it was) -/
structure DIt where
  n : Nat
  item : Nat → D → Prop
  st : LH → Prop
abbrev DTI := SD → LH → (DIt → LH → Prop) → Prop
/-- the turns of an iterator serve the walk -/
structure ItOk (K : PySem.W.Frag) (J : It) (I : DIt) (H0 : Hp) : Prop where
  go : ∀ i L H, Ext K H0 H → LR K L H → I.st L → i < I.n → J.go i H
  stop : ∀ L H, Ext K H0 H → LR K L H → I.st L → J.stop I.n H
  yld : ∀ i L H x H', Ext K H0 H → LR K L H → I.st L → i < I.n → J.yld i H x H' → ∃ d, I.item i d ∧ Ext K H H' ∧ LR K L H' ∧ Rp K H' d x
def upI (K : PySem.W.Frag) (t : DTI) : TI := fun σ H R => ∃ δ L Rd, RS K δ L σ H ∧ t δ L Rd ∧ ∀ J I H' L', Ext K H H' → LR K L' H' → ItOk K J I H' → I.st L' → Rd I L' → R J H'
def DI (X : Cx) (tg iter : Expr) (t : DTI) : Prop := PI X tg iter (upI X.K t)
theorem PI.wk {X : Cx} {tg e : Expr} {t t' : TI} (h : PI X tg e t) (w : ∀ σ H Q, t' σ H Q → t σ H Q) : PI X tg e t' := ⟨fun pins s σ H Q I q => h.run pins s σ H Q I (w σ H Q q)⟩
/-- a list or a tuple -/
theorem pi_seq {tg l : Expr} {tl : TE} (hl : PE X l tl) : PI X tg l (fun σ H R => tl σ H fun x H1 => ∃ a, x = .ref a ∧ (((∃ xs, SqL X.K H1 a xs) ∧ R (Itl X.K a) H1) ∨ ((∃ xs, SqT X.K H1 a xs) ∧ R (Itt X.K a) H1))) := by
  refine ⟨fun pins s σ H R I h => ?_⟩
  refine thn (hl.run pins s σ H _ I h) fun v s1 ⟨x, H1, I1, r1, q1⟩ => ?_
  obtain ⟨a, e, q⟩ := q1
  subst e
  cases r1
  rcases q with ⟨⟨xs, hq⟩, q⟩ | ⟨⟨xs, hq⟩, q⟩
  · obtain ⟨its, rv, p, hz⟩ := I1.list hq
    refine wpAny_pyIter_list p.isList ?_
    refine ⟨s1.heap.objs.size, [s1.heap.objs.size], _, _, H1, rfl, I1.kept (t' := s1.toks) fun b o e => Heap.get?_push_of_some _ e, turn_list a _, ⟨_, Heap.get?_push_size _ rfl, rfl, rfl⟩, fun b hb => ?_, q⟩
    have e : b = s1.heap.objs.size := by simpa using hb
    subst e
    exact I1.fpOk (Nat.le_refl _) (I1.hok.fresh (Nat.le_refl _))
  · obtain ⟨its, rv, p, hz⟩ := I1.tuple hq
    refine wpAny_pyIter_tuple (show s1.heap.IsTuple a its.toArray from p) ?_
    refine ⟨s1.heap.objs.size, [s1.heap.objs.size], _, _, H1, rfl, I1.kept (t' := s1.toks) fun b o e => Heap.get?_push_of_some _ e, turn_tuple a _, ⟨_, Heap.get?_push_size _ rfl, rfl, rfl⟩, fun b hb => ?_, q⟩
    have e : b = s1.heap.objs.size := by simpa using hb
    subst e
    exact I1.fpOk (Nat.le_refl _) (I1.hok.fresh (Nat.le_refl _))
@[reducible] def seqIt (ds : List D) (st : LH → Prop) : DIt := ⟨ds.length, fun i d => ds[i]? = some d, st⟩
@[reducible] def iSeq (te : DTE) : DTI := fun δ L R => te δ L fun x L1 => match x with
  | .tup ds => R (seqIt ds fun _ => True) L1
  | .rol ds => R (seqIt ds fun _ => True) L1
  | .v (.ref p) => ∃ ds, L1 p = some (.lst ds) ∧ R (seqIt ds fun L' => L' p = some (.lst ds)) L1
  | _ => False
theorem i_seq {tg e : Expr} {te : DTE} (he : DE X e te) : DI X tg e (iSeq te) := PI.wk (pi_seq he) fun σ H R h => by
  obtain ⟨δ, L, Rd, rs, h, k⟩ := h
  refine ⟨δ, L, _, rs, h, fun x H1 d L1 e1 r1 l1 h1 => ?_⟩
  cases d with
  | tup ds =>
    obtain ⟨p, xs, rfl, s, q⟩ := r1
    have hlen := q.length
    refine ⟨p, rfl, .inr ⟨⟨xs, s⟩, k _ _ _ _ e1 l1 ⟨fun i L' H' e l _ hi => ?_, fun L' H' e l _ => ?_, fun i L' H' x H'' e l _ hi y => ?_⟩ trivial h1⟩⟩
    · exact ⟨xs, xs[i]'(by rw [← hlen]; exact hi), e.tup _ _ s, List.getElem?_eq_getElem _⟩
    · exact ⟨xs, e.tup _ _ s, by rw [← hlen]; exact Nat.le_refl _⟩
    · obtain ⟨rfl, y⟩ := y
      obtain ⟨d, hd, rd⟩ := (RpL.ext e _ _ q).getD (y xs (e.tup _ _ s))
      exact ⟨d, hd, .refl _ _, l, rd⟩
  | rol ds =>
    obtain ⟨p, xs, rfl, s, q⟩ := r1
    have hlen := q.length
    refine ⟨p, rfl, .inl ⟨⟨xs, s.sq⟩, k _ _ _ _ e1 l1 ⟨fun i L' H' e l _ hi => ?_, fun L' H' e l _ => ?_, fun i L' H' x H'' e l _ hi y => ?_⟩ trivial h1⟩⟩
    · exact ⟨xs, xs[i]'(by rw [← hlen]; exact hi), (s.ext e).sq, List.getElem?_eq_getElem _⟩
    · exact ⟨xs, (s.ext e).sq, by rw [← hlen]; exact Nat.le_refl _⟩
    · obtain ⟨rfl, y⟩ := y
      obtain ⟨d, hd, rd⟩ := (RpL.ext e _ _ q).getD (y xs (s.ext e).sq)
      exact ⟨d, hd, .refl _ _, l, rd⟩
  | v u =>
    cases u with
    | ref p =>
      cases (show x = _ from r1)
      obtain ⟨ds, hL, h1⟩ := h1
      obtain ⟨xs0, s0, _⟩ := l1.lst hL
      refine ⟨p, rfl, .inl ⟨⟨xs0, .of s0⟩, k _ _ _ _ e1 l1 ⟨fun i L' H' e l st hi => ?_, fun L' H' e l st => ?_, fun i L' H' x H'' e l st hi y => ?_⟩ hL h1⟩⟩
      · obtain ⟨xs, s, q⟩ := l.lst st
        exact ⟨xs, xs[i]'(by rw [← q.length]; exact hi), .of s, List.getElem?_eq_getElem _⟩
      · obtain ⟨xs, s, q⟩ := l.lst st
        exact ⟨xs, .of s, by rw [← q.length]; exact Nat.le_refl _⟩
      · obtain ⟨xs, s, q⟩ := l.lst st
        obtain ⟨rfl, y⟩ := y
        obtain ⟨d, hd, rd⟩ := q.getD (y xs (.of s))
        exact ⟨d, hd, .refl _ _, l, rd⟩
    | _ => exact h1.elim
  | _ => exact h1.elim
@[reducible] def rngIt (lo : Int) (n : Nat) (c : Int) : DIt := ⟨n, fun i d => d = .int (lo + i * c), fun _ => True⟩
theorem itok_range {K : PySem.W.Frag} {lo : Int} {n : Nat} {H0 : Hp} : ItOk K (Itr lo n) (rngIt lo n 1) H0 := ⟨fun i L H _ _ _ hi => hi, fun L H _ _ _ => Nat.le_refl _, fun i L H x H' e l _ hi y => by
  obtain ⟨rfl, rfl⟩ := y
  exact ⟨.int (lo + i * 1), rfl, .refl _ _, l, by rw [Int.mul_one]; rfl⟩⟩
@[reducible] def iRng1 (ta : DTE) : DTI := fun δ L R => ta δ L fun x L1 => match x with
  | .int j => (-(2 ^ 62) ≤ j ∧ j < 2 ^ 62) ∧ R (rngIt 0 j.toNat 1) L1
  | _ => False
@[reducible] def iRng2 (ta tb : DTE) : DTI := fun δ L R => ta δ L fun x L1 => tb δ L1 fun y L2 => match x, y with
  | .int i, .int j => (-(2 ^ 62) ≤ i ∧ i < 2 ^ 62 ∧ -(2 ^ 62) ≤ j ∧ j < 2 ^ 62) ∧ R (rngIt i (j - i).toNat 1) L2
  | _, _ => False
theorem i_rng1 {tg a : Expr} {ta : DTE} {p pos : Pos} (hg : Gl X "range") (hm : X.mg "range" = none) (ha : DE X a ta) (hs : starEach [a] X.env = (false, eval a X.env) :: starEach [] X.env := by rfl) : DI X tg (.Call (.Name "range" p) [a] [] pos) (G.iRng1 ta) := PI.wk (pi_range1 hg hm (pa_cons ha pa_nil hs) hs) fun σ H R h => by
  obtain ⟨δ, L, Rd, rs, h, k⟩ := h
  refine ⟨δ, L, _, rs, h, fun x H1 d L1 e1 r1 l1 h1 => ?_⟩
  cases d with
  | int j => cases (show x = _ from r1); exact ⟨j, rfl, h1.1.1, h1.1.2, k _ _ _ _ e1 l1 itok_range trivial h1.2⟩
  | _ => exact h1.elim
theorem i_rng2 {tg a b : Expr} {ta tb : DTE} {p pos : Pos} (hg : Gl X "range") (hm : X.mg "range" = none) (ha : DE X a ta) (hb : DE X b tb) (hs : starEach [a, b] X.env = [(false, eval a X.env), (false, eval b X.env)] := by rfl) (hs2 : starEach [b] X.env = [(false, eval b X.env)] := by rfl) : DI X tg (.Call (.Name "range" p) [a, b] [] pos) (G.iRng2 ta tb) := PI.wk (pi_range2 hg hm (pa_cons ha (pa_cons hb pa_nil hs2) (by rw [hs, hs2])) hs hs2) fun σ H R h => by
  obtain ⟨δ, L, Rd, rs, h, k⟩ := h
  refine ⟨δ, L, _, rs, h, fun x H1 d L1 e1 r1 l1 h1 => ⟨δ, L1, _, rs.step e1 l1, h1, fun y H2 e L2 e2 r2 l2 h2 => ?_⟩⟩
  cases d with
  | int i =>
    cases e with
    | int j => cases (show x = _ from r1); cases (show y = _ from r2); exact ⟨i, j, rfl, h2.1, k _ _ _ _ (e1.trans e2) l2 itok_range trivial h2.2⟩
    | _ => exact h2.elim
  | _ => exact h2.elim

/-! ### for -/
@[reducible] def sFor (wi : DTI) (g : DTG) (tb : DTS) : DTS := fun D δ L => wi δ L fun I L1 => ∃ W : Nat → SD → LH → Prop, W 0 δ L1 ∧ (∀ i δ L, i ≤ I.n → W i δ L → I.st L) ∧
  (∀ i d δ L, i < I.n → I.item i d → W i δ L → g d δ L fun δ2 L2 => tb { D with nx := W (i + 1), ct := W (i + 1), bk := D.nx } δ2 L2) ∧ ∀ δ L, W I.n δ L → D.nx δ L
theorem s_for {vs : List Nat} {tg iter : Expr} {body : List Stmt} {wi : DTI} {g : DTG} {tb : DTS} (hp : PassesOwn (model X.prog X.w) X.A X.env X.xe) (hc : X.calm = true) (hi : DI X tg iter wi) (hg : DG X vs tg g) (hb : DSs X body tb)
    (hs : ∀ x, foldedSetIterable iter X.env x = pure x := by intro _; rfl) : DS X (.For tg iter body [] pos) (sFor wi g tb) := PS.wk (ps_for hp hc hi hg hb hs) fun D σ H h => by
  obtain ⟨δ, L, E, rs, h, k⟩ := h
  refine ⟨δ, L, _, rs, h, fun J I H1 L1 e1 l1 ok st1 h1 => ?_⟩
  obtain ⟨W, w0, wst, turn, fin⟩ := h1
  refine ⟨fun i m σ' H' => m = I.n - i ∧ i ≤ I.n ∧ ∃ δ' L', Ext X.K H1 H' ∧ RS X.K δ' L' σ' H' ∧ W i δ' L', ⟨I.n, by simp, Nat.zero_le _, δ, L1, .refl _ _, rs.step e1 l1, w0⟩, ?_⟩
  rintro i m σ2 H2 ⟨rfl, hle, δ2, L2, e2, rs2, w2⟩
  have st2 := wst i δ2 L2 hle w2
  by_cases hlt : i < I.n
  · refine .inr ⟨ok.go i L2 H2 e2 rs2.hp st2 hlt, fun σ' H' => ∃ δ' L', Ext X.K H1 H' ∧ RS X.K δ' L' σ' H' ∧ W (i + 1) δ' L', fun σ' H' z => ⟨I.n - (i + 1), by omega, rfl, hlt, z⟩, fun x H3 y => ?_⟩
    obtain ⟨d, hd, e3, l3, rd⟩ := ok.yld i L2 H2 x H3 e2 rs2.hp st2 hlt y
    refine ⟨d, δ2, L2, _, rd, rs2.step e3 l3, turn i d δ2 L2 hlt hd w2, fun σ4 H4 δ4 L4 e4 rs4 _ q4 => ?_⟩
    have e14 := (e2.trans e3).trans e4
    have e04 := e1.trans e14
    exact ⟨δ4, L4, _, rs4, q4, ⟨fun σ' H' δ' L' e rs' z => ⟨δ', L', e14.trans e, rs', z⟩, fun x H' d L' e => k.rt _ _ _ _ (e04.trans e), fun σ' H' δ' L' e rs' q => k.nx _ _ _ _ (e04.trans e) rs' q, fun σ' H' δ' L' e rs' z => ⟨δ', L', e14.trans e, rs', z⟩⟩⟩
  · have ei : i = I.n := by omega
    subst ei
    exact .inl ⟨ok.stop L2 H2 e2 rs2.hp st2, k.nx _ _ _ _ (e1.trans e2) rs2 (fin δ2 L2 w2)⟩

/-! ### list comprehensions -/
def DTs (X : Cx) (ifs : List Expr) (t : DTT) : Prop := PTs X ifs (upT X.K t)
theorem PTs.wk {ifs : List Expr} {t t' : TT} (h : PTs X ifs t) (w : ∀ σ H Q, t' σ H Q → t σ H Q) : PTs X ifs t' := ⟨fun pins s σ H Q I q => h.run pins s σ H Q I (w σ H Q q)⟩
@[reducible] def dYes : DTT := fun _ L Q => Q true L
theorem ts_nil : DTs X [] dYes := PTs.wk pts_nil fun σ H Q h => by
  obtain ⟨δ, L, Qd, rs, h, k⟩ := h
  exact k _ _ _ (.refl _ _) rs.hp h
theorem ts_one {c : Expr} {t : DTT} (h : DT X c t) : DTs X [c] t := pts_one h
@[reducible] def dLc (vs : List Nat) (wi : DTI) (g : DTG) (tt : DTT) (te : DTE) : DTE := fun δ L Q => wi δ L fun I L1 => ∀ p, L1 p = none → ∃ W : Nat → LH → Prop, W 0 (lup L1 p (.lst [])) ∧ (∀ i L, i ≤ I.n → W i L → I.st L) ∧
  (∀ i d L, i < I.n → I.item i d → W i L → g d (wip δ vs) L fun δ2 L2 => tt δ2 L2 fun b L3 => BIf b (te δ2 L3 fun y L4 => ∃ acc, L4 p = some (.lst acc) ∧ acc.length < sizeLine ∧ W (i + 1) (lup L4 p (.lst (acc ++ [y])))) (W (i + 1) L3)) ∧
  ∀ L, W I.n L → Q (.v (.ref p)) L
theorem lc_core' {vs : List Nat} {wi : DTI} {g : DTG} {tt : DTT} {te : DTE} {σ : St} {H : Hp} {Q : VK} {K : PySem.W.Frag} (h : up K (dLc vs wi g tt te) σ H Q) : tLc (upI K wi) (upG K vs g) (upT K tt) (up K te) vs σ H Q := by
  obtain ⟨δ, L, Qd, rs, h, k⟩ := h
  refine ⟨δ, L, _, rs, h, fun J I H1 L1 e1 l1 ok st1 h1 p hp => ?_⟩
  obtain ⟨W, w0, wst, turn, fin⟩ := h1 p (l1.free hp)
  have en : Ext K H1 (upd H1 p (.lst [])) := .new hp
  refine ⟨fun i m H' => m = I.n - i ∧ i ≤ I.n ∧ ∃ L', Ext K H1 H' ∧ LR K L' H' ∧ W i L', ⟨I.n, by simp, Nat.zero_le _, _, en, l1.upd (ds := []) en rfl, w0⟩, ?_⟩
  rintro i m H2 ⟨rfl, hle, L2, e2, l2, w2⟩
  have st2 := wst i L2 hle w2
  by_cases hlt : i < I.n
  · refine .inr ⟨ok.go i L2 H2 e2 l2 st2 hlt, fun H' => ∃ L', Ext K H1 H' ∧ LR K L' H' ∧ W (i + 1) L', fun H' z => ⟨I.n - (i + 1), by omega, rfl, hlt, z⟩, fun x H3 y => ?_⟩
    obtain ⟨d, hd, e3, l3, rd⟩ := ok.yld i L2 H2 x H3 e2 l2 st2 hlt y
    have rsw : RS K (wip δ vs) L2 (wipe σ vs) H3 := (rs.wip vs).step (e1.trans (e2.trans e3)) l3
    refine ⟨d, wip δ vs, L2, _, rd, rsw, turn i d L2 hlt hd w2, fun σ4 H4 δ4 L4 e4 rs4 hw q4 => ⟨?_, δ4, L4, _, rs4, q4, fun b H5 L5 e5 l5 q5 => ?_⟩⟩
    · rw [hw]
      have : ∀ (us ws : List Nat), (∀ u ∈ us, u ∈ ws) → wipe (wipe σ ws) us = wipe σ ws := by
        intro us
        induction us with
        | nil => intro _ _; rfl
        | cons u us ih =>
          intro ws h
          show (wipe (wipe σ ws) us).set u none = wipe σ ws
          rw [ih ws fun v hv => h v (List.mem_cons_of_mem _ hv)]
          have hu : u ∈ ws := h u List.mem_cons_self
          clear ih h
          induction ws with
          | nil => simp at hu
          | cons w ws ih =>
            show ((wipe σ ws).set w none).set u none = (wipe σ ws).set w none
            by_cases e : w = u
            · subst e; rw [List.set_set]
            · have hu' : u ∈ ws := (List.mem_cons.mp hu).resolve_left fun z => e z.symm
              rw [List.set_comm _ _ e, ih hu']
      exact this vs vs fun _ h => h
    · have e15 := ((e2.trans e3).trans e4).trans e5
      refine BIf.map q5 (fun q => ⟨δ4, L5, _, rs4.step e5 l5, q, fun z H6 d6 L6 e6 r6 l6 q6 => ?_⟩) fun q => ⟨L5, e15, l5, q⟩
      obtain ⟨acc, hL, hz, q6⟩ := q6
      obtain ⟨xs, s, r⟩ := l6.lst hL
      exact ⟨xs, s, by rw [← r.length]; exact hz, _, (e15.trans e6).trans (.lst s), l6.upd (.lst s) (r.append (.one r6)), q6⟩
  · have ei : i = I.n := by omega
    subst ei
    exact .inl ⟨ok.stop L2 H2 e2 l2 st2, KK.ref k (e1.trans e2) l2 (fin L2 w2)⟩
theorem d_lc {elt tg iter : Expr} {ifs : List Expr} {scope : Scope} {own : List (Str × Nat)} {vs : List Nat} {wi : DTI} {g : DTG} {tt : DTT} {te : DTE} (hc : X.calm = true) (hN : X.N.Nodup) (hi : DI X tg iter wi) (ok : BlkOk X.N X.env.scope scope own) (hv : own.map (·.2) = vs)
    (hg : ∀ (s : Shared) (H : Hp) (C : Addr) (cl : List (Str × Addr)) (fp : List Addr), DG (X.blk s H scope (compEnvC scope cl C X.env) fp) vs tg g) (ht : ∀ (s : Shared) (H : Hp) (C : Addr) (cl : List (Str × Addr)) (fp : List Addr), DTs (X.blk s H scope (compEnvC scope cl C X.env) fp) ifs tt)
    (he : ∀ (s : Shared) (H : Hp) (C : Addr) (cl : List (Str × Addr)) (fp : List Addr), DE (X.blk s H scope (compEnvC scope cl C X.env) fp) elt te) (hs : ∀ x, foldedSetIterable iter X.env x = pure x := by intro _; rfl) :
    DE X (.ListComp elt [⟨tg, iter, ifs, 0⟩] scope pos) (dLc vs wi g tt te) := by
  subst hv
  exact PE.wk (pe_lc (g := upG X.K (List.map (fun x : Str × Nat => x.2) own) g) (tt := upT X.K tt) (te := up X.K te) hc hN hi ok (fun s H C cl fp => hg s H C cl fp) (fun s H C cl fp => ht s H C cl fp) (fun s H C cl fp => he s H C cl fp) hs) fun σ H Q h => lc_core' h
theorem s_setLc (i : Nat) {y : Str} {py spos : Pos} {elt tg iter : Expr} {ifs : List Expr} {scope : Scope} {own : List (Str × Nat)} {vs : List Nat} {wi : DTI} {g : DTG} {tt : DTT} {te : DTE} (hc : X.calm = true) (hN : X.N.Nodup) (hy : X.N[i]? = some y) (hyl : X.env.scope.names.lookup y = some .local)
    (hsw : swapsWith (.ListComp elt [⟨tg, iter, ifs, 0⟩] scope pos) (some (.Name y py)) spos.line X.env = pure true) (hi : DI X tg iter wi) (ok : BlkOk X.N X.env.scope scope own) (hv : own.map (·.2) = vs)
    (hg : ∀ (s : Shared) (H : Hp) (C : Addr) (cl : List (Str × Addr)) (fp : List Addr), DG (X.blk s H scope (compEnvC scope cl C X.env) fp) vs tg g) (ht : ∀ (s : Shared) (H : Hp) (C : Addr) (cl : List (Str × Addr)) (fp : List Addr), DTs (X.blk s H scope (compEnvC scope cl C X.env) fp) ifs tt)
    (he : ∀ (s : Shared) (H : Hp) (C : Addr) (cl : List (Str × Addr)) (fp : List Addr), DE (X.blk s H scope (compEnvC scope cl C X.env) fp) elt te) (hs : ∀ x, foldedSetIterable iter X.env x = pure x := by intro _; rfl) :
    DS X (.Assign [.Name y py] (.ListComp elt [⟨tg, iter, ifs, 0⟩] scope pos) spos) (sSet i (dLc vs wi g tt te)) := by
  subst hv
  refine PS.wk (ps_setLc (g := upG X.K (List.map (fun x : Str × Nat => x.2) own) g) (tt := upT X.K tt) (te := up X.K te) hc hN hy hyl hsw hi ok (fun s H C cl fp => hg s H C cl fp) (fun s H C cl fp => ht s H C cl fp) (fun s H C cl fp => he s H C cl fp) hs) fun D σ H h => ?_
  obtain ⟨δ, L, E, rs, h, k⟩ := h
  exact lc_core' ⟨δ, L, _, rs, h, fun x H1 d L1 e1 r1 l1 q => k.nx _ _ _ _ e1 ((rs.step e1 l1).put r1) q⟩
end
end G
namespace G
open PySem PySem.Spec PyProof.Rows L2

/-! ### defs that raise -/
abbrev DXS := Addr → List (Str × D) → SD → LH → Prop
abbrev DTX := DEnds → DXS → SD → LH → Prop
def KW (K : PySem.W.Frag) (H : Hp) (Ed : DXS) (W : WX) : Prop := ∀ C fs d vs σ' H' δ' L', Ext K H H' → RS K δ' L' σ' H' → H' d = some (.xd vs) → RpF K H' fs vs → Ed C fs δ' L' → W (.ref C) (some d) σ' H'
theorem KW.mono {K : PySem.W.Frag} {H H1 : Hp} {Ed : DXS} {W : WX} (k : KW K H Ed W) (e : Ext K H H1) : KW K H1 Ed W := fun C fs d vs σ' H' δ' L' e' => k C fs d vs σ' H' δ' L' (e.trans e')
def upX (K : PySem.W.Frag) (W : WX) (t : DTX) : TS := fun D σ H => ∃ δ L E Ed, RS K δ L σ H ∧ t E Ed δ L ∧ EndsOk K H D E ∧ KW K H Ed W
def DX (X : Cx) (W : WX) (st : Stmt) (t : DTX) : Prop := PS X st (upX X.K W t)
def DXs (X : Cx) (W : WX) (st : List Stmt) (t : DTX) : Prop := PSs X st (upX X.K W t)
theorem PSnox {X : Cx} {st : Stmt} {t : TS} (h : PS X.nox st t) : PS X st t := ⟨fun pins s σ H D I hw =>
  wpAny_mono (h.run pins s σ H D (I.wish _) hw) (fun _ _ q => q.unwish) fun _ _ z => False.elim z⟩
section
variable {X : Cx} {W : WX} {st : Stmt} {rest : List Stmt} {t u : DTX} {pos : Pos}
theorem x_pure {t : DTS} (h : DS X.nox st t) : DX X W st (fun E _ => t E) := PS.wk (PSnox h) fun D σ H ⟨δ, L, E, Ed, rs, h, k, _⟩ => ⟨δ, L, E, rs, h, k⟩
theorem xs_pure {t : DTS} (h : DSs X.nox rest t) : DXs X W rest (fun E _ => t E) := PSs.wk (L2.PSs.nox h) fun D σ H ⟨δ, L, E, Ed, rs, h, k, _⟩ => ⟨δ, L, E, rs, h, k⟩
@[reducible] def xSeq (t u : DTX) : DTX := fun E Ed δ L => t { E with nx := u E Ed } Ed δ L
theorem xs_cons (h1 : DX X W st t) (h2 : DXs X W rest u) : DXs X W (st :: rest) (xSeq t u) := PSs.wk (pss_cons h1 h2) fun D σ H h => by
  obtain ⟨δ, L, E, Ed, rs, h, k, kx⟩ := h
  exact ⟨δ, L, { E with nx := u E Ed }, Ed, rs, h, ⟨fun σ' H' δ' L' e1 rs1 q => ⟨δ', L', E, Ed, rs1, q, k.mono e1, kx.mono e1⟩, k.rt, k.bk, k.ct⟩, kx⟩
theorem xs_one (h1 : DX X W st t) : DXs X W [st] t := pss_one h1
theorem xs_nil : DXs X W [] (fun E _ => sNext E) := xs_pure ss_nil
@[reducible] def xIf (c : DTT) (t u : DTX) : DTX := fun E Ed δ L => c δ L fun b L1 => BIf b (t E Ed δ L1) (u E Ed δ L1)
theorem x_if {c : Expr} {a b : List Stmt} {tc : DTT} (hc : DT X.nox c tc) (ha : DXs X W a t) (hb : DXs X W b u) : DX X W (.If c a b pos) (xIf tc t u) := PS.wk (ps_if (L2.PT.nox hc) ha hb) fun D σ H h => by
  obtain ⟨δ, L, E, Ed, rs, h, k, kx⟩ := h
  exact ⟨δ, L, _, rs, h, fun b H1 L1 e1 l1 q => BIf.map q (fun q => ⟨δ, L1, E, Ed, rs.step e1 l1, q, k.mono e1, kx.mono e1⟩) fun q => ⟨δ, L1, E, Ed, rs.step e1 l1, q, k.mono e1, kx.mono e1⟩⟩

/-! ### own exception classes -/
/-- __init__'s promise: it puts its arguments under the names fs -/
def spI (K : PySem.W.Frag) (fs : List Str) : Sp := fun vs H Q _ => ∃ (a C : Addr) (ws : List V), vs = .ref a :: ws ∧ ws.length = fs.length ∧ OexC K C ∧ (∀ f ∈ fs, PySem.W.findIn K (.ref C) f = some none) ∧ H a = some (exo a C none) ∧
  ∀ d H2, H d = none → H2 a = some (exo a C (some d)) → H2 d = some (exd d (fs.zip ws).reverse) → (∀ b, b ≠ a → b ≠ d → H2 b = H b) → Q .non H2
/-- what the written part says of an own exception class x with the fields fs -/
structure ExC (P : Program) (w : World) (K : PySem.W.Frag) (mg : Str → Option Value) (base : Heap) (x : Str) (fs : List Str) (C : Addr) : Prop where
  T : OexC K C
  F : XfC K C
  no : ∀ f ∈ fs, PySem.W.findIn K (.ref C) f = some none
  gC : mg x = some (.ref C)
  ex : PySem.W.exmOne K (.ref C) (.ref C) = some true
  init : ∃ (fI : Addr) (fd : FuncData) (ps : List Str), PySem.W.findIn K (.ref C) "__init__" = some (some (.ref fI)) ∧ PySem.W.typeIn K (.ref fI) = some (.type "function") ∧ FnOk P w K mg base CX0 1 fI fd ps (spI K fs) ∧ L2.Binds K fd ps []
theorem rpF_zip {K : PySem.W.Frag} {H : Hp} : ∀ {fs : List Str} {ds : List D} {vs : List V}, RpL K H ds vs → RpF K H (fs.zip ds) (fs.zip vs)
  | [], _, _, _ => rfl
  | _ :: _, [], _, r => by cases (show _ = [] from r); exact rfl
  | f :: fs, d :: ds, _, r => by
    obtain ⟨x, xs, rfl, h1, h2⟩ := r
    exact ⟨x, _, rfl, h1, rpF_zip h2⟩
theorem RpF.app {K : PySem.W.Frag} {H : Hp} : ∀ {a b : List (Str × D)} {x y : List (Str × V)}, RpF K H a x → RpF K H b y → RpF K H (a ++ b) (x ++ y)
  | [], _, _, _, h, q => by cases (show _ = [] from h); exact q
  | (f, d) :: a, _, _, _, h, q => by
    obtain ⟨x, r, rfl, h1, h2⟩ := h
    exact ⟨x, _, rfl, h1, RpF.app h2 q⟩
theorem RpF.rev {K : PySem.W.Frag} {H : Hp} : ∀ {a : List (Str × D)} {x : List (Str × V)}, RpF K H a x → RpF K H a.reverse x.reverse
  | [], _, h => by cases (show _ = [] from h); exact rfl
  | (f, d) :: a, _, h => by
    obtain ⟨x, r, rfl, h1, h2⟩ := h
    rw [List.reverse_cons, List.reverse_cons]
    exact RpF.app (RpF.rev h2) ⟨x, [], rfl, h1, rfl⟩
@[reducible] def xRaise (C : Addr) (fs : List Str) (ta : DTA) : DTX := fun _ Ed δ L => ta δ L fun ds L1 => ds.length = fs.length ∧ Ed C (fs.zip ds).reverse δ L1
theorem x_raise {x : Str} {fs : List Str} {C : Addr} {k : Nat} {p : Pos} {e : Expr} {es : List Expr} {ta : DTA} (hc : X.calm = true) (T : ExC X.prog X.w X.K X.mg X.base x fs C) (hf : fs.length ≤ 100) (hr : Room (k + 2) X.A) (tk : Takes X W) (hg : Gl X x) (ha : DA X.nox (e :: es) ta)
    (hdb : (x == ("__debug__" : Str)) = false := by decide) (he : starEach (e :: es) X.env = (false, eval e X.env) :: starEach es X.env := by rfl) (hpl : (backTo pos (starEach es X.env)).any (·.1) = false := by rfl) {pos' : Pos} :
    DX X W (.Raise (some (.Call (.Name x p) (e :: es) [] pos)) none pos') (xRaise C fs ta) := by
  obtain ⟨fI, fd, ps, iC, tI, FI, bI⟩ := T.init
  have ha' : PA X (e :: es) (upA X.K ta) := ⟨fun pos pins s σ H Q I h => wpAny_mono (ha.run pos pins s σ H Q (I.wish _) h) (fun _ _ ⟨v, H', I', r, q⟩ => ⟨v, H', I'.unwish, r, q⟩) fun _ _ z => False.elim z⟩
  refine PS.wk (ps_raise hc tk (pmk_oex T.T iC tI FI (hr.mono (by omega)) bI .nil pass0 hg T.gC ha' hdb he hpl)) fun D σ H h => ?_
  obtain ⟨δ, L, E, Ed, rs, h, k, kx⟩ := h
  refine ⟨δ, L, _, rs, h, fun vs H1 ds L1 e1 r1 l1 h1 => ?_⟩
  obtain ⟨hlen, h1⟩ := h1
  have hl2 := r1.length
  refine ⟨by omega, fun a na => ?_⟩
  rw [List.append_nil]
  refine ⟨a, C, vs, rfl, by omega, T.T, T.no, upd_same, fun d H2 nd ea ed hk => ⟨rfl, d, (fs.zip vs).reverse, ea, ed, ?_, ?_⟩⟩
  · by_cases hda : d = a
    · rw [hda, upd_same] at nd; cases nd
    · rw [upd_ne hda] at nd; exact nd
  · have hda : d ≠ a := fun z => by rw [z, upd_same] at nd; cases nd
    have nd' : H1 d = none := by rw [upd_ne hda] at nd; exact nd
    have eH : L2.upd (del H2 a) d (.xd (fs.zip vs).reverse) = L2.upd H1 d (.xd (fs.zip vs).reverse) := by
      funext b
      by_cases hb : b = d
      · subst hb; rw [upd_same, upd_same]
      · rw [upd_ne hb, upd_ne hb]
        by_cases hba : b = a
        · subst hba; rw [del_same, na]
        · rw [del_ne hba, hk b hba hb, upd_ne hba]
    rw [eH]
    have en : Ext X.K H1 (L2.upd H1 d (.xd (fs.zip vs).reverse)) := .new nd'
    exact kx C _ d _ σ _ δ L1 (e1.trans en) ((rs.step e1 l1).step en (l1.tup nd')) upd_same ((rpF_zip r1).rev.ext en) h1

/-! ### calls of such defs -/
def upEX (K : PySem.W.Frag) (W : WX) (t : SD → LH → DK → DXS → Prop) : TE := fun σ H Q => ∃ δ L Qd Ed, RS K δ L σ H ∧ t δ L Qd Ed ∧ KK K H Qd Q ∧ KW K H Ed W
def DEX (X : Cx) (W : WX) (e : Expr) (t : SD → LH → DK → DXS → Prop) : Prop := PE X e (upEX X.K W t)
@[reducible] def xCall (sp : DSp) (ta : DTA) : SD → LH → DK → DXS → Prop := fun δ L Q Ed => ta δ L fun ds L1 => sp ds L1 Q fun C fs L2 => Ed C fs δ L2
theorem x_call {k : Nat} {f : Addr} {fd : FuncData} {ps : List Str} {sp : DSp} {x : Str} {p : Pos} {e : Expr} {es : List Expr} {ta : DTA} (F : FnOk X.prog X.w X.K X.mg X.base (L2.CX X.prog X.w) k f fd ps (upF X.K sp)) (hr : Room k X.A) (tk : Takes X W) (hg : Gl X x) (hm : X.mg x = some (.ref f)) (hk : PySem.W.keepIn X.K (.ref f) = true) (hb : L2.Binds X.K fd ps [])
    (ha : DA X.nox (e :: es) ta) (hdb : (x == ("__debug__" : Str)) = false := by decide) (he : starEach (e :: es) X.env = (false, eval e X.env) :: starEach es X.env := by rfl) (hpl : (backTo pos (starEach es X.env)).any (·.1) = false := by rfl) :
    DEX X W (.Call (.Name x p) (e :: es) [] pos) (xCall sp ta) := by
  have ha' : PA X (e :: es) (upA X.K ta) := ⟨fun pos pins s σ H Q I h => wpAny_mono (ha.run pos pins s σ H Q (I.wish _) h) (fun _ _ ⟨v, H', I', r, q⟩ => ⟨v, H', I'.unwish, r, q⟩) fun _ _ z => False.elim z⟩
  refine PE.wk (pe_callS (E := WE W) F hr hg hm hk hb (fun σ => passAt tk σ) ha' hdb he hpl) fun σ H Q h => ?_
  obtain ⟨δ, L, Qd, Ed, rs, h, kk, kx⟩ := h
  refine ⟨δ, L, _, rs, h, fun vs H1 ds L1 e1 r1 l1 h1 => ?_⟩
  refine ⟨ds, L1, Qd, _, r1, l1, h1, fun z H' d' L' e2 r2 l2 q2 => kk z H' d' L' (e1.trans e2) r2 l2 q2, fun C fs d vs' H' L' e2 l2 hd rf q => ?_⟩
  exact kx C fs d vs' σ H' δ L' (e1.trans e2) (rs.step (e1.trans e2) l2) hd rf q
@[reducible] def xSet (i : Nat) (te : SD → LH → DK → DXS → Prop) : DTX := fun E Ed δ L => te δ L (fun d L1 => E.nx (put δ i (some d)) L1) Ed
theorem x_set (i : Nat) {x : Str} {pos' : Pos} {e : Expr} {te : SD → LH → DK → DXS → Prop} (hN : X.N.Nodup) (hi : X.N[i]? = some x) (hx : Loc X.env.scope x) (he : DEX X W e te) (hs : swapsWith e (some (.Name x pos')) pos.line X.env = pure false := by rfl) (hf : X.fn x = true ∨ X.env.scope.names.lookup x = some .local := by first | exact .inl rfl | exact .inr rfl) :
    DX X W (.Assign [.Name x pos'] e pos) (xSet i te) := PS.wk (ps_set hN hi hx he hs hf) fun D σ H h => by
  obtain ⟨δ, L, E, Ed, rs, h, k, kx⟩ := h
  exact ⟨δ, L, _, Ed, rs, h, fun x H1 d L1 e1 r1 l1 q => k.nx _ _ _ _ e1 ((rs.step e1 l1).put r1) q, kx⟩
@[reducible] def xRet (te : SD → LH → DK → DXS → Prop) : DTX := fun E Ed δ L => te δ L E.rt Ed
theorem x_ret {e : Expr} {te : SD → LH → DK → DXS → Prop} (he : DEX X W e te) : DX X W (.Return (some e) pos) (xRet te) := PS.wk (ps_ret he) fun D σ H h => by
  obtain ⟨δ, L, E, Ed, rs, h, k, kx⟩ := h
  exact ⟨δ, L, _, Ed, rs, h, fun x H1 d L1 e1 r1 l1 q => k.rt _ _ _ _ e1 r1 l1 q, kx⟩
@[reducible] def xExpr (te : SD → LH → DK → DXS → Prop) : DTX := fun E Ed δ L => te δ L (fun _ L1 => E.nx δ L1) Ed
theorem x_expr {e : Expr} {te : SD → LH → DK → DXS → Prop} (he : DEX X W e te) (hs : swapsWith e none pos.line X.env = pure false := by rfl) : DX X W (.Expr e pos) (xExpr te) := PS.wk (ps_expr he hs) fun D σ H h => by
  obtain ⟨δ, L, E, Ed, rs, h, k, kx⟩ := h
  exact ⟨δ, L, _, Ed, rs, h, fun x H1 d L1 e1 r1 l1 q => k.nx _ _ _ _ e1 (rs.step e1 l1) q, kx⟩

/-! ### try .. except C as n -/
/-- the cell of the fields as it was -/
def backL (L : LH) (dd : Addr) (L2 : LH) : LH := fun b => if b = dd then L dd else L2 b
theorem back_lup {L : LH} {dd : Addr} {o : LO} : backL L dd (lup L dd o) = L := by
  funext b
  unfold backL
  split
  · rename_i h; subst h; rfl
  · rename_i h; exact lup_ne h
theorem back_ok {K : PySem.W.Frag} {H H2 : Hp} {L L2 : LH} {dd : Addr} {vs : List (Str × V)} (l : LR K L H) (hd : H dd = some (.xd vs)) (e : Ext K H H2) (l2 : LR K L2 H2) : LR K (backL L dd L2) H2 := fun b o hb => by
  unfold backL at hb
  split at hb
  · rename_i h
    subst h
    have r := l b o hb
    cases o with
    | lst ds => obtain ⟨xs, q, _⟩ := r; rw [hd] at q; cases q
    | xd fs => obtain ⟨xs, q, r⟩ := r; exact ⟨xs, e.xd _ _ q, r.ext e⟩
  · exact l2 b o hb
@[reducible] def sTry (C : Addr) (i : Nat) (tb : DTX) (ts : Addr → Addr → DTS) : DTS := fun D δ L => tb D (fun C' fs δ' L' => C' = C ∧ ∀ a dd, L' a = none → (∀ ds, L' dd ≠ some (.lst ds)) → ts a dd { nx := fun δ2 L2 => D.nx (put δ2 i none) (backL L' dd L2), rt := fun d L2 => D.rt d (backL L' dd L2), bk := fun δ2 L2 => D.bk (put δ2 i none) (backL L' dd L2), ct := fun δ2 L2 => D.ct (put δ2 i none) (backL L' dd L2) } (put δ' i (some (.v (.ref a)))) (lup L' dd (.xd fs))) δ L
theorem s_try {x n : Str} {fs : List Str} {C : Addr} {i : Nat} {body suite : List Stmt} {b₀ : Stmt} {np pos' : Pos} {tb : DTX} {ts : Addr → Addr → DTS} (hs : X.stack = X.env :: X.outer) (hf : X.env.frame = some X.env.locals) (hN : X.N.Nodup) (hi : X.N[i]? = some n) (hln : X.env.kindOf n = some .local) (hg : Gl X x) (hdb : (x == ("__debug__" : Str)) = false)
    (T : ExC X.prog X.w X.K X.mg X.base x fs C) (tk : Takes X (fun _ _ _ _ => False))
    (hb : ∀ (W : WX) (pn : List (Addr × Obj)) (xe : Value → Shared → Prop), Takes (X.tr pn xe) W → PassesOwn (model X.prog X.w) X.A X.env xe → DXs (X.tr pn xe) W body tb)
    (hsu : ∀ (a dd : Addr) (oe : Obj) (pn : List (Addr × Obj)), Zc (.ref C) (some dd) oe → (∃ vs, oe.data = .fields vs) → DSs (X.suite a ((a, oe) :: pn)) (b₀ :: suite) (ts a dd)) :
    DS X (.Try body [.ExceptHandler (some (.Name x np)) (some n) (b₀ :: suite) pos'] [] [] pos) (sTry C i tb ts) := by
  refine PS.wk (ps_try_as (tb := fun W => upX X.K W tb) (ts := fun a cls d => fun D σ H => ∃ dd, cls = .ref C ∧ d = some dd ∧ upS X.K (ts a dd) D σ H) (c := .ref C) (Wout := fun _ _ _ _ => False) hs hf hN hi hln ⟨hg, hdb, .inl T.gC⟩ tk (fun W pn xe tkW po => hb W pn xe tkW po) (fun a oe cls d pn hz hfd => ⟨fun pins s σ H D I h => ?_⟩)) fun D σ H h => ?_
  · obtain ⟨dd, rfl, rfl, h⟩ := h
    exact (hsu a dd oe pn hz hfd).run pins s σ H D I h
  · obtain ⟨δ, L, E, rs, h, k⟩ := h
    refine ⟨δ, L, E, _, rs, h, k, fun C' fs' d vs σ' H' δ' L' e1 rs1 hd rf q => ?_⟩
    obtain ⟨rfl, q⟩ := q
    refine ⟨true, T.ex, fun _ a na => ?_, fun z => Bool.noConfusion z⟩
    refine ⟨d, rfl, rfl, _, _, _, ?_, q a d (rs1.hp.free na) (fun ds z => by obtain ⟨xs, q, _⟩ := rs1.hp.lst z; rw [hd] at q; cases q), ?_⟩
    · have lr : LR X.K (lup L' d (.xd fs')) H' := fun b o hb => by
        by_cases hbd : b = d
        · subst hbd
          rw [lup_same] at hb; cases hb
          exact ⟨vs, hd, rf⟩
        · rw [lup_ne hbd] at hb
          exact rs1.hp b o hb
      exact (rs1.step (.refl _ _) lr).put (d := .v (.ref a)) rfl
    · have bk : ∀ {H2 : Hp} {L2 : LH}, Ext X.K H' H2 → LR X.K L2 H2 → LR X.K (backL L' d L2) H2 := fun e2 l2 => back_ok rs1.hp hd e2 l2
      exact ⟨fun σ2 H2 δ2 L2 e2 rs2 q2 => k.nx _ _ _ _ (e1.trans e2) (rs2.step (.refl _ _) (bk e2 rs2.hp)).putN q2, fun x2 H2 d2 L2 e2 r2 l2 q2 => k.rt _ _ _ _ (e1.trans e2) r2 (bk e2 l2) q2, fun σ2 H2 δ2 L2 e2 rs2 q2 => k.bk _ _ _ _ (e1.trans e2) (rs2.step (.refl _ _) (bk e2 rs2.hp)).putN q2, fun σ2 H2 δ2 L2 e2 rs2 q2 => k.ct _ _ _ _ (e1.trans e2) (rs2.step (.refl _ _) (bk e2 rs2.hp)).putN q2⟩
/-- n.f in the suite -/
@[reducible] def dXf (a dd : Addr) (f : Str) (te : DTE) : DTE := fun δ L Q => te δ L fun x L1 => x = .v (.ref a) ∧ ∃ fs d, L1 dd = some (.xd fs) ∧ fs.lookup f = some d ∧ Q d L1
theorem d_xf {x : Str} {fs : List Str} {C a dd : Addr} {oe : Obj} {pn : List (Addr × Obj)} {e : Expr} {te : DTE} {f : Str} (T : ExC X.prog X.w X.K X.mg X.base x fs C) (hfs : f ∈ fs) (hz : Zc (.ref C) (some dd) oe) (hf : ∃ vs, oe.data = .fields vs) (he : DE (X.suite a ((a, oe) :: pn)) e te)
    (hb : attributeBase e f X.env (eval e X.env) = eval e X.env := by rfl) : DE (X.suite a ((a, oe) :: pn)) (.Attribute e f pos) (dXf a dd f te) := PE.wk (pe_xf T.F (T.no f hfs) hz hf he hb) fun σ H Q h => by
  obtain ⟨δ, L, Qd, rs, h, k⟩ := h
  refine ⟨δ, L, _, rs, h, fun x H1 d L1 e1 r1 l1 h1 => ?_⟩
  obtain ⟨rfl, fs', d', hL, hl, q⟩ := h1
  obtain ⟨vs, hd, rf⟩ := l1 dd _ hL
  obtain ⟨y, hy, ry⟩ := rf.look hl
  exact ⟨r1, rfl, dd, vs, y, rfl, hd, hy, k _ _ _ _ e1 ry l1 q⟩
end
section
variable {P : Program} {w : World} {K : PySem.W.Frag} {mg : Str → Option Value} {base : Heap}
/-- a def that may raise -/
theorem dfnX {x qual : Str} {st : Stmt} {f : Addr} {fd : FuncData} {N ps : List Str} {k n : Nat} {sp : DSp} (F : Fun K x qual st f fd) (S : FnScope N ps (defScope st)) (hn : N.length = n) (hps : ps.length ≤ n) (len : ∀ ds L Q E, sp ds L Q E → ds.length = ps.length)
    (body : ∀ (cdv : Value) (A : Around) (outer : List Env) (s : Shared) (H : Hp) (E : XK), Room k (A.deeper (envOfC qual (defScope st) s.heap.objs.size f cdv)) → ∃ t, DXs (cxOf (L2.CX P w) P w K mg base N qual (defScope st) f cdv A outer s H E) (fun cls d _ H' => E cls d H') (defBody st) t ∧ ∀ ds L Q Ed, sp ds L Q Ed → t (endD Q) (fun C fs _ L' => ∃ L1, Les L1 L' ∧ Ed C fs L1) (stD n ds) L) :
    DFn P w K mg base (L2.CX P w) (k + 1) f fd ps sp := by
  have hlen : ∀ vs H Q E, upF K sp vs H Q E → vs.length = ps.length := fun vs H Q E ⟨ds, L, Qd, Ed, r, l, h, _⟩ => by rw [← r.length]; exact len _ _ _ _ h
  refine F.okX S hlen fun cdv A outer s H vs Q E hr hsp => ?_
  have hl := hlen _ _ _ _ hsp
  obtain ⟨ds, L, Qd, Ed, r, l, h, kk, kx⟩ := hsp
  obtain ⟨t, ht, hq⟩ := body cdv A outer s H E hr
  refine ⟨_, ht, stD n ds, L, endD Qd, _, start_rs hn (by omega) r l, hq ds L Qd Ed h, ?_, fun C fs d vs σ' H' δ' L' e rs' hd rf ⟨L1, ls, q⟩ => kx C fs d vs H' L1 e (rs'.hp.les ls) hd rf q⟩
  exact ⟨fun σ' H' δ' L' e rs ⟨L1, ls, q⟩ => kk _ _ .non _ e rfl (rs.hp.les ls) q, fun x H' d L' e rd l' ⟨L1, ls, q⟩ => kk _ _ _ _ e rd (l'.les ls) q, fun _ _ _ _ _ _ z => z.elim, fun _ _ _ _ _ _ z => z.elim⟩
end
end G
namespace G
open PySem PySem.Spec PyProof.Rows L2
section
variable {X : Cx} {a b c : Expr} {ta tb tc : DTE} {pos : Pos}
/-! ### products and quotients of any size -/
def CMulA (i j : Int) : Prop := CMul i j ∨ CMulW i j
def CDivA (i j : Int) : Prop := CDiv i j ∨ CDivW i j
theorem CMulA.l {i j : Int} (h1 : -(2 ^ 64) < i) (h2 : i < 2 ^ 64) : CMulA i j := .inl (.inl ⟨h1, h2⟩)
theorem CMulA.r {i j : Int} (h1 : -(2 ^ 64) < j) (h2 : j < 2 ^ 64) : CMulA i j := .inl (.inr ⟨h1, h2⟩)
theorem CDivA.s {i j : Int} (h1 : 0 < j) (h2 : j < 1073741824) : CDivA i j := .inl ⟨h1, h2⟩
theorem lift_Ior {C1 C2 : Int → Int → Prop} {g : Int → Int → D} {g' : Int → Int → V} (hg : ∀ i j K H, Rp K H (g i j) (g' i j)) : Lift2 X.K (rII (fun i j => C1 i j ∨ C2 i j) g) (fun x y H Q => L2.rI C1 g' x y H Q ∨ L2.rI C2 g' x y H Q) := fun d e x y L H Qd Q r1 r2 l h k => by
  cases d with
  | int i =>
    cases e with
    | int j =>
      have q := k _ _ _ _ (.refl _ _) (hg i j _ _) l h.2
      rcases h.1 with h1 | h1
      · exact .inl ⟨i, j, r1, r2, h1, q⟩
      · exact .inr ⟨i, j, r1, r2, h1, q⟩
    | _ => exact h.elim
  | _ => exact h.elim
theorem d_mulA (ha : DE X a ta) (hb : DE X b tb) : DE X (.BinOp a .Mult b pos) (dOp (rII CMulA fun i j => .int (i * j)) ta tb) := d_op (op_mul.or op_mulW) (lift_Ior fun _ _ _ _ => rfl) ha hb
theorem d_divA (ha : DE X a ta) (hb : DE X b tb) : DE X (.BinOp a .FloorDiv b pos) (dOp (rII CDivA fun i j => .int (i / j)) ta tb) := d_op (op_fdiv.or op_fdivW) (lift_Ior fun _ _ _ _ => rfl) ha hb
/-! ### comparisons as tests -/
theorem l_lt : Lift2 X.K (rI0 fun i j => .bl (decide (i < j))) (L2.rI0 fun i j => .bl (decide (i < j))) := lift_I0 fun _ _ _ _ => rfl
theorem l_le : Lift2 X.K (rI0 fun i j => .bl (decide (i ≤ j))) (L2.rI0 fun i j => .bl (decide (i ≤ j))) := lift_I0 fun _ _ _ _ => rfl
theorem l_gt : Lift2 X.K (rI0 fun i j => .bl (decide (j < i))) (L2.rI0 fun i j => .bl (decide (j < i))) := lift_I0 fun _ _ _ _ => rfl
theorem l_ge : Lift2 X.K (rI0 fun i j => .bl (decide (j ≤ i))) (L2.rI0 fun i j => .bl (decide (j ≤ i))) := lift_I0 fun _ _ _ _ => rfl
theorem l_eq (hu : X.A.units + 64 < cLine) : Lift2 X.K (rEq id) (fun x y H Q => L2.rEq x y H Q ∨ rEqD X.K x y H Q) := fun d e x y L H Qd Q r1 r2 l h k => by
  rcases rEq_core r1 r2 h with ⟨s, q⟩ | ⟨d', e', p1, p2, s1, s2, q⟩
  · exact .inl ⟨s, KK.bl k l q⟩
  · exact .inr ⟨d', e', p1, p2, s1, s2, KK.bl k l q⟩
theorem l_ne (hu : X.A.units + 64 < cLine) : Lift2 X.K (rEq not) (fun x y H Q => L2.rNe x y H Q ∨ rNeD X.K x y H Q) := fun d e x y L H Qd Q r1 r2 l h k => by
  rcases rEq_core r1 r2 h with ⟨s, q⟩ | ⟨d', e', p1, p2, s1, s2, q⟩
  · exact .inl ⟨s, KK.bl k l q⟩
  · exact .inr ⟨d', e', p1, p2, s1, s2, KK.bl k l q⟩
theorem l_isN : Lift2 X.K (rIsN id) (fun x y H Q => y = .non ∧ Q (.bl (decide (x = .non))) H) := fun d e x y L H Qd Q r1 r2 l h k => by
  cases e with
  | non => exact ⟨r2, by rw [isN_rp r1]; exact KK.bl k l h⟩
  | _ => exact h.elim
theorem l_notN : Lift2 X.K (rIsN not) (fun x y H Q => y = .non ∧ Q (.bl (!decide (x = .non))) H) := fun d e x y L H Qd Q r1 r2 l h k => by
  cases e with
  | non => exact ⟨r2, by rw [isN_rp r1]; exact KK.bl k l h⟩
  | _ => exact h.elim
theorem dt_lt (ha : DE X a ta) (hb : DE X b tb) : DT X (.Compare a [.Lt] [b] pos) (dTest (dOp (rI0 fun i j => .bl (decide (i < j))) ta tb)) := dt_cmp op_lt l_lt ha hb (nomark _)
theorem dt_le (ha : DE X a ta) (hb : DE X b tb) : DT X (.Compare a [.LtE] [b] pos) (dTest (dOp (rI0 fun i j => .bl (decide (i ≤ j))) ta tb)) := dt_cmp op_le l_le ha hb (nomark _)
theorem dt_gt (ha : DE X a ta) (hb : DE X b tb) : DT X (.Compare a [.Gt] [b] pos) (dTest (dOp (rI0 fun i j => .bl (decide (j < i))) ta tb)) := dt_cmp op_gt l_gt ha hb (nomark _)
theorem dt_ge (ha : DE X a ta) (hb : DE X b tb) : DT X (.Compare a [.GtE] [b] pos) (dTest (dOp (rI0 fun i j => .bl (decide (j ≤ i))) ta tb)) := dt_cmp op_ge l_ge ha hb (nomark _)
theorem dt_eq (hu : X.A.units + 64 < cLine) (ha : DE X a ta) (hb : DE X b tb) : DT X (.Compare a [.Eq] [b] pos) (dTest (dOp (rEq id) ta tb)) := dt_cmp (op_eq.or (op_eqD hu)) (l_eq hu) ha hb (nomark _)
theorem dt_ne (hu : X.A.units + 64 < cLine) (ha : DE X a ta) (hb : DE X b tb) : DT X (.Compare a [.NotEq] [b] pos) (dTest (dOp (rEq not) ta tb)) := dt_cmp (op_ne.or (op_neD hu)) (l_ne hu) ha hb (nomark _)
theorem dt_isN (ha : DE X a ta) (hb : DE X b tb) : DT X (.Compare a [.Is] [b] pos) (dTest (dOp (rIsN id) ta tb)) := dt_cmp op_isN l_isN ha hb (nomark _)
theorem dt_notN (ha : DE X a ta) (hb : DE X b tb) : DT X (.Compare a [.IsNot] [b] pos) (dTest (dOp (rIsN not) ta tb)) := dt_cmp op_notN l_notN ha hb (nomark _)
/-! ### in -/
def D.flat : D → Bool
  | .non => true
  | .bl _ => true
  | .int _ => true
  | .str _ => true
  | _ => false
theorem flat_rp {K : PySem.W.Frag} {H : Hp} {d : D} {x : V} (r : Rp K H d x) (f : d.flat = true) : flatV x = true := by
  cases d <;> first | (cases f; done) | (cases (show x = _ from r); rfl)
theorem flat_eq {K : PySem.W.Frag} {H : Hp} {d e : D} {x y : V} (r : Rp K H d x) (q : Rp K H e y) (f : d.flat = true) (g : e.flat = true) : eqV y x = D.eq e d := by
  cases d <;> first | (cases f; done) | (cases (show x = _ from r))
  all_goals cases e <;> first | (cases g; done) | (cases (show y = _ from q); unfold D.eq; first | rfl | simp [eqV, D.py, PyData.eqv])
def anyD (x : D) (ys : List D) : Bool := ys.any fun y => D.eq y x
theorem flat_any {K : PySem.W.Frag} {H : Hp} {d : D} {x : V} (r : Rp K H d x) (f : d.flat = true) : ∀ {es : List D} {ys : List V}, RpL K H es ys → es.all D.flat = true → ys.all flatV = true ∧ inV x ys = anyD d es
  | [], _, h, _ => by cases (show _ = [] from h); exact ⟨rfl, rfl⟩
  | e :: es, _, h, g => by
    obtain ⟨y, rr, rfl, h1, h2⟩ := h
    rw [List.all_cons, Bool.and_eq_true] at g
    obtain ⟨i1, i2⟩ := flat_any r f h2 g.2
    refine ⟨by rw [List.all_cons, flat_rp h1 g.1, i1]; rfl, ?_⟩
    unfold inV anyD at i2 ⊢
    rw [List.any_cons, List.any_cons, i2, flat_eq r h1 f g.1]
/-- flat things in any sequence; data in a list -/
@[reducible] def rIn (f : Bool → Bool) : DR2 := fun x y L Q => match y with
  | .tup ys => x.flat = true ∧ ys.all D.flat = true ∧ Q (.bl (f (anyD x ys))) L
  | .rol ys => ((x.flat = true ∧ ys.all D.flat = true) ∨ (x.ok = true ∧ (D.rol ys).ok = true)) ∧ Q (.bl (f (anyD x ys))) L
  | .v (.ref p) => ∃ ys, L p = some (.lst ys) ∧ ((x.flat = true ∧ ys.all D.flat = true) ∨ (x.ok = true ∧ (D.rol ys).ok = true)) ∧ Q (.bl (f (anyD x ys))) L
  | _ => False
theorem any_py (x : D) : ∀ ys : List D, ((D.pys ys).any fun z => PyData.eqv z x.py) = anyD x ys
  | [] => rfl
  | y :: ys => by
    have := any_py x ys
    unfold anyD at this ⊢
    rw [show D.pys (y :: ys) = y.py :: D.pys ys from rfl, List.any_cons, List.any_cons, this]
    rfl
theorem lift_in {K : PySem.W.Frag} (b : Bool) : Lift2 K (rIn fun k => if b then !k else k) (fun x y H Q => L2.rIn K b x y H Q ∨ (if b then rNotInD K x y H Q else rInD K x y H Q)) := fun d e x y L H Qd Q r1 r2 l h k => by
  have go : ∀ (p : Addr) (es : List D) (ys : List V), y = .ref p → SqL K H p ys → RpL K H es ys → ((d.flat = true ∧ es.all D.flat = true) ∨ (d.ok = true ∧ (D.rol es).ok = true)) → Qd (.bl (if b then !(anyD d es) else anyD d es)) L → L2.rIn K b x y H Q ∨ (if b then rNotInD K x y H Q else rInD K x y H Q) := fun p es ys ey s q hc hq => by
    rcases hc with ⟨f1, f2⟩ | ⟨o1, o2⟩
    · obtain ⟨g1, g2⟩ := flat_any r1 f1 q f2
      refine .inl ⟨p, ys, ey, .inl s, flat_rp r1 f1, g1, ?_⟩
      rw [g2]
      exact KK.bl k l hq
    · have a1 := Bool.and_eq_true_iff.mp (show (d.dat && SeqAt.shaped d.py) = true from o1)
      have a2 := Bool.and_eq_true_iff.mp (show (D.dats es && SeqAt.shaped (D.rol es).py) = true from o2)
      have p1 := r1.dp _ _ a1.1
      have p2 : Dp K H y (.list (D.pys es)) := by rw [ey]; exact .lst s (RpL.dp _ _ q a2.1)
      refine .inr ?_
      cases b with
      | true => exact ⟨_, _, p1, p2, a1.2, a2.2, by rw [any_py]; exact KK.bl k l hq⟩
      | false => exact ⟨_, _, p1, p2, a1.2, a2.2, by rw [any_py]; exact KK.bl k l hq⟩
  cases e with
  | tup es =>
    obtain ⟨p, ys, ey, s, q⟩ := r2
    obtain ⟨f1, f2, hq⟩ := h
    obtain ⟨g1, g2⟩ := flat_any r1 f1 q f2
    refine .inl ⟨p, ys, ey, .inr s, flat_rp r1 f1, g1, ?_⟩
    rw [g2]
    exact KK.bl k l hq
  | rol es =>
    obtain ⟨p, ys, ey, s, q⟩ := r2
    exact go p es ys ey s.sq q h.1 h.2
  | v u =>
    cases u with
    | ref p =>
      obtain ⟨es, hL, hc, hq⟩ := h
      obtain ⟨ys, s, q⟩ := l.lst hL
      exact go p es ys r2 (.of s) q hc hq
    | _ => exact h.elim
  | _ => exact h.elim
theorem hu65 {k : Nat} {A : Around} (hr : Room k A) : A.units + 65 < cLine := by have := hr.un; omega
theorem OpR.wk {f : Value → Value → Sem Value} {r r' : R2} (h : OpR X f r) (w : ∀ x y H Q, r' x y H Q → r x y H Q) : OpR X f r' := fun pins s σ H x y v u Q I rx ry q => h pins s σ H x y v u Q I rx ry (w _ _ _ _ q)
theorem op_inA (hu : X.A.units + 65 < cLine) : OpR X (compareOp .In) (fun x y H Q => L2.rIn X.K false x y H Q ∨ (if false then rNotInD X.K x y H Q else rInD X.K x y H Q)) := OpR.wk (op_in_seq.or (op_inD hu)) fun _ _ _ _ h => h
theorem op_notinA (hu : X.A.units + 65 < cLine) : OpR X (compareOp .NotIn) (fun x y H Q => L2.rIn X.K true x y H Q ∨ (if true then rNotInD X.K x y H Q else rInD X.K x y H Q)) := OpR.wk (op_notIn_seq.or (op_notInD hu)) fun _ _ _ _ h => h
theorem d_in (hu : X.A.units + 65 < cLine) (ha : DE X a ta) (hb : DE X b tb) (hm : behindInMarks .In b = false := by rfl) : DE X (.Compare a [.In] [b] pos) (dOp (rIn id) ta tb) := d_cmp (op_inA hu) (lift_in false) ha hb hm
theorem d_notin (hu : X.A.units + 65 < cLine) (ha : DE X a ta) (hb : DE X b tb) (hm : behindInMarks .NotIn b = false := by rfl) : DE X (.Compare a [.NotIn] [b] pos) (dOp (rIn not) ta tb) := d_cmp (op_notinA hu) (lift_in true) ha hb hm
theorem dt_in (hu : X.A.units + 65 < cLine) (ha : DE X a ta) (hb : DE X b tb) (hm : behindInMarks .In b = false := by rfl) : DT X (.Compare a [.In] [b] pos) (dTest (dOp (rIn id) ta tb)) := dt_cmp (op_inA hu) (lift_in false) ha hb hm
theorem dt_notin (hu : X.A.units + 65 < cLine) (ha : DE X a ta) (hb : DE X b tb) (hm : behindInMarks .NotIn b = false := by rfl) : DT X (.Compare a [.NotIn] [b] pos) (dTest (dOp (rIn not) ta tb)) := dt_cmp (op_notinA hu) (lift_in true) ha hb hm

/-! ### what is never come to -/
@[reducible] def sNever : DTS := fun _ _ _ => False
theorem s_never {st : Stmt} : DS X st sNever := PS.wk ps_never fun D σ H ⟨_, _, _, _, h, _⟩ => h.elim

/-! ### sorted -/
def sortD (ds : List D) : List D := ds.mergeSort (PySem.W.dataLe false D.py)
structure SortOk (ds : List D) : Prop where
  dat : D.dats ds = true
  al : PySem.W.AllAlike (ds.map D.py)
  so : PySem.W.Sortable (ds.map D.py)
  dep : ∀ d ∈ ds, d.py.depth ≤ 60
@[reducible] def rSortedD : DRL := fun ds L Q => match ds with
  | [x] => (match x with
    | .rol xs => SortOk xs ∧ ∀ p, L p = none → Q (.v (.ref p)) (lup L p (.lst (sortD xs)))
    | .v (.ref q) => ∃ xs, L q = some (.lst xs) ∧ SortOk xs ∧ ∀ p, L p = none → Q (.v (.ref p)) (lup L p (.lst (sortD xs)))
    | _ => False)
  | _ => False
def rSortH (K : PySem.W.Frag) : List V → Hp → VK → Prop := fun vs H Q => ∃ (q : Addr) (ds : List D) (xs : List V), vs = [.ref q] ∧ SqL K H q xs ∧ RpL K H ds xs ∧ SortOk ds ∧ ∀ ys p, H p = none → RpL K H (sortD ds) ys → Q (.ref p) (upd H p (.lst ys))
def RpV (K : PySem.W.Frag) (H : Hp) (v : Value) (d : D) : Prop := ∃ x, RelV x v ∧ Rp K H d x
theorem each_of {K : PySem.W.Frag} {H : Hp} : ∀ {ds : List D} {xs : List V} {us : List Value}, RpL K H ds xs → Vals xs us → PySem.W.EachIs (RpV K H) us ds
  | [], _, _, r, v => by cases (show _ = [] from r); cases v; exact .nil
  | d :: ds, _, _, r, v => by
    obtain ⟨x, rr, rfl, h1, h2⟩ := r
    cases v with
    | cons a b => exact .cons ⟨x, a, h1⟩ (each_of h2 b)
theorem of_each {K : PySem.W.Frag} {H : Hp} : ∀ {us : List Value} {ds : List D}, PySem.W.EachIs (RpV K H) us ds → ∃ xs, RpL K H ds xs ∧ Vals xs us
  | _, _, .nil => ⟨[], rfl, .nil⟩
  | _, _, .cons ⟨x, a, h1⟩ t => by
    obtain ⟨xs, r, v⟩ := of_each t
    exact ⟨x :: xs, ⟨x, xs, rfl, h1, r⟩, .cons a v⟩
theorem cr_sortD {k : Nat} (hr : Room k X.A) : CallR X (.builtin "sorted") (rSortH X.K) := by
  intro pins s σ H vs us Q I r h
  obtain ⟨q, ds, xs, rfl, hs, rp, ok, hq⟩ := h
  obtain ⟨its, rv, hl, hz⟩ := I.list hs
  rw [Vals.ref1 r]
  have e := each_of rp rv
  have hlen := rp.length
  have er : PySem.W.EachIs (fun v b => ∃ as, Reads s.heap v (D.py b) as) its ds := by
    refine PySem.W.EachIs.of_zip (by rw [← rv.length]; exact hlen.symm) fun p hp => ?_
    obtain ⟨x, hx, rx⟩ := e.zip p hp
    have hm : p.2 ∈ ds := (List.of_mem_zip hp).2
    have hd := (D.dats_iff ds).mp ok.dat p.2 hm
    exact Dp.reads I _ x p.1 (rx.dp _ _ hd) hx
  refine PySem.W.sorted_data hl.isList e er ok.al ok.so (by rw [hlen]; exact hz) (fun b hb => ?_) fun out ho eo => ?_
  · have := ok.dep b hb
    have := hr.un
    omega
  · obtain ⟨ys, ry, vy⟩ := of_each eo
    obtain ⟨ep, he'⟩ := PyProof.Rows.sortedAll_at s.heap its out.toArray
    have hf : H (s.heap.objs.size + 1) = none := I.hok.fresh (Nat.le_succ _)
    have hyl : ys.length ≤ sizeLine := by rw [vy.length, ho, hlen]; exact hz
    exact ⟨.ref _, upd H (s.heap.objs.size + 1) (.lst ys), I.laid (t' := s.toks) (fun _ _ => PyProof.Rows.sortedAll_old) (Nat.le_succ _) ⟨hyl, out, ep, vy, he'⟩, rfl, hq ys _ hf ry⟩
theorem lift_sortD {K : PySem.W.Frag} : LiftL K rSortedD (rSortH K) := fun ds vs L H Qd Q r l h k => by
  match ds, h with
  | [d], h =>
    obtain ⟨x, rr, rfl, rx, rn⟩ := r
    cases (show rr = [] from rn)
    cases d with
    | rol es =>
      obtain ⟨ok, h⟩ := h
      obtain ⟨p, xs, rfl, s, q⟩ := rx
      exact ⟨p, es, xs, rfl, s.sq, q, ok, fun ys n hn ry => KK.ref k (.new hn) (l.upd (.new hn) ry) (h n (l.free hn))⟩
    | v u =>
      cases u with
      | ref p =>
        obtain ⟨es, hL, ok, h⟩ := h
        cases (show x = _ from rx)
        obtain ⟨xs, s, q⟩ := l.lst hL
        exact ⟨p, es, xs, rfl, .of s, q, ok, fun ys n hn ry => KK.ref k (.new hn) (l.upd (.new hn) ry) (h n (l.free hn))⟩
      | _ => exact h.elim
    | _ => exact h.elim
variable {e : Expr} {es : List Expr} {t : DTA} {p : Pos}
theorem d_sorted {k : Nat} (hr : Room k X.A) (hg : Gl X "sorted") (hm : X.mg "sorted" = none) (ha : DA X (e :: es) t) (he : starEach (e :: es) X.env = (false, eval e X.env) :: starEach es X.env := by rfl) (hpl : (backTo pos (starEach es X.env)).any (·.1) = false := by rfl) : DE X (.Call (.Name "sorted" p) (e :: es) [] pos) (dCB rSortedD t) := d_callB (cr_sortD hr) lift_sortD hg hm (by decide +kernel) ha (he := he) (hpl := hpl)
end
end G
namespace G
open PySem PySem.Spec PyProof.Rows L2
theorem fin {Q : DK} {d d' : D} {L : LH} (h : Q d L) (e : d = d') : Q d' L := e ▸ h
theorem gret {Q : DK} {d d' : D} {L L' : LH} (h : Q d L) (ls : Les L L') (e : d = d') : ∃ L1, Les L1 L' ∧ Q d' L1 := ⟨L, ls, e ▸ h⟩
theorem look_new {L : LH} {p p' : Addr} {o u : LO} (h : L p = some o) (n : L p' = none) : lup L p' u p = some o := by rw [lup_ne (ne_free h n)]; exact h
theorem look_ne {L : LH} {p p' : Addr} {o u : LO} (h : p ≠ p') (e : L p = some o) : lup L p' u p = some o := by rw [lup_ne h]; exact e
end G
namespace G
open PySem PySem.Spec PyProof.Rows L2
theorem sortOk_ints (ns : List Int) : SortOk (ns.map D.int) where
  dat := (D.dats_iff _).mpr fun d hd => by obtain ⟨i, _, rfl⟩ := List.mem_map.mp hd; rfl
  al := fun d hd e he => by
    rw [List.map_map] at hd he
    obtain ⟨i, _, rfl⟩ := List.mem_map.mp hd
    obtain ⟨j, _, rfl⟩ := List.mem_map.mp he
    rfl
  so := .inr fun d hd => by
    rw [List.map_map] at hd
    obtain ⟨i, _, rfl⟩ := List.mem_map.mp hd
    exact ⟨fun z => PyData.noConfusion z, fun xs z => PyData.noConfusion z⟩
  dep := fun d hd => by obtain ⟨i, _, rfl⟩ := List.mem_map.mp hd; show _ ≤ _; simp [D.py, PyData.depth]
theorem sortOk_pairs {α : Type} (l : List α) (f g : α → Int) : SortOk (l.map fun a => .tup [.int (f a), .int (g a)]) where
  dat := (D.dats_iff _).mpr fun d hd => by obtain ⟨i, _, rfl⟩ := List.mem_map.mp hd; rfl
  al := fun d hd e he => by
    rw [List.map_map] at hd he
    obtain ⟨i, _, rfl⟩ := List.mem_map.mp hd
    obtain ⟨j, _, rfl⟩ := List.mem_map.mp he
    rfl
  so := .inl fun d hd => by
    rw [List.map_map] at hd
    obtain ⟨i, _, rfl⟩ := List.mem_map.mp hd
    exact ⟨_, _, rfl⟩
  dep := fun d hd => by obtain ⟨i, _, rfl⟩ := List.mem_map.mp hd; show _ ≤ _; simp [D.py, D.pys, PyData.depth, PyData.depthAll]
theorem sortD_ints (ns : List Int) : sortD (ns.map D.int) = (ns.mergeSort fun a b => decide (a ≤ b)).map D.int := by
  refine (PySem.W.sort_maps D.int fun a _ b _ => ?_).symm
  have := congrFun (congrFun (PySem.W.dataLe_int (fun z : Int => z)) a) b
  exact this.symm
theorem sortD_key (ns : List Int) (g : Int → Int) : sortD (ns.map fun z => .tup [.int z, .int (g z)]) = (ns.mergeSort fun a b => decide (a ≤ b)).map fun z => .tup [.int z, .int (g z)] := by
  refine (PySem.W.sort_maps _ fun a _ b _ => ?_).symm
  have h : PySem.W.dataLe false D.py (.tup [.int a, .int (g a)]) (.tup [.int b, .int (g b)]) = _ := congrFun (congrFun (PySem.W.dataLe_ii (fun z : Int => z) g) a) b
  rw [h]
  rw [Bool.eq_iff_iff, decide_eq_true_eq, decide_eq_true_eq]
  constructor
  · intro h
    rcases Int.lt_or_eq_of_le h with h | h
    · exact .inl h
    · subst h; exact .inr ⟨rfl, Int.le_refl _⟩
  · rintro (h | ⟨h, _⟩) <;> omega
end G
namespace G
open PySem PySem.Spec PyProof.Rows L2
/-! ### the law's end -/
theorem rpl_ints {K : PySem.W.Frag} {H : Hp} : ∀ ns : List Int, RpL K H (ns.map D.int) (ns.map V.int)
  | [] => rfl
  | n :: ns => ⟨_, _, rfl, rfl, rpl_ints ns⟩
/-- the script as the law meets it -/
theorem script_in {K : PySem.W.Frag} {H : Hp} {a : Addr} {ns : List Int} {sp : DSp} (ho : Only H) (s : SqL K H a (ns.map V.int)) (h : sp [.rol (ns.map D.int)] (fun _ => none) (fun d _ => d = .bl true) (fun _ _ _ => False)) : upF K sp [.ref a] H (fun v _ => v = .bl true) fun _ _ _ => False := by
  refine ⟨[.rol (ns.map D.int)], fun _ => none, fun d _ => d = .bl true, fun _ _ _ => False, ⟨.ref a, [], rfl, ⟨a, ns.map V.int, rfl, ?_, rpl_ints ns⟩, rfl⟩, fun a o h => (by cases h), h, fun z H' d' L' _ r _ q => ?_, fun _ _ _ _ _ _ _ _ _ _ q => q⟩
  · rcases s with s | s
    · rcases s with s | ⟨o, s⟩
      · rcases ho a with z | ⟨o, xs, z⟩
        · rw [z] at s; cases s
        · rw [z] at s; cases s
      · exact .inl ⟨o, s⟩
    · exact .inr s
  · subst q; exact r
/-- a tuple of the module -/
theorem rp_tup {K : PySem.W.Frag} {a : Addr} {o : Obj} {its : Array Value} {n : Nat} {ds : List D} {vs : List V} (h1 : K.lookup a = some o) (h2 : o.cls = .type "tuple") (h3 : o.data = .seq its n) (h4 : its.size ≤ sizeLine) (h5 : Vals vs its.toList) (h6 : ∀ H, RpL K H ds vs) (H : Hp) : Rp K H (.tup ds) (.ref a) := ⟨a, vs, rfl, .inr ⟨o, its, n, h1, h2, h3, h4, h5⟩, h6 H⟩
/-- __init__ with one field: its reading -/
theorem init_read {K : PySem.W.Frag} {f : Str} {vs : List V} {H : Hp} {Q : VK} {E : XK} {N : List Str} (hN : N.length = 2) (h : spI K [f] vs H Q E) : L2.tOst K f (L2.tVar 0) (L2.tVar 1) { nx := fun _ H' => Q .non H', rt := Q } (L2.start N vs) H := by
  obtain ⟨a, C, ws, rfl, hl, T, hno, ha, hq⟩ := h
  match ws, hl with
  | [v], _ =>
    have e : L2.start N [.ref a, v] = [some (.ref a), some v] := by unfold L2.start; rw [hN]; rfl
    rw [e]
    refine ⟨v, rfl, .ref a, rfl, a, C, rfl, T, hno f (by simp), .inl ⟨ha, fun dx hd hne => ?_⟩⟩
    refine hq dx _ hd upd_same ?_ fun b h1 h2 => ?_
    · rw [upd_ne hne, upd_same]; rfl
    · rw [upd_ne h1, upd_ne h2]
theorem init_len {K : PySem.W.Frag} {fs : List Str} {n : Nat} (hn : fs.length + 1 = n) : ∀ vs H Q E, spI K fs vs H Q E → vs.length = n := fun vs H Q E ⟨a, C, ws, e, hl, _⟩ => by subst e; simp; omega
/-- the class's own line -/
theorem exm_self {K : PySem.W.Frag} {S : Addr} (h1 : PySem.W.subIn K (.ref S) (.type "BaseException") = some true) (h2 : PySem.W.isClsIn K S = true) (h3 : PySem.W.typeIn K (.ref S) = some (.type "type")) (h4 : PySem.W.subIn K (.ref S) (.ref S) = some true) :
    PySem.W.exmOne K (.ref S) (.ref S) = some true := by
  have e1 : (PySem.W.subIn K (.ref S) (.type "BaseException") == some true) = true := by rw [h1] <;> rfl
  have e2 : ((PySem.W.clsIn K S).isSome && PySem.W.typeIn K (.ref S) == some (.type "type")) = true := by
    have h2' : (PySem.W.clsIn K S).isSome = true := h2
    rw [h2', h3] <;> rfl
  show (if (PySem.W.subIn K (.ref S) (.type "BaseException") == some true) = true then (if ((PySem.W.clsIn K S).isSome && PySem.W.typeIn K (.ref S) == some (.type "type")) = true then PySem.W.subIn K (.ref S) (.ref S) else none) else none) = some true
  rw [if_pos e1, if_pos e2]
  exact h4
end G
namespace K01
open PySem PySem.Spec PyProof.Rows L2 G
/-! ### the mathematics' words -/
def restZ (i m : Int) : Int := if m = 0 then i else i % m
def divZ (a b : Int) : Bool := if a = 0 then decide (b = 0) else decide (b % a = 0)
def halfZ (n k : Int) : Int := if n = 0 then (if k = 1 then 1 else 0) else n / ((Nat.gcd n.natAbs (k - 1).natAbs : Nat) : Int) % n
@[reducible] def isIntD : D → Bool
  | .int _ => true
  | _ => false
def DialOk (n k : Int) : Prop := (n = 0 ∧ (k = 1 ∨ k = -1)) ∨ (2 ≤ n ∧ n ≤ 10000 ∧ 1 ≤ k ∧ k < n ∧ k * k % n = 1)
/-- a pair's word -/
def faultZ (n k : Int) : D := if n < 0 ∨ n = 1 ∨ n > 10000 then .str "limit" else if n = 0 then (if k = 1 ∨ k = -1 then .non else .str "turn") else if ¬ (1 ≤ k ∧ k < n) ∨ k * k % n ≠ 1 then .str "turn" else .non
@[reducible] def faultD : D → D
  | .tup [.int n, .int k] => faultZ n k
  | _ => .str "shape"
/-- things whose type is known, and the types of a pair's elements -/
@[reducible] def ThingOk (x : D) (L : LH) : Prop := match x with
  | .tup [a, b] => tyOf a L (fun _ => True) ∧ tyOf b L (fun _ => True)
  | x => tyOf x L (fun _ => True)
def fieldZ (n k : Int) : D := if n = 8 ∧ k = 3 then .int 3 else if n = 24 ∧ k = 5 then .int 5 else if n = 48 ∧ k = 7 then .int 7 else if n = 120 ∧ k = 11 then .int 11 else if n = 168 ∧ k = 13 then .int 13 else .non
/-- a left with all factors p taken out, and the power taken -/
def divOut (left p : Nat) : Nat × Nat := if h : 2 ≤ p ∧ 1 ≤ left ∧ left % p = 0 then
    let r := divOut (left / p) p
    (r.1, p * r.2)
  else (left, 1)
termination_by left
decreasing_by exact Nat.div_lt_self (by omega) (by omega)
theorem divOut_le (left p : Nat) : (divOut left p).1 ≤ left := by
  induction left using Nat.strongRecOn with
  | ind left ih =>
    rw [divOut]
    split
    · rename_i h
      exact Nat.le_trans (ih _ (Nat.div_lt_self (by omega) (by omega))) (Nat.div_le_self _ _)
    · exact Nat.le_refl _
def ppF (left p : Nat) : List (Nat × Nat) := if h : p * p ≤ left ∧ 2 ≤ p then
    (if (divOut left p).2 > 1 then [(p, (divOut left p).2)] else []) ++ ppF (divOut left p).1 (p + 1)
  else if left > 1 then [(left, left)] else []
termination_by left + 1 - p
decreasing_by
  have h1 := divOut_le left p
  have h2 : p ≤ left := Nat.le_trans (Nat.le_mul_of_pos_left p (by omega)) h.1
  omega
def ppl (n : Int) : List Nat := (ppF n.toNat 2).map (·.2)
def sortZ (ns : List Int) : List Int := ns.mergeSort fun a b => decide (a ≤ b)
def powZ (n : Int) : List Int := sortZ ((ppl n).map fun (q : Nat) => (q : Int))
/-! ### the kettle -/
structure Ket (a g : Addr) (L : LH) : Prop where
  ne : a ≠ g
  st : ∃ (s c : Int) (ns : List Int), L a = some (.lst [.int s, .int c, .v (.ref g)]) ∧ L g = some (.lst (ns.map D.int)) ∧ ns.length ≤ 63
/-- the kettle has gone on, all else stands -/
structure Kp (a g : Addr) (L L' : LH) : Prop where
  k0 : Ket a g L
  k : Ket a g L'
  o : ∀ b, b ≠ a → b ≠ g → ∀ o, L b = some o → L' b = some o
theorem Ket.na {a g : Addr} {L : LH} (k : Ket a g L) {p : Addr} (h : L p = none) : p ≠ a ∧ p ≠ g := by
  obtain ⟨s, c, ns, h1, h2, _⟩ := k.st
  exact ⟨fun e => (by rw [e, h1] at h; cases h), fun e => (by rw [e, h2] at h; cases h)⟩
theorem Kp.refl {a g : Addr} {L : LH} (k : Ket a g L) : Kp a g L L := ⟨k, k, fun _ _ _ _ h => h⟩
theorem Kp.trans {a g : Addr} {L L1 L2 : LH} (h : Kp a g L L1) (h' : Kp a g L1 L2) : Kp a g L L2 := ⟨h.k0, h'.k, fun b x y o e => h'.o b x y o (h.o b x y o e)⟩
theorem Kp.free {a g : Addr} {L L' : LH} (h : Kp a g L L') {p : Addr} (n : L' p = none) : L p = none := by
  obtain ⟨n1, n2⟩ := h.k.na n
  cases e : L p with
  | none => rfl
  | some o => rw [h.o p n1 n2 o e] at n; cases n
theorem Ket.up {a g : Addr} {L : LH} (k : Ket a g L) {p : Addr} (h1 : p ≠ a) (h2 : p ≠ g) (o : LO) : Ket a g (lup L p o) := by
  obtain ⟨s, c, ns, e1, e2, l⟩ := k.st
  exact ⟨k.ne, s, c, ns, by rw [lup_ne h1.symm]; exact e1, by rw [lup_ne h2.symm]; exact e2, l⟩
theorem Kp.own {a g : Addr} {L L' : LH} (h : Kp a g L L') {p : Addr} (n : L p = none) (o : LO) : Kp a g L (lup L' p o) := by
  obtain ⟨n1, n2⟩ := h.k0.na n
  exact ⟨h.k0, h.k.up n1 n2 o, fun b x y u e => by rw [lup_ne (ne_free e n)]; exact h.o b x y u e⟩
theorem Kp.new {a g : Addr} {L L' : LH} (h : Kp a g L L') {p : Addr} (n : L' p = none) (o : LO) : Kp a g L (lup L' p o) := h.own (h.free n) o
/-- a sequence that is not the kettle's -/
@[reducible] def offK (a g : Addr) (x : D) : Prop := match x with
  | .v (.ref p) => p ≠ a ∧ p ≠ g
  | _ => True
/-! ### equal data -/
mutual
def sm : D → D → Bool
  | one, .non => (match one with | .non => true | _ => false)
  | one, .tup ys => (match one with | .tup xs => sms xs ys | _ => false)
  | one, .bl b => (match one with | .bl c => c == b | _ => false)
  | one, .int b => (match one with | .int c => c == b | _ => false)
  | one, .str b => (match one with | .str c => c == b | _ => false)
  | _, _ => false
def sms : List D → List D → Bool
  | [], [] => true
  | x :: xs, y :: ys => sm x y && sms xs ys
  | _, _ => false
end
mutual
def D.smp : D → Bool
  | .tup xs => D.smps xs
  | .rol _ => false
  | .v _ => false
  | _ => true
def D.smps : List D → Bool
  | [] => true
  | d :: ds => D.smp d && D.smps ds
end
mutual
def D.sz : D → Nat
  | .tup xs => D.szs xs + 1
  | _ => 1
def D.szs : List D → Nat
  | [] => 0
  | d :: ds => D.sz d + D.szs ds
end
/-! ### constants -/
@[reducible] def c_DIAL_MOST : D := .int 10000
@[reducible] def c_PRIMES : D := .tup [.int 3, .int 5, .int 7, .int 11, .int 13]
/-! ### promises -/
@[reducible] def sp_is_integer : DSp := fun ds L Q _ => match ds with
  | [x] => tyOf x L (fun _ => True) ∧ Q (.bl (isIntD x)) L
  | _ => False
@[reducible] def sp_rest_of : DSp := fun ds L Q _ => match ds with
  | [.int i, .int m] => 0 ≤ m ∧ Q (.int (restZ i m)) L
  | _ => False
@[reducible] def sp_divides : DSp := fun ds L Q _ => match ds with
  | [.int a, .int b] => 0 ≤ a ∧ Q (.bl (divZ a b)) L
  | _ => False
@[reducible] def sp_dial_fault : DSp := fun ds L Q _ => match ds with
  | [x] => ThingOk x L ∧ Q (faultD x) L
  | _ => False
@[reducible] def spX_check_dial (C : Addr) : DSp := fun ds L Q E => match ds with
  | [x] => ThingOk x L ∧ (faultD x = .non → Q .non L) ∧ (∀ w, faultD x = .str w → E C [("word", .str w)] L)
  | _ => False
@[reducible] def sp_check_dial : DSp := fun ds L Q _ => match ds with
  | [.tup [.int n, .int k]] => DialOk n k ∧ Q .non L
  | _ => False
@[reducible] def sp_mark_of : DSp := fun ds L Q _ => match ds with
  | [.tup [.int n, .int _], .int i] => 0 ≤ n ∧ Q (.int (restZ i n)) L
  | _ => False
@[reducible] def sp_turned_mark : DSp := fun ds L Q _ => match ds with
  | [.tup [.int n, .int k], .int i] => 0 ≤ n ∧ (-10000 ≤ k ∧ k ≤ 10000) ∧ Q (.int (restZ (k * i) n)) L
  | _ => False
@[reducible] def sp_half_of : DSp := fun ds L Q _ => match ds with
  | [.tup [.int n, .int k]] => 0 ≤ n ∧ n < 1073741824 ∧ Q (.int (halfZ n k)) L
  | _ => False
@[reducible] def sp_is_turning : DSp := fun ds L Q _ => match ds with
  | [.tup [.int n, .int k]] => 0 ≤ n ∧ Q (.bl (divZ n (k + 1))) L
  | _ => False
@[reducible] def sp_is_loud : DSp := fun ds L Q _ => match ds with
  | [.tup [.int n, .int k]] => 0 ≤ n ∧ Q (.bl (divZ n (k - 1))) L
  | _ => False
@[reducible] def sp_field_prime : DSp := fun ds L Q _ => match ds with
  | [.tup [.int n, .int k]] => Q (fieldZ n k) L
  | _ => False
@[reducible] def sp_prime_powers : DSp := fun ds L Q _ => match ds with
  | [.int n] => 1 ≤ n ∧ n ≤ 10000 ∧ Q (.tup ((ppF n.toNat 2).map fun p => .tup [.int p.1, .int p.2])) L
  | _ => False
@[reducible] def sp_coarser_dial : DSp := fun ds L Q _ => match ds with
  | [.tup [.int _, .int k], .int m] => 0 ≤ m ∧ Q (.tup [.int m, .int (restZ k m)]) L
  | _ => False
@[reducible] def sp_dial_parts : DSp := fun ds L Q _ => match ds with
  | [.tup [.int n, .int k]] => 1 ≤ n ∧ n ≤ 10000 ∧ Q (.tup ((powZ n).map fun q => .tup [.int q, .int (k % q)])) L
  | _ => False
@[reducible] def sp_law_kettle : DSp := fun ds L Q _ => match ds with
  | [.rol xs] => ∃ ns : List Int, xs = ns.map D.int ∧ ns.length ≤ 63 ∧ ∀ a g L', L a = none → L g = none → Les L L' → Ket a g L' → Q (.v (.ref a)) L'
  | _ => False
@[reducible] def sp_law_pick : DSp := fun ds L Q _ => match ds with
  | [.v (.ref a), .int m] => ∃ g, Ket a g L ∧ 0 < m ∧ m < 1073741824 ∧ ∀ r L', 0 ≤ r → r < m → Kp a g L L' → Q (.int r) L'
  | _ => False
@[reducible] def sp_law_one : DSp := fun ds L Q _ => match ds with
  | [.v (.ref a), row] => ∃ g, Ket a g L ∧ offK a g row ∧ itemsOf row L fun xs => xs ≠ [] ∧ xs.length < 1073741824 ∧ ∀ r L', r ∈ xs → Kp a g L L' → Q r L'
  | _ => False
@[reducible] def sp_law_mixed : DSp := fun ds L Q _ => match ds with
  | [.v (.ref a), row] => ∃ g, Ket a g L ∧ offK a g row ∧ itemsOf row L fun xs => xs.length < 1000000 ∧ ∀ ys p L', (∀ y ∈ ys, y ∈ xs) → L p = none → Kp a g L L' → L' p = some (.lst ys) → Q (.v (.ref p)) L'
  | _ => False
@[reducible] def sp_law_same : DSp := fun ds L Q _ => match ds with
  | [x, y] => D.smp x = true ∧ D.smp y = true ∧ D.sz y < 1000000 ∧ Q (.bl (sm x y)) L
  | _ => False
@[reducible] def sp_law_gcd : DSp := fun ds L Q _ => match ds with
  | [.int a, .int b] => 0 ≤ b ∧ Q (.int ((Nat.gcd a.natAbs b.natAbs : Nat) : Int)) L
  | _ => False
@[reducible] def sp_law_size : DSp := fun ds L Q _ => match ds with
  | [.v (.ref a)] => ∃ g, Ket a g L ∧ ∀ n L', 2 ≤ n → n ≤ 10000 → Kp a g L L' → Q (.int n) L'
  | _ => False
@[reducible] def sp_law_powers : DSp := fun ds L Q _ => match ds with
  | [.int n] => 1 ≤ n ∧ n ≤ 10000 ∧ ∀ p L', L p = none → Les L L' → L' p = some (.lst ((powZ n).map D.int)) → Q (.v (.ref p)) L'
  | _ => False
@[reducible] def sp_law_heard : DSp := fun ds L Q _ => match ds with
  | [x] => ThingOk x L ∧ Q (match faultD x with | .str w => .tup [.str "bad", .str w] | _ => .tup [.str "told", .non]) L
  | _ => False
/-- the roots of 1 -/
def RootsOk (n : Int) (rs : List Int) : Prop := ∀ k, k ∈ rs ↔ (1 ≤ k ∧ k < n ∧ (k * k - 1) % n = 0)
@[reducible] def sp_law_checked : DSp := fun ds L Q _ => match ds with
  | [.v (.ref a), .int n, .v (.ref p)] => ∃ g rs, Ket a g L ∧ p ≠ a ∧ p ≠ g ∧ 2 ≤ n ∧ n ≤ 10000 ∧ L p = some (.lst (rs.map D.int)) ∧ RootsOk n rs ∧ rs.length ≤ 10000 ∧ ∀ L', Kp a g L L' → Q (.bl true) L'
  | _ => False
@[reducible] def sp_law_marks : DSp := fun ds L Q _ => match ds with
  | [.v (.ref a), .int n, .int k] => ∃ g, Ket a g L ∧ 2 ≤ n ∧ n ≤ 10000 ∧ 1 ≤ k ∧ k < n ∧ (k * k - 1) % n = 0 ∧ ∀ L', Kp a g L L' → Q (.bl true) L'
  | _ => False
@[reducible] def sp_law_parts : DSp := fun ds L Q _ => match ds with
  | [.v (.ref a), .int n, .int k] => ∃ g, Ket a g L ∧ 2 ≤ n ∧ n ≤ 10000 ∧ 1 ≤ k ∧ k < n ∧ (k * k - 1) % n = 0 ∧ ∀ L', Kp a g L L' → Q (.bl true) L'
  | _ => False
@[reducible] def sp_law_fields : DSp := fun ds L Q _ => match ds with
  | [.v (.ref a)] => ∃ g, Ket a g L ∧ ∀ L', Kp a g L L' → Q (.bl true) L'
  | _ => False
@[reducible] def sp_law : DSp := fun ds L Q _ => match ds with
  | [.rol xs] => ∃ ns : List Int, xs = ns.map D.int ∧ ns.length ≤ 63 ∧ ∀ L', Q (.bl true) L'
  | _ => False
end K01
namespace K01
open PySem PySem.Spec PyProof.Rows L2 G
@[reducible] def rd_is_integer : DTS :=
  (sRet (dAndV (dCB rIsi (dCons (dVar 0) (dCons (dC (.v (.ty "int"))) dNil))) (dNotV (dCB rIsi (dCons (dVar 0) (dCons (dC (.v (.ty "bool"))) dNil))))))
@[reducible] def rd_rest_of : DTS :=
  (sSeq (sIf (dTest (dOp (rEq id) (dVar 1) (dC (.int 0)))) (sRet (dVar 0)) sNext)
  (sRet (dOp (rII (fun _ j => 0 < j) fun i j => .int (i % j)) (dVar 0) (dVar 1))))
@[reducible] def rd_divides : DTS :=
  (sSeq (sIf (dTest (dOp (rEq id) (dVar 0) (dC (.int 0)))) (sRet (dOp (rEq id) (dVar 1) (dC (.int 0)))) sNext)
  (sRet (dOp (rEq id) (dOp (rII (fun _ j => 0 < j) fun i j => .int (i % j)) (dVar 1) (dVar 0)) (dC (.int 0)))))
@[reducible] def rd_dial_fault : DTS :=
  (sSeq (sIf (dOr (dNot (dTru (dCB rIsi (dCons (dVar 0) (dCons (dC (.v (.ty "tuple"))) dNil))))) (dTest (dOp (rEq not) (dCB rLen (dCons (dVar 0) dNil)) (dC (.int 2))))) (sRet (dC (.str "shape"))) sNext)
  (sSeq (sAsg (dVar 0) (gTp 2 (gsCons (gNm 1) (gsCons (gNm 2) gsNil))))
  (sSeq (sIf (dOr (dNot (dTru (dCall sp_is_integer (dCons (dVar 1) dNil)))) (dNot (dTru (dCall sp_is_integer (dCons (dVar 2) dNil))))) (sRet (dC (.str "shape"))) sNext)
  (sSeq (sIf (dOr (dTest (dOp (rI0 fun i j => .bl (decide (i < j))) (dVar 1) (dC (.int 0)))) (dOr (dTest (dOp (rEq id) (dVar 1) (dC (.int 1)))) (dTest (dOp (rI0 fun i j => .bl (decide (j < i))) (dVar 1) (dC c_DIAL_MOST))))) (sRet (dC (.str "limit"))) sNext)
  (sSeq (sIf (dTest (dOp (rEq id) (dVar 1) (dC (.int 0)))) (sRet (dIf (dOr (dTest (dOp (rEq id) (dVar 2) (dC (.int 1)))) (dTest (dOp (rEq id) (dVar 2) (dUn rNeg (dC (.int 1)))))) (dC .non) (dC (.str "turn")))) sNext)
  (sSeq (sIf (dOr (dNot (dTest (dChain (rI0 fun i j => .bl (decide (i ≤ j))) (rI0 fun i j => .bl (decide (i < j))) (dC (.int 1)) (dVar 2) (dVar 1)))) (dTest (dOp (rEq not) (dOp (rII (fun _ j => 0 < j) fun i j => .int (i % j)) (dOp (rII CMulA fun i j => .int (i * j)) (dVar 2) (dVar 2)) (dVar 1)) (dC (.int 1))))) (sRet (dC (.str "turn"))) sNext)
  (sRet (dC .non))))))))
@[reducible] def rdX_check_dial (C_BadDial : Addr) : DTX :=
  (xSeq (fun E _ => (sSet 1 (dCall sp_dial_fault (dCons (dVar 0) dNil))) E)
  (xIf (dTest (dOp (rIsN not) (dVar 1) (dC .non))) (xRaise C_BadDial ["word"] (dCons (dVar 1) dNil)) (fun E _ => sNext E)))
@[reducible] def rd_check_dial : DTS :=
  (sSeq (sSet 1 (dCall sp_dial_fault (dCons (dVar 0) dNil)))
  (sIf (dTest (dOp (rIsN not) (dVar 1) (dC .non))) sNever sNext))
@[reducible] def rd_mark_of : DTS :=
  (sRet (dCall sp_rest_of (dCons (dVar 1) (dCons (dOp rIx (dVar 0) (dC (.int 0))) dNil))))
@[reducible] def rd_turned_mark : DTS :=
  (sRet (dCall sp_rest_of (dCons (dOp (rII CMulA fun i j => .int (i * j)) (dOp rIx (dVar 0) (dC (.int 1))) (dVar 1)) (dCons (dOp rIx (dVar 0) (dC (.int 0))) dNil))))
@[reducible] def rd_half_of : DTS :=
  (sSeq (sAsg (dVar 0) (gTp 2 (gsCons (gNm 1) (gsCons (gNm 2) gsNil))))
  (sSeq (sIf (dTest (dOp (rEq id) (dVar 1) (dC (.int 0)))) (sRet (dIf (dTest (dOp (rEq id) (dVar 2) (dC (.int 1)))) (dC (.int 1)) (dC (.int 0)))) sNext)
  (sRet (dOp (rII (fun _ j => 0 < j) fun i j => .int (i % j)) (dOp (rII CDivA fun i j => .int (i / j)) (dVar 1) (dCB (rI2 fun a b => ((Nat.gcd a.natAbs b.natAbs : Nat) : Int)) (dCons (dVar 1) (dCons (dOp (rI0 fun i j => .int (i - j)) (dVar 2) (dC (.int 1))) dNil)))) (dVar 1)))))
@[reducible] def rd_is_turning : DTS :=
  (sRet (dCall sp_divides (dCons (dOp rIx (dVar 0) (dC (.int 0))) (dCons (dOp rAdd (dOp rIx (dVar 0) (dC (.int 1))) (dC (.int 1))) dNil))))
@[reducible] def rd_is_loud : DTS :=
  (sRet (dCall sp_divides (dCons (dOp rIx (dVar 0) (dC (.int 0))) (dCons (dOp (rI0 fun i j => .int (i - j)) (dOp rIx (dVar 0) (dC (.int 1))) (dC (.int 1))) dNil))))
@[reducible] def rd_field_prime : DTS :=
  (sSeq (sFor (iSeq (dC c_PRIMES)) (gNm 1) (sIf (dTest (dOp (rEq id) (dVar 0) (dTup (dCons (dOp (rI0 fun i j => .int (i - j)) (dOp (rII CMulA fun i j => .int (i * j)) (dVar 1) (dVar 1)) (dC (.int 1))) (dCons (dVar 1) dNil))))) (sRet (dVar 1)) sNext))
  (sRet (dC .non)))
@[reducible] def rd_prime_powers : DTS :=
  (sSeq (sSet 1 (dLst dNil))
  (sSeq (sSet 2 (dVar 0))
  (sSeq (sSet 3 (dC (.int 2)))
  (sSeq (sWhile (dTest (dOp (rI0 fun i j => .bl (decide (i ≤ j))) (dOp (rII CMulA fun i j => .int (i * j)) (dVar 3) (dVar 3)) (dVar 2))) (sSeq (sSet 4 (dC (.int 1)))
  (sSeq (sWhile (dTest (dOp (rEq id) (dOp (rII (fun _ j => 0 < j) fun i j => .int (i % j)) (dVar 2) (dVar 3)) (dC (.int 0)))) (sSeq (sSet 2 (dOp (rII CDivA fun i j => .int (i / j)) (dVar 2) (dVar 3)))
  (sSet 4 (dOp (rII CMulA fun i j => .int (i * j)) (dVar 4) (dVar 3)))))
  (sSeq (sIf (dTest (dOp (rI0 fun i j => .bl (decide (j < i))) (dVar 4) (dC (.int 1)))) (sExpr (dLM rAppend (dVar 1) (dCons (dTup (dCons (dVar 3) (dCons (dVar 4) dNil))) dNil))) sNext)
  (sAug 3 (dC (.int 1)) (rI0 fun a b => .int (a + b)))))))
  (sSeq (sIf (dTest (dOp (rI0 fun i j => .bl (decide (j < i))) (dVar 2) (dC (.int 1)))) (sExpr (dLM rAppend (dVar 1) (dCons (dTup (dCons (dVar 2) (dCons (dVar 2) dNil))) dNil))) sNext)
  (sRet (dCB rTupOf (dCons (dVar 1) dNil))))))))
@[reducible] def rd_coarser_dial : DTS :=
  (sRet (dTup (dCons (dVar 1) (dCons (dCall sp_rest_of (dCons (dOp rIx (dVar 0) (dC (.int 1))) (dCons (dVar 1) dNil))) dNil))))
@[reducible] def rd_dial_parts : DTS :=
  (sRet (dCB rTupOf (dCons (dCB rSortedD (dCons (dLc [1, 2] (iSeq (dCall sp_prime_powers (dCons (dOp rIx (dVar 0) (dC (.int 0))) dNil))) (gTp 2 (gsCons (gNm 1) (gsCons (gNm 2) gsNil))) dYes (dCall sp_coarser_dial (dCons (dVar 0) (dCons (dVar 2) dNil)))) dNil)) dNil)))
@[reducible] def rd_law_kettle : DTS :=
  (sSeq (sSet 1 (dC (.int 8513)))
  (sSeq (sSet 2 (dLst dNil))
  (sSeq (sFor (iSeq (dSl (dVar 0) dNoPart (dPart (dC (.int 63))))) (gNm 3) (sSeq (sSet 4 (dCB (rI1 fun i => if i < 0 then -i else i) (dCons (dCB rInt (dCons (dVar 3) dNil)) dNil)))
  (sSeq (sSet 1 (dOp (rII (fun _ j => 0 < j) fun i j => .int (i % j)) (dCB rInt (dCons (dOp rAdd (dOp rAdd (dOp (rII CMulA fun i j => .int (i * j)) (dVar 1) (dC (.int 24029))) (dOp (rII (fun _ j => 0 < j) fun i j => .int (i % j)) (dCB rInt (dCons (dVar 4) dNil)) (dC (.int 1000619)))) (dC (.int 11))) dNil)) (dC (.int 2147482937))))
  (sIf (dTest (dOp (rI0 fun i j => .bl (decide (j ≤ i))) (dVar 4) (dC (.int 1000000000000000000)))) (sExpr (dLM rAppend (dVar 2) (dCons (dVar 4) dNil))) sNext))))
  (sSeq (sExpr (dLM rReverse (dVar 2) dNil))
  (sRet (dLst (dCons (dVar 1) (dCons (dC (.int 0)) (dCons (dVar 2) dNil)))))))))
@[reducible] def rd_law_pick : DTS :=
  (sSeq (sSub (dOp rAdd (dOp rIx (dVar 0) (dC (.int 1))) (dC (.int 1))) (dVar 0) (dC (.int 1)))
  (sSeq (sWhile (dAnd (dTest (dOp (rI0 fun i j => .bl (decide (j < i))) (dCB rLen (dCons (dOp rIx (dVar 0) (dC (.int 2))) dNil)) (dC (.int 0)))) (dTest (dOp (rEq id) (dOp rIx (dOp rIx (dVar 0) (dC (.int 2))) (dUn rNeg (dC (.int 1)))) (dC (.int 0))))) (sExpr (dLM rPop (dOp rIx (dVar 0) (dC (.int 2))) dNil)))
  (sSeq (sIf (dTest (dOp (rI0 fun i j => .bl (decide (j < i))) (dCB rLen (dCons (dOp rIx (dVar 0) (dC (.int 2))) dNil)) (dC (.int 0)))) (sSeq (sSet 2 (dLM rPop (dOp rIx (dVar 0) (dC (.int 2))) dNil))
  (sSeq (sExpr (dLM rAppend (dOp rIx (dVar 0) (dC (.int 2))) (dCons (dOp (rII CDivA fun i j => .int (i / j)) (dVar 2) (dVar 1)) dNil)))
  (sRet (dOp (rII (fun _ j => 0 < j) fun i j => .int (i % j)) (dCB rInt (dCons (dVar 2) dNil)) (dVar 1))))) sNext)
  (sSeq (sSub (dOp (rII (fun _ j => 0 < j) fun i j => .int (i % j)) (dCB rInt (dCons (dOp rAdd (dOp rAdd (dOp (rII CMulA fun i j => .int (i * j)) (dOp rIx (dVar 0) (dC (.int 0))) (dC (.int 24029))) (dOp (rII CMulA fun i j => .int (i * j)) (dOp rIx (dVar 0) (dC (.int 1))) (dC (.int 13099)))) (dC (.int 25013))) dNil)) (dC (.int 2147482937))) (dVar 0) (dC (.int 0)))
  (sRet (dOp (rII (fun _ j => 0 < j) fun i j => .int (i % j)) (dCB rInt (dCons (dOp (rII CDivA fun i j => .int (i / j)) (dOp rIx (dVar 0) (dC (.int 0))) (dC (.int 131))) dNil)) (dVar 1)))))))
@[reducible] def rd_law_one : DTS :=
  (sRet (dOp rIx (dVar 1) (dCall sp_law_pick (dCons (dVar 0) (dCons (dCB rLen (dCons (dVar 1) dNil)) dNil)))))
@[reducible] def rd_law_mixed : DTS :=
  (sSeq (sSet 2 (dCB rListOf (dCons (dVar 1) dNil)))
  (sRet (dLc [3] (iRng1 (dCB rLen (dCons (dVar 1) dNil))) (gNm 3) dYes (dLM rPopAt (dVar 2) (dCons (dCall sp_law_pick (dCons (dVar 0) (dCons (dCB rLen (dCons (dVar 2) dNil)) dNil))) dNil)))))
@[reducible] def rd_law_same : DTS :=
  (sSeq (sSet 2 (dLst (dCons (dTup (dCons (dVar 0) (dCons (dVar 1) dNil))) dNil)))
  (sSeq (sWhile (dTest (dOp (rI0 fun i j => .bl (decide (j < i))) (dCB rLen (dCons (dVar 2) dNil)) (dC (.int 0)))) (sSeq (sAsg (dLM rPop (dVar 2) dNil) (gTp 2 (gsCons (gNm 3) (gsCons (gNm 4) gsNil))))
  (sIf (dTest (dOp (rIsN id) (dVar 4) (dC .non))) (sIf (dTest (dOp (rIsN not) (dVar 3) (dC .non))) (sRet (dC (.bl false))) sNext) (sIf (dTru (dCB rIsi (dCons (dVar 4) (dCons (dC (.v (.ty "tuple"))) dNil)))) (sSeq (sIf (dOr (dNot (dTru (dCB rIsi (dCons (dVar 3) (dCons (dC (.v (.ty "tuple"))) dNil))))) (dTest (dOp (rEq not) (dCB rLen (dCons (dVar 3) dNil)) (dCB rLen (dCons (dVar 4) dNil))))) (sRet (dC (.bl false))) sNext)
  (sExpr (dLM rExtend (dVar 2) (dCons (dLc [5] (iRng1 (dCB rLen (dCons (dVar 4) dNil))) (gNm 5) dYes (dTup (dCons (dOp rIx (dVar 3) (dVar 5)) (dCons (dOp rIx (dVar 4) (dVar 5)) dNil)))) dNil)))) (sIf (dOr (dTest (dOp (rEq not) (dCB rIsi (dCons (dVar 3) (dCons (dC (.v (.ty "bool"))) dNil))) (dCB rIsi (dCons (dVar 4) (dCons (dC (.v (.ty "bool"))) dNil))))) (dTest (dOp (rEq not) (dCB rIsi (dCons (dVar 3) (dCons (dC (.v (.ty "str"))) dNil))) (dCB rIsi (dCons (dVar 4) (dCons (dC (.v (.ty "str"))) dNil)))))) (sRet (dC (.bl false))) (sIf (dOr (dTest (dOp (rEq not) (dCB rIsi (dCons (dVar 3) (dCons (dC (.v (.ty "int"))) dNil))) (dCB rIsi (dCons (dVar 4) (dCons (dC (.v (.ty "int"))) dNil))))) (dTest (dOp (rEq not) (dVar 3) (dVar 4)))) (sRet (dC (.bl false))) sNext))))))
  (sRet (dC (.bl true)))))
@[reducible] def rd_law_gcd : DTS :=
  (sSeq (sWhile (dTest (dOp (rEq not) (dVar 1) (dC (.int 0)))) (sPar 0 1 (dVar 1) (dOp (rII (fun _ j => 0 < j) fun i j => .int (i % j)) (dCB rInt (dCons (dVar 0) dNil)) (dVar 1))))
  (sRet (dCB (rI1 fun i => if i < 0 then -i else i) (dCons (dVar 0) dNil))))
@[reducible] def rd_law_size : DTS :=
  (sSeq (sSet 1 (dCall sp_law_pick (dCons (dVar 0) (dCons (dC (.int 6)) dNil))))
  (sSeq (sIf (dTest (dOp (rEq id) (dVar 1) (dC (.int 0)))) (sRet (dOp rAdd (dC (.int 2)) (dCall sp_law_pick (dCons (dVar 0) (dCons (dC (.int 9999)) dNil))))) sNext)
  (sSeq (sIf (dTest (dOp (rEq id) (dVar 1) (dC (.int 1)))) (sRet (dCall sp_law_one (dCons (dVar 0) (dCons (dTup (dCons (dC (.int 9240)) (dCons (dC (.int 840)) (dCons (dC (.int 2520)) (dCons (dC (.int 9360)) (dCons (dC (.int 9828)) (dCons (dC (.int 7920)) (dCons (dC (.int 5040)) (dCons (dC (.int 120)) (dCons (dC (.int 24)) (dCons (dC (.int 60)) (dCons (dC (.int 1155)) (dCons (dC (.int 3465)) dNil))))))))))))) dNil)))) sNext)
  (sSeq (sIf (dTest (dOp (rEq id) (dVar 1) (dC (.int 2)))) (sSeq (sSet 2 (dCall sp_law_one (dCons (dVar 0) (dCons (dTup (dCons (dC (.int 2)) (dCons (dC (.int 3)) (dCons (dC (.int 5)) (dCons (dC (.int 7)) (dCons (dC (.int 11)) (dCons (dC (.int 97)) dNil))))))) dNil))))
  (sSeq (sSet 3 (dVar 2))
  (sSeq (sFor (iRng1 (dCall sp_law_pick (dCons (dVar 0) (dCons (dC (.int 13)) dNil)))) (gNm 4) (sSet 3 (dIf (dTest (dOp (rI0 fun i j => .bl (decide (i ≤ j))) (dOp (rII CMulA fun i j => .int (i * j)) (dVar 3) (dVar 2)) (dC (.int 10000)))) (dOp (rII CMulA fun i j => .int (i * j)) (dVar 3) (dVar 2)) (dVar 3))))
  (sRet (dVar 3))))) sNext)
  (sSeq (sIf (dTest (dOp (rEq id) (dVar 1) (dC (.int 3)))) (sRet (dCall sp_law_one (dCons (dVar 0) (dCons (dTup (dCons (dC (.int 2)) (dCons (dC (.int 3)) (dCons (dC (.int 4)) (dCons (dC (.int 8)) (dCons (dC (.int 16)) (dCons (dC (.int 10000)) (dCons (dC (.int 9999)) (dCons (dC (.int 9973)) (dCons (dC (.int 8192)) (dCons (dC (.int 6561)) dNil))))))))))) dNil)))) sNext)
  (sSeq (sIf (dTest (dOp (rEq id) (dVar 1) (dC (.int 4)))) (sRet (dOp rAdd (dC (.int 2)) (dCall sp_law_pick (dCons (dVar 0) (dCons (dC (.int 200)) dNil))))) sNext)
  (sRet (dOp (rII CMulA fun i j => .int (i * j)) (dOp rAdd (dC (.int 2)) (dCall sp_law_pick (dCons (dVar 0) (dCons (dC (.int 60)) dNil)))) (dOp rAdd (dC (.int 2)) (dCall sp_law_pick (dCons (dVar 0) (dCons (dC (.int 160)) dNil))))))))))))
@[reducible] def rd_law_powers : DTS :=
  (sSeq (sSet 1 (dLst dNil))
  (sSeq (sSet 2 (dC (.int 2)))
  (sSeq (sWhile (dTest (dOp (rI0 fun i j => .bl (decide (j < i))) (dVar 0) (dC (.int 1)))) (sSeq (sSet 3 (dC (.int 1)))
  (sSeq (sWhile (dTest (dOp (rEq id) (dOp (rII (fun _ j => 0 < j) fun i j => .int (i % j)) (dCB rInt (dCons (dVar 0) dNil)) (dVar 2)) (dC (.int 0)))) (sSeq (sSet 0 (dOp (rII CDivA fun i j => .int (i / j)) (dVar 0) (dVar 2)))
  (sSet 3 (dOp (rII CMulA fun i j => .int (i * j)) (dVar 3) (dVar 2)))))
  (sSeq (sIf (dTest (dOp (rI0 fun i j => .bl (decide (j < i))) (dVar 3) (dC (.int 1)))) (sExpr (dLM rAppend (dVar 1) (dCons (dVar 3) dNil))) sNext)
  (sSet 2 (dIf (dOr (dTest (dOp (rI0 fun i j => .bl (decide (i ≤ j))) (dOp (rII CMulA fun i j => .int (i * j)) (dVar 2) (dVar 2)) (dVar 0))) (dTest (dOp (rI0 fun i j => .bl (decide (i ≤ j))) (dVar 0) (dVar 2)))) (dOp rAdd (dVar 2) (dC (.int 1))) (dVar 0)))))))
  (sRet (dCB rSortedD (dCons (dVar 1) dNil))))))
@[reducible] def rd_law_heard (C_BadDial : Addr) : DTS :=
  (sSeq (sTry C_BadDial 1 (xSet 2 (xCall (spX_check_dial C_BadDial) (dCons (dVar 0) dNil))) (fun a dd => (sRet (dTup (dCons (dC (.str "bad")) (dCons (dXf a dd "word" (dVar 1)) dNil))))))
  (sRet (dTup (dCons (dC (.str "told")) (dCons (dVar 2) dNil)))))
@[reducible] def rd_law_checked : DTS :=
  (sSeq (sSet 3 (dCall sp_law_one (dCons (dVar 0) (dCons (dVar 2) dNil))))
  (sSeq (sSet 4 (dOp rAdd (dC (.int 1)) (dCall sp_law_pick (dCons (dVar 0) (dCons (dOp (rI0 fun i j => .int (i - j)) (dVar 1) (dC (.int 1))) dNil)))))
  (sSeq (sSet 5 (dIf (dTest (dOp (rIn id) (dVar 4) (dVar 2))) (dTup (dCons (dC (.str "told")) (dCons (dC .non) dNil))) (dTup (dCons (dC (.str "bad")) (dCons (dC (.str "turn")) dNil)))))
  (sSeq (sSet 6 (dLst (dCons (dTup (dCons (dTup (dCons (dVar 1) (dCons (dVar 3) dNil))) (dCons (dTup (dCons (dC (.str "told")) (dCons (dC .non) dNil))) dNil))) (dCons (dTup (dCons (dTup (dCons (dVar 1) (dCons (dVar 4) dNil))) (dCons (dVar 5) dNil))) (dCons (dTup (dCons (dTup (dCons (dVar 1) (dCons (dC (.int 0)) dNil))) (dCons (dTup (dCons (dC (.str "bad")) (dCons (dC (.str "turn")) dNil))) dNil))) (dCons (dTup (dCons (dTup (dCons (dVar 1) (dCons (dVar 1) dNil))) (dCons (dTup (dCons (dC (.str "bad")) (dCons (dC (.str "turn")) dNil))) dNil))) dNil))))))
  (sSeq (sExpr (dLM rExtend (dVar 6) (dCons (dLst (dCons (dTup (dCons (dTup (dCons (dVar 1) (dCons (dOp rAdd (dVar 3) (dVar 1)) dNil))) (dCons (dTup (dCons (dC (.str "bad")) (dCons (dC (.str "turn")) dNil))) dNil))) (dCons (dTup (dCons (dTup (dCons (dVar 1) (dCons (dOp (rI0 fun i j => .int (i - j)) (dVar 3) (dVar 1)) dNil))) (dCons (dTup (dCons (dC (.str "bad")) (dCons (dC (.str "turn")) dNil))) dNil))) (dCons (dTup (dCons (dTup (dCons (dVar 1) (dCons (dC (.bl true)) dNil))) (dCons (dTup (dCons (dC (.str "bad")) (dCons (dC (.str "shape")) dNil))) dNil))) (dCons (dTup (dCons (dLst (dCons (dVar 1) (dCons (dVar 3) dNil))) (dCons (dTup (dCons (dC (.str "bad")) (dCons (dC (.str "shape")) dNil))) dNil))) dNil))))) dNil)))
  (sSeq (sExpr (dLM rExtend (dVar 6) (dCons (dLst (dCons (dTup (dCons (dTup (dCons (dOp rAdd (dC (.int 10000)) (dVar 1)) (dCons (dC (.int 1)) dNil))) (dCons (dTup (dCons (dC (.str "bad")) (dCons (dC (.str "limit")) dNil))) dNil))) (dCons (dTup (dCons (dTup (dCons (dUn rNeg (dVar 1)) (dCons (dVar 3) dNil))) (dCons (dTup (dCons (dC (.str "bad")) (dCons (dC (.str "limit")) dNil))) dNil))) (dCons (dTup (dCons (dTup (dCons (dC (.int 1)) (dCons (dC (.int 1)) dNil))) (dCons (dTup (dCons (dC (.str "bad")) (dCons (dC (.str "limit")) dNil))) dNil))) dNil)))) dNil)))
  (sSeq (sExpr (dLM rExtend (dVar 6) (dCons (dLst (dCons (dTup (dCons (dTup (dCons (dC (.int 0)) (dCons (dC (.int 1)) dNil))) (dCons (dTup (dCons (dC (.str "told")) (dCons (dC .non) dNil))) dNil))) (dCons (dTup (dCons (dTup (dCons (dC (.int 0)) (dCons (dUn rNeg (dC (.int 1))) dNil))) (dCons (dTup (dCons (dC (.str "told")) (dCons (dC .non) dNil))) dNil))) (dCons (dTup (dCons (dTup (dCons (dC (.int 0)) (dCons (dOp rAdd (dVar 3) (dC (.int 1))) dNil))) (dCons (dTup (dCons (dC (.str "bad")) (dCons (dC (.str "turn")) dNil))) dNil))) (dCons (dTup (dCons (dTup (dCons (dC (.int 0)) (dCons (dC (.int 0)) dNil))) (dCons (dTup (dCons (dC (.str "bad")) (dCons (dC (.str "turn")) dNil))) dNil))) dNil))))) dNil)))
  (sSeq (sExpr (dLM rExtend (dVar 6) (dCons (dLst (dCons (dTup (dCons (dTup (dCons (dVar 1) (dCons (dVar 3) (dCons (dC (.int 1)) dNil)))) (dCons (dTup (dCons (dC (.str "bad")) (dCons (dC (.str "shape")) dNil))) dNil))) (dCons (dTup (dCons (dTup (dCons (dVar 1) dNil)) (dCons (dTup (dCons (dC (.str "bad")) (dCons (dC (.str "shape")) dNil))) dNil))) (dCons (dTup (dCons (dTup (dCons (dC (.int 1)) (dCons (dC .non) dNil))) (dCons (dTup (dCons (dC (.str "bad")) (dCons (dC (.str "shape")) dNil))) dNil))) (dCons (dTup (dCons (dTup (dCons (dC (.bl false)) (dCons (dC (.int 1)) dNil))) (dCons (dTup (dCons (dC (.str "bad")) (dCons (dC (.str "shape")) dNil))) dNil))) dNil))))) dNil)))
  (sSeq (sExpr (dLM rAppend (dVar 6) (dCons (dTup (dCons (dTup (dCons (dC (.int 10001)) (dCons (dC (.int 10000)) dNil))) (dCons (dTup (dCons (dC (.str "bad")) (dCons (dC (.str "limit")) dNil))) dNil))) dNil)))
  (sSeq (sFor (iSeq (dVar 6)) (gTp 2 (gsCons (gNm 7) (gsCons (gNm 5) gsNil))) (sIf (dNot (dTru (dCall sp_law_same (dCons (dCall sp_law_heard (dCons (dVar 7) dNil)) (dCons (dVar 5) dNil))))) (sRet (dC (.bl false))) sNext))
  (sRet (dC (.bl true)))))))))))))
@[reducible] def rd_law_marks : DTS :=
  (sSeq (sSet 3 (dCall sp_law_pick (dCons (dVar 0) (dCons (dC (.int 1000003)) dNil))))
  (sSeq (sFor (iRng1 (dCall sp_law_pick (dCons (dVar 0) (dCons (dC (.int 9)) dNil)))) (gNm 4) (sSeq (sSet 3 (dOp rAdd (dOp (rII CMulA fun i j => .int (i * j)) (dVar 3) (dVar 3)) (dVar 4)))
  (sIf (dTest (dOp (rI0 fun i j => .bl (decide (j < i))) (dOp (rII CDivA fun i j => .int (i / j)) (dVar 3) (dOp (rII CPow fun i j => .int (i ^ j.toNat)) (dC (.int 10)) (dC (.int 64)))) (dOp (rII CPow fun i j => .int (i ^ j.toNat)) (dC (.int 10)) (dC (.int 60))))) sBreak sNext)))
  (sSeq (sSet 5 (dOp (rII (fun _ j => 0 < j) fun i j => .int (i % j)) (dCB rInt (dCons (dOp (rII CDivA fun i j => .int (i / j)) (dVar 1) (dCall sp_law_gcd (dCons (dVar 1) (dCons (dOp (rI0 fun i j => .int (i - j)) (dVar 2) (dC (.int 1))) dNil)))) dNil)) (dVar 1)))
  (sSeq (sFor (iSeq (dTup (dCons (dVar 3) (dCons (dUn rNeg (dVar 3)) (dCons (dVar 1) (dCons (dUn rNeg (dC (.int 1))) (dCons (dCall sp_law_pick (dCons (dVar 0) (dCons (dVar 1) dNil))) (dCons (dVar 5) (dCons (dOp rAdd (dVar 5) (dC (.int 1))) (dCons (dOp (rII CMulA fun i j => .int (i * j)) (dC (.int 2)) (dVar 5)) (dCons (dOp (rI0 fun i j => .int (i - j)) (dVar 5) (dC (.int 1))) dNil))))))))))) (gNm 6) (sSeq (sSet 7 (dOp (rII (fun _ j => 0 < j) fun i j => .int (i % j)) (dCB rInt (dCons (dVar 6) dNil)) (dVar 1)))
  (sSeq (sSet 8 (dOp (rII (fun _ j => 0 < j) fun i j => .int (i % j)) (dCB rInt (dCons (dOp (rII CMulA fun i j => .int (i * j)) (dVar 2) (dVar 6)) dNil)) (dVar 1)))
  (sSeq (sSet 9 (dTup (dCons (dCall sp_mark_of (dCons (dTup (dCons (dVar 1) (dCons (dVar 2) dNil))) (dCons (dVar 6) dNil))) (dCons (dCall sp_turned_mark (dCons (dTup (dCons (dVar 1) (dCons (dVar 2) dNil))) (dCons (dVar 6) dNil))) (dCons (dCall sp_turned_mark (dCons (dTup (dCons (dVar 1) (dCons (dVar 2) dNil))) (dCons (dVar 8) dNil))) (dCons (dCall sp_turned_mark (dCons (dTup (dCons (dVar 1) (dCons (dVar 2) dNil))) (dCons (dVar 7) dNil))) dNil))))))
  (sSeq (sIf (dNot (dTru (dCall sp_law_same (dCons (dVar 9) (dCons (dTup (dCons (dVar 7) (dCons (dVar 8) (dCons (dVar 7) (dCons (dVar 8) dNil))))) dNil))))) (sRet (dC (.bl false))) sNext)
  (sSeq (sSet 10 (dIf (dTest (dOp (rEq id) (dVar 5) (dC (.int 0)))) (dOp (rEq id) (dVar 7) (dC (.int 0))) (dOp (rEq id) (dOp (rII (fun _ j => 0 < j) fun i j => .int (i % j)) (dCB rInt (dCons (dVar 7) dNil)) (dVar 5)) (dC (.int 0)))))
  (sIf (dTest (dOp (rEq not) (dOp (rEq id) (dVar 8) (dVar 7)) (dVar 10))) (sRet (dC (.bl false))) sNext)))))))
  (sSeq (sSet 9 (dTup (dCons (dCall sp_half_of (dCons (dTup (dCons (dVar 1) (dCons (dVar 2) dNil))) dNil)) (dCons (dCall sp_is_turning (dCons (dTup (dCons (dVar 1) (dCons (dVar 2) dNil))) dNil)) (dCons (dCall sp_is_loud (dCons (dTup (dCons (dVar 1) (dCons (dVar 2) dNil))) dNil)) dNil)))))
  (sSeq (sIf (dNot (dTru (dCall sp_law_same (dCons (dVar 9) (dCons (dTup (dCons (dVar 5) (dCons (dOp (rEq id) (dOp (rII (fun _ j => 0 < j) fun i j => .int (i % j)) (dCB rInt (dCons (dOp rAdd (dVar 2) (dC (.int 1))) dNil)) (dVar 1)) (dC (.int 0))) (dCons (dOp (rEq id) (dOp (rII (fun _ j => 0 < j) fun i j => .int (i % j)) (dCB rInt (dCons (dOp (rI0 fun i j => .int (i - j)) (dVar 2) (dC (.int 1))) dNil)) (dVar 1)) (dC (.int 0))) dNil)))) dNil))))) (sRet (dC (.bl false))) sNext)
  (sSeq (sSet 11 (dCall sp_law_one (dCons (dVar 0) (dCons (dTup (dCons (dC (.int 1)) (dCons (dUn rNeg (dC (.int 1))) dNil))) dNil))))
  (sSeq (sSet 9 (dTup (dCons (dCall sp_mark_of (dCons (dTup (dCons (dC (.int 0)) (dCons (dVar 11) dNil))) (dCons (dVar 3) dNil))) (dCons (dCall sp_turned_mark (dCons (dTup (dCons (dC (.int 0)) (dCons (dVar 11) dNil))) (dCons (dVar 3) dNil))) (dCons (dCall sp_half_of (dCons (dTup (dCons (dC (.int 0)) (dCons (dVar 11) dNil))) dNil)) (dCons (dCall sp_is_turning (dCons (dTup (dCons (dC (.int 0)) (dCons (dVar 11) dNil))) dNil)) (dCons (dCall sp_is_loud (dCons (dTup (dCons (dC (.int 0)) (dCons (dVar 11) dNil))) dNil)) dNil)))))))
  (sRet (dCall sp_law_same (dCons (dVar 9) (dCons (dTup (dCons (dVar 3) (dCons (dOp (rII CMulA fun i j => .int (i * j)) (dVar 11) (dVar 3)) (dCons (dCB rInt (dCons (dOp (rEq id) (dVar 11) (dC (.int 1))) dNil)) (dCons (dOp (rEq id) (dVar 11) (dUn rNeg (dC (.int 1)))) (dCons (dOp (rEq id) (dVar 11) (dC (.int 1))) dNil)))))) dNil))))))))))))
@[reducible] def rd_law_parts : DTS :=
  (sSeq (sSet 3 (dCall sp_law_powers (dCons (dVar 1) dNil)))
  (sSeq (sIf (dNot (dTru (dCall sp_law_same (dCons (dCall sp_dial_parts (dCons (dTup (dCons (dVar 1) (dCons (dVar 2) dNil))) dNil)) (dCons (dCB rTupOf (dCons (dLc [7] (iSeq (dVar 3)) (gNm 7) dYes (dTup (dCons (dVar 7) (dCons (dOp (rII (fun _ j => 0 < j) fun i j => .int (i % j)) (dCB rInt (dCons (dVar 2) dNil)) (dVar 7)) dNil)))) dNil)) dNil))))) (sRet (dC (.bl false))) sNext)
  (sSeq (sSet 4 (dOp rAdd (dLc [5] (iRng2 (dC (.int 2)) (dOp rAdd (dCB (rI2 fun i j => if j < i then j else i) (dCons (dVar 1) (dCons (dC (.int 120)) dNil))) (dC (.int 1)))) (gNm 5) (dTest (dOp (rEq id) (dOp (rII (fun _ j => 0 < j) fun i j => .int (i % j)) (dCB rInt (dCons (dVar 1) dNil)) (dVar 5)) (dC (.int 0)))) (dVar 5)) (dLst (dCons (dVar 1) dNil))))
  (sSeq (sSet 5 (dCall sp_law_one (dCons (dVar 0) (dCons (dOp rAdd (dVar 4) (dVar 3)) dNil))))
  (sSeq (sSet 6 (dOp rAdd (dLc [7] (iRng2 (dC (.int 2)) (dOp rAdd (dCB (rI2 fun i j => if j < i then j else i) (dCons (dVar 5) (dCons (dC (.int 120)) dNil))) (dC (.int 1)))) (gNm 7) (dTest (dOp (rEq id) (dOp (rII (fun _ j => 0 < j) fun i j => .int (i % j)) (dCB rInt (dCons (dVar 5) dNil)) (dVar 7)) (dC (.int 0)))) (dVar 7)) (dLst (dCons (dVar 5) dNil))))
  (sSeq (sSet 7 (dCall sp_law_one (dCons (dVar 0) (dCons (dVar 6) dNil))))
  (sSeq (sSet 8 (dCall sp_coarser_dial (dCons (dTup (dCons (dVar 1) (dCons (dVar 2) dNil))) (dCons (dVar 5) dNil))))
  (sSeq (sIf (dNot (dTru (dCall sp_law_same (dCons (dTup (dCons (dVar 8) (dCons (dCall sp_coarser_dial (dCons (dTup (dCons (dVar 1) (dCons (dVar 2) dNil))) (dCons (dVar 1) dNil))) dNil))) (dCons (dTup (dCons (dTup (dCons (dVar 5) (dCons (dOp (rII (fun _ j => 0 < j) fun i j => .int (i % j)) (dCB rInt (dCons (dVar 2) dNil)) (dVar 5)) dNil))) (dCons (dTup (dCons (dVar 1) (dCons (dVar 2) dNil))) dNil))) dNil))))) (sRet (dC (.bl false))) sNext)
  (sSeq (sIf (dNot (dTru (dCall sp_law_same (dCons (dTup (dCons (dCall sp_coarser_dial (dCons (dTup (dCons (dVar 5) (dCons (dOp (rII (fun _ j => 0 < j) fun i j => .int (i % j)) (dCB rInt (dCons (dVar 2) dNil)) (dVar 5)) dNil))) (dCons (dVar 7) dNil))) (dCons (dCall sp_coarser_dial (dCons (dTup (dCons (dVar 1) (dCons (dVar 2) dNil))) (dCons (dVar 7) dNil))) dNil))) (dCons (dTup (dCons (dTup (dCons (dVar 7) (dCons (dOp (rII (fun _ j => 0 < j) fun i j => .int (i % j)) (dCB rInt (dCons (dVar 2) dNil)) (dVar 7)) dNil))) (dCons (dTup (dCons (dVar 7) (dCons (dOp (rII (fun _ j => 0 < j) fun i j => .int (i % j)) (dCB rInt (dCons (dVar 2) dNil)) (dVar 7)) dNil))) dNil))) dNil))))) (sRet (dC (.bl false))) sNext)
  (sSeq (sSet 9 (dOp (rII (fun _ j => 0 < j) fun i j => .int (i % j)) (dCB rInt (dCons (dOp (rII CDivA fun i j => .int (i / j)) (dVar 5) (dCall sp_law_gcd (dCons (dVar 5) (dCons (dOp (rI0 fun i j => .int (i - j)) (dOp (rII (fun _ j => 0 < j) fun i j => .int (i % j)) (dCB rInt (dCons (dVar 2) dNil)) (dVar 5)) (dC (.int 1))) dNil)))) dNil)) (dVar 5)))
  (sRet (dCall sp_law_same (dCons (dTup (dCons (dCall sp_half_of (dCons (dVar 8) dNil)) (dCons (dCall sp_check_dial (dCons (dVar 8) dNil)) (dCons (dCall sp_is_turning (dCons (dVar 8) dNil)) dNil)))) (dCons (dTup (dCons (dVar 9) (dCons (dC .non) (dCons (dOp (rEq id) (dOp (rII (fun _ j => 0 < j) fun i j => .int (i % j)) (dCB rInt (dCons (dOp rAdd (dVar 2) (dC (.int 1))) dNil)) (dVar 5)) (dC (.int 0))) dNil)))) dNil))))))))))))))
@[reducible] def rd_law_fields : DTS :=
  (sSeq (sSet 1 (dCall sp_law_one (dCons (dVar 0) (dCons (dTup (dCons (dC (.int 3)) (dCons (dC (.int 5)) (dCons (dC (.int 7)) (dCons (dC (.int 11)) (dCons (dC (.int 13)) dNil)))))) dNil))))
  (sSeq (sSet 2 (dOp (rI0 fun i j => .int (i - j)) (dOp (rII CMulA fun i j => .int (i * j)) (dVar 1) (dVar 1)) (dC (.int 1))))
  (sSeq (sSet 3 (dCall sp_law_one (dCons (dVar 0) (dCons (dTup (dCons (dC (.int 2)) (dCons (dC (.int 4)) (dCons (dC (.int 6)) (dCons (dC (.int 8)) (dCons (dC (.int 9)) (dCons (dC (.int 10)) (dCons (dC (.int 12)) (dCons (dC (.int 14)) (dCons (dC (.int 15)) (dCons (dC (.int 17)) (dCons (dC (.int 19)) (dCons (dC (.int 23)) (dCons (dC (.int 99)) dNil)))))))))))))) dNil))))
  (sSeq (sSet 4 (dLst (dCons (dTup (dCons (dTup (dCons (dVar 2) (dCons (dVar 1) dNil))) (dCons (dVar 1) dNil))) (dCons (dTup (dCons (dTup (dCons (dVar 2) (dCons (dOp (rI0 fun i j => .int (i - j)) (dVar 2) (dVar 1)) dNil))) (dCons (dC .non) dNil))) (dCons (dTup (dCons (dTup (dCons (dVar 2) (dCons (dC (.int 1)) dNil))) (dCons (dC .non) dNil))) (dCons (dTup (dCons (dTup (dCons (dVar 2) (dCons (dOp (rI0 fun i j => .int (i - j)) (dVar 2) (dC (.int 1))) dNil))) (dCons (dC .non) dNil))) (dCons (dTup (dCons (dTup (dCons (dOp (rI0 fun i j => .int (i - j)) (dOp (rII CMulA fun i j => .int (i * j)) (dVar 3) (dVar 3)) (dC (.int 1))) (dCons (dVar 3) dNil))) (dCons (dC .non) dNil))) dNil)))))))
  (sSeq (sExpr (dLM rAppend (dVar 4) (dCons (dTup (dCons (dTup (dCons (dC (.int 0)) (dCons (dCall sp_law_one (dCons (dVar 0) (dCons (dTup (dCons (dC (.int 1)) (dCons (dUn rNeg (dC (.int 1))) dNil))) dNil))) dNil))) (dCons (dC .non) dNil))) dNil)))
  (sSeq (sSet 4 (dLc [5, 6] (iSeq (dVar 4)) (gTp 2 (gsCons (gNm 5) (gsCons (gNm 6) gsNil))) (dOr (dTest (dOp (rEq not) (dOp rIx (dVar 5) (dC (.int 0))) (dC (.int 3)))) (dTest (dOp (rI0 fun i j => .bl (decide (i < j))) (dOp rIx (dVar 5) (dC (.int 1))) (dC (.int 3))))) (dTup (dCons (dVar 5) (dCons (dVar 6) dNil)))))
  (sRet (dOp (rEq id) (dCB rLen (dCons (dLc [5, 6] (iSeq (dVar 4)) (gTp 2 (gsCons (gNm 5) (gsCons (gNm 6) gsNil))) (dNot (dTru (dCall sp_law_same (dCons (dCall sp_field_prime (dCons (dVar 5) dNil)) (dCons (dVar 6) dNil))))) (dVar 5)) dNil)) (dC (.int 0))))))))))
@[reducible] def rd_law : DTS :=
  (sSeq (sSet 1 (dCall sp_law_kettle (dCons (dVar 0) dNil)))
  (sSeq (sSet 2 (dCall sp_law_size (dCons (dVar 1) dNil)))
  (sSeq (sSet 3 (dLc [5] (iRng2 (dC (.int 1)) (dVar 2)) (gNm 5) (dTest (dOp (rEq id) (dOp (rII (fun _ j => 0 < j) fun i j => .int (i % j)) (dCB rInt (dCons (dOp (rI0 fun i j => .int (i - j)) (dOp (rII CMulA fun i j => .int (i * j)) (dVar 5) (dVar 5)) (dC (.int 1))) dNil)) (dVar 2)) (dC (.int 0)))) (dVar 5)))
  (sSeq (sIf (dOr (dNot (dTru (dCall sp_law_checked (dCons (dVar 1) (dCons (dVar 2) (dCons (dVar 3) dNil)))))) (dNot (dTru (dCall sp_law_fields (dCons (dVar 1) dNil))))) (sRet (dC (.bl false))) sNext)
  (sSeq (sSet 4 (dOp rAdd (dSl (dCall sp_law_mixed (dCons (dVar 1) (dCons (dVar 3) dNil))) dNoPart (dPart (dC (.int 7)))) (dLst (dCons (dC (.int 1)) (dCons (dOp (rI0 fun i j => .int (i - j)) (dVar 2) (dC (.int 1))) dNil)))))
  (sSeq (sFor (iSeq (dVar 4)) (gNm 5) (sSeq (sIf (dOr (dNot (dTru (dCall sp_law_marks (dCons (dVar 1) (dCons (dVar 2) (dCons (dVar 5) dNil)))))) (dNot (dTru (dCall sp_law_parts (dCons (dVar 1) (dCons (dVar 2) (dCons (dVar 5) dNil))))))) (sRet (dC (.bl false))) sNext)
  (sSeq (sSet 6 (dLc [7] (iSeq (dTup (dCons (dC (.int 3)) (dCons (dC (.int 5)) (dCons (dC (.int 7)) (dCons (dC (.int 11)) (dCons (dC (.int 13)) dNil))))))) (gNm 7) (dTest (dOp (rEq id) (dTup (dCons (dVar 2) (dCons (dVar 5) dNil))) (dTup (dCons (dOp (rI0 fun i j => .int (i - j)) (dOp (rII CMulA fun i j => .int (i * j)) (dVar 7) (dVar 7)) (dC (.int 1))) (dCons (dVar 7) dNil))))) (dVar 7)))
  (sIf (dNot (dTru (dCall sp_law_same (dCons (dCall sp_field_prime (dCons (dTup (dCons (dVar 2) (dCons (dVar 5) dNil))) dNil)) (dCons (dIf (dTest (dOp (rI0 fun i j => .bl (decide (j < i))) (dCB rLen (dCons (dVar 6) dNil)) (dC (.int 0)))) (dOp rIx (dVar 6) (dC (.int 0))) (dC .non)) dNil))))) (sRet (dC (.bl false))) sNext))))
  (sRet (dC (.bl true)))))))))
end K01
namespace K01
open PySem PySem.Spec PyProof.Rows L2 G
-- own words: w: the head of the reading is computed; go: steps that need no thought
local macro_rules | `(tactic| walk_at "K01V1 w") => `(tactic| with_reducible (conv => whnf))
local macro_rules | `(tactic| walk_at "K01V1 hs") => `(tactic| (simp only [id_eq, decide_eq_true_eq, decide_eq_false_iff_not, Bool.not_eq_true', Bool.not_eq_false', Bool.not_true, Bool.not_false, Bool.false_eq_true, Bool.true_eq_false, Bool.and_eq_true, Bool.or_eq_true, not_false_eq_true, reduceCtorEq, bne_iff_ne, ne_eq, beq_iff_eq] at *))
local macro_rules | `(tactic| walk_at "K01V1 side") => `(tactic| first | rfl | assumption | omega | (exact CMulA.l (by omega) (by omega)) | (exact CMulA.r (by omega) (by omega)) | (exact CDivA.s (by omega) (by omega)) | fail)
local macro_rules | `(tactic| walk_at "K01V1 go1") => `(tactic| (with_reducible (conv => whnf)); first
  | (refine ⟨fun h => Bool.noConfusion (show false = true from h), fun _ => ?_⟩)
  | (refine ⟨fun _ => ?_, fun h => Bool.noConfusion (show true = false from h)⟩)
  | (refine ⟨fun hb => ?_, fun hb => ?_⟩ <;> (try (simp only [id_eq, decide_eq_true_eq, decide_eq_false_iff_not, Bool.not_eq_true', Bool.not_eq_false', Bool.not_true, Bool.not_false, Bool.false_eq_true, Bool.true_eq_false, Bool.and_eq_true, Bool.or_eq_true, not_false_eq_true, reduceCtorEq, bne_iff_ne, ne_eq, beq_iff_eq] at hb)))
  | (refine ⟨true, by decide +kernel, ?_⟩)
  | (refine ⟨false, by decide +kernel, ?_⟩)
  | (refine ⟨_, rfl, ?_⟩)
  | (refine ⟨_, ?s, ?_⟩; (case s => assumption))
  | (refine And.intro ?s ?_; (case s => walk_at "K01V1 side"))
  | fail)
local macro_rules | `(tactic| walk_at "K01V1 go") => `(tactic| repeat' walk_at "K01V1 go1")
theorem vc_is_integer : ∀ ds L Q Ed, sp_is_integer ds L Q Ed → rd_is_integer (endD Q) (stD 1 ds) L := by
  intro ds L Q Ed h
  match ds, h with
  | [x], ⟨hx, hq⟩ =>
    cases x with
    | v u => cases u with
      | ref p =>
        obtain ⟨⟨xs, hL⟩, _⟩ := hx
        walk_at "K01V1 w"
        exact ⟨⟨xs, hL⟩, false, by decide +kernel, fun h => Bool.noConfusion h, fun _ => gret hq (.refl _) rfl⟩
      | _ => exact hx.elim
    | int i =>
      walk_at "K01V1 w"
      refine ⟨true, by decide +kernel, fun _ => ?_, fun h => Bool.noConfusion h⟩
      walk_at "K01V1 w"
      exact ⟨false, by decide +kernel, gret hq (.refl _) rfl⟩
    | bl i =>
      walk_at "K01V1 w"
      refine ⟨true, by decide +kernel, fun _ => ?_, fun h => Bool.noConfusion h⟩
      walk_at "K01V1 w"
      exact ⟨true, by decide +kernel, gret hq (.refl _) rfl⟩
    | _ =>
      walk_at "K01V1 w"
      exact ⟨false, by decide +kernel, fun h => Bool.noConfusion h, fun _ => gret hq (.refl _) rfl⟩
theorem vc_rest_of : ∀ ds L Q Ed, sp_rest_of ds L Q Ed → rd_rest_of (endD Q) (stD 2 ds) L := by
  intro ds L Q Ed h
  match ds, h with
  | [.int i, .int m], ⟨hm, hq⟩ =>
    walk_at "K01V1 go"
    · exact gret hq (.refl _) (by unfold restZ; rw [if_pos (by assumption)])
    · exact gret hq (.refl _) (by unfold restZ; rw [if_neg (by assumption)])
theorem vc_divides : ∀ ds L Q Ed, sp_divides ds L Q Ed → rd_divides (endD Q) (stD 2 ds) L := by
  intro ds L Q Ed h
  match ds, h with
  | [.int i, .int m], ⟨hm, hq⟩ =>
    walk_at "K01V1 go"
    · exact gret hq (.refl _) (by unfold divZ; rw [if_pos (by assumption)]; rfl)
    · exact gret hq (.refl _) (by unfold divZ; rw [if_neg (by assumption)]; rfl)
theorem vc_mark_of : ∀ ds L Q Ed, sp_mark_of ds L Q Ed → rd_mark_of (endD Q) (stD 2 ds) L := by
  intro ds L Q Ed h
  match ds, h with
  | [.tup [.int n, .int k], .int i], ⟨hn, hq⟩ =>
    walk_at "K01V1 go"
    exact gret hq (.refl _) rfl
theorem vc_turned_mark : ∀ ds L Q Ed, sp_turned_mark ds L Q Ed → rd_turned_mark (endD Q) (stD 2 ds) L := by
  intro ds L Q Ed h
  match ds, h with
  | [.tup [.int n, .int k], .int i], ⟨hn, hk, hq⟩ =>
    walk_at "K01V1 go"
    exact gret hq (.refl _) rfl
theorem vc_is_turning : ∀ ds L Q Ed, sp_is_turning ds L Q Ed → rd_is_turning (endD Q) (stD 1 ds) L := by
  intro ds L Q Ed h
  match ds, h with
  | [.tup [.int n, .int k]], ⟨hn, hq⟩ =>
    walk_at "K01V1 go"
    exact gret hq (.refl _) rfl
theorem vc_is_loud : ∀ ds L Q Ed, sp_is_loud ds L Q Ed → rd_is_loud (endD Q) (stD 1 ds) L := by
  intro ds L Q Ed h
  match ds, h with
  | [.tup [.int n, .int k]], ⟨hn, hq⟩ =>
    walk_at "K01V1 go"
    exact gret hq (.refl _) rfl
theorem vc_coarser_dial : ∀ ds L Q Ed, sp_coarser_dial ds L Q Ed → rd_coarser_dial (endD Q) (stD 2 ds) L := by
  intro ds L Q Ed h
  match ds, h with
  | [.tup [.int n, .int k], .int m], ⟨hn, hq⟩ =>
    walk_at "K01V1 go"
    exact gret hq (.refl _) rfl
theorem vc_half_of : ∀ ds L Q Ed, sp_half_of ds L Q Ed → rd_half_of (endD Q) (stD 3 ds) L := by
  intro ds L Q Ed h
  match ds, h with
  | [.tup [.int n, .int k]], ⟨h0, h1, hq⟩ =>
    have hg : n ≠ 0 → (0 : Int) < ((Nat.gcd n.natAbs (k - 1).natAbs : Nat) : Int) ∧ ((Nat.gcd n.natAbs (k - 1).natAbs : Nat) : Int) < 1073741824 := fun hn => by
      have h2 : 0 < Nat.gcd n.natAbs (k - 1).natAbs := Nat.gcd_pos_of_pos_left _ (by omega)
      have h3 := Nat.le_of_dvd (by omega : 0 < n.natAbs) (Nat.gcd_dvd_left n.natAbs (k - 1).natAbs)
      omega
    walk_at "K01V1 go"
    · exact gret hq (.refl _) (by unfold halfZ; rw [if_pos (by assumption), if_pos (by assumption)])
    · exact gret hq (.refl _) (by unfold halfZ; rw [if_pos (by assumption), if_neg (by assumption)])
    · rename_i hn
      refine ⟨CDivA.s (hg hn).1 (hg hn).2, ?_⟩
      walk_at "K01V1 go"
      exact gret hq (.refl _) (by unfold halfZ; rw [if_neg hn])
theorem eq_pair (a b c d : Int) : D.eq (.tup [.int a, .int b]) (.tup [.int c, .int d]) = (decide (a = c) && decide (b = d)) := by
  unfold D.eq
  simp [D.py, D.pys, PyData.eqv, PyData.eqvAll, Bool.beq_eq_decide_eq]
theorem ok_pair (a b : Int) : D.ok (.tup [.int a, .int b]) = true := rfl
theorem five {i : Nat} {d : D} (h : ([.int 3, .int 5, .int 7, .int 11, .int 13] : List D)[i]? = some d) : (i = 0 ∧ d = .int 3) ∨ (i = 1 ∧ d = .int 5) ∨ (i = 2 ∧ d = .int 7) ∨ (i = 3 ∧ d = .int 11) ∨ (i = 4 ∧ d = .int 13) := by
  match i, h with
  | 0, h => cases h; simp
  | 1, h => cases h; simp
  | 2, h => cases h; simp
  | 3, h => cases h; simp
  | 4, h => cases h; simp
  | n + 5, h => simp at h
structure FpI (n k : Int) (i : Nat) : Prop where
  h1 : 1 ≤ i → ¬ (n = 8 ∧ k = 3)
  h2 : 2 ≤ i → ¬ (n = 24 ∧ k = 5)
  h3 : 3 ≤ i → ¬ (n = 48 ∧ k = 7)
  h4 : 4 ≤ i → ¬ (n = 120 ∧ k = 11)
  h5 : 5 ≤ i → ¬ (n = 168 ∧ k = 13)
structure FpW (n k : Int) (L : LH) (i : Nat) (δ : SD) (L' : LH) : Prop where
  z : ∃ z, δ = [some (.tup [.int n, .int k]), z]
  l : L' = L
  f : FpI n k i
theorem vc_field_prime : ∀ ds L Q Ed, sp_field_prime ds L Q Ed → rd_field_prime (endD Q) (stD 2 ds) L := by
  intro ds L Q Ed h
  match ds, h with
  | [.tup [.int n, .int k]], hq =>
    have hq : Q (fieldZ n k) L := hq
    walk_at "K01V1 w"
    refine ⟨FpW n k L, ⟨⟨none, rfl⟩, rfl, ⟨by omega, by omega, by omega, by omega, by omega⟩⟩, fun _ _ _ _ _ => trivial, fun i d δ' L' hi hd hW => ?_, fun δ' L' hW => ?_⟩
    · obtain ⟨⟨z, rfl⟩, rfl, ⟨h1, h2, h3, h4, h5⟩⟩ := hW
      rcases five hd with ⟨rfl, rfl⟩ | ⟨rfl, rfl⟩ | ⟨rfl, rfl⟩ | ⟨rfl, rfl⟩ | ⟨rfl, rfl⟩
      all_goals
        walk_at "K01V1 go"
        all_goals rename_i hb; rw [eq_pair] at hb; simp at hb
        · exact gret hq (.refl _) (by obtain ⟨rfl, rfl⟩ := hb; rfl)
        · exact ⟨⟨_, rfl⟩, rfl, ⟨by omega, by omega, by omega, by omega, by omega⟩⟩
    · obtain ⟨⟨z, rfl⟩, rfl, ⟨h1, h2, h3, h4, h5⟩⟩ := hW
      walk_at "K01V1 go"
      exact gret hq (.refl _) (by unfold fieldZ; rw [if_neg (h1 (by decide)), if_neg (h2 (by decide)), if_neg (h3 (by decide)), if_neg (h4 (by decide)), if_neg (h5 (by decide))])
theorem ty_int {x : D} {L : LH} (h : tyOf x L fun _ => True) : (∃ i, x = .int i) ∨ isIntD x = false := by
  cases x with
  | int i => exact .inl ⟨i, rfl⟩
  | _ => exact .inr rfl
theorem fault_len {xs : List D} (h : xs.length ≠ 2) : faultD (.tup xs) = .str "shape" := by
  unfold faultD
  split
  · rename_i e; cases e; exact absurd rfl h
  · rfl
theorem fault_a {a b : D} (h : isIntD a = false) : faultD (.tup [a, b]) = .str "shape" := by
  unfold faultD
  split
  · rename_i e; cases e; cases h
  · rfl
theorem fault_b {a b : D} (h : isIntD b = false) : faultD (.tup [a, b]) = .str "shape" := by
  unfold faultD
  split
  · rename_i e; cases e; cases h
  · rfl
theorem vc_dial_fault : ∀ ds L Q Ed, sp_dial_fault ds L Q Ed → rd_dial_fault (endD Q) (stD 3 ds) L := by
  intro ds L Q Ed h
  match ds, h with
  | [x], ⟨hx, hq⟩ =>
    cases x with
    | tup xs =>
      match xs, hx, hq with
      | [a, b], hx, hq =>
        obtain ⟨ha, hb⟩ := hx
        walk_at "K01V1 w"
        refine ⟨true, by decide +kernel, ?_⟩
        walk_at "K01V1 go1"
        walk_at "K01V1 go1"
        walk_at "K01V1 go1"
        walk_at "K01V1 go1"
        rcases ty_int ha with ⟨n, rfl⟩ | na
        · walk_at "K01V1 w"
          refine ⟨fun z => Bool.noConfusion z, fun _ => ?_⟩
          walk_at "K01V1 w"
          refine ⟨hb, ?_⟩
          rcases ty_int hb with ⟨k, rfl⟩ | nb
          · have hq : Q (faultZ n k) L := hq
            walk_at "K01V1 go"
            all_goals exact gret hq (.refl _) (by unfold faultZ; first | (rw [if_pos (by omega)]) | (rw [if_neg (by omega), if_pos (by omega), if_pos (by omega)]) | (rw [if_neg (by omega), if_pos (by omega), if_neg (by omega)]) | (rw [if_neg (by omega), if_neg (by omega), if_pos (by first | (left; omega) | (right; assumption))]) | (rw [if_neg (by omega), if_neg (by omega), if_neg (by rename_i h1 h2; intro z; rcases z with z | z; (exact z (by omega)); (exact z h2))]))
          · rw [nb]
            walk_at "K01V1 go"
            exact gret hq (.refl _) (fault_b nb)
        · rw [na]
          walk_at "K01V1 go"
          exact gret hq (.refl _) (fault_a na)
      | [], hx, hq => walk_at "K01V1 go"; exact gret hq (.refl _) rfl
      | [a], hx, hq => walk_at "K01V1 go"; exact gret hq (.refl _) (fault_len (by simp))
      | a :: b :: c :: r, hx, hq =>
        walk_at "K01V1 w"
        refine ⟨true, by decide +kernel, ?_⟩
        walk_at "K01V1 go1"
        walk_at "K01V1 go1"
        · exact gret hq (.refl _) (fault_len (by simp))
    | v u => cases u with
      | ref p =>
        obtain ⟨⟨xs, hL⟩, _⟩ := hx
        walk_at "K01V1 w"
        refine ⟨⟨xs, hL⟩, false, by decide +kernel, ?_⟩
        walk_at "K01V1 go"
        exact gret hq (.refl _) rfl
      | _ => exact hx.elim
    | _ => walk_at "K01V1 go"; exact gret hq (.refl _) rfl
end K01
namespace K01
open PySem PySem.Spec PyProof.Rows L2 G
-- own words: w: the head of the reading is computed; go: steps that need no thought
local macro_rules | `(tactic| walk_at "K01V2 w") => `(tactic| with_reducible (conv => whnf))
local macro_rules | `(tactic| walk_at "K01V2 hs") => `(tactic| (simp only [id_eq, decide_eq_true_eq, decide_eq_false_iff_not, Bool.not_eq_true', Bool.not_eq_false', Bool.not_true, Bool.not_false, Bool.false_eq_true, Bool.true_eq_false, Bool.and_eq_true, Bool.or_eq_true, not_false_eq_true, reduceCtorEq, bne_iff_ne, ne_eq, beq_iff_eq] at *))
local macro_rules | `(tactic| walk_at "K01V2 side") => `(tactic| first | rfl | assumption | omega | (exact CMulA.l (by omega) (by omega)) | (exact CMulA.r (by omega) (by omega)) | (exact CDivA.s (by omega) (by omega)) | (exact ⟨_, ‹_›⟩) | (exact ⟨_, lup_same⟩) | (unfold sizeLine; simp; omega) | fail)
local macro_rules | `(tactic| walk_at "K01V2 go1") => `(tactic| (with_reducible (conv => whnf)); first
  | (refine ⟨fun h => Bool.noConfusion (show false = true from h), fun _ => ?_⟩)
  | (refine ⟨fun _ => ?_, fun h => Bool.noConfusion (show true = false from h)⟩)
  | (refine ⟨fun hb => ?_, fun hb => ?_⟩ <;> (try (simp only [id_eq, decide_eq_true_eq, decide_eq_false_iff_not, Bool.not_eq_true', Bool.not_eq_false', Bool.not_true, Bool.not_false, Bool.false_eq_true, Bool.true_eq_false, Bool.and_eq_true, Bool.or_eq_true, not_false_eq_true, reduceCtorEq, bne_iff_ne, ne_eq, beq_iff_eq] at hb)))
  | (refine ⟨true, by decide +kernel, ?_⟩)
  | (refine ⟨false, by decide +kernel, ?_⟩)
  | (refine ⟨_, rfl, ?_⟩)
  | (refine ⟨?x, (?s : _ = some _), ?r⟩; (case s => first | assumption | exact lup_same | fail))
  | (refine And.intro ?s ?_; (case s => walk_at "K01V2 side"))
  | fail)
local macro_rules | `(tactic| walk_at "K01V2 go") => `(tactic| ((repeat' walk_at "K01V2 go1") <;> (try walk_at "K01V2 w")))
theorem fault_word (x : D) : faultD x = .non ∨ ∃ w, faultD x = .str w := by
  unfold faultD
  split
  · unfold faultZ
    split
    · exact .inr ⟨_, rfl⟩
    · split
      · split
        · exact .inl rfl
        · exact .inr ⟨_, rfl⟩
      · split
        · exact .inr ⟨_, rfl⟩
        · exact .inl rfl
  · exact .inr ⟨_, rfl⟩
theorem vcX_check_dial (C : Addr) : ∀ ds L Q Ed, spX_check_dial C ds L Q Ed → rdX_check_dial C (endD Q) (fun C fs _ L' => ∃ L1, Les L1 L' ∧ Ed C fs L1) (stD 2 ds) L := by
  intro ds L Q Ed h
  match ds, h with
  | [x], ⟨hx, h1, h2⟩ =>
    walk_at "K01V2 w"
    refine ⟨hx, ?_⟩
    rcases fault_word x with e | ⟨w, e⟩
    · rw [e]
      walk_at "K01V2 go"
      exact gret (h1 e) (.refl _) rfl
    · rw [e]
      walk_at "K01V2 w"
      refine ⟨fun _ => ?_, fun z => Bool.noConfusion z⟩
      walk_at "K01V2 w"
      exact ⟨rfl, L, .refl _, h2 w e⟩
theorem dialOk_fault {n k : Int} (h : DialOk n k) : faultZ n k = .non := by
  unfold faultZ
  rcases h with ⟨rfl, h⟩ | ⟨h1, h2, h3, h4, h5⟩
  · rw [if_neg (by omega), if_pos rfl, if_pos h]
  · rw [if_neg (by omega), if_neg (by omega), if_neg]
    rintro (z | z)
    · exact z ⟨h3, h4⟩
    · exact z h5
theorem vc_check_dial : ∀ ds L Q Ed, sp_check_dial ds L Q Ed → rd_check_dial (endD Q) (stD 2 ds) L := by
  intro ds L Q Ed h
  match ds, h with
  | [.tup [.int n, .int k]], ⟨h, hq⟩ =>
    walk_at "K01V2 w"
    refine ⟨⟨trivial, trivial⟩, ?_⟩
    rw [show faultD (.tup [.int n, .int k]) = .non from dialOk_fault h]
    walk_at "K01V2 go"
    exact gret hq (.refl _) rfl
/-! ### prime_powers -/
/-- the pairs as data -/
@[reducible] def ppD (ps : List (Nat × Nat)) : List D := ps.map fun p => .tup [.int p.1, .int p.2]
structure PpW (n : Int) (p : Addr) (L : LH) (all : List (Nat × Nat)) (m : Nat) (δ : SD) (L' : LH) : Prop where
  s : ∃ (left prime : Nat) (ps : List (Nat × Nat)) (z : Option D), δ = [some (.int n), some (.v (.ref p)), some (.int left), some (.int prime), z] ∧ L' = lup L p (.lst (ppD ps)) ∧ 2 ≤ prime ∧ 1 ≤ left ∧ left ≤ 10000 ∧ ps.length + 1 ≤ prime ∧ m = 10002 - prime ∧ prime ≤ 101 ∧ ps ++ ppF left prime = all
structure DvW (n : Int) (p : Addr) (L' : LH) (left0 prime : Nat) (m : Nat) (δ : SD) (L2 : LH) : Prop where
  s : ∃ (left power : Nat), δ = [some (.int n), some (.v (.ref p)), some (.int left), some (.int prime), some (.int power)] ∧ L2 = L' ∧ 1 ≤ left ∧ left ≤ left0 ∧ m = left ∧ 1 ≤ power ∧ power * left ≤ left0 ∧ (divOut left0 prime).1 = (divOut left prime).1 ∧ (divOut left0 prime).2 = power * (divOut left prime).2
theorem vc_prime_powers : ∀ ds L Q Ed, sp_prime_powers ds L Q Ed → rd_prime_powers (endD Q) (stD 5 ds) L := by
  intro ds L Q Ed h
  match ds, h with
  | [.int n], ⟨h1, h2, hq⟩ =>
    walk_at "K01V2 w"
    intro p hp
    walk_at "K01V2 w"
    refine ⟨PpW n p L (ppF n.toNat 2), ⟨_, n.toNat, 2, [], none, by rw [Int.toNat_of_nonneg (by omega)]; rfl, rfl, by omega, by omega, by omega, by simp, rfl, by omega, rfl⟩, fun m δ L' hW => ?_⟩
    obtain ⟨left, prime, ps, z, rfl, rfl, a1, a2, a3, a4, rfl, a5, a6⟩ := hW.s
    walk_at "K01V2 w"
    refine ⟨CMulA.l (by omega) (by omega), ?_⟩
    walk_at "K01V2 w"
    refine ⟨fun hb => ?_, fun hb => ?_⟩
    · have hpp : prime * prime ≤ left := by have := of_decide_eq_true hb; exact_mod_cast this
      have hpl : prime ≤ 100 := by
        apply Decidable.byContradiction
        intro hc
        have := Nat.mul_le_mul (show 101 ≤ prime by omega) (show 101 ≤ prime by omega)
        omega
      have ea : ppF left prime = (if (divOut left prime).2 > 1 then [(prime, (divOut left prime).2)] else []) ++ ppF (divOut left prime).1 (prime + 1) := by
        rw [ppF, dif_pos ⟨hpp, a1⟩]
      walk_at "K01V2 w"
      refine ⟨DvW n p (lup L p (.lst (ppD ps))) left prime, ⟨left, left, 1, rfl, rfl, a2, Nat.le_refl _, rfl, Nat.le_refl _, by omega, rfl, (Nat.one_mul _).symm⟩, fun m δ L2 hW2 => ?_⟩
      obtain ⟨lf, pw, rfl, rfl, b1, b2, rfl, b3, b4, b5, b6⟩ := hW2.s
      walk_at "K01V2 w"
      refine ⟨by omega, ?_⟩
      walk_at "K01V2 w"
      refine ⟨fun hc => ?_, fun hc => ?_⟩
      · have hmod : m % prime = 0 := by have := of_decide_eq_true hc; exact_mod_cast this
        have e0 : divOut m prime = ((divOut (m / prime) prime).1, prime * (divOut (m / prime) prime).2) := by rw [divOut, dif_pos ⟨a1, b1, hmod⟩]
        have q1 : 1 ≤ m / prime := Nat.div_pos (Nat.le_of_dvd (by omega) (Nat.dvd_of_mod_eq_zero hmod)) (by omega)
        have q2 : m / prime < m := Nat.div_lt_self (by omega) (by omega)
        walk_at "K01V2 go"
        refine ⟨m / prime, q2, m / prime, pw * prime, by simp [put], rfl, q1, by omega, rfl, Nat.mul_pos (by omega) (by omega), ?_, by rw [b5, e0], by rw [b6, e0, Nat.mul_assoc]⟩
        rw [Nat.mul_assoc, Nat.mul_div_cancel' (Nat.dvd_of_mod_eq_zero hmod)]
        exact b4
      · have hmod : ¬ (m % prime = 0) := by have := of_decide_eq_false hc; exact_mod_cast this
        have e0 : divOut m prime = (m, 1) := by rw [divOut, dif_neg (fun z => hmod z.2.2)]
        rw [e0] at b5 b6
        walk_at "K01V2 go"
        · rename_i hg
          refine ⟨10001 - prime, by omega, m, prime + 1, ps ++ [(prime, pw)], some (.int pw), by simp [put], by rw [lup_lup, ppD, ppD, List.map_append]; rfl, by omega, b1, by omega, by simp; omega, by omega, by omega, ?_⟩
          rw [← a6, ea, b5, b6, if_pos (by omega)]
          simp
        · rename_i hg
          refine ⟨10001 - prime, by omega, m, prime + 1, ps, some (.int pw), by simp [put], rfl, by omega, b1, by omega, by omega, by omega, by omega, ?_⟩
          rw [← a6, ea, b5, b6, if_neg (by omega)]
          simp
    · have hpp : ¬ (prime * prime ≤ left ∧ 2 ≤ prime) := fun z => absurd z.1 (by have := of_decide_eq_false hb; exact_mod_cast this)
      have ea : ppF left prime = if left > 1 then [(left, left)] else [] := by rw [ppF, dif_neg hpp]
      walk_at "K01V2 go"
      · exact gret hq ((Les.own (.own (.refl _) hp) hp)) (by rw [← a6, ea, if_pos (by omega), List.map_append]; rfl)
      · exact gret hq (.own (.refl _) hp) (by rw [← a6, ea, if_neg (by omega), List.append_nil])
/-! ### dial_parts -/
theorem divOut_pos (left p : Nat) : 1 ≤ (divOut left p).2 := by
  induction left using Nat.strongRecOn with
  | ind left ih =>
    rw [divOut]
    split
    · rename_i h
      exact Nat.mul_pos (by omega) (ih _ (Nat.div_lt_self (by omega) (by omega)))
    · exact Nat.le_refl _
theorem ppF_facts : ∀ (k left p : Nat), left + 1 - p = k → (∀ q ∈ ppF left p, 1 < q.2) ∧ (ppF left p).length ≤ k + 1 := by
  intro k
  induction k using Nat.strongRecOn with
  | ind k ih =>
    intro left p e
    rw [ppF]
    split
    · rename_i h
      have h1 := divOut_le left p
      have h2 : p ≤ left := Nat.le_trans (Nat.le_mul_of_pos_left p (by omega)) h.1
      obtain ⟨i1, i2⟩ := ih ((divOut left p).1 + 1 - (p + 1)) (by omega) _ _ rfl
      constructor
      · intro q hq
        rcases List.mem_append.mp hq with hq | hq
        · split at hq
          · simp at hq; subst hq; assumption
          · simp at hq
        · exact i1 q hq
      · rw [List.length_append]
        split
        · simp; omega
        · simp; omega
    · split
      · constructor
        · intro q hq
          simp at hq; subst hq; assumption
        · simp
      · simp
/-- the first parts as a list, turned as they are met -/
structure DpW (n k : Int) (L : LH) (p : Addr) (all : List (Nat × Nat)) (i : Nat) (L' : LH) : Prop where
  l : L' = lup L p (.lst ((all.take i).map fun q => .tup [.int q.2, .int (k % q.2)]))
theorem vc_dial_parts : ∀ ds L Q Ed, sp_dial_parts ds L Q Ed → rd_dial_parts (endD Q) (stD 3 ds) L := by
  intro ds L Q Ed h
  match ds, h with
  | [.tup [.int n, .int k]], ⟨h1, h2, hq⟩ =>
    obtain ⟨f1, f2⟩ := ppF_facts _ n.toNat 2 rfl
    walk_at "K01V2 go"
    walk_at "K01V2 w"
    intro p hp
    refine ⟨DpW n k L p (ppF n.toNat 2), ⟨rfl⟩, fun _ _ _ _ => trivial, fun i d L' hi hd hW => ?_, fun L' hW => ?_⟩
    · obtain ⟨rfl⟩ := hW
      replace hd : (ppD (ppF n.toNat 2))[i]? = some d := hd
      rw [ppD, List.getElem?_map, Option.map_eq_some_iff] at hd
      obtain ⟨q, hq1, rfl⟩ := hd
      have hq2 := f1 q (List.mem_of_getElem? hq1)
      have hi2 : i < (ppF n.toNat 2).length := (List.getElem?_eq_some_iff.mp hq1).1
      walk_at "K01V2 go"
      refine ⟨?_⟩
      · rw [lup_lup, List.take_add_one, hq1, List.map_append, restZ, if_neg (by omega)]; rfl
    · have e : L' = lup L p (.lst (((ppl n).map fun (q : Nat) => (q : Int)).map fun z => .tup [.int z, .int (k % z)])) := by
        rw [hW.l]
        congr 2
        rw [ppl, List.map_map, List.map_map]
        simp only [seqIt, List.length_map, List.take_length]
        rfl
      subst e
      walk_at "K01V2 w"
      refine ⟨_, lup_same, sortOk_pairs _ (fun z => z) _, fun p' hp' => ?_⟩
      rw [sortD_key]
      walk_at "K01V2 go"
      exact gret hq (.new (.own (.refl _) hp) hp') rfl
/-! ### the law's own helpers -/
theorem pick_fin {a g : Addr} {L : LH} (k : Ket a g L) {s c : Int} {xs : List Int} : Ket a g (lup (lup L a (.lst [.int s, .int c, .v (.ref g)])) g (.lst (xs.map D.int))) ↔ xs.length ≤ 63 := by
  have hne := k.ne
  refine ⟨fun h => ?_, fun h => ⟨hne, s, c, xs, by rw [lup_ne hne, lup_same], lup_same, h⟩⟩
  obtain ⟨_, _, ys, _, e, hl⟩ := h.st
  rw [lup_same] at e
  have e1 : xs.map D.int = ys.map D.int := by injection e with e; injection e
  have e2 := congrArg List.length e1
  rw [List.length_map, List.length_map] at e2
  omega
end K01
namespace K01
open PySem PySem.Spec PyProof.Rows L2 G
-- own words: w: the head of the reading is computed; go: steps that need no thought
local macro_rules | `(tactic| walk_at "K01V3 w") => `(tactic| with_reducible (conv => whnf))
local macro_rules | `(tactic| walk_at "K01V3 hs") => `(tactic| (simp only [id_eq, decide_eq_true_eq, decide_eq_false_iff_not, Bool.not_eq_true', Bool.not_eq_false', Bool.not_true, Bool.not_false, Bool.false_eq_true, Bool.true_eq_false, Bool.and_eq_true, Bool.or_eq_true, not_false_eq_true, reduceCtorEq, bne_iff_ne, ne_eq, beq_iff_eq] at *))
local macro_rules | `(tactic| walk_at "K01V3 side") => `(tactic| first | assumption | rfl | omega | (exact CMulA.l (by omega) (by omega)) | (exact CMulA.r (by omega) (by omega)) | (exact CDivA.s (by omega) (by omega)) | (exact ⟨_, ‹_›⟩) | (exact ⟨_, lup_same⟩) | (unfold sizeLine; simp; omega) | fail)
local macro_rules | `(tactic| walk_at "K01V3 look") => `(tactic| first | assumption | exact lup_same | ((repeat rw [lup_ne (by first | assumption | exact Ne.symm (by assumption))]); first | assumption | exact lup_same) | fail)
local macro_rules | `(tactic| walk_at "K01V3 go1") => `(tactic| (with_reducible (conv => whnf)); first
  | (refine ⟨fun h => Bool.noConfusion (show false = true from h), fun _ => ?_⟩)
  | (refine ⟨fun _ => ?_, fun h => Bool.noConfusion (show true = false from h)⟩)
  | (refine ⟨fun hb => ?_, fun hb => ?_⟩ <;> (try (simp only [id_eq, decide_eq_true_eq, decide_eq_false_iff_not, Bool.not_eq_true', Bool.not_eq_false', Bool.not_true, Bool.not_false, Bool.false_eq_true, Bool.true_eq_false, Bool.and_eq_true, Bool.or_eq_true, not_false_eq_true, reduceCtorEq, bne_iff_ne, ne_eq, beq_iff_eq] at hb)))
  | (refine ⟨true, by decide +kernel, ?_⟩)
  | (refine ⟨false, by decide +kernel, ?_⟩)
  | (refine ⟨_, rfl, ?_⟩)
  | (refine Exists.intro ?x (And.intro (?s : _ = some _) ?r); (case s => walk_at "K01V3 look"))
  | (refine Exists.intro ?x (Exists.intro ?j (And.intro (?s : _ = some _) ?r)); (case s => walk_at "K01V3 look"))
  | (refine And.intro ?s ?_; (case s => walk_at "K01V3 side"))
  | fail)
local macro_rules | `(tactic| walk_at "K01V3 go") => `(tactic| ((repeat' walk_at "K01V3 go1") <;> (try walk_at "K01V3 w")))
theorem cut_mem {xs : List D} {l u : Option Int} {d : D} {i : Nat} (h : (G.cutD xs l u)[i]? = some d) : d ∈ xs := by
  have h1 := List.mem_of_getElem? h
  unfold G.cutD at h1
  exact List.mem_of_mem_drop (List.mem_of_mem_take h1)
theorem cut_len (xs : List D) (l u : Option Int) : (G.cutD xs l u).length ≤ xs.length := by
  unfold G.cutD
  rw [List.length_take, List.length_drop]
  omega
theorem atI_mem {xs : List D} {r : Int} (h0 : 0 ≤ r) (h1 : r < xs.length) : ∃ d, atI xs r = some d ∧ d ∈ xs := by
  refine ⟨xs[r.toNat]'(by omega), ?_, List.getElem_mem _⟩
  unfold atI ixN
  rw [if_pos h0, if_pos h1]
  exact List.getElem?_eq_getElem _
structure KtW (ns : List Int) (L : LH) (p q : Addr) (i : Nat) (δ : SD) (L' : LH) : Prop where
  s : ∃ (st : Int) (gs : List Int) (z1 z2 : Option D), δ = [some (.rol (ns.map D.int)), some (.int st), some (.v (.ref p)), z1, z2] ∧ Les L L' ∧ L' p = some (.lst (gs.map D.int)) ∧ L' q = some (.lst (cutD (ns.map D.int) none (some 63))) ∧ gs.length ≤ i ∧ 0 ≤ st ∧ st < 2147482937
theorem vc_law_kettle : ∀ ds L Q Ed, sp_law_kettle ds L Q Ed → rd_law_kettle (endD Q) (stD 5 ds) L := by
  intro ds L Q Ed h
  match ds, h with
  | [.rol xs], ⟨ns, e, hn, hq⟩ =>
    subst e
    walk_at "K01V3 w"
    intro p hp
    walk_at "K01V3 w"
    intro q hq'
    have hpq : p ≠ q := ne_free lup_same hq'
    have hcl := cut_len (ns.map D.int) none (some 63)
    rw [List.length_map] at hcl
    walk_at "K01V3 w"
    refine ⟨_, lup_same, ?_⟩
    refine ⟨KtW ns L p q, ⟨8513, [], none, none, rfl, .new (.own (.refl _) hp) hq', by rw [lup_ne hpq, lup_same]; rfl, lup_same, by simp, by omega, by omega⟩, fun i δ L' _ hW => by obtain ⟨st, gs, z1, z2, rfl, b0, b1, b2, b3⟩ := hW.s; exact b2, fun i d δ L' hi hd hW => ?_, fun δ L' hW => ?_⟩
    · obtain ⟨st, gs, z1, z2, rfl, b0, b1, b2, b3, b4, b5⟩ := hW.s
      have hi : i < (cutD (ns.map D.int) none (some 63)).length := hi
      obtain ⟨x, _, rfl⟩ := List.mem_map.mp (cut_mem hd)
      walk_at "K01V3 w"
      have hst : ∀ z : Int, 0 ≤ z % 2147482937 ∧ z % 2147482937 < 2147482937 := fun z => ⟨Int.emod_nonneg _ (by omega), Int.emod_lt_of_pos _ (by omega)⟩
      walk_at "K01V3 go"
      · exact ⟨⟨_, gs ++ [if x < 0 then -x else x], _, _, rfl, b0.own hp, by rw [lup_same, List.map_append]; rfl, by rw [lup_ne hpq.symm]; exact b2, by simp; omega, (hst _).1, (hst _).2⟩⟩
      · exact ⟨⟨_, gs, _, _, rfl, b0, b1, b2, by omega, (hst _).1, (hst _).2⟩⟩
    · obtain ⟨st, gs, z1, z2, rfl, b0, b1, b2, b3, b4, b5⟩ := hW.s
      replace b3 : gs.length ≤ (cutD (ns.map D.int) none (some 63)).length := b3
      walk_at "K01V3 w"
      refine ⟨⟨_, b1⟩, ?_⟩
      walk_at "K01V3 w"
      refine ⟨_, b1, ?_⟩
      walk_at "K01V3 w"
      intro a ha
      walk_at "K01V3 w"
      have hap : p ≠ a := ne_free lup_same ha
      exact gret (hq a p _ ((b0.own hp).free ha) hp (.new (b0.own hp) ha) ⟨hap.symm, st, 0, gs.reverse, lup_same, by rw [lup_ne hap, lup_same, List.map_reverse], by rw [List.length_reverse]; omega⟩) (.refl _) rfl
/-- the kettle as it stands -/
structure KS (a g : Addr) (L : LH) (s c : Int) (gs : List Int) (L' : LH) : Prop where
  e1 : L' a = some (.lst [.int s, .int c, .v (.ref g)])
  e2 : L' g = some (.lst (gs.map D.int))
  l : gs.length ≤ 63
  o : ∀ b, b ≠ a → b ≠ g → ∀ o, L b = some o → L' b = some o
theorem KS.kp {a g : Addr} {L L' : LH} {s c : Int} {gs : List Int} (k : Ket a g L) (h : KS a g L s c gs L') : Kp a g L L' := ⟨k, ⟨k.ne, s, c, gs, h.e1, h.e2, h.l⟩, h.o⟩
theorem KS.upA {a g : Addr} {L L' : LH} {s c s' c' : Int} {gs : List Int} (k : Ket a g L) (h : KS a g L s c gs L') : KS a g L s' c' gs (lup L' a (.lst [.int s', .int c', .v (.ref g)])) := ⟨lup_same, by rw [lup_ne k.ne.symm]; exact h.e2, h.l, fun b x y o e => by rw [lup_ne x]; exact h.o b x y o e⟩
theorem KS.upG {a g : Addr} {L L' : LH} {s c : Int} {gs gs' : List Int} (k : Ket a g L) (h : KS a g L s c gs L') (l : gs'.length ≤ 63) : KS a g L s c gs' (lup L' g (.lst (gs'.map D.int))) := ⟨by rw [lup_ne k.ne]; exact h.e1, lup_same, l, fun b x y o e => by rw [lup_ne y]; exact h.o b x y o e⟩
theorem Ket.ks {a g : Addr} {L : LH} (k : Ket a g L) : ∃ s c gs, KS a g L s c gs L := by
  obtain ⟨s, c, gs, h1, h2, h3⟩ := k.st
  exact ⟨s, c, gs, h1, h2, h3, fun _ _ _ _ h => h⟩
structure PkW (a g : Addr) (L : LH) (m : Int) (n : Nat) (δ : SD) (L' : LH) : Prop where
  s : ∃ (s c : Int) (gs : List Int), δ = [some (.v (.ref a)), some (.int m), none] ∧ KS a g L s c gs L' ∧ n = gs.length
theorem last_at {gs : List Int} (h : gs ≠ []) : atI (gs.map D.int) (-1) = some (.int (gs.getLast h)) := by
  have hl : 0 < gs.length := List.length_pos_iff.mpr h
  unfold atI ixN
  rw [if_neg (by omega), List.length_map, if_pos (by omega)]
  show (gs.map D.int)[_]? = _
  rw [List.getElem?_map, show ((-1 : Int) + (gs.length : Int)).toNat = gs.length - 1 by omega, List.getLast_eq_getElem, List.getElem?_eq_getElem (by omega)]
  rfl
theorem last_get {gs : List Int} (h : gs ≠ []) : (gs.map D.int)[(gs.map D.int).length - 1]? = some (.int (gs.getLast h)) := by
  have hl : 0 < gs.length := List.length_pos_iff.mpr h
  rw [List.length_map, List.getElem?_map, List.getLast_eq_getElem, List.getElem?_eq_getElem (by omega)]
  rfl
theorem vc_law_pick : ∀ ds L Q Ed, sp_law_pick ds L Q Ed → rd_law_pick (endD Q) (stD 3 ds) L := by
  intro ds L Q Ed h
  match ds, h with
  | [.v (.ref a), .int m], ⟨g, hk, hm, hm2, hq⟩ =>
    obtain ⟨s, c, gs, k0⟩ := hk.ks
    have e1 := k0.e1
    walk_at "K01V3 go"
    refine ⟨PkW a g L m, ⟨_, s, c + 1, gs, rfl, k0.upA hk, rfl⟩, fun n δ L' hW => ?_⟩
    obtain ⟨s, c, gs, rfl, k1, rfl⟩ := hW.s
    have e1 := k1.e1
    have e2 := k1.e2
    have hl := k1.l
    have hne := hk.ne
    have hme : ∀ z : Int, 0 ≤ z % m ∧ z % m < m := fun z => ⟨Int.emod_nonneg _ (by omega), Int.emod_lt_of_pos _ hm⟩
    by_cases hg : gs = []
    · subst hg
      walk_at "K01V3 go"
      exact gret (hq _ _ (hme _).1 (hme _).2 ((k1.upA hk).kp hk)) (.refl _) rfl
    · have e3 := last_at hg
      have e4 := last_get hg
      have hl0 : 0 < gs.length := List.length_pos_iff.mpr hg
      have hl1 : (0 : Int) < ((gs.map D.int).length : Int) := by rw [List.length_map]; omega
      have ed : (gs.map D.int).dropLast = gs.dropLast.map D.int := (List.map_dropLast ..).symm
      walk_at "K01V3 go"
      all_goals (try (exact absurd hl1 ‹_›))
      · rw [ed]
        exact ⟨gs.dropLast.length, by rw [List.length_dropLast]; omega, _, c, gs.dropLast, rfl, k1.upG hk (by rw [List.length_dropLast]; omega), rfl⟩
      · refine gret (hq _ _ (hme _).1 (hme _).2 ((k1.upG hk (gs' := gs.dropLast ++ [gs.getLast hg / m]) (by rw [List.length_append, List.length_dropLast]; simp; omega)).kp hk)) ?_ rfl
        rw [ed, lup_lup, List.map_append]
        exact .refl _
theorem vc_law_one : ∀ ds L Q Ed, sp_law_one ds L Q Ed → rd_law_one (endD Q) (stD 2 ds) L := by
  intro ds L Q Ed h
  match ds, h with
  | [.v (.ref a), row], ⟨g, hk, ho, h⟩ =>
    have core : ∀ xs : List D, xs ≠ [] → 0 < (xs.length : Int) := fun xs h => by have := List.length_pos_iff.mpr h; omega
    match row, ho, h with
    | .tup xs, ho, ⟨h1, h2, hq⟩ =>
      have h3 := core xs h1
      have h4 : (xs.length : Int) < 1073741824 := by omega
      walk_at "K01V3 w"
      refine ⟨g, hk, h3, h4, fun r L' hr0 hr1 hL => ?_⟩
      obtain ⟨d, hd, hm⟩ := atI_mem hr0 hr1
      walk_at "K01V3 go"
      exact gret (hq d L' hm hL) (.refl _) rfl
    | .rol xs, ho, ⟨h1, h2, hq⟩ =>
      have h3 := core xs h1
      have h4 : (xs.length : Int) < 1073741824 := by omega
      walk_at "K01V3 w"
      refine ⟨g, hk, h3, h4, fun r L' hr0 hr1 hL => ?_⟩
      obtain ⟨d, hd, hm⟩ := atI_mem hr0 hr1
      walk_at "K01V3 go"
      exact gret (hq d L' hm hL) (.refl _) rfl
    | .v (.ref p), ⟨n1, n2⟩, ⟨xs, hx, h1, h2, hq⟩ =>
      have h3 := core xs h1
      have h4 : (xs.length : Int) < 1073741824 := by omega
      walk_at "K01V3 w"
      refine ⟨_, hx, g, hk, h3, h4, fun r L' hr0 hr1 hL => ?_⟩
      obtain ⟨d, hd, hm⟩ := atI_mem hr0 hr1
      have hx' := hL.o p n1 n2 _ hx
      walk_at "K01V3 go"
      exact gret (hq d L' hm hL) (.refl _) rfl
structure MxW (a g : Addr) (L : LH) (p0 p1 : Addr) (xs : List D) (i : Nat) (L' : LH) : Prop where
  k : Kp a g L L'
  s : ∃ us ys, L' p0 = some (.lst us) ∧ L' p1 = some (.lst ys) ∧ us.length + i = xs.length ∧ ys.length = i ∧ (∀ u ∈ us, u ∈ xs) ∧ ∀ y ∈ ys, y ∈ xs
theorem vc_law_mixed : ∀ ds L Q Ed, sp_law_mixed ds L Q Ed → rd_law_mixed (endD Q) (stD 4 ds) L := by
  intro ds L Q Ed h
  match ds, h with
  | [.v (.ref a), row], ⟨g, hk, ho, h⟩ =>
    match row, ho, h with
    | .tup xs, ho, ⟨h2, hq⟩ =>
      walk_at "K01V3 w"
      intro p0 hp0
      walk_at "K01V3 w"
      have hlx : -(2 ^ 62) ≤ (xs.length : Int) ∧ (xs.length : Int) < 2 ^ 62 := by omega
      refine ⟨hlx, ?_⟩
      walk_at "K01V3 w"
      intro p1 hp1
      obtain ⟨na0, ng0⟩ := hk.na hp0
      have n01 : p0 ≠ p1 := ne_free lup_same hp1
      have hp1' : L p1 = none := by rw [lup_ne n01.symm] at hp1; exact hp1
      obtain ⟨na1, ng1⟩ := hk.na hp1'
      refine ⟨MxW a g L p0 p1 xs, ⟨(Kp.new (.own (.refl hk) hp0 _) hp1 _), xs, [], by rw [lup_ne n01, lup_same], lup_same, rfl, rfl, fun u h => h, fun y h => by simp at h⟩, fun _ _ _ _ => trivial, fun i d L' hi hd hW => ?_, fun L' hW => ?_⟩
      · obtain ⟨kp, us, ys, m1, m2, m3, m4, m5, m6⟩ := hW
        replace hi : i < (xs.length : Int).toNat := hi
        have hl1 : (0 : Int) < (us.length : Int) := by omega
        have hl2 : (us.length : Int) < 1073741824 := by omega
        walk_at "K01V3 w"
        refine ⟨fun _ => ?_, fun z => Bool.noConfusion z⟩
        walk_at "K01V3 w"
        refine ⟨⟨_, m1⟩, _, m1, g, kp.k, hl1, hl2, fun r L2 hr0 hr1 k2 => ?_⟩
        have m1' := k2.o p0 na0 ng0 _ m1
        have m2' := k2.o p1 na1 ng1 _ m2
        obtain ⟨d', hd', hdm⟩ := atI_mem hr0 hr1
        have hr3 : r.toNat < us.length := by omega
        have hr2 : ixN us.length r = some r.toNat := by unfold ixN; rw [if_pos hr0, if_pos hr1]
        have hr4 : us[r.toNat]? = some d' := by rw [← hd']; unfold atI; rw [hr2]; rfl
        have hr5 : -(2 ^ 62) ≤ r ∧ r < 2 ^ 62 := by omega
        walk_at "K01V3 w"
        refine ⟨us, d', r.toNat, m1', hr5, hr2, hr4, ?_⟩
        walk_at "K01V3 w"
        refine ⟨ys, by rw [lup_ne n01.symm]; exact m2', by unfold sizeLine; omega, ⟨((kp.trans k2).own hp0 _).own hp1' _, us.eraseIdx r.toNat, ys ++ [d'], by rw [lup_ne n01, lup_same], lup_same, by rw [List.length_eraseIdx, if_pos hr3]; omega, by simp; omega, fun u hu => m5 u (List.mem_of_mem_eraseIdx hu), fun y hy => ?_⟩⟩
        rcases List.mem_append.mp hy with hy | hy
        · exact m6 y hy
        · simp at hy; subst hy; exact m5 y hdm
      · obtain ⟨kp, us, ys, m1, m2, m3, m4, m5, m6⟩ := hW
        exact gret (hq ys p1 L' m6 hp1' kp m2) (.refl _) rfl
    | .rol xs, ho, ⟨h2, hq⟩ =>
      walk_at "K01V3 w"
      intro p0 hp0
      walk_at "K01V3 w"
      have hlx : -(2 ^ 62) ≤ (xs.length : Int) ∧ (xs.length : Int) < 2 ^ 62 := by omega
      refine ⟨hlx, ?_⟩
      walk_at "K01V3 w"
      intro p1 hp1
      obtain ⟨na0, ng0⟩ := hk.na hp0
      have n01 : p0 ≠ p1 := ne_free lup_same hp1
      have hp1' : L p1 = none := by rw [lup_ne n01.symm] at hp1; exact hp1
      obtain ⟨na1, ng1⟩ := hk.na hp1'
      refine ⟨MxW a g L p0 p1 xs, ⟨(Kp.new (.own (.refl hk) hp0 _) hp1 _), xs, [], by rw [lup_ne n01, lup_same], lup_same, rfl, rfl, fun u h => h, fun y h => by simp at h⟩, fun _ _ _ _ => trivial, fun i d L' hi hd hW => ?_, fun L' hW => ?_⟩
      · obtain ⟨kp, us, ys, m1, m2, m3, m4, m5, m6⟩ := hW
        replace hi : i < (xs.length : Int).toNat := hi
        have hl1 : (0 : Int) < (us.length : Int) := by omega
        have hl2 : (us.length : Int) < 1073741824 := by omega
        walk_at "K01V3 w"
        refine ⟨fun _ => ?_, fun z => Bool.noConfusion z⟩
        walk_at "K01V3 w"
        refine ⟨⟨_, m1⟩, _, m1, g, kp.k, hl1, hl2, fun r L2 hr0 hr1 k2 => ?_⟩
        have m1' := k2.o p0 na0 ng0 _ m1
        have m2' := k2.o p1 na1 ng1 _ m2
        obtain ⟨d', hd', hdm⟩ := atI_mem hr0 hr1
        have hr3 : r.toNat < us.length := by omega
        have hr2 : ixN us.length r = some r.toNat := by unfold ixN; rw [if_pos hr0, if_pos hr1]
        have hr4 : us[r.toNat]? = some d' := by rw [← hd']; unfold atI; rw [hr2]; rfl
        have hr5 : -(2 ^ 62) ≤ r ∧ r < 2 ^ 62 := by omega
        walk_at "K01V3 w"
        refine ⟨us, d', r.toNat, m1', hr5, hr2, hr4, ?_⟩
        walk_at "K01V3 w"
        refine ⟨ys, by rw [lup_ne n01.symm]; exact m2', by unfold sizeLine; omega, ⟨((kp.trans k2).own hp0 _).own hp1' _, us.eraseIdx r.toNat, ys ++ [d'], by rw [lup_ne n01, lup_same], lup_same, by rw [List.length_eraseIdx, if_pos hr3]; omega, by simp; omega, fun u hu => m5 u (List.mem_of_mem_eraseIdx hu), fun y hy => ?_⟩⟩
        rcases List.mem_append.mp hy with hy | hy
        · exact m6 y hy
        · simp at hy; subst hy; exact m5 y hdm
      · obtain ⟨kp, us, ys, m1, m2, m3, m4, m5, m6⟩ := hW
        exact gret (hq ys p1 L' m6 hp1' kp m2) (.refl _) rfl
    | .v (.ref p), ⟨n1, n2⟩, ⟨xs, hx, h2, hq⟩ =>
      walk_at "K01V3 w"
      refine ⟨xs, hx, ?_⟩
      walk_at "K01V3 w"
      intro p0 hp0
      walk_at "K01V3 w"
      have hlx : -(2 ^ 62) ≤ (xs.length : Int) ∧ (xs.length : Int) < 2 ^ 62 := by omega
      have hxp : p ≠ p0 := ne_free hx hp0
      refine ⟨xs, by rw [lup_ne hxp]; exact hx, ?_⟩
      walk_at "K01V3 w"
      refine ⟨hlx, ?_⟩
      walk_at "K01V3 w"
      intro p1 hp1
      obtain ⟨na0, ng0⟩ := hk.na hp0
      have n01 : p0 ≠ p1 := ne_free lup_same hp1
      have hp1' : L p1 = none := by rw [lup_ne n01.symm] at hp1; exact hp1
      obtain ⟨na1, ng1⟩ := hk.na hp1'
      refine ⟨MxW a g L p0 p1 xs, ⟨(Kp.new (.own (.refl hk) hp0 _) hp1 _), xs, [], by rw [lup_ne n01, lup_same], lup_same, rfl, rfl, fun u h => h, fun y h => by simp at h⟩, fun _ _ _ _ => trivial, fun i d L' hi hd hW => ?_, fun L' hW => ?_⟩
      · obtain ⟨kp, us, ys, m1, m2, m3, m4, m5, m6⟩ := hW
        replace hi : i < (xs.length : Int).toNat := hi
        have hl1 : (0 : Int) < (us.length : Int) := by omega
        have hl2 : (us.length : Int) < 1073741824 := by omega
        walk_at "K01V3 w"
        refine ⟨fun _ => ?_, fun z => Bool.noConfusion z⟩
        walk_at "K01V3 w"
        refine ⟨⟨_, m1⟩, _, m1, g, kp.k, hl1, hl2, fun r L2 hr0 hr1 k2 => ?_⟩
        have m1' := k2.o p0 na0 ng0 _ m1
        have m2' := k2.o p1 na1 ng1 _ m2
        obtain ⟨d', hd', hdm⟩ := atI_mem hr0 hr1
        have hr3 : r.toNat < us.length := by omega
        have hr2 : ixN us.length r = some r.toNat := by unfold ixN; rw [if_pos hr0, if_pos hr1]
        have hr4 : us[r.toNat]? = some d' := by rw [← hd']; unfold atI; rw [hr2]; rfl
        have hr5 : -(2 ^ 62) ≤ r ∧ r < 2 ^ 62 := by omega
        walk_at "K01V3 w"
        refine ⟨us, d', r.toNat, m1', hr5, hr2, hr4, ?_⟩
        walk_at "K01V3 w"
        refine ⟨ys, by rw [lup_ne n01.symm]; exact m2', by unfold sizeLine; omega, ⟨((kp.trans k2).own hp0 _).own hp1' _, us.eraseIdx r.toNat, ys ++ [d'], by rw [lup_ne n01, lup_same], lup_same, by rw [List.length_eraseIdx, if_pos hr3]; omega, by simp; omega, fun u hu => m5 u (List.mem_of_mem_eraseIdx hu), fun y hy => ?_⟩⟩
        rcases List.mem_append.mp hy with hy | hy
        · exact m6 y hy
        · simp at hy; subst hy; exact m5 y hdm
      · obtain ⟨kp, us, ys, m1, m2, m3, m4, m5, m6⟩ := hW
        exact gret (hq ys p1 L' m6 hp1' kp m2) (.refl _) rfl
end K01
namespace K01
open PySem PySem.Spec PyProof.Rows L2 G
-- own words: w: the head of the reading is computed; go: steps that need no thought
local macro_rules | `(tactic| walk_at "K01V4 w") => `(tactic| with_reducible (conv => whnf))
local macro_rules | `(tactic| walk_at "K01V4 hs") => `(tactic| (simp only [id_eq, decide_eq_true_eq, decide_eq_false_iff_not, Bool.not_eq_true', Bool.not_eq_false', Bool.not_true, Bool.not_false, Bool.false_eq_true, Bool.true_eq_false, Bool.and_eq_true, Bool.or_eq_true, not_false_eq_true, reduceCtorEq, bne_iff_ne, ne_eq, beq_iff_eq] at *))
local macro_rules | `(tactic| walk_at "K01V4 side") => `(tactic| first | assumption | rfl | omega | (exact CMulA.l (by omega) (by omega)) | (exact CMulA.r (by omega) (by omega)) | (exact CDivA.s (by omega) (by omega)) | (exact ⟨_, ‹_›⟩) | (exact ⟨_, lup_same⟩) | (unfold sizeLine; simp; omega) | fail)
local macro_rules | `(tactic| walk_at "K01V4 look") => `(tactic| first | assumption | exact lup_same | ((repeat rw [lup_ne (by first | assumption | exact Ne.symm (by assumption))]); first | assumption | exact lup_same) | fail)
local macro_rules | `(tactic| walk_at "K01V4 go1") => `(tactic| (with_reducible (conv => whnf)); first
  | (refine ⟨fun h => Bool.noConfusion (show false = true from h), fun _ => ?_⟩)
  | (refine ⟨fun _ => ?_, fun h => Bool.noConfusion (show true = false from h)⟩)
  | (refine ⟨fun hb => ?_, fun hb => ?_⟩ <;> (try (simp only [id_eq, decide_eq_true_eq, decide_eq_false_iff_not, Bool.not_eq_true', Bool.not_eq_false', Bool.not_true, Bool.not_false, Bool.false_eq_true, Bool.true_eq_false, Bool.and_eq_true, Bool.or_eq_true, not_false_eq_true, reduceCtorEq, bne_iff_ne, ne_eq, beq_iff_eq] at hb)))
  | (refine ⟨true, by decide +kernel, ?_⟩)
  | (refine ⟨false, by decide +kernel, ?_⟩)
  | (refine ⟨_, rfl, ?_⟩)
  | (refine Exists.intro ?x (And.intro (?s : _ = some _) ?r); (case s => walk_at "K01V4 look"))
  | (refine Exists.intro ?x (Exists.intro ?j (And.intro (?s : _ = some _) ?r)); (case s => walk_at "K01V4 look"))
  | (refine And.intro ?s ?_; (case s => walk_at "K01V4 side"))
  | fail)
local macro_rules | `(tactic| walk_at "K01V4 go") => `(tactic| ((repeat' walk_at "K01V4 go1") <;> (try walk_at "K01V4 w")))
theorem atI_nat {xs : List D} {i : Nat} {d : D} (h : xs[i]? = some d) : atI xs ((0 : Int) + (i : Int) * 1) = some d := by
  have hi := (List.getElem?_eq_some_iff.mp h).1
  unfold atI ixN
  rw [if_pos (by omega), if_pos (by omega), show ((0 : Int) + (i : Int) * 1).toNat = i by omega]
  exact h
theorem sz_pos : ∀ d : D, 1 ≤ D.sz d := by intro d; cases d <;> simp [D.sz]
@[reducible] def pairsD (st : List (D × D)) : List D := st.map fun q => .tup [q.1, q.2]
def szSum (st : List (D × D)) : Nat := (st.map fun q => D.sz q.2).sum
theorem szSum_len (st : List (D × D)) : st.length ≤ szSum st := by
  induction st with
  | nil => simp [szSum]
  | cons q st ih => have := sz_pos q.2; simp [szSum] at ih ⊢; omega
def smAll (st : List (D × D)) : Bool := st.all fun q => sm q.1 q.2
theorem smAll_snoc (st : List (D × D)) (q : D × D) : smAll (st ++ [q]) = (smAll st && sm q.1 q.2) := by simp [smAll]
theorem sms_zip : ∀ (xs ys : List D), xs.length = ys.length → sms xs ys = smAll (xs.zip ys)
  | [], [], _ => rfl
  | x :: xs, y :: ys, h => by
    rw [sms, sms_zip xs ys (by simpa using h)]; rfl
  | [], _ :: _, h => by simp at h
  | _ :: _, [], h => by simp at h
theorem sms_len : ∀ (xs ys : List D), xs.length ≠ ys.length → sms xs ys = false
  | [], [], h => absurd rfl h
  | x :: xs, y :: ys, h => by
    rw [sms, sms_len xs ys (by simpa using h), Bool.and_false]
  | [], _ :: _, _ => rfl
  | _ :: _, [], _ => rfl
theorem szs_zip : ∀ (xs ys : List D), xs.length = ys.length → szSum (xs.zip ys) = D.szs ys
  | [], [], _ => rfl
  | x :: xs, y :: ys, h => by
    have := szs_zip xs ys (by simpa using h)
    simp [szSum, D.szs] at this ⊢
    rw [this]
  | [], _ :: _, h => by simp at h
  | _ :: _, [], h => by simp at h
theorem smps_mem : ∀ {xs : List D}, D.smps xs = true → ∀ d ∈ xs, D.smp d = true
  | d :: xs, h, e, he => by
    rw [D.smps, Bool.and_eq_true] at h
    rcases List.mem_cons.mp he with rfl | he
    · exact h.1
    · exact smps_mem h.2 e he
structure SaW (x y : D) (L : LH) (p : Addr) (m : Nat) (δ : SD) (L' : LH) : Prop where
  s : ∃ (st : List (D × D)) (z1 z2 z3 : Option D), δ = [some x, some y, some (.v (.ref p)), z1, z2, z3] ∧ L' p = some (.lst (pairsD st)) ∧ m = szSum st ∧ m < 1000000 ∧ Les L L' ∧ sm x y = smAll st ∧ ∀ q ∈ st, D.smp q.1 = true ∧ D.smp q.2 = true
structure SzW (L' : LH) (p' : Addr) (zs : List (D × D)) (i : Nat) (L2 : LH) : Prop where
  l : L2 = lup L' p' (.lst (pairsD (zs.take i)))
theorem vc_law_same : ∀ ds L Q Ed, sp_law_same ds L Q Ed → rd_law_same (endD Q) (stD 6 ds) L := by
  intro ds L Q Ed h
  match ds, h with
  | [x, y], ⟨hx, hy, hs, hq⟩ =>
    walk_at "K01V4 w"
    intro p hp
    walk_at "K01V4 w"
    refine ⟨SaW x y L p, ⟨_, [(x, y)], none, none, none, rfl, lup_same, rfl, by simpa [szSum] using hs, .own (.refl _) hp, by simp [smAll], fun q hq => by simp at hq; subst hq; exact ⟨hx, hy⟩⟩, fun m δ L' hW => ?_⟩
    obtain ⟨st, z1, z2, z3, rfl, m1, rfl, m2, m3, m4, m5⟩ := hW.s
    have hst : st = [] ∨ ∃ st' q, st = st' ++ [q] := by rcases List.eq_nil_or_concat st with h | ⟨a, b, h⟩; (exact .inl h); (exact .inr ⟨a, b, by rw [h, List.concat_eq_append]⟩)
    rcases hst with rfl | ⟨st, ⟨one, other⟩, rfl⟩
    · walk_at "K01V4 go"
      exact gret hq m3 (by rw [m4]; rfl)
    · obtain ⟨s1, s2⟩ := m5 (one, other) (by simp)
      have e1 : (pairsD (st ++ [(one, other)]))[(pairsD (st ++ [(one, other)])).length - 1]? = some (.tup [one, other]) := by simp [pairsD]
      have e2 : (pairsD (st ++ [(one, other)])).dropLast = pairsD st := by simp [pairsD]
      have e3 : (0 : Int) < ((pairsD (st ++ [(one, other)])).length : Int) := by simp [pairsD]
      have e4 : ∀ q ∈ st, D.smp q.1 = true ∧ D.smp q.2 = true := fun q h => m5 q (by simp [h])
      rw [smAll_snoc] at m4
      have e5 : szSum (st ++ [(one, other)]) = szSum st + D.sz other := by simp [szSum]
      have e6 := sz_pos other
      have next : ∀ (L2 : LH) (z1 z2 z3 : Option D), Les L L2 → L2 p = some (.lst (pairsD st)) → sm one other = true → ∃ m', m' < szSum (st ++ [(one, other)]) ∧ SaW x y L p m' [some x, some y, some (.v (.ref p)), z1, z2, z3] L2 := fun L2 z1 z2 z3 l1 l2 l3 => ⟨szSum st, by omega, ⟨st, z1, z2, z3, rfl, l2, rfl, by omega, l1, by rw [m4, l3, Bool.and_true], e4⟩⟩
      have stop : sm one other = false → Q (.bl false) L := fun h => by rw [m4, h, Bool.and_false] at hq; exact hq
      clear hq hx hy
      walk_at "K01V4 w"
      refine ⟨_, m1, ?_⟩
      walk_at "K01V4 w"
      refine ⟨fun _ => ?_, fun z => absurd e3 (of_decide_eq_false z)⟩
      walk_at "K01V4 w"
      refine ⟨⟨_, m1⟩, _, _, m1, e1, ?_⟩
      rw [e2]
      have l1 : Les L (lup L' p (.lst (pairsD st))) := .own m3 hp
      have l2 : lup L' p (.lst (pairsD st)) p = some (.lst (pairsD st)) := lup_same
      generalize lup L' p (.lst (pairsD st)) = L2 at l1 l2
      walk_at "K01V4 w"
      have leaf : ∀ r : Bool, sm one other = r → sm one other = r := fun _ h => h
      cases other with
      | tup ys =>
        cases one with
        | v u => cases s1
        | rol _ => cases s1
        | tup xs =>
          walk_at "K01V4 go1"
          walk_at "K01V4 go1"
          walk_at "K01V4 go1"
          walk_at "K01V4 go1"
          walk_at "K01V4 go1"
          walk_at "K01V4 go1"
          by_cases hl : xs.length = ys.length
          · have hz : (xs.zip ys).length = ys.length := by rw [List.length_zip]; omega
            have hsz := szs_zip xs ys hl
            have hb1 : -(2 ^ 62) ≤ (ys.length : Int) ∧ (ys.length : Int) < 2 ^ 62 := by
              have := szSum_len (xs.zip ys)
              rw [e5, D.sz, ← hsz] at m2
              omega
            have hls := szSum_len st
            have hls2 := szSum_len (xs.zip ys)
            rw [e5, D.sz, ← hsz] at m2
            walk_at "K01V4 w"
            refine ⟨fun z => by simp [hl] at z, fun _ => ?_⟩
            walk_at "K01V4 w"
            refine ⟨⟨_, l2⟩, ?_⟩
            walk_at "K01V4 w"
            refine ⟨hb1, ?_⟩
            intro p' hp'
            have npp : p ≠ p' := ne_free l2 hp'
            refine ⟨SzW L2 p' (xs.zip ys), ⟨rfl⟩, fun _ _ _ _ => trivial, fun i d L3 hi hd hW3 => ?_, fun L3 hW3 => ?_⟩
            · obtain ⟨rfl⟩ := hW3
              cases (show d = .int (0 + (i : Int) * 1) from hd)
              replace hi : i < ((ys.length : Nat) : Int).toNat := hi
              have a1 := atI_nat (List.getElem?_eq_getElem (show i < xs.length by omega))
              have a2 := atI_nat (List.getElem?_eq_getElem (show i < ys.length by omega))
              walk_at "K01V4 w"
              refine ⟨fun _ => ?_, fun z => Bool.noConfusion z⟩
              walk_at "K01V4 w"
              refine ⟨_, a1, ?_⟩
              walk_at "K01V4 w"
              refine ⟨_, a2, ?_⟩
              walk_at "K01V4 w"
              refine ⟨_, lup_same, by unfold sizeLine; simp; omega, ⟨?_⟩⟩
              rw [lup_lup, List.take_add_one, List.getElem?_eq_getElem (show i < (xs.zip ys).length by omega), pairsD, pairsD, List.map_append, List.getElem_zip]
              rfl
            · have e7 : L3 = lup L2 p' (.lst (pairsD (xs.zip ys))) := by
                rw [hW3.l]
                congr 3
                show List.take ((ys.length : Nat) : Int).toNat _ = _
                rw [Int.toNat_natCast, ← hz, List.take_length]
              subst e7
              walk_at "K01V4 w"
              refine ⟨_, _, by rw [lup_ne npp]; exact l2, lup_same, by unfold sizeLine; simp only [List.length_map]; omega, szSum st + szSum (xs.zip ys), by rw [e5, D.sz, ← hsz]; omega, st ++ xs.zip ys, _, _, _, rfl, by rw [lup_same, pairsD, pairsD, pairsD, List.map_append], by simp [szSum], by omega, (l1.new hp').own hp, ?_, ?_⟩
              · rw [m4]
                show (smAll st && sms xs ys) = _
                rw [sms_zip xs ys hl]
                simp [smAll]
              · intro q hq
                rcases List.mem_append.mp hq with hq | hq
                · exact e4 q hq
                · obtain ⟨h1, h2⟩ := List.of_mem_zip (a := q.1) (b := q.2) hq
                  exact ⟨smps_mem s1 _ h1, smps_mem s2 _ h2⟩
          · walk_at "K01V4 w"
            refine ⟨fun _ => ?_, fun z => by simp at z; omega⟩
            exact gret (stop (sms_len xs ys hl)) l1 rfl
        | _ =>
          walk_at "K01V4 go"
          exact gret (stop rfl) l1 rfl
      | v u => cases s2
      | rol ys => cases s2
      | _ =>
        cases one
        all_goals first | (cases s1; done) | skip
        all_goals walk_at "K01V4 go"
        all_goals first | exact gret (stop (by first | rfl | simp [sm, *])) l1 rfl | exact next L2 _ _ _ l1 l2 (by first | rfl | simp [sm, *])
end K01
namespace K01
open PySem PySem.Spec PyProof.Rows L2 G
-- own words: w: the head of the reading is computed; go: steps that need no thought
local macro_rules | `(tactic| walk_at "K01V5 w") => `(tactic| with_reducible (conv => whnf))
local macro_rules | `(tactic| walk_at "K01V5 hs") => `(tactic| (simp only [id_eq, decide_eq_true_eq, decide_eq_false_iff_not, Bool.not_eq_true', Bool.not_eq_false', Bool.not_true, Bool.not_false, Bool.false_eq_true, Bool.true_eq_false, Bool.and_eq_true, Bool.or_eq_true, not_false_eq_true, reduceCtorEq, bne_iff_ne, ne_eq, beq_iff_eq] at *))
local macro_rules | `(tactic| walk_at "K01V5 side") => `(tactic| first | assumption | rfl | omega | (exact CMulA.l (by omega) (by omega)) | (exact CMulA.r (by omega) (by omega)) | (exact CDivA.s (by omega) (by omega)) | (exact ⟨_, ‹_›⟩) | (exact ⟨_, lup_same⟩) | (unfold sizeLine; simp; omega) | fail)
local macro_rules | `(tactic| walk_at "K01V5 look") => `(tactic| first | assumption | exact lup_same | ((repeat rw [lup_ne (by first | assumption | exact Ne.symm (by assumption))]); first | assumption | exact lup_same) | fail)
local macro_rules | `(tactic| walk_at "K01V5 go1") => `(tactic| (with_reducible (conv => whnf)); first
  | (refine ⟨fun h => Bool.noConfusion (show false = true from h), fun _ => ?_⟩)
  | (refine ⟨fun _ => ?_, fun h => Bool.noConfusion (show true = false from h)⟩)
  | (refine ⟨fun hb => ?_, fun hb => ?_⟩ <;> (try (simp only [id_eq, decide_eq_true_eq, decide_eq_false_iff_not, Bool.not_eq_true', Bool.not_eq_false', Bool.not_true, Bool.not_false, Bool.false_eq_true, Bool.true_eq_false, Bool.and_eq_true, Bool.or_eq_true, not_false_eq_true, reduceCtorEq, bne_iff_ne, ne_eq, beq_iff_eq] at hb)))
  | (refine ⟨true, by decide +kernel, ?_⟩)
  | (refine ⟨false, by decide +kernel, ?_⟩)
  | (refine ⟨_, rfl, ?_⟩)
  | (refine Exists.intro ?x (And.intro (?s : _ = some _) ?r); (case s => walk_at "K01V5 look"))
  | (refine Exists.intro ?x (Exists.intro ?j (And.intro (?s : _ = some _) ?r)); (case s => walk_at "K01V5 look"))
  | (refine And.intro ?s ?_; (case s => walk_at "K01V5 side"))
  | fail)
local macro_rules | `(tactic| walk_at "K01V5 go") => `(tactic| ((repeat' walk_at "K01V5 go1") <;> (try walk_at "K01V5 w")))
structure GcW (a b : Int) (L : LH) (m : Nat) (δ : SD) (L' : LH) : Prop where
  s : ∃ x y : Int, δ = [some (.int x), some (.int y)] ∧ L' = L ∧ 0 ≤ y ∧ m = y.toNat ∧ Int.gcd x y = Int.gcd a b
theorem gcd_step (x y : Int) : Int.gcd y (x % y) = Int.gcd x y := by
  rw [Int.emod_def, Int.gcd_sub_mul_left_right, Int.gcd_comm]
theorem vc_law_gcd : ∀ ds L Q Ed, sp_law_gcd ds L Q Ed → rd_law_gcd (endD Q) (stD 2 ds) L := by
  intro ds L Q Ed h
  match ds, h with
  | [.int a, .int b], ⟨h0, hq⟩ =>
    walk_at "K01V5 w"
    refine ⟨GcW a b L, ⟨_, a, b, rfl, rfl, h0, rfl, rfl⟩, fun m δ L' hW => ?_⟩
    obtain ⟨x, y, rfl, rfl, b1, rfl, b2⟩ := hW.s
    walk_at "K01V5 go"
    · rename_i hy
      have h1 := Int.emod_nonneg x hy
      have h2 := Int.emod_lt_of_pos x (show 0 < y by omega)
      exact ⟨(x % y).toNat, by omega, y, x % y, rfl, rfl, h1, rfl, by rw [gcd_step, b2]⟩
    · rename_i hy
      subst hy
      refine gret hq (.refl _) ?_
      have e : ((Nat.gcd a.natAbs b.natAbs : Nat) : Int) = (Int.gcd a b : Int) := rfl
      rw [e, ← b2, Int.gcd_zero_right]
      congr 1
      show ((x.natAbs : Nat) : Int) = if x < 0 then -x else x
      split <;> omega
theorem mem_ints {ns : List Int} {r : D} (h : r ∈ ns.map D.int) : ∃ i, i ∈ ns ∧ r = .int i := by
  obtain ⟨i, hi, e⟩ := List.mem_map.mp h
  exact ⟨i, hi, e.symm⟩
structure SzW2 (a g : Addr) (L : LH) (w p : Int) (i : Nat) (δ : SD) (L' : LH) : Prop where
  k : Kp a g L L'
  s : ∃ (n : Int) (z : Option D), δ = [some (.v (.ref a)), some (.int w), some (.int p), some (.int n), z] ∧ 2 ≤ n ∧ n ≤ 10000
theorem vc_law_size : ∀ ds L Q Ed, sp_law_size ds L Q Ed → rd_law_size (endD Q) (stD 5 ds) L := by
  intro ds L Q Ed h
  match ds, h with
  | [.v (.ref a)], ⟨g, hk, hq⟩ =>
    walk_at "K01V5 w"
    refine ⟨g, hk, by omega, by omega, fun way L1 hw0 hw1 k1 => ?_⟩
    walk_at "K01V5 go"
    · refine ⟨g, k1.k, by omega, by omega, fun r L2 h0 h1 k2 => ?_⟩
      walk_at "K01V5 go"
      exact gret (hq _ _ (by omega) (by omega) (k1.trans k2)) (.refl _) rfl
    · refine ⟨g, k1.k, trivial, by simp, by simp, fun r L2 hr k2 => ?_⟩
      obtain ⟨i, hi, rfl⟩ := mem_ints (ns := [9240, 840, 2520, 9360, 9828, 7920, 5040, 120, 24, 60, 1155, 3465]) hr
      have hb := (show ∀ i ∈ ([9240, 840, 2520, 9360, 9828, 7920, 5040, 120, 24, 60, 1155, 3465] : List Int), 2 ≤ i ∧ i ≤ 10000 by decide) i hi
      exact gret (hq _ _ hb.1 hb.2 (k1.trans k2)) (.refl _) rfl
    · refine ⟨g, k1.k, trivial, by simp, by simp, fun r L2 hr k2 => ?_⟩
      obtain ⟨i, hi, rfl⟩ := mem_ints (ns := [2, 3, 5, 7, 11, 97]) hr
      have hb := (show ∀ i ∈ ([2, 3, 5, 7, 11, 97] : List Int), 2 ≤ i ∧ i ≤ 97 by decide) i hi
      walk_at "K01V5 w"
      refine ⟨g, k2.k, by omega, by omega, fun r L3 h0 h1 k3 => ?_⟩
      walk_at "K01V5 w"
      refine ⟨by omega, SzW2 a g L way i, ⟨(k1.trans k2).trans k3, i, none, rfl, by omega, by omega⟩, fun _ _ _ _ _ => trivial, fun j d δ L' hj hd hW => ?_, fun δ L' hW => ?_⟩
      · obtain ⟨kk, n, z, rfl, b1, b2⟩ := hW
        have hm1 : 2 * n ≤ n * i := by rw [Int.mul_comm 2]; exact Int.mul_le_mul_of_nonneg_left hb.1 (by omega)
        walk_at "K01V5 go"
        · exact ⟨kk, _, _, rfl, by omega, by omega⟩
        · exact ⟨kk, _, _, rfl, by omega, by omega⟩
      · obtain ⟨kk, n, z, rfl, b1, b2⟩ := hW
        walk_at "K01V5 go"
        exact gret (hq _ _ b1 b2 kk) (.refl _) rfl
    · refine ⟨g, k1.k, trivial, by simp, by simp, fun r L2 hr k2 => ?_⟩
      obtain ⟨i, hi, rfl⟩ := mem_ints (ns := [2, 3, 4, 8, 16, 10000, 9999, 9973, 8192, 6561]) hr
      have hb := (show ∀ i ∈ ([2, 3, 4, 8, 16, 10000, 9999, 9973, 8192, 6561] : List Int), 2 ≤ i ∧ i ≤ 10000 by decide) i hi
      exact gret (hq _ _ hb.1 hb.2 (k1.trans k2)) (.refl _) rfl
    · refine ⟨g, k1.k, by omega, by omega, fun r L2 h0 h1 k2 => ?_⟩
      walk_at "K01V5 go"
      exact gret (hq _ _ (by omega) (by omega) (k1.trans k2)) (.refl _) rfl
    · refine ⟨g, k1.k, by omega, by omega, fun r L2 h0 h1 k2 => ?_⟩
      walk_at "K01V5 w"
      refine ⟨g, k2.k, by omega, by omega, fun r2 L3 h20 h21 k3 => ?_⟩
      have hm1 : 2 * 2 ≤ (2 + r) * (2 + r2) := Int.mul_le_mul (by omega) (by omega) (by omega) (by omega)
      have hm2 : (2 + r) * (2 + r2) ≤ 61 * 161 := Int.mul_le_mul (by omega) (by omega) (by omega) (by omega)
      walk_at "K01V5 go"
      exact gret (hq _ _ (by omega) (by omega) ((k1.trans k2).trans k3)) (.refl _) rfl
theorem vc_law_heard (C : Addr) : ∀ ds L Q Ed, sp_law_heard ds L Q Ed → rd_law_heard C (endD Q) (stD 3 ds) L := by
  intro ds L Q Ed h
  match ds, h with
  | [x], ⟨hx, hq⟩ =>
    walk_at "K01V5 w"
    refine ⟨hx, fun e => ?_, fun w e => ?_⟩
    · rw [e] at hq
      walk_at "K01V5 go"
      exact gret hq (.refl _) rfl
    · rw [e] at hq
      walk_at "K01V5 w"
      refine ⟨rfl, fun a dd na nd => ?_⟩
      walk_at "K01V5 w"
      refine ⟨rfl, _, .str w, lup_same, rfl, ?_⟩
      walk_at "K01V5 w"
      rw [back_lup]
      exact gret hq (.refl _) rfl
end K01
namespace K01
open PySem PySem.Spec PyProof.Rows L2 G
-- own words: w: the head of the reading is computed; go: steps that need no thought
local macro_rules | `(tactic| walk_at "K01V6 w") => `(tactic| with_reducible (conv => whnf))
local macro_rules | `(tactic| walk_at "K01V6 hs") => `(tactic| (simp only [id_eq, decide_eq_true_eq, decide_eq_false_iff_not, Bool.not_eq_true', Bool.not_eq_false', Bool.not_true, Bool.not_false, Bool.false_eq_true, Bool.true_eq_false, Bool.and_eq_true, Bool.or_eq_true, not_false_eq_true, reduceCtorEq, bne_iff_ne, ne_eq, beq_iff_eq] at *))
local macro_rules | `(tactic| walk_at "K01V6 side") => `(tactic| first | assumption | rfl | omega | (exact CMulA.l (by omega) (by omega)) | (exact CMulA.r (by omega) (by omega)) | (exact CDivA.s (by omega) (by omega)) | (exact ⟨_, ‹_›⟩) | (exact ⟨_, lup_same⟩) | (unfold sizeLine; simp; omega) | fail)
local macro_rules | `(tactic| walk_at "K01V6 look") => `(tactic| first | assumption | exact lup_same | ((repeat rw [lup_ne (by first | assumption | exact Ne.symm (by assumption))]); first | assumption | exact lup_same) | fail)
local macro_rules | `(tactic| walk_at "K01V6 go1") => `(tactic| (with_reducible (conv => whnf)); first
  | (refine ⟨fun h => Bool.noConfusion (show false = true from h), fun _ => ?_⟩)
  | (refine ⟨fun _ => ?_, fun h => Bool.noConfusion (show true = false from h)⟩)
  | (refine ⟨fun hb => ?_, fun hb => ?_⟩ <;> (try (simp only [id_eq, decide_eq_true_eq, decide_eq_false_iff_not, Bool.not_eq_true', Bool.not_eq_false', Bool.not_true, Bool.not_false, Bool.false_eq_true, Bool.true_eq_false, Bool.and_eq_true, Bool.or_eq_true, not_false_eq_true, reduceCtorEq, bne_iff_ne, ne_eq, beq_iff_eq] at hb)))
  | (refine ⟨true, by decide +kernel, ?_⟩)
  | (refine ⟨false, by decide +kernel, ?_⟩)
  | (refine ⟨_, rfl, ?_⟩)
  | (refine Exists.intro ?x (And.intro (?s : _ = some _) ?r); (case s => walk_at "K01V6 look"))
  | (refine Exists.intro ?x (Exists.intro ?j (And.intro (?s : _ = some _) ?r)); (case s => walk_at "K01V6 look"))
  | (refine And.intro ?s ?_; (case s => walk_at "K01V6 side"))
  | fail)
local macro_rules | `(tactic| walk_at "K01V6 go") => `(tactic| ((repeat' walk_at "K01V6 go1") <;> (try walk_at "K01V6 w")))
/-! ### law_powers -/
def ND (n p : Nat) : Prop := ∀ d, 2 ≤ d → d < p → ¬ d ∣ n
theorem divOut_dvd (n p : Nat) : (divOut n p).1 ∣ n := by
  induction n using Nat.strongRecOn with
  | ind n ih =>
    rw [divOut]
    split
    · rename_i h
      have h1 := ih (n / p) (Nat.div_lt_self (by omega) (by omega))
      exact Nat.dvd_trans h1 (Nat.div_dvd_of_dvd (Nat.dvd_of_mod_eq_zero h.2.2))
    · exact Nat.dvd_refl _
theorem divOut_pos1 (n p : Nat) (hn : 1 ≤ n) : 1 ≤ (divOut n p).1 := Nat.pos_of_dvd_of_pos (divOut_dvd n p) hn
theorem divOut_nd (n p : Nat) (hp : 2 ≤ p) (hn : 1 ≤ n) : ¬ p ∣ (divOut n p).1 := by
  induction n using Nat.strongRecOn with
  | ind n ih =>
    rw [divOut]
    split
    · rename_i h
      exact ih (n / p) (Nat.div_lt_self (by omega) (by omega)) (Nat.div_pos (Nat.le_of_dvd (by omega) (Nat.dvd_of_mod_eq_zero h.2.2)) (by omega))
    · rename_i h
      exact fun z => h ⟨hp, hn, Nat.mod_eq_zero_of_dvd z⟩
theorem ND.out {n p : Nat} (h : ND n p) (hp : 2 ≤ p) (hn : 1 ≤ n) : ND (divOut n p).1 (p + 1) := fun d h1 h2 z => by
  by_cases e : d = p
  · subst e; exact divOut_nd n d hp hn z
  · exact h d h1 (by omega) (Nat.dvd_trans z (divOut_dvd n p))
theorem ND.all {n p : Nat} (h : ND n p) (hn : 2 ≤ n) (hp : n < p * p) : ND n n := fun d h1 h2 z => by
  obtain ⟨k, rfl⟩ := z
  have hk : 2 ≤ k := by
    apply Decidable.byContradiction
    intro hc
    have : k = 0 ∨ k = 1 := by omega
    rcases this with rfl | rfl <;> simp at h2 hn
  by_cases hd : d < p
  · exact h d h1 hd ⟨k, rfl⟩
  · have hk2 : k < p := by
      apply Decidable.byContradiction
      intro hc
      have := Nat.mul_le_mul (show p ≤ d by omega) (show p ≤ k by omega)
      omega
    exact h k hk hk2 ⟨d, Nat.mul_comm _ _⟩
theorem ND.le {n p : Nat} (h : ND n p) (hn : 2 ≤ n) : p ≤ n := by
  apply Decidable.byContradiction
  intro hc
  exact h n hn (by omega) (Nat.dvd_refl n)
theorem ppF_big {n p : Nat} (h : n < p * p) : ppF n p = if n > 1 then [(n, n)] else [] := by
  rw [ppF, dif_neg (fun z => by omega)]
theorem divOut_one {n p : Nat} (h : ¬ n % p = 0) : divOut n p = (n, 1) := by
  rw [divOut, dif_neg (fun z => h z.2.2)]
/-- a turn of the law's loop serves the program's -/
theorem pow_turn {n p : Nat} (h : ND n p) (hp : 2 ≤ p) (hn : 2 ≤ n) :
    (ppF n p).map (·.2) = (if (divOut n p).2 > 1 then [(divOut n p).2] else []) ++ (ppF (divOut n p).1 (p + 1)).map (·.2) := by
  by_cases hpp : p * p ≤ n
  · rw [ppF, dif_pos ⟨hpp, hp⟩, List.map_append]
    congr 1
    split <;> rfl
  · rw [ppF_big (by omega), if_pos (by omega)]
    by_cases hm : n % p = 0
    · obtain ⟨k, rfl⟩ := Nat.dvd_of_mod_eq_zero hm
      have hk : k = 1 := by
        apply Decidable.byContradiction
        intro hc
        have hk0 : k ≠ 0 := by rintro rfl; simp at hn
        have hkp : k < p := by
          apply Decidable.byContradiction
          intro hc
          have := Nat.mul_le_mul_left p (show p ≤ k by omega)
          omega
        exact h k (by omega) hkp ⟨p, Nat.mul_comm _ _⟩
      subst hk
      rw [Nat.mul_one]
      have e : divOut p p = (1, p) := by
        rw [divOut, dif_pos ⟨hp, by omega, Nat.mod_self p⟩, Nat.div_self (by omega), divOut_one (by rw [Nat.mod_eq_of_lt (by omega)]; omega)]
        simp
      rw [e, if_pos (by omega), ppF_big (by have := Nat.mul_le_mul hp hp; have := Nat.mul_le_mul (show 2 ≤ p + 1 by omega) (show 2 ≤ p + 1 by omega); omega)]
      rfl
    · rw [divOut_one hm, if_neg (by omega)]
      have hsq : p * p ≤ (p + 1) * (p + 1) := Nat.mul_le_mul (Nat.le_succ p) (Nat.le_succ p)
      rw [ppF_big (show n < (p + 1) * (p + 1) by omega), if_pos (by omega)]
      rfl
/-- the jump -/
theorem pow_jump {n p : Nat} (h1 : n < p * p) (h2 : p < n) : ppF n (p + 1) = ppF n n := by
  have hsq : p * p ≤ (p + 1) * (p + 1) := Nat.mul_le_mul (Nat.le_succ p) (Nat.le_succ p)
  rw [ppF_big (show n < (p + 1) * (p + 1) by omega)]
  have h3 : n * 2 ≤ n * n := Nat.mul_le_mul_left n (by
    apply Decidable.byContradiction; intro hc
    have : n = 1 ∨ n = 0 := by omega
    rcases this with rfl | rfl
    · have : p = 0 := by omega
      subst this; simp at h1
    · omega)
  rw [ppF_big (by omega)]
@[reducible] def natD (ns : List Nat) : List D := ns.map fun (q : Nat) => .int (q : Int)
structure PwW (p0 : Addr) (L : LH) (all : List Nat) (m : Nat) (δ : SD) (L' : LH) : Prop where
  s : ∃ (n p : Nat) (told : List Nat) (z : Option D), δ = [some (.int n), some (.v (.ref p0)), some (.int p), z] ∧ L' = lup L p0 (.lst (natD told)) ∧ 1 ≤ n ∧ n ≤ 10000 ∧ 2 ≤ p ∧ p ≤ 10001 ∧ ND n p ∧ told.length ≤ p ∧ m = 10002 - p ∧ told ++ (ppF n p).map (·.2) = all
structure PdW (p0 : Addr) (L' : LH) (n0 p : Nat) (m : Nat) (δ : SD) (L2 : LH) : Prop where
  s : ∃ (n power : Nat), δ = [some (.int n), some (.v (.ref p0)), some (.int p), some (.int power)] ∧ L2 = L' ∧ 1 ≤ n ∧ n ≤ n0 ∧ m = n ∧ 1 ≤ power ∧ power * n ≤ n0 ∧ (divOut n0 p).1 = (divOut n p).1 ∧ (divOut n0 p).2 = power * (divOut n p).2
theorem vc_law_powers : ∀ ds L Q Ed, sp_law_powers ds L Q Ed → rd_law_powers (endD Q) (stD 4 ds) L := by
  intro ds L Q Ed h
  match ds, h with
  | [.int n], ⟨h1, h2, hq⟩ =>
    walk_at "K01V6 w"
    intro p0 hp0
    walk_at "K01V6 w"
    refine ⟨PwW p0 L (ppl n), ⟨_, n.toNat, 2, [], none, by rw [Int.toNat_of_nonneg (by omega)]; rfl, rfl, by omega, by omega, by omega, by omega, fun d h1 h2 => by omega, by simp, rfl, rfl⟩, fun m δ L' hW => ?_⟩
    obtain ⟨n0, p, told, z, rfl, rfl, a1, a2, a3, a4, a5, a6, rfl, a7⟩ := hW.s
    walk_at "K01V6 w"
    refine ⟨fun hb => ?_, fun hb => ?_⟩
    · have hn0 : 2 ≤ n0 := by have := of_decide_eq_true hb; omega
      have hpn := a5.le hn0
      walk_at "K01V6 w"
      refine ⟨PdW p0 (lup L p0 (.lst (natD told))) n0 p, ⟨_, n0, 1, rfl, rfl, a1, Nat.le_refl _, rfl, Nat.le_refl _, by omega, rfl, (Nat.one_mul _).symm⟩, fun m δ L2 hW2 => ?_⟩
      obtain ⟨n, pw, rfl, rfl, b1, b2, rfl, b3, b4, b5, b6⟩ := hW2.s
      walk_at "K01V6 w"
      refine ⟨by omega, ?_⟩
      walk_at "K01V6 w"
      refine ⟨fun hc => ?_, fun hc => ?_⟩
      · have hmod : m % p = 0 := by have := of_decide_eq_true hc; exact_mod_cast this
        have e0 : divOut m p = ((divOut (m / p) p).1, p * (divOut (m / p) p).2) := by rw [divOut, dif_pos ⟨a3, b1, hmod⟩]
        have q1 : 1 ≤ m / p := Nat.div_pos (Nat.le_of_dvd (by omega) (Nat.dvd_of_mod_eq_zero hmod)) (by omega)
        have q2 : m / p < m := Nat.div_lt_self (by omega) (by omega)
        walk_at "K01V6 go"
        refine ⟨m / p, q2, m / p, pw * p, by simp [put], rfl, q1, by omega, rfl, Nat.mul_pos (by omega) (by omega), ?_, by rw [b5, e0], by rw [b6, e0, Nat.mul_assoc]⟩
        rw [Nat.mul_assoc, Nat.mul_div_cancel' (Nat.dvd_of_mod_eq_zero hmod)]
        exact b4
      · have hmod : ¬ (m % p = 0) := by have := of_decide_eq_false hc; exact_mod_cast this
        have e0 : divOut m p = (m, 1) := divOut_one hmod
        rw [e0] at b5 b6
        replace b5 : (divOut n0 p).1 = m := b5
        replace b6 : (divOut n0 p).2 = pw := by rw [b6]; exact Nat.mul_one _
        have t1 := pow_turn a5 a3 hn0
        have t2 := a5.out a3 a1
        rw [b5] at t1 t2
        rw [b6] at t1
        have key1 : ∀ (told' : List Nat) (L2 : LH), L2 = lup L p0 (.lst (natD told')) → told'.length ≤ told.length + 1 → told' = told ++ (if pw > 1 then [pw] else []) → ∃ m', m' < 10002 - p ∧ PwW p0 L (ppl n) m' [some (.int m), some (.v (.ref p0)), some (.int ((p : Int) + 1)), some (.int pw)] L2 := fun told' L2 u1 u2 u3 => ⟨10001 - p, by omega, ⟨m, p + 1, told', _, rfl, u1, b1, by omega, by omega, by omega, t2, by omega, by omega, by rw [← a7, t1, u3, List.append_assoc]⟩⟩
        have key2 : ∀ (told' : List Nat) (L2 : LH), L2 = lup L p0 (.lst (natD told')) → told'.length ≤ told.length + 1 → told' = told ++ (if pw > 1 then [pw] else []) → m < p * p → p < m → ∃ m', m' < 10002 - p ∧ PwW p0 L (ppl n) m' [some (.int m), some (.v (.ref p0)), some (.int m), some (.int pw)] L2 := fun told' L2 u1 u2 u3 u v => ⟨10002 - m, by omega, ⟨m, m, told', _, rfl, u1, b1, by omega, by omega, by omega, t2.all (by omega) (by have hsq : p * p ≤ (p + 1) * (p + 1) := Nat.mul_le_mul (Nat.le_succ p) (Nat.le_succ p); omega), by omega, by omega, by rw [← a7, t1, u3, List.append_assoc, pow_jump u v]⟩⟩
        have c1 : ¬ (p : Int) * p ≤ m → m < p * p := fun z => by
          apply Decidable.byContradiction
          intro hc
          exact z (by exact_mod_cast (show p * p ≤ m by omega))
        have e1 : 1 < (pw : Int) → lup (lup L p0 (.lst (natD told))) p0 (.lst (natD told ++ [.int pw])) = lup L p0 (.lst (natD (told ++ [pw]))) := fun _ => by rw [lup_lup, natD, natD, List.map_append]; rfl
        have e2 : 1 < (pw : Int) → told ++ [pw] = told ++ (if pw > 1 then [pw] else []) := fun z => by rw [if_pos (by omega)]
        have e3 : ¬ 1 < (pw : Int) → told = told ++ (if pw > 1 then [pw] else []) := fun z => by rw [if_neg (by omega), List.append_nil]
        walk_at "K01V6 go"
        · exact key1 _ _ (e1 ‹_›) (by simp) (e2 ‹_›)
        · exact key1 _ _ (e1 ‹_›) (by simp) (e2 ‹_›)
        · exact key2 _ _ (e1 ‹_›) (by simp) (e2 ‹_›) (c1 ‹_›) (by omega)
        · exact key1 _ _ rfl (by simp) (e3 ‹_›)
        · exact key1 _ _ rfl (by simp) (e3 ‹_›)
        · exact key2 _ _ rfl (by simp) (e3 ‹_›) (c1 ‹_›) (by omega)
    · have hn0 : n0 = 1 := by have := of_decide_eq_false hb; omega
      subst hn0
      rw [ppF_big (by have := Nat.mul_le_mul a3 a3; omega), if_neg (by omega), List.map_nil, List.append_nil] at a7
      have e : natD told = ((ppl n).map fun (q : Nat) => (q : Int)).map D.int := by rw [a7, natD, List.map_map]; rfl
      walk_at "K01V6 w"
      refine ⟨_, lup_same, by rw [e]; exact sortOk_ints _, fun p1 hp1 => ?_⟩
      have h01 : p0 ≠ p1 := ne_free lup_same hp1
      have hp1' : L p1 = none := by rw [lup_ne h01.symm] at hp1; exact hp1
      exact gret (hq p1 _ hp1' (.new (.own (.refl _) hp0) hp1) (by rw [lup_same, e, sortD_ints]; rfl)) (.refl _) rfl
end K01
namespace K01
open PySem PySem.Spec PyProof.Rows L2 G
-- own words: w: the head of the reading is computed; go: steps that need no thought
local macro_rules | `(tactic| walk_at "K01V7 w") => `(tactic| with_reducible (conv => whnf))
local macro_rules | `(tactic| walk_at "K01V7 hs") => `(tactic| (simp only [id_eq, decide_eq_true_eq, decide_eq_false_iff_not, Bool.not_eq_true', Bool.not_eq_false', Bool.not_true, Bool.not_false, Bool.false_eq_true, Bool.true_eq_false, Bool.and_eq_true, Bool.or_eq_true, not_false_eq_true, reduceCtorEq, bne_iff_ne, ne_eq, beq_iff_eq] at *))
local macro_rules | `(tactic| walk_at "K01V7 side") => `(tactic| first | assumption | (exact lup_same) | rfl | omega | (exact CMulA.l (by omega) (by omega)) | (exact CMulA.r (by omega) (by omega)) | (exact CDivA.s (by omega) (by omega)) | (exact ⟨_, ‹_›⟩) | (exact ⟨_, lup_same⟩) | (unfold sizeLine; first | omega | (simp; done) | (simp; omega)) | (walk_at "K01V7 look") | fail)
local macro_rules | `(tactic| walk_at "K01V7 look") => `(tactic| first | assumption | exact lup_same | exact look_new (by walk_at "K01V7 look") (by assumption) | exact look_ne (by first | assumption | exact Ne.symm (by assumption)) (by walk_at "K01V7 look") | fail)
local macro_rules | `(tactic| walk_at "K01V7 go1") => `(tactic| (with_reducible (conv => whnf)); first
  | (refine ⟨fun h => Bool.noConfusion (show false = true from h), fun _ => ?_⟩)
  | (refine ⟨fun _ => ?_, fun h => Bool.noConfusion (show true = false from h)⟩)
  | (refine ⟨fun hb => ?_, fun hb => ?_⟩ <;> (try (simp only [id_eq, decide_eq_true_eq, decide_eq_false_iff_not, Bool.not_eq_true', Bool.not_eq_false', Bool.not_true, Bool.not_false, Bool.false_eq_true, Bool.true_eq_false, Bool.and_eq_true, Bool.or_eq_true, not_false_eq_true, reduceCtorEq, bne_iff_ne, ne_eq, beq_iff_eq] at hb)))
  | (refine ⟨true, by decide +kernel, ?_⟩)
  | (refine ⟨false, by decide +kernel, ?_⟩)
  | (refine ⟨_, rfl, ?_⟩)
  | (refine Exists.intro ?x (And.intro (?s : _ = some _) ?r); (case s => walk_at "K01V7 look"))
  | (refine Exists.intro ?x (Exists.intro ?j (And.intro (?s : _ = some _) ?r)); (case s => walk_at "K01V7 look"))
  | (refine And.intro ?s ?_; (case s => walk_at "K01V7 side"))
  | (refine fun p (hp : _ = none) => ?_)
  | fail)
local macro_rules | `(tactic| walk_at "K01V7 go") => `(tactic| ((repeat' walk_at "K01V7 go1") <;> (try walk_at "K01V7 w")))
theorem root_mod {n k : Int} (hn : 2 ≤ n) : (k * k - 1) % n = 0 ↔ k * k % n = 1 := by
  have e1 : (1 : Int) % n = 1 := Int.emod_eq_of_lt (by omega) (by omega)
  constructor
  · intro h
    have := Int.emod_emod_of_dvd (k * k) (Int.dvd_refl n)
    obtain ⟨q, hq⟩ := Int.dvd_of_emod_eq_zero h
    rw [show k * k = 1 + n * q by omega, Int.add_mul_emod_self_left, e1]
  · intro h
    have := Int.emod_add_mul_ediv (k * k) n
    rw [h] at this
    rw [show k * k - 1 = n * (k * k / n) by omega]
    exact Int.mul_emod_right _ _
mutual
theorem sm_refl : ∀ d : D, D.smp d = true → sm d d = true
  | .non, _ => rfl
  | .bl b, _ => by simp [sm]
  | .int b, _ => by simp [sm]
  | .str b, _ => by simp [sm]
  | .tup xs, h => by
    show sms xs xs = true
    exact sms_refl xs h
  | .rol _, h => by cases h
  | .v _, h => by cases h
theorem sms_refl : ∀ ds : List D, D.smps ds = true → sms ds ds = true
  | [], _ => rfl
  | d :: ds, h => by
    rw [D.smps, Bool.and_eq_true] at h
    rw [sms, sm_refl d h.1, sms_refl ds h.2]; rfl
end
@[reducible] def heardZ (x : D) : D := match faultD x with | .str w => .tup [.str "bad", .str w] | _ => .tup [.str "told", .non]
theorem heard_smp (x : D) : D.smp (heardZ x) = true ∧ D.sz (heardZ x) < 1000000 := by
  unfold heardZ
  rcases fault_word x with e | ⟨w, e⟩ <;> rw [e] <;> exact ⟨rfl, by simp [D.sz, D.szs]⟩
theorem any_int (i : Int) (rs : List Int) : anyD (.int i) (rs.map D.int) = decide (i ∈ rs) := by
  unfold anyD
  rw [Bool.eq_iff_iff, List.any_eq_true, decide_eq_true_eq]
  constructor
  · rintro ⟨x, hx, h⟩
    obtain ⟨j, hj, rfl⟩ := List.mem_map.mp hx
    have : j = i := by simpa [D.eq, D.py, PyData.eqv] using h
    exact this ▸ hj
  · intro h
    exact ⟨_, List.mem_map.mpr ⟨i, h, rfl⟩, by simp [D.eq, D.py, PyData.eqv]⟩
theorem all_flat_ints (rs : List Int) : (rs.map D.int).all D.flat = true := by
  rw [List.all_eq_true]
  intro x hx
  obtain ⟨j, _, rfl⟩ := List.mem_map.mp hx
  rfl
structure CkW (a p q : Addr) (n k o : Int) (Lf : LH) (i : Nat) (δ : SD) (L' : LH) : Prop where
  s : ∃ z5 z7 : Option D, δ = [some (.v (.ref a)), some (.int n), some (.v (.ref p)), some (.int k), some (.int o), z5, some (.v (.ref q)), z7] ∧ L' = Lf
theorem checked_loop {a p q : Addr} {n k o : Int} {due : D} {pairs : List D} {Lf : LH} {Q : DK} {L0 : LH} (hq : Q (.bl true) L0) (ls : Les L0 Lf) (hl : Lf q = some (.lst pairs)) (hp : ∀ d ∈ pairs, ∃ thing due, d = .tup [thing, due] ∧ ThingOk thing Lf ∧ heardZ thing = due) :
    (sSeq (sFor (fun δ L R => R (seqIt pairs fun L' => L' q = some (.lst pairs)) L) (gTp 2 (gsCons (gNm 7) (gsCons (gNm 5) gsNil))) (sIf (dNot (dTru (dCall sp_law_same (dCons (dCall sp_law_heard (dCons (dVar 7) dNil)) (dCons (dVar 5) dNil))))) (sRet (dC (.bl false))) sNext)) (sRet (dC (.bl true)))) (endD Q) [some (.v (.ref a)), some (.int n), some (.v (.ref p)), some (.int k), some (.int o), some due, some (.v (.ref q)), none] Lf := by
  walk_at "K01V7 w"
  refine ⟨CkW a p q n k o Lf, ⟨_, _, rfl, rfl⟩, fun i δ L' _ hW => ?_, fun i d δ L' hi hd hW => ?_, fun δ L' hW => ?_⟩
  · obtain ⟨_, _, rfl, rfl⟩ := hW.s
    exact hl
  · obtain ⟨_, _, rfl, rfl⟩ := hW.s
    obtain ⟨thing, due, rfl, ht, rfl⟩ := hp d (List.mem_of_getElem? hd)
    obtain ⟨s1, s2⟩ := heard_smp thing
    walk_at "K01V7 w"
    refine ⟨rfl, ?_⟩
    walk_at "K01V7 w"
    refine ⟨ht, s1, s1, s2, ?_⟩
    generalize hb : sm _ (heardZ thing) = b
    have hb2 : b = true := hb.symm.trans (sm_refl _ s1)
    subst hb2
    walk_at "K01V7 go"
    exact ⟨_, _, rfl, rfl⟩
  · obtain ⟨_, _, rfl, rfl⟩ := hW.s
    walk_at "K01V7 go"
    exact gret hq ls rfl
theorem faultZ_turn {n k : Int} (h0 : 2 ≤ n) (h1 : n ≤ 10000) (h : k < 1 ∨ n ≤ k ∨ k * k % n ≠ 1) : faultZ n k = .str "turn" := by
  unfold faultZ
  rw [if_neg (by omega), if_neg (by omega), if_pos]
  rcases h with h | h | h
  · left; omega
  · left; omega
  · right; exact h
theorem faultZ_told {n k : Int} (h0 : 2 ≤ n) (h1 : n ≤ 10000) (h2 : 1 ≤ k) (h3 : k < n) (h : k * k % n = 1) : faultZ n k = .non := dialOk_fault (.inr ⟨h0, h1, h2, h3, h⟩)
theorem faultZ_limit {n k : Int} (h : n < 0 ∨ n = 1 ∨ n > 10000) : faultZ n k = .str "limit" := by
  unfold faultZ
  rw [if_pos h]
theorem heard_bad {x : D} {w : Str} (h : faultD x = .str w) : heardZ x = .tup [.str "bad", .str w] := by unfold heardZ; rw [h]
theorem heard_told {x : D} (h : faultD x = .non) : heardZ x = .tup [.str "told", .non] := by unfold heardZ; rw [h]
theorem vc_law_checked : ∀ ds L Q Ed, sp_law_checked ds L Q Ed → rd_law_checked (endD Q) (stD 8 ds) L := by
  intro ds L Q Ed h
  match ds, h with
  | [.v (.ref a), .int n, .v (.ref p)], ⟨g, rs, hk, hpa, hpg, h1, h2, hp, hr, hl, hq⟩ =>
    have hone : (1 : Int) ∈ rs := (hr 1).mpr ⟨by omega, by omega, by simp⟩
    have hlr : (rs.map D.int).length < 1073741824 := by rw [List.length_map]; omega
    walk_at "K01V7 w"
    refine ⟨g, hk, ⟨hpa, hpg⟩, _, hp, List.ne_nil_of_mem (List.mem_map.mpr ⟨_, hone, rfl⟩), hlr, fun r L1 hr1 k1 => ?_⟩
    obtain ⟨k, hkr, rfl⟩ := mem_ints hr1
    obtain ⟨c1, c2, c3⟩ := (hr k).mp hkr
    have c4 := (root_mod h1).mp c3
    walk_at "K01V7 w"
    refine ⟨g, k1.k, by omega, by omega, fun r L2 g0 g1 k2 => ?_⟩
    have kk := k1.trans k2
    have hp2 := kk.o p hpa hpg _ hp
    walk_at "K01V7 w"
    refine ⟨_, hp2, .inl ⟨rfl, all_flat_ints rs⟩, ?_⟩
    rw [any_int]
    generalize ho : (1 : Int) + r = o
    have bads : ∀ (m j : Int) (w : Str), faultZ m j = .str w → faultD (.tup [.int m, .int j]) = .str w := fun _ _ _ h => h
    have tolds : ∀ (m j : Int), faultZ m j = .non → faultD (.tup [.int m, .int j]) = .non := fun _ _ h => h
    walk_at "K01V7 w"
    refine ⟨fun hb => ?_, fun hb => ?_⟩
    · have ho1 : (o * o - 1) % n = 0 := ((hr o).mp (of_decide_eq_true hb)).2.2
      walk_at "K01V7 go"
      rename_i q5 h5 q7 h7 q3 h3 q2 h2' q1 h1' q0 h0
      have h57 : q5 ≠ q7 := ne_free lup_same h7
      have m5 : L2 q5 = none := h5
      refine checked_loop (hq _ kk) ?_ lup_same ?_
      · exact (((((((((((Les.refl _).new h5).new h7).new h3).own m5).new h2').own m5).new h1').own m5).new h0).own m5).own m5
      · intro d hd
        have hq7 : ∀ o : LO, True := fun _ => trivial
        simp only [List.cons_append, List.nil_append] at hd
        simp only [List.mem_cons, List.not_mem_nil, or_false] at hd
        have hbad : ∀ (m j : Int) (w : Str), faultZ m j = .str w → heardZ (.tup [.int m, .int j]) = .tup [.str "bad", .str w] := fun _ _ _ h => heard_bad h
        have htold : ∀ (m j : Int), faultZ m j = .non → heardZ (.tup [.int m, .int j]) = .tup [.str "told", .non] := fun _ _ h => heard_told h
        rcases hd with rfl | rfl | rfl | rfl | rfl | rfl | rfl | rfl | rfl | rfl | rfl | rfl | rfl | rfl | rfl | rfl | rfl | rfl | rfl | rfl
        · exact ⟨_, _, rfl, ⟨trivial, trivial⟩, htold _ _ (faultZ_told h1 h2 c1 c2 c4)⟩
        · exact ⟨_, _, rfl, ⟨trivial, trivial⟩, heard_told (faultZ_told h1 h2 (by omega) (by omega) ((root_mod h1).mp ho1))⟩
        · exact ⟨_, _, rfl, ⟨trivial, trivial⟩, hbad _ _ _ (faultZ_turn h1 h2 (by omega))⟩
        · exact ⟨_, _, rfl, ⟨trivial, trivial⟩, hbad _ _ _ (faultZ_turn h1 h2 (by omega))⟩
        · exact ⟨_, _, rfl, ⟨trivial, trivial⟩, hbad _ _ _ (faultZ_turn h1 h2 (by omega))⟩
        · exact ⟨_, _, rfl, ⟨trivial, trivial⟩, hbad _ _ _ (faultZ_turn h1 h2 (by omega))⟩
        · exact ⟨_, _, rfl, ⟨trivial, trivial⟩, heard_bad rfl⟩
        · exact ⟨_, _, rfl, ⟨⟨_, by walk_at "K01V7 look"⟩, trivial⟩, heard_bad rfl⟩
        · exact ⟨_, _, rfl, ⟨trivial, trivial⟩, hbad _ _ _ (faultZ_limit (by omega))⟩
        · exact ⟨_, _, rfl, ⟨trivial, trivial⟩, hbad _ _ _ (faultZ_limit (by omega))⟩
        · exact ⟨_, _, rfl, ⟨trivial, trivial⟩, hbad _ _ _ (faultZ_limit (by omega))⟩
        · exact ⟨_, _, rfl, ⟨trivial, trivial⟩, htold _ _ rfl⟩
        · exact ⟨_, _, rfl, ⟨trivial, trivial⟩, htold _ _ rfl⟩
        · exact ⟨_, _, rfl, ⟨trivial, trivial⟩, hbad _ _ _ (by unfold faultZ; rw [if_neg (by omega), if_pos rfl, if_neg (by omega)])⟩
        · exact ⟨_, _, rfl, ⟨trivial, trivial⟩, hbad _ _ _ rfl⟩
        · exact ⟨_, _, rfl, trivial, heard_bad (fault_len (by simp))⟩
        · exact ⟨_, _, rfl, trivial, heard_bad (fault_len (by simp))⟩
        · exact ⟨_, _, rfl, ⟨trivial, trivial⟩, heard_bad (fault_b rfl)⟩
        · exact ⟨_, _, rfl, ⟨trivial, trivial⟩, heard_bad (fault_a rfl)⟩
        · exact ⟨_, _, rfl, ⟨trivial, trivial⟩, hbad _ _ _ (faultZ_limit (by omega))⟩
    · have ho1 : ¬ (o * o - 1) % n = 0 := fun z => (of_decide_eq_false hb) ((hr o).mpr ⟨by omega, by omega, z⟩)
      walk_at "K01V7 go"
      rename_i q5 h5 q7 h7 q3 h3 q2 h2' q1 h1' q0 h0
      have h57 : q5 ≠ q7 := ne_free lup_same h7
      have m5 : L2 q5 = none := h5
      refine checked_loop (hq _ kk) ?_ lup_same ?_
      · exact (((((((((((Les.refl _).new h5).new h7).new h3).own m5).new h2').own m5).new h1').own m5).new h0).own m5).own m5
      · intro d hd
        have hq7 : ∀ o : LO, True := fun _ => trivial
        simp only [List.cons_append, List.nil_append] at hd
        simp only [List.mem_cons, List.not_mem_nil, or_false] at hd
        have hbad : ∀ (m j : Int) (w : Str), faultZ m j = .str w → heardZ (.tup [.int m, .int j]) = .tup [.str "bad", .str w] := fun _ _ _ h => heard_bad h
        have htold : ∀ (m j : Int), faultZ m j = .non → heardZ (.tup [.int m, .int j]) = .tup [.str "told", .non] := fun _ _ h => heard_told h
        rcases hd with rfl | rfl | rfl | rfl | rfl | rfl | rfl | rfl | rfl | rfl | rfl | rfl | rfl | rfl | rfl | rfl | rfl | rfl | rfl | rfl
        · exact ⟨_, _, rfl, ⟨trivial, trivial⟩, htold _ _ (faultZ_told h1 h2 c1 c2 c4)⟩
        · exact ⟨_, _, rfl, ⟨trivial, trivial⟩, heard_bad (faultZ_turn h1 h2 (.inr (.inr fun z => ho1 ((root_mod h1).mpr z))))⟩
        · exact ⟨_, _, rfl, ⟨trivial, trivial⟩, hbad _ _ _ (faultZ_turn h1 h2 (by omega))⟩
        · exact ⟨_, _, rfl, ⟨trivial, trivial⟩, hbad _ _ _ (faultZ_turn h1 h2 (by omega))⟩
        · exact ⟨_, _, rfl, ⟨trivial, trivial⟩, hbad _ _ _ (faultZ_turn h1 h2 (by omega))⟩
        · exact ⟨_, _, rfl, ⟨trivial, trivial⟩, hbad _ _ _ (faultZ_turn h1 h2 (by omega))⟩
        · exact ⟨_, _, rfl, ⟨trivial, trivial⟩, heard_bad rfl⟩
        · exact ⟨_, _, rfl, ⟨⟨_, by walk_at "K01V7 look"⟩, trivial⟩, heard_bad rfl⟩
        · exact ⟨_, _, rfl, ⟨trivial, trivial⟩, hbad _ _ _ (faultZ_limit (by omega))⟩
        · exact ⟨_, _, rfl, ⟨trivial, trivial⟩, hbad _ _ _ (faultZ_limit (by omega))⟩
        · exact ⟨_, _, rfl, ⟨trivial, trivial⟩, hbad _ _ _ (faultZ_limit (by omega))⟩
        · exact ⟨_, _, rfl, ⟨trivial, trivial⟩, htold _ _ rfl⟩
        · exact ⟨_, _, rfl, ⟨trivial, trivial⟩, htold _ _ rfl⟩
        · exact ⟨_, _, rfl, ⟨trivial, trivial⟩, hbad _ _ _ (by unfold faultZ; rw [if_neg (by omega), if_pos rfl, if_neg (by omega)])⟩
        · exact ⟨_, _, rfl, ⟨trivial, trivial⟩, hbad _ _ _ rfl⟩
        · exact ⟨_, _, rfl, trivial, heard_bad (fault_len (by simp))⟩
        · exact ⟨_, _, rfl, trivial, heard_bad (fault_len (by simp))⟩
        · exact ⟨_, _, rfl, ⟨trivial, trivial⟩, heard_bad (fault_b rfl)⟩
        · exact ⟨_, _, rfl, ⟨trivial, trivial⟩, heard_bad (fault_a rfl)⟩
        · exact ⟨_, _, rfl, ⟨trivial, trivial⟩, hbad _ _ _ (faultZ_limit (by omega))⟩
end K01
namespace K01
open PySem PySem.Spec PyProof.Rows L2 G
-- own words: w: the head of the reading is computed; go: steps that need no thought
local macro_rules | `(tactic| walk_at "K01V8 w") => `(tactic| with_reducible (conv => whnf))
local macro_rules | `(tactic| walk_at "K01V8 hs") => `(tactic| (simp only [id_eq, decide_eq_true_eq, decide_eq_false_iff_not, Bool.not_eq_true', Bool.not_eq_false', Bool.not_true, Bool.not_false, Bool.false_eq_true, Bool.true_eq_false, Bool.and_eq_true, Bool.or_eq_true, not_false_eq_true, reduceCtorEq, bne_iff_ne, ne_eq, beq_iff_eq] at *))
local macro_rules | `(tactic| walk_at "K01V8 side") => `(tactic| first | assumption | (exact lup_same) | rfl | omega | (exact CMulA.l (by omega) (by omega)) | (exact CMulA.r (by omega) (by omega)) | (exact CDivA.s (by omega) (by omega)) | (exact ⟨_, ‹_›⟩) | (exact ⟨_, lup_same⟩) | (unfold sizeLine; first | omega | (simp; done) | (simp; omega)) | (walk_at "K01V8 look") | fail)
local macro_rules | `(tactic| walk_at "K01V8 look") => `(tactic| first | assumption | exact lup_same | exact look_new (by walk_at "K01V8 look") (by assumption) | exact look_ne (by first | assumption | exact Ne.symm (by assumption)) (by walk_at "K01V8 look") | fail)
local macro_rules | `(tactic| walk_at "K01V8 go1") => `(tactic| (with_reducible (conv => whnf)); first
  | (refine ⟨fun h => Bool.noConfusion (show false = true from h), fun _ => ?_⟩)
  | (refine ⟨fun _ => ?_, fun h => Bool.noConfusion (show true = false from h)⟩)
  | (refine ⟨fun hb => ?_, fun hb => ?_⟩ <;> (try (simp only [id_eq, decide_eq_true_eq, decide_eq_false_iff_not, Bool.not_eq_true', Bool.not_eq_false', Bool.not_true, Bool.not_false, Bool.false_eq_true, Bool.true_eq_false, Bool.and_eq_true, Bool.or_eq_true, not_false_eq_true, reduceCtorEq, bne_iff_ne, ne_eq, beq_iff_eq] at hb)))
  | (refine ⟨true, by decide +kernel, ?_⟩)
  | (refine ⟨false, by decide +kernel, ?_⟩)
  | (refine ⟨_, rfl, ?_⟩)
  | (refine Exists.intro ?x (And.intro (?s : _ = some _) ?r); (case s => walk_at "K01V8 look"))
  | (refine Exists.intro ?x (Exists.intro ?j (And.intro (?s : _ = some _) ?r)); (case s => walk_at "K01V8 look"))
  | (refine And.intro ?s ?_; (case s => walk_at "K01V8 side"))
  | (refine fun p (hp : _ = none) => ?_)
  | fail)
local macro_rules | `(tactic| walk_at "K01V8 go") => `(tactic| ((repeat' walk_at "K01V8 go1") <;> (try walk_at "K01V8 w")))
/-! ### the arithmetic of marks -/
theorem turn_back {n k x : Int} (h : k * k % n = 1 % n) : k * ((k * x) % n) % n = x % n := by
  rw [Int.mul_emod, Int.emod_emod, ← Int.mul_emod, ← Int.mul_assoc, Int.mul_emod, h, ← Int.mul_emod, Int.one_mul]
theorem turn_mark (n k x : Int) : k * (x % n) % n = k * x % n := by
  rw [Int.mul_emod, Int.emod_emod, ← Int.mul_emod]
@[reducible] def gcdZ (n k : Int) : Int := ((Nat.gcd n.natAbs (k - 1).natAbs : Nat) : Int)
theorem stays_iff {n k x : Int} (hn : 2 ≤ n) : (k * x % n = x % n) ↔ (n / gcdZ n k) ∣ x := by
  have e : gcdZ n k = (Int.gcd n (k - 1) : Int) := rfl
  have hd : 0 < Int.gcd n (k - 1) := Int.gcd_pos_of_ne_zero_left _ (by omega)
  have h1 : (k * x % n = x % n) ↔ n ∣ x * (k - 1) := by
    rw [Int.emod_eq_emod_iff_emod_sub_eq_zero, show k * x - x = x * (k - 1) by rw [Int.mul_sub, Int.mul_one, Int.mul_comm]]
    exact ⟨Int.dvd_of_emod_eq_zero, Int.emod_eq_zero_of_dvd⟩
  rw [h1, e, ← Int.dvd_mul_gcd_iff_dvd_mul]
  have hg : (Int.gcd n (k - 1) : Int) ∣ n := Int.gcd_dvd_left ..
  have h2 : n / (Int.gcd n (k - 1) : Int) * (Int.gcd n (k - 1) : Int) = n := Int.ediv_mul_cancel hg
  constructor
  · intro h
    have h3 : ((n / (Int.gcd n (k - 1) : Int)) * (Int.gcd n (k - 1) : Int)) ∣ x * (Int.gcd n (k - 1) : Int) := by
      rw [h2]; exact h
    exact Int.dvd_of_mul_dvd_mul_right (by omega) h3
  · intro h
    have := Int.mul_dvd_mul_right (Int.gcd n (k - 1) : Int) h
    rw [h2] at this
    exact this
theorem half_bound {n k : Int} (hn : 2 ≤ n) : 1 ≤ n / gcdZ n k ∧ n / gcdZ n k ≤ n ∧ n / gcdZ n k ∣ n := by
  have e : gcdZ n k = (Int.gcd n (k - 1) : Int) := rfl
  have hd : 0 < Int.gcd n (k - 1) := Int.gcd_pos_of_ne_zero_left _ (by omega)
  have hg : (Int.gcd n (k - 1) : Int) ∣ n := Int.gcd_dvd_left ..
  have h2 : n / (Int.gcd n (k - 1) : Int) * (Int.gcd n (k - 1) : Int) = n := Int.ediv_mul_cancel hg
  have hle : (Int.gcd n (k - 1) : Int) ≤ n := Int.le_of_dvd (by omega) hg
  rw [e]
  have h3 : 0 < n / (Int.gcd n (k - 1) : Int) := Int.ediv_pos_of_pos_of_dvd (by omega) (by omega) hg
  refine ⟨by omega, Int.ediv_le_self _ (by omega), ⟨_, h2.symm⟩⟩
theorem half_stays {n k x : Int} (hn : 2 ≤ n) : (k * x % n = x % n) ↔ (if n / gcdZ n k % n = 0 then x % n = 0 else (x % n) % (n / gcdZ n k % n) = 0) := by
  obtain ⟨b1, b2, b3⟩ := half_bound (k := k) hn
  rw [stays_iff hn]
  by_cases h : n / gcdZ n k = n
  · rw [h, Int.emod_self, if_pos rfl]
    exact ⟨Int.emod_eq_zero_of_dvd, Int.dvd_of_emod_eq_zero⟩
  · have h1 : n / gcdZ n k % n = n / gcdZ n k := Int.emod_eq_of_lt (by omega) (by omega)
    rw [h1, if_neg (by omega), Int.emod_emod_of_dvd _ b3]
    exact ⟨Int.emod_eq_zero_of_dvd, Int.dvd_of_emod_eq_zero⟩
theorem log_lt {i : Int} {k : Nat} (h : i.natAbs < 2 ^ k) (hk : 0 < k) : i.natAbs.log2 < k := by
  by_cases h0 : i.natAbs = 0
  · rw [h0]; simpa using hk
  · exact (Nat.log2_lt h0).mpr h
theorem great_mul {g : Int} (h0 : 0 ≤ g) (h1 : g < 10 ^ 125) : CMulA g g := by
  refine .inr ?_
  have : g.natAbs < 2 ^ 500 := by
    have h2 : (10 : Int) ^ 125 < 2 ^ 500 := by decide +kernel
    have h3 : ((g.natAbs : Nat) : Int) < ((2 ^ 500 : Nat) : Int) := by
      rw [Int.natAbs_of_nonneg h0]
      exact Int.lt_trans h1 (by exact_mod_cast h2)
    exact_mod_cast h3
  have := log_lt this (by omega)
  show g.natAbs.log2 + g.natAbs.log2 < 1000000
  omega
theorem great_div (g : Int) : CDivA g (10 ^ 64) := .inr ⟨by decide, by decide⟩
theorem great_keep {g : Int} (h : ¬ 10 ^ 60 < g / 10 ^ 64) : g < 10 ^ 125 := by
  have h1 := Int.emod_lt_of_pos g (show (0 : Int) < 10 ^ 64 by decide)
  have h2 := Int.emod_add_mul_ediv g (10 ^ 64)
  have h3 : g / 10 ^ 64 ≤ 10 ^ 60 := by omega
  have h4 : (10 : Int) ^ 64 * (g / 10 ^ 64) ≤ 10 ^ 64 * 10 ^ 60 := Int.mul_le_mul_of_nonneg_left h3 (by decide)
  have h5 : (10 : Int) ^ 64 * 10 ^ 60 + 10 ^ 64 < 10 ^ 125 := by decide
  omega
theorem for_post {D : DEnds} {I : DIt} {g : DTG} {tb : DTS} {δ0 : SD} {L1 : LH} (Post : SD → LH → Prop) (hp : ∀ δ L, Post δ L → D.nx δ L) (h : ∀ nx : SD → LH → Prop, (∀ δ L, Post δ L → nx δ L) → ∃ W : Nat → SD → LH → Prop, W 0 δ0 L1 ∧ (∀ i δ L, i ≤ I.n → W i δ L → I.st L) ∧
    (∀ i d δ L, i < I.n → I.item i d → W i δ L → g d δ L fun δ2 L2 => tb { D with nx := W (i + 1), ct := W (i + 1), bk := nx } δ2 L2) ∧ ∀ δ L, W I.n δ L → nx δ L) : ∃ W : Nat → SD → LH → Prop, W 0 δ0 L1 ∧ (∀ i δ L, i ≤ I.n → W i δ L → I.st L) ∧
    (∀ i d δ L, i < I.n → I.item i d → W i δ L → g d δ L fun δ2 L2 => tb { D with nx := W (i + 1), ct := W (i + 1), bk := D.nx } δ2 L2) ∧ ∀ δ L, W I.n δ L → D.nx δ L := h D.nx hp
structure MkP (a g : Addr) (L : LH) (n k : Int) (δ : SD) (L' : LH) : Prop where
  kp : Kp a g L L'
  s : ∃ (G : Int) (z4 : Option D), δ = [some (.v (.ref a)), some (.int n), some (.int k), some (.int G), z4, none, none, none, none, none, none, none] ∧ 0 ≤ G
structure MkW (a g : Addr) (L : LH) (n k : Int) (i : Nat) (δ : SD) (L' : LH) : Prop where
  kp : Kp a g L L'
  s : ∃ (G : Int) (z4 : Option D), δ = [some (.v (.ref a)), some (.int n), some (.int k), some (.int G), z4, none, none, none, none, none, none, none] ∧ 0 ≤ G ∧ G < 10 ^ 125
structure MxW2 (a g : Addr) (L : LH) (n k G hf : Int) (z4 : Option D) (i : Nat) (δ : SD) (L' : LH) : Prop where
  kp : Kp a g L L'
  s : ∃ z6 z7 z8 z9 z10 : Option D, δ = [some (.v (.ref a)), some (.int n), some (.int k), some (.int G), z4, some (.int hf), z6, z7, z8, z9, z10, none]
theorem sm4 (a b c d : Int) : sm (.tup [.int a, .int b, .int c, .int d]) (.tup [.int a, .int b, .int c, .int d]) = true := sm_refl _ rfl
theorem vc_law_marks : ∀ ds L Q Ed, sp_law_marks ds L Q Ed → rd_law_marks (endD Q) (stD 12 ds) L := by
  intro ds L Q Ed h
  match ds, h with
  | [.v (.ref a), .int n, .int k], ⟨g, hk, h1, h2, h3, h4, h5, hq⟩ =>
    have h6 := (root_mod h1).mp h5
    walk_at "K01V8 w"
    refine ⟨g, hk, by omega, by omega, fun G L1 g0 g1 k1 => ?_⟩
    walk_at "K01V8 w"
    refine ⟨g, k1.k, by omega, by omega, fun r L2 r0 r1 k2 => ?_⟩
    have kk := k1.trans k2
    walk_at "K01V8 w"
    refine ⟨by omega, for_post (MkP a g L n k) (fun δ L3 hP => ?_) fun nx hnx => ⟨MkW a g L n k, ⟨kk, G, none, rfl, g0, Int.lt_trans g1 (by decide +kernel)⟩, fun _ _ _ _ _ => trivial, fun i d δ L' hi hd hW => ?_, fun δ L' hW => ?_⟩⟩
    · clear kk k1 k2 g0 g1 hk
      obtain ⟨kk, G, z4, rfl, g0⟩ := hP
      have hg := half_bound (k := k) h1
      have hgz : 0 < gcdZ n k ∧ gcdZ n k < 1073741824 := by
        have e : gcdZ n k = (Int.gcd n (k - 1) : Int) := rfl
        have hd : 0 < Int.gcd n (k - 1) := Int.gcd_pos_of_ne_zero_left _ (by omega)
        have hle : (Int.gcd n (k - 1) : Int) ≤ n := Int.le_of_dvd (by omega) (Int.gcd_dvd_left ..)
        omega
      walk_at "K01V8 w"
      refine ⟨by omega, CDivA.s hgz.1 hgz.2, by omega, ?_⟩
      walk_at "K01V8 w"
      refine ⟨g, kk.k, by omega, by omega, fun x0 L4 x00 x01 k4 => ?_⟩
      have k5 := kk.trans k4
      have hst : ∀ x : Int, (k * x % n = x % n) ↔ (if n / gcdZ n k % n = 0 then x % n = 0 else (x % n) % (n / gcdZ n k % n) = 0) := fun x => half_stays h1
      have hhb : 0 ≤ n / gcdZ n k % n ∧ n / gcdZ n k % n < n := ⟨Int.emod_nonneg _ (by omega), Int.emod_lt_of_pos _ (by omega)⟩
      have hhz : halfZ n k = n / gcdZ n k % n := by unfold halfZ; rw [if_neg (by omega)]
      clear hg hgz
      walk_at "K01V8 w"
      refine ⟨CMulA.l (by omega) (by omega), ?_⟩
      generalize hhf : n / gcdZ n k % n = hf at hst hhb hhz
      dsimp only
      rw [show n / ((Nat.gcd n.natAbs (k - 1).natAbs : Nat) : Int) % n = hf from hhf]
      walk_at "K01V8 w"
      refine ⟨MxW2 a g L n k G hf z4, ⟨k5, _, _, _, _, _, rfl⟩, fun _ _ _ _ _ => trivial, fun i d δ L' hi hd hW => ?_, fun δ L' hW => ?_⟩
      · obtain ⟨kp, z6, z7, z8, z9, z10, rfl⟩ := hW
        obtain ⟨x, _, rfl⟩ := mem_ints (ns := [G, -G, n, -1, x0, hf, hf + 1, 2 * hf, hf - 1]) (List.mem_of_getElem? hd)
        have e1 : k * (k * x % n) % n = x % n := turn_back (by rw [h6, Int.emod_eq_of_lt (by omega) (by omega)])
        have e2 := turn_mark n k x
        have hx := hst x
        have e3 : restZ x n = x % n := by unfold restZ; rw [if_neg (by omega)]
        have e4 : ∀ y, restZ (k * y) n = k * y % n := fun y => by unfold restZ; rw [if_neg (by omega)]
        have hm1 : 0 ≤ x % n := Int.emod_nonneg _ (by omega)
        walk_at "K01V8 w"
        refine ⟨by omega, ?_⟩
        walk_at "K01V8 w"
        refine ⟨CMulA.l (by omega) (by omega), by omega, ?_⟩
        have hn0 : 0 ≤ n := by omega
        have hkb : -10000 ≤ k ∧ k ≤ 10000 := by omega
        walk_at "K01V8 w"
        refine ⟨hn0, ?_⟩
        rw [e3]
        walk_at "K01V8 w"
        refine ⟨hn0, hkb, ?_⟩
        rw [e4]
        walk_at "K01V8 w"
        refine ⟨hn0, hkb, ?_⟩
        dsimp only
        rw [e4, e1]
        walk_at "K01V8 w"
        refine ⟨hn0, hkb, ?_⟩
        dsimp only
        rw [e4, e2]
        walk_at "K01V8 w"
        refine ⟨rfl, rfl, by simp [D.sz, D.szs], ?_⟩
        rw [sm4]
        generalize hmk : x % n = mk at hx hm1
        generalize htr : k * x % n = tr at hx
        have hs1 : 0 < hf ∨ hf = 0 := by omega
        walk_at "K01V8 go"
        · rw [if_pos ‹hf = 0›] at hx
          exact absurd (decide_eq_decide.mpr hx) ‹_›
        · exact ⟨kp, _, _, _, _, _, rfl⟩
        · rw [if_neg ‹¬ hf = 0›] at hx
          exact absurd (decide_eq_decide.mpr hx) ‹_›
        · exact ⟨kp, _, _, _, _, _, rfl⟩
      · obtain ⟨kp, z6, z7, z8, z9, z10, rfl⟩ := hW
        have hn0 : 0 ≤ n := by omega
        have hn1 : n < 1073741824 := by omega
        have d1 : divZ n (k + 1) = decide ((k + 1) % n = 0) := by unfold divZ; rw [if_neg (by omega)]
        have d2 : divZ n (k - 1) = decide ((k - 1) % n = 0) := by unfold divZ; rw [if_neg (by omega)]
        walk_at "K01V8 w"
        refine ⟨hn0, hn1, hn0, hn0, ?_⟩
        rw [hhz, d1, d2]
        walk_at "K01V8 w"
        refine ⟨by omega, by omega, rfl, rfl, by simp [D.sz, D.szs], ?_⟩
        dsimp only [id]
        rw [sm_refl _ rfl]
        walk_at "K01V8 w"
        refine ⟨fun z => Bool.noConfusion (show false = true from z), fun _ => ?_⟩
        walk_at "K01V8 w"
        refine ⟨g, kp.k, trivial, by simp, by simp, fun r L5 hr k6 => ?_⟩
        have k7 := kp.trans k6
        have hfin : ∀ sg : Int, (sg = 1 ∨ sg = -1) → sm (.tup [.int (restZ G 0), .int (restZ (sg * G) 0), .int (halfZ 0 sg), .bl (divZ 0 (sg + 1)), .bl (divZ 0 (sg - 1))]) (.tup [.int G, .int (sg * G), .int (if decide (sg = 1) then 1 else 0), .bl (decide (sg = -1)), .bl (decide (sg = 1))]) = true := fun sg hs => by
          have u1 : ∀ y, restZ y 0 = y := fun y => by unfold restZ; rw [if_pos rfl]
          rw [u1, u1]
          rcases hs with rfl | rfl <;> simp [sm, sms, halfZ, divZ]
        obtain ⟨sg, hsg, rfl⟩ := mem_ints (ns := [1, -1]) hr
        replace hsg : sg = 1 ∨ sg = -1 := by simpa using hsg
        have hsb : -10000 ≤ sg ∧ sg ≤ 10000 := by omega
        have := hfin sg hsg
        walk_at "K01V8 w"
        refine ⟨by omega, by omega, hsb, by omega, by omega, by omega, by omega, CMulA.l (by omega) (by omega), ?_⟩
        have hs2 : D.smp (.tup [.int (restZ G 0), .int (restZ (sg * G) 0), .int (halfZ 0 sg), .bl (divZ 0 (sg + 1)), .bl (divZ 0 (sg - 1))]) = true := rfl
        walk_at "K01V8 w"
        refine ⟨rfl, rfl, by simp [D.sz, D.szs], ?_⟩
        walk_at "K01V8 w"
        exact gret (hq _ k7) (.refl _) (congrArg D.bl this).symm
    · obtain ⟨kp, G, z4, rfl, b1, b2⟩ := hW
      replace hi : i < r.toNat := hi
      cases (show d = .int (0 + (i : Int) * 1) from hd)
      walk_at "K01V8 w"
      refine ⟨great_mul b1 b2, ?_⟩
      have hb3 : 0 ≤ G * G := Int.mul_nonneg b1 b1
      walk_at "K01V8 w"
      refine ⟨⟨by omega, by omega, by decide⟩, great_div _, ⟨by omega, by omega, by decide⟩, ?_⟩
      walk_at "K01V8 w"
      refine ⟨fun hb => ?_, fun hb => ?_⟩
      · exact hnx _ _ ⟨kp, _, _, rfl, by omega⟩
      · exact ⟨kp, _, _, rfl, by omega, great_keep (of_decide_eq_false hb)⟩
    · obtain ⟨kp, G, z4, rfl, b1, b2⟩ := hW
      exact hnx _ _ ⟨kp, G, z4, rfl, b1⟩
end K01
namespace K01
open PySem PySem.Spec PyProof.Rows L2 G
-- own words: w: the head of the reading is computed; go: steps that need no thought
local macro_rules | `(tactic| walk_at "K01V9 w") => `(tactic| with_reducible (conv => whnf))
local macro_rules | `(tactic| walk_at "K01V9 hs") => `(tactic| (simp only [id_eq, decide_eq_true_eq, decide_eq_false_iff_not, Bool.not_eq_true', Bool.not_eq_false', Bool.not_true, Bool.not_false, Bool.false_eq_true, Bool.true_eq_false, Bool.and_eq_true, Bool.or_eq_true, not_false_eq_true, reduceCtorEq, bne_iff_ne, ne_eq, beq_iff_eq] at *))
local macro_rules | `(tactic| walk_at "K01V9 side") => `(tactic| first | assumption | (exact lup_same) | rfl | omega | (exact CMulA.l (by omega) (by omega)) | (exact CMulA.r (by omega) (by omega)) | (exact CDivA.s (by omega) (by omega)) | (exact ⟨_, ‹_›⟩) | (exact ⟨_, lup_same⟩) | (unfold sizeLine; first | omega | (simp; done) | (simp; omega)) | (walk_at "K01V9 look") | fail)
local macro_rules | `(tactic| walk_at "K01V9 look") => `(tactic| first | assumption | exact lup_same | exact look_new (by walk_at "K01V9 look") (by assumption) | exact look_ne (by first | assumption | exact Ne.symm (by assumption)) (by walk_at "K01V9 look") | fail)
local macro_rules | `(tactic| walk_at "K01V9 go1") => `(tactic| (with_reducible (conv => whnf)); first
  | (refine ⟨fun h => Bool.noConfusion (show false = true from h), fun _ => ?_⟩)
  | (refine ⟨fun _ => ?_, fun h => Bool.noConfusion (show true = false from h)⟩)
  | (refine ⟨fun hb => ?_, fun hb => ?_⟩ <;> (try (simp only [id_eq, decide_eq_true_eq, decide_eq_false_iff_not, Bool.not_eq_true', Bool.not_eq_false', Bool.not_true, Bool.not_false, Bool.false_eq_true, Bool.true_eq_false, Bool.and_eq_true, Bool.or_eq_true, not_false_eq_true, reduceCtorEq, bne_iff_ne, ne_eq, beq_iff_eq] at hb)))
  | (refine ⟨true, by decide +kernel, ?_⟩)
  | (refine ⟨false, by decide +kernel, ?_⟩)
  | (refine ⟨_, rfl, ?_⟩)
  | (refine Exists.intro ?x (And.intro (?s : _ = some _) ?r); (case s => walk_at "K01V9 look"))
  | (refine Exists.intro ?x (Exists.intro ?j (And.intro (?s : _ = some _) ?r)); (case s => walk_at "K01V9 look"))
  | (refine And.intro ?s ?_; (case s => walk_at "K01V9 side"))
  | (refine fun p (hp : _ = none) => ?_)
  | fail)
local macro_rules | `(tactic| walk_at "K01V9 go") => `(tactic| ((repeat' walk_at "K01V9 go1") <;> (try walk_at "K01V9 w")))
/-! ### law_fields -/
theorem fieldZ_smp (x y : Int) : D.smp (fieldZ x y) = true ∧ D.sz (fieldZ x y) < 1000000 := by
  unfold fieldZ
  repeat' split
  all_goals exact ⟨rfl, by simp [D.sz]⟩
def FdP (d : D) : Prop := ∃ x y : Int, d = .tup [.tup [.int x, .int y], fieldZ x y]
structure FdW1 (a g : Addr) (L : LH) (q1 q2 : Addr) (l1 : List D) (i : Nat) (L' : LH) : Prop where
  kp : Kp a g L L'
  m1 : L' q1 = some (.lst l1)
  s : ∃ acc, L' q2 = some (.lst acc) ∧ acc.length ≤ i ∧ ∀ d ∈ acc, FdP d
structure FdW2 (a g : Addr) (L : LH) (q2 q3 : Addr) (l2 : List D) (i : Nat) (L' : LH) : Prop where
  kp : Kp a g L L'
  m1 : L' q2 = some (.lst l2)
  m2 : L' q3 = some (.lst [])
theorem fd1 : ∀ p ∈ ([3, 5, 7, 11, 13] : List Int), D.int p = fieldZ (p * p - 1) p ∧ D.non = fieldZ (p * p - 1) (p * p - 1 - p) ∧ D.non = fieldZ (p * p - 1) 1 ∧ D.non = fieldZ (p * p - 1) (p * p - 1 - 1) := by
  intro p hp
  simp only [List.mem_cons, List.not_mem_nil, or_false] at hp
  rcases hp with rfl | rfl | rfl | rfl | rfl <;> exact ⟨rfl, rfl, rfl, rfl⟩
theorem fd2 : ∀ p ∈ ([2, 4, 6, 8, 9, 10, 12, 14, 15, 17, 19, 23, 99] : List Int), D.non = fieldZ (p * p - 1) p := by
  intro p hp
  simp only [List.mem_cons, List.not_mem_nil, or_false] at hp
  rcases hp with rfl | rfl | rfl | rfl | rfl | rfl | rfl | rfl | rfl | rfl | rfl | rfl | rfl <;> rfl
theorem fd3 : ∀ p ∈ ([1, -1] : List Int), D.non = fieldZ 0 p := by
  intro p hp
  simp only [List.mem_cons, List.not_mem_nil, or_false] at hp
  rcases hp with rfl | rfl <;> rfl
theorem vc_law_fields : ∀ ds L Q Ed, sp_law_fields ds L Q Ed → rd_law_fields (endD Q) (stD 7 ds) L := by
  intro ds L Q Ed h
  match ds, h with
  | [.v (.ref a)], ⟨g, hk, hq⟩ =>
    walk_at "K01V9 w"
    refine ⟨g, hk, trivial, by simp, by simp, fun r L1 hr k1 => ?_⟩
    obtain ⟨p, hp, rfl⟩ := mem_ints (ns := [3, 5, 7, 11, 13]) hr
    have hp1 : 3 ≤ p ∧ p ≤ 13 := (show ∀ p ∈ ([3, 5, 7, 11, 13] : List Int), 3 ≤ p ∧ p ≤ 13 by decide) p hp
    walk_at "K01V9 w"
    refine ⟨CMulA.l (by omega) (by omega), ?_⟩
    walk_at "K01V9 w"
    refine ⟨g, k1.k, trivial, by simp, by simp, fun r L2 hr2 k2 => ?_⟩
    obtain ⟨o, ho, rfl⟩ := mem_ints (ns := [2, 4, 6, 8, 9, 10, 12, 14, 15, 17, 19, 23, 99]) hr2
    have ho1 : 2 ≤ o ∧ o ≤ 99 := (show ∀ p ∈ ([2, 4, 6, 8, 9, 10, 12, 14, 15, 17, 19, 23, 99] : List Int), 2 ≤ p ∧ p ≤ 99 by decide) o ho
    have kk := k1.trans k2
    walk_at "K01V9 go"
    rename_i q1 h1
    refine ⟨g, kk.k.up (hk.na (kk.free h1)).1 (hk.na (kk.free h1)).2 _, trivial, by simp, by simp, fun r L3 hr3 k3 => ?_⟩
    obtain ⟨sg, hsg, rfl⟩ := mem_ints (ns := [1, -1]) hr3
    have n1 := hk.na (kk.free h1)
    have m1 := k3.o q1 n1.1 n1.2 _ lup_same
    have k4 := (kk.new h1 _).trans k3
    have hz1 := kk.free h1
    walk_at "K01V9 go"
    rename_i q2 h2
    have n12 : q1 ≠ q2 := ne_free lup_same h2
    have hz2 : L q2 = none := (k4.own hz1 _).free h2
    refine ⟨FdW1 a g L q1 q2 _, ⟨(k4.own hz1 _).own hz2 _, look_ne n12 lup_same, [], lup_same, Nat.le_refl _, by simp⟩, fun i L' _ hW => hW.m1, fun i d L' hi hd hW => ?_, fun L' hW => ?_⟩
    · obtain ⟨kp, m1, acc, m2, m3, m4⟩ := hW
      have hl : i < 6 := hi
      have hd2 := List.mem_of_getElem? hd
      have hP : FdP d := by
        simp only [List.cons_append, List.nil_append, List.mem_cons, List.not_mem_nil, or_false] at hd2
        obtain ⟨f1, f2, f3, f4⟩ := fd1 p hp
        rcases hd2 with rfl | rfl | rfl | rfl | rfl | rfl
        · exact ⟨_, _, by rw [← f1]⟩
        · exact ⟨_, _, by rw [← f2]⟩
        · exact ⟨_, _, by rw [← f3]⟩
        · exact ⟨_, _, by rw [← f4]⟩
        · exact ⟨_, _, by rw [← fd2 o ho]⟩
        · exact ⟨_, _, by rw [← fd3 sg hsg]⟩
      have hkeep : ∀ y : D, FdP y → FdW1 a g L q1 q2 _ (i + 1) (lup L' q2 (.lst (acc ++ [y]))) := fun y hy => ⟨kp.own hz2 _, look_ne n12 m1, acc ++ [y], lup_same, by simp; omega, fun d hd => by
        rcases List.mem_append.mp hd with hd | hd
        · exact m4 d hd
        · simp at hd; subst hd; exact hy⟩
      obtain ⟨x, y, rfl⟩ := hP
      clear hd hd2
      walk_at "K01V9 go"
      · exact hkeep _ ⟨x, y, rfl⟩
      · exact hkeep _ ⟨x, y, rfl⟩
      · exact ⟨kp, m1, acc, m2, by omega, m4⟩
    · obtain ⟨kp, m1, acc, m2, m3, m4⟩ := hW
      replace m3 : acc.length ≤ 6 := m3
      walk_at "K01V9 go"
      rename_i q3 h3
      have n23 : q2 ≠ q3 := ne_free m2 h3
      have hz3 : L q3 = none := kp.free h3
      refine ⟨FdW2 a g L q2 q3 acc, ⟨kp.own hz3 _, look_ne n23 m2, lup_same⟩, fun i L' _ hW => hW.m1, fun i d L' hi hd hW => ?_, fun L' hW => ?_⟩
      · obtain ⟨kp, m1, m5⟩ := hW
        obtain ⟨x, y, rfl⟩ := m4 d (List.mem_of_getElem? hd)
        obtain ⟨s1, s2⟩ := fieldZ_smp x y
        have s3 := sm_refl _ s1
        walk_at "K01V9 w"
        refine ⟨rfl, ?_⟩
        walk_at "K01V9 w"
        refine ⟨s1, s1, s2, ?_⟩
        rw [s3]
        walk_at "K01V9 go"
        exact ⟨kp, m1, m5⟩
      · obtain ⟨kp, m1, m5⟩ := hW
        walk_at "K01V9 go"
        exact gret (hq _ kp) (.refl _) rfl
end K01
namespace K01
open PySem PySem.Spec PyProof.Rows L2 G
-- own words: w: the head of the reading is computed; go: steps that need no thought
local macro_rules | `(tactic| walk_at "K01V10 w") => `(tactic| with_reducible (conv => whnf))
local macro_rules | `(tactic| walk_at "K01V10 hs") => `(tactic| (simp only [id_eq, decide_eq_true_eq, decide_eq_false_iff_not, Bool.not_eq_true', Bool.not_eq_false', Bool.not_true, Bool.not_false, Bool.false_eq_true, Bool.true_eq_false, Bool.and_eq_true, Bool.or_eq_true, not_false_eq_true, reduceCtorEq, bne_iff_ne, ne_eq, beq_iff_eq] at *))
local macro_rules | `(tactic| walk_at "K01V10 side") => `(tactic| first | assumption | (exact lup_same) | rfl | omega | (exact CMulA.l (by omega) (by omega)) | (exact CMulA.r (by omega) (by omega)) | (exact CDivA.s (by omega) (by omega)) | (exact ⟨_, ‹_›⟩) | (exact ⟨_, lup_same⟩) | (unfold sizeLine; first | omega | (simp; done) | (simp; omega)) | (walk_at "K01V10 look") | fail)
local macro_rules | `(tactic| walk_at "K01V10 look") => `(tactic| first | assumption | exact lup_same | exact look_new (by walk_at "K01V10 look") (by assumption) | exact look_ne (by first | assumption | exact Ne.symm (by assumption)) (by walk_at "K01V10 look") | fail)
local macro_rules | `(tactic| walk_at "K01V10 go1") => `(tactic| (with_reducible (conv => whnf)); first
  | (refine ⟨fun h => Bool.noConfusion (show false = true from h), fun _ => ?_⟩)
  | (refine ⟨fun _ => ?_, fun h => Bool.noConfusion (show true = false from h)⟩)
  | (refine ⟨fun hb => ?_, fun hb => ?_⟩ <;> (try (simp only [id_eq, decide_eq_true_eq, decide_eq_false_iff_not, Bool.not_eq_true', Bool.not_eq_false', Bool.not_true, Bool.not_false, Bool.false_eq_true, Bool.true_eq_false, Bool.and_eq_true, Bool.or_eq_true, not_false_eq_true, reduceCtorEq, bne_iff_ne, ne_eq, beq_iff_eq] at hb)))
  | (refine Exists.intro true (And.intro (by decide +kernel) ?_))
  | (refine Exists.intro false (And.intro (by decide +kernel) ?_))
  | (refine Exists.intro _ (And.intro rfl ?_))
  | (refine Exists.intro ?x (And.intro (?s : _ = some _) ?r); (case s => walk_at "K01V10 look"))
  | (refine Exists.intro ?x (Exists.intro ?j (And.intro (?s : _ = some _) ?r)); (case s => walk_at "K01V10 look"))
  | (refine And.intro ?s ?_; (case s => walk_at "K01V10 side"))
  | (refine fun p (hp : _ = none) => ?_)
  | fail)
local macro_rules | `(tactic| walk_at "K01V10 go") => `(tactic| ((repeat' walk_at "K01V10 go1") <;> (try walk_at "K01V10 w")))
theorem Kp.les {a g : Addr} {L L' : LH} (k : Ket a g L) (h : Les L L') : Kp a g L L' := by
  obtain ⟨s, c, ns, h1, h2, h3⟩ := k.st
  exact ⟨k, ⟨k.ne, s, c, ns, h a _ h1, h g _ h2, h3⟩, fun b _ _ o e => h b o e⟩
theorem divOut_mul (n p : Nat) : (divOut n p).1 * (divOut n p).2 = n := by
  induction n using Nat.strongRecOn with
  | ind n ih =>
    rw [divOut]
    split
    · rename_i h
      have h1 := ih (n / p) (Nat.div_lt_self (by omega) (by omega))
      show (divOut (n / p) p).1 * (p * (divOut (n / p) p).2) = n
      rw [Nat.mul_left_comm, h1, Nat.mul_div_cancel' (Nat.dvd_of_mod_eq_zero h.2.2)]
    · exact Nat.mul_one _
theorem ppF_dvd : ∀ (k left p : Nat), left + 1 - p = k → ∀ q ∈ ppF left p, q.2 ∣ left := by
  intro k
  induction k using Nat.strongRecOn with
  | ind k ih =>
    intro left p e q hq
    rw [ppF] at hq
    split at hq
    · rename_i h
      have h1 := divOut_le left p
      have h2 : p ≤ left := Nat.le_trans (Nat.le_mul_of_pos_left p (by omega)) h.1
      rcases List.mem_append.mp hq with hq | hq
      · split at hq
        · simp at hq; subst hq; exact ⟨(divOut left p).1, by show left = (divOut left p).2 * _; rw [Nat.mul_comm, divOut_mul]⟩
        · simp at hq
      · exact Nat.dvd_trans (ih ((divOut left p).1 + 1 - (p + 1)) (by omega) _ _ rfl q hq) (divOut_dvd left p)
    · split at hq
      · simp at hq; subst hq; exact Nat.dvd_refl _
      · simp at hq
theorem powZ_mem {n q : Int} (hn : 1 ≤ n) (h : q ∈ powZ n) : 2 ≤ q ∧ q ∣ n := by
  unfold powZ sortZ at h
  rw [List.mem_mergeSort] at h
  obtain ⟨x, hx, rfl⟩ := List.mem_map.mp h
  obtain ⟨y, hy, rfl⟩ := List.mem_map.mp hx
  have h1 := (ppF_facts _ n.toNat 2 rfl).1 y hy
  have h2 := ppF_dvd _ n.toNat 2 rfl y hy
  refine ⟨by omega, ?_⟩
  have : (y.2 : Int) ∣ (n.toNat : Int) := Int.natCast_dvd_natCast.mpr h2
  rwa [Int.toNat_of_nonneg (by omega)] at this
theorem powZ_len {n : Int} (h : n ≤ 10000) : (powZ n).length ≤ 10001 := by
  have := (ppF_facts _ n.toNat 2 rfl).2
  simp [powZ, sortZ, ppl]
  omega
theorem szs_pairs {α : Type} (l : List α) (f g : α → Int) : D.szs (l.map fun a => .tup [.int (f a), .int (g a)]) = 3 * l.length ∧ D.smps (l.map fun a => .tup [.int (f a), .int (g a)]) = true := by
  induction l with
  | nil => exact ⟨rfl, rfl⟩
  | cons a l ih =>
    rw [List.map_cons, D.szs, D.smps, ih.1, ih.2]
    refine ⟨by simp [D.sz, D.szs]; omega, rfl⟩
/-- the elements are parts of n -/
def DvP (n : Int) (d : D) : Prop := ∃ m : Int, d = .int m ∧ 2 ≤ m ∧ m ∣ n
structure PaW (n : Int) (p : Addr) (f : Int → D) (L0 : LH) (all : List Int) (i : Nat) (L' : LH) : Prop where
  l : L' = lup L0 p (.lst ((all.take i).map f))
structure DiW (a g : Addr) (L : LH) (n : Int) (p : Addr) (L0 : LH) (i : Nat) (L' : LH) : Prop where
  s : ∃ acc, L' = lup L0 p (.lst acc) ∧ acc.length ≤ i ∧ ∀ d ∈ acc, DvP n d
theorem vc_law_parts : ∀ ds L Q Ed, sp_law_parts ds L Q Ed → rd_law_parts (endD Q) (stD 10 ds) L := by
  intro ds L Q Ed h
  match ds, h with
  | [.v (.ref a), .int n, .int k], ⟨g, hk, h1, h2, h3, h4, h5, hq⟩ =>
    have h6 := (root_mod h1).mp h5
    have hpm := fun q => @powZ_mem n q (by omega)
    have hpl := powZ_len h2
    walk_at "K01V10 w"
    refine ⟨by omega, h2, fun p1 L1 hp1 les1 m1 => ?_⟩
    have k1 := Kp.les hk les1
    walk_at "K01V10 w"
    refine ⟨by omega, h2, ?_⟩
    walk_at "K01V10 w"
    refine ⟨_, m1, fun p2 hp2 => ?_⟩
    refine ⟨PaW n p2 (fun q => .tup [.int q, .int (k % q)]) L1 (powZ n), ⟨rfl⟩, fun i L' _ hW => ?_, fun i d L' hi hd hW => ?_, fun L' hW => ?_⟩
    · obtain ⟨rfl⟩ := hW
      exact look_new m1 hp2
    · obtain ⟨rfl⟩ := hW
      replace hd : ((powZ n).map D.int)[i]? = some d := hd
      rw [List.getElem?_map, Option.map_eq_some_iff] at hd
      obtain ⟨q, hq1, rfl⟩ := hd
      have hq2 := hpm q (List.mem_of_getElem? hq1)
      have hi2 : i < (powZ n).length := (List.getElem?_eq_some_iff.mp hq1).1
      walk_at "K01V10 go"
      refine ⟨?_⟩
      rw [lup_lup, List.take_add_one, hq1, List.map_append]; rfl
    · have e : L' = lup L1 p2 (.lst ((powZ n).map fun q => .tup [.int q, .int (k % q)])) := by
        rw [hW.l]
        congr 3
        show List.take ((powZ n).map D.int).length _ = _
        rw [List.length_map, List.take_length]
      subst e
      have sp := szs_pairs (powZ n) (fun q => q) (fun q => k % q)
      have hs1 : D.smp (.tup ((powZ n).map fun q => .tup [.int q, .int (k % q)])) = true := sp.2
      have hs2 : D.sz (.tup ((powZ n).map fun q => .tup [.int q, .int (k % q)])) < 1000000 := by
        rw [D.sz, sp.1]; omega
      have hs3 := sm_refl _ hs1
      have m2 := look_new (u := .lst ((powZ n).map fun q => .tup [.int q, .int (k % q)])) m1 hp2
      have k2 := k1.new hp2 (.lst ((powZ n).map fun q => .tup [.int q, .int (k % q)]))
      clear hW
      walk_at "K01V10 w"
      refine ⟨_, lup_same, hs1, hs1, hs2, ?_⟩
      rw [hs3]
      generalize lup L1 p2 _ = L2 at m2 k2
      walk_at "K01V10 w"
      refine ⟨fun z => Bool.noConfusion (show false = true from z), fun _ => ?_⟩
      walk_at "K01V10 w"
      have hb : ∀ b : Int, 2 ≤ b → True := fun _ _ => trivial
      refine ⟨⟨by omega, by omega, by (show -2 ^ 62 ≤ (if (120 : Int) < n then 120 else n) + 1); split <;> omega, by (show (if (120 : Int) < n then 120 else n) + 1 < 2 ^ 62); split <;> omega⟩, fun p3 hp3 => ?_⟩
      refine ⟨DiW a g L n p3 L2, ⟨[], rfl, Nat.le_refl _, by simp⟩, fun _ _ _ _ => trivial, fun i d L' hi hd hW => ?_, fun L' hW => ?_⟩
      · obtain ⟨acc, rfl, c1, c2⟩ := hW.s
        cases (show d = .int (2 + (i : Int) * 1) from hd)
        replace hi : i < ((if (120 : Int) < n then 120 else n) + 1 - 2).toNat := hi
        have hi2 : i < 119 := by split at hi <;> omega
        have hpos : 0 < 2 + (i : Int) * 1 := by omega
        walk_at "K01V10 go"
        · rename_i hdv
          refine ⟨acc ++ [.int (2 + (i : Int) * 1)], by rw [lup_lup], by simp; omega, fun d hd => ?_⟩
          rcases List.mem_append.mp hd with hd | hd
          · exact c2 d hd
          · simp only [List.mem_cons, List.not_mem_nil, or_false] at hd
            exact ⟨_, hd, by omega, Int.dvd_of_emod_eq_zero hdv⟩
        · exact ⟨acc, rfl, by omega, c2⟩
      · obtain ⟨acc, rfl, c1, c2⟩ := hW.s
        replace c1 : acc.length ≤ ((if (120 : Int) < n then 120 else n) + 1 - 2).toNat := c1
        have c3 : acc.length ≤ 119 := by split at c1 <;> omega
        have m3 := look_new (u := .lst acc) m2 hp3
        have k3 := k2.new hp3 (.lst acc)
        have e3 : lup L2 p3 (.lst acc) p3 = some (.lst acc) := lup_same
        clear hW c1
        generalize lup L2 p3 (.lst acc) = L3 at m3 k3 e3 ⊢
        walk_at "K01V10 go"
        rename_i p4 hp4 p5 hp5 p6 hp6
        have kq := ((k3.new hp4 (.lst [.int n])).new hp5 (.lst (acc ++ [.int n]))).new hp6 (.lst (acc ++ [.int n] ++ (powZ n).map D.int))
        have hp6' : L p6 = none := ((k3.new hp4 (.lst [.int n])).new hp5 (.lst (acc ++ [.int n]))).free hp6
        have m4 : lup (lup (lup L3 p4 (.lst [.int n])) p5 (.lst (acc ++ [.int n]))) p6 (.lst (acc ++ [.int n] ++ (powZ n).map D.int)) p6 = some (.lst (acc ++ [.int n] ++ (powZ n).map D.int)) := lup_same
        generalize lup (lup (lup L3 p4 (.lst [.int n])) p5 (.lst (acc ++ [.int n]))) p6 (.lst (acc ++ [.int n] ++ (powZ n).map D.int)) = L4 at kq m4 ⊢
        refine ⟨g, kq.k, hk.na hp6', _, m4, by simp, by simp; omega, fun r L5 hr k5 => ?_⟩
        have hrP : DvP n r := by
          rcases List.mem_append.mp hr with hr | hr
          · rcases List.mem_append.mp hr with hr | hr
            · exact c2 r hr
            · simp only [List.mem_cons, List.not_mem_nil, or_false] at hr
              exact ⟨n, hr, h1, Int.dvd_refl n⟩
          · obtain ⟨q, hq, rfl⟩ := mem_ints hr
            exact ⟨q, rfl, hpm q hq⟩
        obtain ⟨m, rfl, hm1, hm2⟩ := hrP
        have hm3 : m ≤ n := Int.le_of_dvd (by omega) hm2
        have k6 := kq.trans k5
        clear hr c2 m4 kq k5 k3 e3 k2 m2 m3 m1 k1 hp4 hp5 hp6 hp6' hp3 hs1 hs2 hs3 sp hp2
        walk_at "K01V10 w"
        refine ⟨⟨by omega, by omega, by (show -2 ^ 62 ≤ (if (120 : Int) < m then 120 else m) + 1); split <;> omega, by (show (if (120 : Int) < m then 120 else m) + 1 < 2 ^ 62); split <;> omega⟩, fun p7 hp7 => ?_⟩
        refine ⟨DiW a g L m p7 L5, ⟨[], rfl, Nat.le_refl _, by simp⟩, fun _ _ _ _ => trivial, fun i d L' hi hd hW => ?_, fun L' hW => ?_⟩
        · obtain ⟨acc, rfl, c1, c2⟩ := hW.s
          cases (show d = .int (2 + (i : Int) * 1) from hd)
          replace hi : i < ((if (120 : Int) < m then 120 else m) + 1 - 2).toNat := hi
          have hi2 : i < 119 := by split at hi <;> omega
          have hpos : 0 < 2 + (i : Int) * 1 := by omega
          walk_at "K01V10 go"
          · rename_i hdv
            refine ⟨acc ++ [.int (2 + (i : Int) * 1)], by rw [lup_lup], by simp; omega, fun d hd => ?_⟩
            rcases List.mem_append.mp hd with hd | hd
            · exact c2 d hd
            · simp only [List.mem_cons, List.not_mem_nil, or_false] at hd
              exact ⟨_, hd, by omega, Int.dvd_of_emod_eq_zero hdv⟩
          · exact ⟨acc, rfl, by omega, c2⟩
        · obtain ⟨acc, rfl, c1, c2⟩ := hW.s
          replace c1 : acc.length ≤ ((if (120 : Int) < m then 120 else m) + 1 - 2).toNat := c1
          have c3 : acc.length ≤ 119 := by split at c1 <;> omega
          have k7 := k6.new hp7 (.lst acc)
          have e3 : lup L5 p7 (.lst acc) p7 = some (.lst acc) := lup_same
          clear hW c1
          generalize lup L5 p7 (.lst acc) = L6 at k7 e3 ⊢
          walk_at "K01V10 go"
          rename_i p8 hp8 p9 hp9
          have kq := (k7.new hp8 (.lst [.int m])).new hp9 (.lst (acc ++ [.int m]))
          have hp9' : L p9 = none := (k7.new hp8 (.lst [.int m])).free hp9
          have m4 : lup (lup L6 p8 (.lst [.int m])) p9 (.lst (acc ++ [.int m])) p9 = some (.lst (acc ++ [.int m])) := lup_same
          generalize lup (lup L6 p8 (.lst [.int m])) p9 (.lst (acc ++ [.int m])) = L7 at kq m4 ⊢
          refine ⟨g, kq.k, hk.na hp9', _, m4, by simp, by simp; omega, fun r L8 hr k8 => ?_⟩
          have hrP : DvP m r := by
            rcases List.mem_append.mp hr with hr | hr
            · exact c2 r hr
            · simp only [List.mem_cons, List.not_mem_nil, or_false] at hr
              exact ⟨m, hr, hm1, Int.dvd_refl m⟩
          obtain ⟨q, rfl, hq1, hq2⟩ := hrP
          have hq3 : q ≤ m := Int.le_of_dvd (by omega) hq2
          have k9 := kq.trans k8
          clear hr c2 m4 kq k8 k7 e3 k6 hp8 hp9 hp9' hp7
          have u1 : restZ k m = k % m := by unfold restZ; rw [if_neg (by omega)]
          have u2 : restZ k n = k := by unfold restZ; rw [if_neg (by omega), Int.emod_eq_of_lt (by omega) h4]
          have u3 : restZ (k % m) q = k % q := by unfold restZ; rw [if_neg (by omega), Int.emod_emod_of_dvd _ hq2]
          have u4 : restZ k q = k % q := by unfold restZ; rw [if_neg (by omega)]
          have hkm0 := Int.emod_nonneg k (show m ≠ 0 by omega)
          have hkm1 := Int.emod_lt_of_pos k (show 0 < m by omega)
          have hkk : (k * k - 1) % m = 0 := Int.emod_eq_zero_of_dvd (Int.dvd_trans hm2 (Int.dvd_of_emod_eq_zero h5))
          have hkk1 := (root_mod hm1).mp hkk
          have hkm : 1 ≤ k % m := by
            apply Decidable.byContradiction
            intro hc
            have e0 : k % m = 0 := by omega
            rw [Int.mul_emod, e0, Int.zero_mul, Int.zero_emod] at hkk1
            omega
          have hdo : DialOk m (k % m) := .inr ⟨hm1, by omega, hkm, hkm1, by rw [← Int.mul_emod]; exact hkk1⟩
          have hst : divZ m (k % m + 1) = decide ((k + 1) % m = 0) := by unfold divZ; rw [if_neg (by omega), Int.emod_add_emod]
          have hhz : halfZ m (k % m) = m / gcdZ m (k % m) % m := by unfold halfZ; rw [if_neg (by omega)]
          have hgz : 0 < gcdZ m (k % m) ∧ gcdZ m (k % m) < 1073741824 := by
            have e : gcdZ m (k % m) = (Int.gcd m (k % m - 1) : Int) := rfl
            have hd : 0 < Int.gcd m (k % m - 1) := Int.gcd_pos_of_ne_zero_left _ (by omega)
            have hle : (Int.gcd m (k % m - 1) : Int) ≤ m := Int.le_of_dvd (by omega) (Int.gcd_dvd_left ..)
            omega
          walk_at "K01V10 w"
          refine ⟨by omega, ?_⟩
          rw [u1]
          walk_at "K01V10 w"
          refine ⟨by omega, ?_⟩
          rw [u2]
          walk_at "K01V10 w"
          refine ⟨by omega, rfl, rfl, by simp [D.sz, D.szs], ?_⟩
          dsimp only
          rw [sm_refl _ rfl]
          walk_at "K01V10 w"
          refine ⟨fun z => Bool.noConfusion (show false = true from z), fun _ => ?_⟩
          walk_at "K01V10 w"
          refine ⟨by omega, by omega, ?_⟩
          dsimp only
          rw [u3]
          walk_at "K01V10 w"
          refine ⟨by omega, ?_⟩
          rw [u4]
          walk_at "K01V10 w"
          refine ⟨by omega, by omega, rfl, rfl, by simp [D.sz, D.szs], ?_⟩
          dsimp only
          rw [sm_refl _ rfl]
          walk_at "K01V10 w"
          refine ⟨fun z => Bool.noConfusion (show false = true from z), fun _ => ?_⟩
          walk_at "K01V10 w"
          refine ⟨by omega, by omega, CDivA.s hgz.1 hgz.2, by omega, ?_⟩
          walk_at "K01V10 w"
          refine ⟨by omega, by omega, hdo, by omega, ?_⟩
          rw [hst, hhz]
          walk_at "K01V10 w"
          refine ⟨by omega, rfl, rfl, by simp [D.sz, D.szs], ?_⟩
          walk_at "K01V10 w"
          exact gret (hq _ k9) (.refl _) (congrArg D.bl (sm_refl (.tup [.int (m / gcdZ m (k % m) % m), .non, .bl (decide ((k + 1) % m = 0))]) rfl)).symm
end K01
namespace K01
open PySem PySem.Spec PyProof.Rows L2 G
-- own words: w: the head of the reading is computed; go: steps that need no thought
local macro_rules | `(tactic| walk_at "K01V11 w") => `(tactic| with_reducible (conv => whnf))
local macro_rules | `(tactic| walk_at "K01V11 hs") => `(tactic| (simp only [id_eq, decide_eq_true_eq, decide_eq_false_iff_not, Bool.not_eq_true', Bool.not_eq_false', Bool.not_true, Bool.not_false, Bool.false_eq_true, Bool.true_eq_false, Bool.and_eq_true, Bool.or_eq_true, not_false_eq_true, reduceCtorEq, bne_iff_ne, ne_eq, beq_iff_eq] at *))
local macro_rules | `(tactic| walk_at "K01V11 side") => `(tactic| first | assumption | (exact lup_same) | rfl | omega | (exact CMulA.l (by omega) (by omega)) | (exact CMulA.r (by omega) (by omega)) | (exact CDivA.s (by omega) (by omega)) | (exact ⟨_, ‹_›⟩) | (exact ⟨_, lup_same⟩) | (unfold sizeLine; first | omega | (simp; done) | (simp; omega)) | (walk_at "K01V11 look") | fail)
local macro_rules | `(tactic| walk_at "K01V11 look") => `(tactic| first | assumption | exact lup_same | exact look_new (by walk_at "K01V11 look") (by assumption) | exact look_ne (by first | assumption | exact Ne.symm (by assumption)) (by walk_at "K01V11 look") | fail)
local macro_rules | `(tactic| walk_at "K01V11 go1") => `(tactic| (with_reducible (conv => whnf)); first
  | (refine ⟨fun h => Bool.noConfusion (show false = true from h), fun _ => ?_⟩)
  | (refine ⟨fun _ => ?_, fun h => Bool.noConfusion (show true = false from h)⟩)
  | (refine ⟨fun hb => ?_, fun hb => ?_⟩ <;> (try (simp only [id_eq, decide_eq_true_eq, decide_eq_false_iff_not, Bool.not_eq_true', Bool.not_eq_false', Bool.not_true, Bool.not_false, Bool.false_eq_true, Bool.true_eq_false, Bool.and_eq_true, Bool.or_eq_true, not_false_eq_true, reduceCtorEq, bne_iff_ne, ne_eq, beq_iff_eq] at hb)))
  | (refine Exists.intro true (And.intro (by decide +kernel) ?_))
  | (refine Exists.intro false (And.intro (by decide +kernel) ?_))
  | (refine Exists.intro _ (And.intro rfl ?_))
  | (refine Exists.intro ?x (And.intro (?s : _ = some _) ?r); (case s => walk_at "K01V11 look"))
  | (refine Exists.intro ?x (Exists.intro ?j (And.intro (?s : _ = some _) ?r)); (case s => walk_at "K01V11 look"))
  | (refine And.intro ?s ?_; (case s => walk_at "K01V11 side"))
  | (refine fun p (hp : _ = none) => ?_)
  | fail)
local macro_rules | `(tactic| walk_at "K01V11 go") => `(tactic| ((repeat' walk_at "K01V11 go1") <;> (try walk_at "K01V11 w")))
theorem prime_pick (n k : Int) : (([3, 5, 7, 11, 13] : List Int).filter (fun p => decide (n = p * p - 1) && decide (k = p)) = [] ∧ fieldZ n k = .non) ∨ ∃ p, ([3, 5, 7, 11, 13] : List Int).filter (fun p => decide (n = p * p - 1) && decide (k = p)) = [p] ∧ fieldZ n k = .int p := by
  unfold fieldZ
  by_cases h3 : n = 8 ∧ k = 3
  · obtain ⟨rfl, rfl⟩ := h3; exact .inr ⟨3, by decide, rfl⟩
  rw [if_neg h3]
  by_cases h5 : n = 24 ∧ k = 5
  · obtain ⟨rfl, rfl⟩ := h5; exact .inr ⟨5, by decide, rfl⟩
  rw [if_neg h5]
  by_cases h7 : n = 48 ∧ k = 7
  · obtain ⟨rfl, rfl⟩ := h7; exact .inr ⟨7, by decide, rfl⟩
  rw [if_neg h7]
  by_cases h11 : n = 120 ∧ k = 11
  · obtain ⟨rfl, rfl⟩ := h11; exact .inr ⟨11, by decide, rfl⟩
  rw [if_neg h11]
  by_cases h13 : n = 168 ∧ k = 13
  · obtain ⟨rfl, rfl⟩ := h13; exact .inr ⟨13, by decide, rfl⟩
  rw [if_neg h13]
  refine .inl ⟨?_, rfl⟩
  rw [List.filter_eq_nil_iff]
  intro p hp
  simp only [List.mem_cons, List.not_mem_nil, or_false] at hp
  rw [Bool.and_eq_true, decide_eq_true_eq, decide_eq_true_eq]
  rintro ⟨rfl, rfl⟩
  rcases hp with rfl | rfl | rfl | rfl | rfl
  · exact h3 ⟨rfl, rfl⟩
  · exact h5 ⟨rfl, rfl⟩
  · exact h7 ⟨rfl, rfl⟩
  · exact h11 ⟨rfl, rfl⟩
  · exact h13 ⟨rfl, rfl⟩
structure RtW (a g : Addr) (L : LH) (n : Int) (p : Addr) (i : Nat) (L' : LH) : Prop where
  s : ∃ rs : List Int, L' = lup L p (.lst (rs.map D.int)) ∧ rs.length ≤ i ∧ ∀ k, k ∈ rs ↔ (1 ≤ k ∧ k < 1 + (i : Int) ∧ (k * k - 1) % n = 0)
structure LwW (a g : Addr) (L : LH) (scr : D) (n : Int) (p q : Addr) (l : List D) (i : Nat) (δ : SD) (L' : LH) : Prop where
  kp : Kp a g L L'
  m : L' q = some (.lst l)
  s : ∃ z5 z6 : Option D, δ = [some scr, some (.v (.ref a)), some (.int n), some (.v (.ref p)), some (.v (.ref q)), z5, z6, none]
structure PrW (n k : Int) (p : Addr) (L0 : LH) (i : Nat) (L' : LH) : Prop where
  l : L' = lup L0 p (.lst (((([3, 5, 7, 11, 13] : List Int).take i).filter (fun p => decide (n = p * p - 1) && decide (k = p))).map D.int))
def RtP (n : Int) (d : D) : Prop := ∃ k : Int, d = .int k ∧ 1 ≤ k ∧ k < n ∧ (k * k - 1) % n = 0
theorem cut7 (ys : List D) : (G.cutD ys none (some 7)).length ≤ 7 := by
  unfold G.cutD HT.sIx
  rw [List.length_take, List.length_drop]
  simp
  omega
theorem vc_law : ∀ ds L Q Ed, sp_law ds L Q Ed → rd_law (endD Q) (stD 8 ds) L := by
  intro ds L Q Ed h
  match ds, h with
  | [.rol xs], ⟨ns, e, hn, hq⟩ =>
    walk_at "K01V11 w"
    refine ⟨ns, e, hn, fun a g L1 ha hg les hk => ?_⟩
    walk_at "K01V11 w"
    refine ⟨g, hk, fun n L2 h1 h2 k2 => ?_⟩
    walk_at "K01V11 w"
    refine ⟨by omega, fun p hp => ?_⟩
    refine ⟨RtW a g L2 n p, ⟨[], rfl, Nat.le_refl _, fun k => ⟨fun z => by simp at z, fun z => by omega⟩⟩, fun _ _ _ _ => trivial, fun i d L' hi hd hW => ?_, fun L' hW => ?_⟩
    · obtain ⟨rs, rfl, c1, c2⟩ := hW.s
      cases (show d = .int (1 + (i : Int) * 1) from hd)
      replace hi : i < (n - 1).toNat := hi
      rw [Int.mul_one]
      have hnew : ∀ k : Int, k < 1 + ((i + 1 : Nat) : Int) ↔ (k < 1 + (i : Int) ∨ k = 1 + (i : Int)) := fun k => by omega
      walk_at "K01V11 go"
      · rename_i hm
        refine ⟨⟨rs ++ [1 + (i : Int)], by rw [lup_lup, List.map_append]; rfl, by simp; omega, fun k => ?_⟩⟩
        rw [List.mem_append, c2 k, hnew, List.mem_singleton]
        constructor
        · rintro (⟨u1, u2, u3⟩ | rfl)
          · exact ⟨u1, .inl u2, u3⟩
          · exact ⟨by omega, .inr rfl, hm⟩
        · rintro ⟨u1, u2 | u2, u3⟩
          · exact .inl ⟨u1, u2, u3⟩
          · exact .inr u2
      · rename_i hm
        refine ⟨⟨rs, rfl, by omega, fun k => ?_⟩⟩
        rw [c2 k, hnew]
        constructor
        · rintro ⟨u1, u2, u3⟩
          exact ⟨u1, .inl u2, u3⟩
        · rintro ⟨u1, u2 | u2, u3⟩
          · exact ⟨u1, u2, u3⟩
          · subst u2; exact absurd u3 hm
    · obtain ⟨rs, rfl, c1, c2⟩ := hW.s
      replace c1 : rs.length ≤ (n - 1).toNat := c1
      replace c2 : ∀ k, k ∈ rs ↔ (1 ≤ k ∧ k < 1 + (((n - 1).toNat : Nat) : Int) ∧ (k * k - 1) % n = 0) := c2
      have hro : RootsOk n rs := fun k => by
        rw [c2 k, show (1 : Int) + (((n - 1).toNat : Nat) : Int) = n by omega]
      have k3 := k2.new hp (.lst (rs.map D.int))
      have hp1 : L1 p = none := k2.free hp
      obtain ⟨npa, npg⟩ := hk.na hp1
      have m3 : lup L2 p (.lst (rs.map D.int)) p = some (.lst (rs.map D.int)) := lup_same
      clear hW c2
      generalize lup L2 p (.lst (rs.map D.int)) = L3 at k3 m3 ⊢
      walk_at "K01V11 w"
      refine ⟨g, rs, k3.k, npa, npg, h1, h2, m3, hro, by omega, fun L4 k4 => ?_⟩
      have k5 := k3.trans k4
      have m4 := k4.o p npa npg _ m3
      walk_at "K01V11 w"
      refine ⟨fun z => Bool.noConfusion (show false = true from z), fun _ => ?_⟩
      walk_at "K01V11 w"
      refine ⟨g, k4.k, fun L5 k6 => ?_⟩
      have k7 := k5.trans k6
      have m5 := k6.o p npa npg _ m4
      walk_at "K01V11 w"
      refine ⟨fun z => Bool.noConfusion (show false = true from z), fun _ => ?_⟩
      walk_at "K01V11 w"
      refine ⟨g, k6.k, ⟨npa, npg⟩, _, m5, by simp; omega, fun ys p2 L6 hys hp2 k8 m6 => ?_⟩
      have k9 := k7.trans k8
      have hroot : ∀ d ∈ rs.map D.int, RtP n d := fun d hd => by
        obtain ⟨k, hk, rfl⟩ := mem_ints hd
        exact ⟨k, rfl, (hro k).mp hk⟩
      have hc7 := cut7 ys
      walk_at "K01V11 go"
      rename_i q1 hq1 q2 hq2 q3 hq3
      have kq := ((k9.new hq1 (.lst (G.cutD ys none (some 7)))).new hq2 (.lst [.int 1, .int (n - 1)])).new hq3 (.lst (G.cutD ys none (some 7) ++ [.int 1, .int (n - 1)]))
      have hroots : ∀ d ∈ G.cutD ys none (some 7) ++ [.int 1, .int (n - 1)], RtP n d := fun d hd => by
        rcases List.mem_append.mp hd with hd | hd
        · obtain ⟨i, hi⟩ := List.getElem?_of_mem hd
          exact hroot d (hys d (cut_mem hi))
        · simp only [List.mem_cons, List.not_mem_nil, or_false] at hd
          rcases hd with rfl | rfl
          · exact ⟨1, rfl, by omega, by omega, by simp⟩
          · refine ⟨n - 1, rfl, by omega, by omega, ?_⟩
            rw [show (n - 1) * (n - 1) - 1 = n * (n - 2) by simp only [Int.sub_mul, Int.mul_sub, Int.mul_one, Int.one_mul]; omega]
            exact Int.mul_emod_right _ _
      have m7 : lup (lup (lup L6 q1 (.lst (G.cutD ys none (some 7)))) q2 (.lst [.int 1, .int (n - 1)])) q3 (.lst (G.cutD ys none (some 7) ++ [.int 1, .int (n - 1)])) q3 = some (.lst (G.cutD ys none (some 7) ++ [.int 1, .int (n - 1)])) := lup_same
      have hq3L : L1 q3 = none := ((k9.new hq1 (.lst (G.cutD ys none (some 7)))).new hq2 (.lst [.int 1, .int (n - 1)])).free hq3
      obtain ⟨nqa, nqg⟩ := hk.na hq3L
      generalize lup (lup (lup L6 q1 (.lst (G.cutD ys none (some 7)))) q2 (.lst [.int 1, .int (n - 1)])) q3 (.lst (G.cutD ys none (some 7) ++ [.int 1, .int (n - 1)])) = L7 at kq m7 ⊢
      generalize hll : G.cutD ys none (some 7) ++ [.int 1, .int (n - 1)] = ll at m7 hroots
      refine ⟨LwW a g L1 (.rol xs) n p q3 ll, ⟨kq, m7, _, _, rfl⟩, fun _ _ _ _ hW => hW.m, fun i d δ L' hi hd hW => ?_, fun δ L' hW => ?_⟩
      · obtain ⟨kp, mq, z5, z6, rfl⟩ := hW
        obtain ⟨k, rfl, d1, d2, d3⟩ := hroots d (List.mem_of_getElem? hd)
        walk_at "K01V11 w"
        refine ⟨g, kp.k, h1, h2, d1, d2, d3, fun L8 kA => ?_⟩
        walk_at "K01V11 w"
        refine ⟨fun z => Bool.noConfusion (show false = true from z), fun _ => ?_⟩
        walk_at "K01V11 w"
        refine ⟨g, kA.k, h1, h2, d1, d2, d3, fun L9 kB => ?_⟩
        have kp9 := (kp.trans kA).trans kB
        have mq9 := kB.o q3 nqa nqg _ (kA.o q3 nqa nqg _ mq)
        walk_at "K01V11 w"
        refine ⟨fun z => Bool.noConfusion (show false = true from z), fun _ => ?_⟩
        walk_at "K01V11 w"
        intro p4 hp4
        have hp4L : L1 p4 = none := kp9.free hp4
        have n34 : q3 ≠ p4 := ne_free mq9 hp4
        refine ⟨PrW n k p4 L9, ⟨rfl⟩, fun _ _ _ _ => trivial, fun j d L' hj hd hW => ?_, fun L' hW => ?_⟩
        · obtain ⟨rfl⟩ := hW
          have hj5 : j < 5 := hj
          obtain ⟨p5, hp5, rfl⟩ : ∃ p5, ([3, 5, 7, 11, 13] : List Int)[j]? = some p5 ∧ d = .int p5 := by
            replace hd : (([3, 5, 7, 11, 13] : List Int).map D.int)[j]? = some d := hd
            rw [List.getElem?_map, Option.map_eq_some_iff] at hd
            obtain ⟨q, hq1, e⟩ := hd
            exact ⟨q, hq1, e.symm⟩
          have hb5 := (show ∀ p ∈ ([3, 5, 7, 11, 13] : List Int), 3 ≤ p ∧ p ≤ 13 by decide) p5 (List.mem_of_getElem? hp5)
          have hlen : (((([3, 5, 7, 11, 13] : List Int).take j).filter (fun p => decide (n = p * p - 1) && decide (k = p))).map D.int).length ≤ 5 := by
            rw [List.length_map]
            have h1 := List.length_filter_le (fun p => decide (n = p * p - 1) && decide (k = p)) (([3, 5, 7, 11, 13] : List Int).take j)
            have h2 := List.length_take_le' j ([3, 5, 7, 11, 13] : List Int)
            have h3 : ([3, 5, 7, 11, 13] : List Int).length = 5 := rfl
            omega
          walk_at "K01V11 w"
          refine ⟨CMulA.l (by omega) (by omega), rfl, rfl, ?_⟩
          have e5 : D.eq (.tup [.int n, .int k]) (.tup [.int (p5 * p5 - 1), .int p5]) = (decide (n = p5 * p5 - 1) && decide (k = p5)) := eq_pair _ _ _ _
          dsimp only [id]
          rw [e5]
          walk_at "K01V11 w"
          refine ⟨fun hb => ?_, fun hb => ?_⟩
          · walk_at "K01V11 w"
            refine ⟨_, lup_same, by unfold sizeLine; omega, ⟨?_⟩⟩
            have ef : ([p5] : List Int).filter (fun p => decide (n = p * p - 1) && decide (k = p)) = [p5] := by simp only [List.filter, hb]
            rw [lup_lup, List.take_add_one, hp5, List.filter_append, Option.toList_some, ef, List.map_append]
            rfl
          · refine ⟨?_⟩
            have ef : ([p5] : List Int).filter (fun p => decide (n = p * p - 1) && decide (k = p)) = [] := by simp only [List.filter, hb]
            rw [List.take_add_one, hp5, List.filter_append, Option.toList_some, ef, List.append_nil]
        · have e : L' = lup L9 p4 (.lst ((([3, 5, 7, 11, 13] : List Int).filter (fun p => decide (n = p * p - 1) && decide (k = p))).map D.int)) := hW.l
          subst e
          clear hW
          have kpf := kp9.own hp4L (.lst ((([3, 5, 7, 11, 13] : List Int).filter (fun p => decide (n = p * p - 1) && decide (k = p))).map D.int))
          have mqf := look_ne (u := .lst ((([3, 5, 7, 11, 13] : List Int).filter (fun p => decide (n = p * p - 1) && decide (k = p))).map D.int)) n34 mq9
          obtain ⟨s1, s2⟩ := fieldZ_smp n k
          have s3 := sm_refl _ s1
          rcases prime_pick n k with ⟨u1, u2⟩ | ⟨p5, u1, u2⟩
          · rw [u1] at kpf mqf ⊢
            rw [u2] at s1 s2 s3
            walk_at "K01V11 w"
            refine ⟨_, lup_same, ?_⟩
            walk_at "K01V11 w"
            refine ⟨fun z => by simp at z, fun _ => ?_⟩
            rw [u2]
            walk_at "K01V11 w"
            refine ⟨s1, s1, s2, ?_⟩
            rw [s3]
            walk_at "K01V11 go"
            exact ⟨kpf, mqf, _, _, rfl⟩
          · rw [u1] at kpf mqf ⊢
            rw [u2] at s1 s2 s3
            walk_at "K01V11 w"
            refine ⟨_, lup_same, ?_⟩
            walk_at "K01V11 w"
            refine ⟨fun _ => ?_, fun z => by simp at z⟩
            rw [u2]
            walk_at "K01V11 w"
            refine ⟨_, lup_same, .int p5, rfl, ?_⟩
            walk_at "K01V11 w"
            refine ⟨s1, s1, s2, ?_⟩
            rw [s3]
            walk_at "K01V11 go"
            exact ⟨kpf, mqf, _, _, rfl⟩
      · obtain ⟨kp, mq, z5, z6, rfl⟩ := hW
        walk_at "K01V11 go"
        exact gret (hq _) (.refl _) rfl
end K01
namespace K01
open PySem PySem.Spec PyProof.Rows L2 G
theorem len_is_integer : ∀ ds L Q E, sp_is_integer ds L Q E → ds.length = 1 := by
  intro ds L Q E h
  unfold sp_is_integer at h
  split at h <;> first | rfl | exact h.elim
theorem len_rest_of : ∀ ds L Q E, sp_rest_of ds L Q E → ds.length = 2 := by
  intro ds L Q E h
  unfold sp_rest_of at h
  split at h <;> first | rfl | exact h.elim
theorem len_divides : ∀ ds L Q E, sp_divides ds L Q E → ds.length = 2 := by
  intro ds L Q E h
  unfold sp_divides at h
  split at h <;> first | rfl | exact h.elim
theorem len_dial_fault : ∀ ds L Q E, sp_dial_fault ds L Q E → ds.length = 1 := by
  intro ds L Q E h
  unfold sp_dial_fault at h
  split at h <;> first | rfl | exact h.elim
theorem lenX_check_dial (C : Addr) : ∀ ds L Q E, spX_check_dial C ds L Q E → ds.length = 1 := by
  intro ds L Q E h
  unfold spX_check_dial at h
  split at h <;> first | rfl | exact h.elim
theorem len_check_dial : ∀ ds L Q E, sp_check_dial ds L Q E → ds.length = 1 := by
  intro ds L Q E h
  unfold sp_check_dial at h
  split at h <;> first | rfl | exact h.elim
theorem len_mark_of : ∀ ds L Q E, sp_mark_of ds L Q E → ds.length = 2 := by
  intro ds L Q E h
  unfold sp_mark_of at h
  split at h <;> first | rfl | exact h.elim
theorem len_turned_mark : ∀ ds L Q E, sp_turned_mark ds L Q E → ds.length = 2 := by
  intro ds L Q E h
  unfold sp_turned_mark at h
  split at h <;> first | rfl | exact h.elim
theorem len_half_of : ∀ ds L Q E, sp_half_of ds L Q E → ds.length = 1 := by
  intro ds L Q E h
  unfold sp_half_of at h
  split at h <;> first | rfl | exact h.elim
theorem len_is_turning : ∀ ds L Q E, sp_is_turning ds L Q E → ds.length = 1 := by
  intro ds L Q E h
  unfold sp_is_turning at h
  split at h <;> first | rfl | exact h.elim
theorem len_is_loud : ∀ ds L Q E, sp_is_loud ds L Q E → ds.length = 1 := by
  intro ds L Q E h
  unfold sp_is_loud at h
  split at h <;> first | rfl | exact h.elim
theorem len_field_prime : ∀ ds L Q E, sp_field_prime ds L Q E → ds.length = 1 := by
  intro ds L Q E h
  unfold sp_field_prime at h
  split at h <;> first | rfl | exact h.elim
theorem len_prime_powers : ∀ ds L Q E, sp_prime_powers ds L Q E → ds.length = 1 := by
  intro ds L Q E h
  unfold sp_prime_powers at h
  split at h <;> first | rfl | exact h.elim
theorem len_coarser_dial : ∀ ds L Q E, sp_coarser_dial ds L Q E → ds.length = 2 := by
  intro ds L Q E h
  unfold sp_coarser_dial at h
  split at h <;> first | rfl | exact h.elim
theorem len_dial_parts : ∀ ds L Q E, sp_dial_parts ds L Q E → ds.length = 1 := by
  intro ds L Q E h
  unfold sp_dial_parts at h
  split at h <;> first | rfl | exact h.elim
theorem len_law_kettle : ∀ ds L Q E, sp_law_kettle ds L Q E → ds.length = 1 := by
  intro ds L Q E h
  unfold sp_law_kettle at h
  split at h <;> first | rfl | exact h.elim
theorem len_law_pick : ∀ ds L Q E, sp_law_pick ds L Q E → ds.length = 2 := by
  intro ds L Q E h
  unfold sp_law_pick at h
  split at h <;> first | rfl | exact h.elim
theorem len_law_one : ∀ ds L Q E, sp_law_one ds L Q E → ds.length = 2 := by
  intro ds L Q E h
  unfold sp_law_one at h
  split at h <;> first | rfl | exact h.elim
theorem len_law_mixed : ∀ ds L Q E, sp_law_mixed ds L Q E → ds.length = 2 := by
  intro ds L Q E h
  unfold sp_law_mixed at h
  split at h <;> first | rfl | exact h.elim
theorem len_law_same : ∀ ds L Q E, sp_law_same ds L Q E → ds.length = 2 := by
  intro ds L Q E h
  unfold sp_law_same at h
  split at h <;> first | rfl | exact h.elim
theorem len_law_gcd : ∀ ds L Q E, sp_law_gcd ds L Q E → ds.length = 2 := by
  intro ds L Q E h
  unfold sp_law_gcd at h
  split at h <;> first | rfl | exact h.elim
theorem len_law_size : ∀ ds L Q E, sp_law_size ds L Q E → ds.length = 1 := by
  intro ds L Q E h
  unfold sp_law_size at h
  split at h <;> first | rfl | exact h.elim
theorem len_law_powers : ∀ ds L Q E, sp_law_powers ds L Q E → ds.length = 1 := by
  intro ds L Q E h
  unfold sp_law_powers at h
  split at h <;> first | rfl | exact h.elim
theorem len_law_heard : ∀ ds L Q E, sp_law_heard ds L Q E → ds.length = 1 := by
  intro ds L Q E h
  unfold sp_law_heard at h
  split at h <;> first | rfl | exact h.elim
theorem len_law_checked : ∀ ds L Q E, sp_law_checked ds L Q E → ds.length = 3 := by
  intro ds L Q E h
  unfold sp_law_checked at h
  split at h <;> first | rfl | exact h.elim
theorem len_law_marks : ∀ ds L Q E, sp_law_marks ds L Q E → ds.length = 3 := by
  intro ds L Q E h
  unfold sp_law_marks at h
  split at h <;> first | rfl | exact h.elim
theorem len_law_parts : ∀ ds L Q E, sp_law_parts ds L Q E → ds.length = 3 := by
  intro ds L Q E h
  unfold sp_law_parts at h
  split at h <;> first | rfl | exact h.elim
theorem len_law_fields : ∀ ds L Q E, sp_law_fields ds L Q E → ds.length = 1 := by
  intro ds L Q E h
  unfold sp_law_fields at h
  split at h <;> first | rfl | exact h.elim
theorem len_law : ∀ ds L Q E, sp_law ds L Q E → ds.length = 1 := by
  intro ds L Q E h
  unfold sp_law at h
  split at h <;> first | rfl | exact h.elim
end K01
namespace K01
open PySem PySem.Spec PyProof.Rows L2 G
def topS (i : Nat) : Stmt := PySem.Challenge.pw_everygain_k01_all_roots_of_one.main.body.getD i (.Pass ⟨0, 0, 0, 0⟩)
abbrev st_is_integer : Stmt := topS 8
abbrev N_is_integer : List Str := ["thing"]
theorem sc_is_integer : FnScope N_is_integer ["thing"] (defScope st_is_integer) := ⟨rfl, rfl, rfl, by decide +kernel, rfl, by decide +kernel, by decide +kernel⟩
abbrev st_rest_of : Stmt := topS 10
abbrev N_rest_of : List Str := ["integer", "modulus"]
theorem sc_rest_of : FnScope N_rest_of ["integer", "modulus"] (defScope st_rest_of) := ⟨rfl, rfl, rfl, by decide +kernel, rfl, by decide +kernel, by decide +kernel⟩
abbrev st_divides : Stmt := topS 11
abbrev N_divides : List Str := ["one", "other"]
theorem sc_divides : FnScope N_divides ["one", "other"] (defScope st_divides) := ⟨rfl, rfl, rfl, by decide +kernel, rfl, by decide +kernel, by decide +kernel⟩
abbrev st_dial_fault : Stmt := topS 12
abbrev N_dial_fault : List Str := ["thing", "size", "turn"]
theorem sc_dial_fault : FnScope N_dial_fault ["thing"] (defScope st_dial_fault) := ⟨rfl, rfl, rfl, by decide +kernel, rfl, by decide +kernel, by decide +kernel⟩
abbrev st_check_dial : Stmt := topS 13
abbrev N_check_dial : List Str := ["thing", "word"]
theorem sc_check_dial : FnScope N_check_dial ["thing"] (defScope st_check_dial) := ⟨rfl, rfl, rfl, by decide +kernel, rfl, by decide +kernel, by decide +kernel⟩
abbrev st_mark_of : Stmt := topS 14
abbrev N_mark_of : List Str := ["dial", "integer"]
theorem sc_mark_of : FnScope N_mark_of ["dial", "integer"] (defScope st_mark_of) := ⟨rfl, rfl, rfl, by decide +kernel, rfl, by decide +kernel, by decide +kernel⟩
abbrev st_turned_mark : Stmt := topS 15
abbrev N_turned_mark : List Str := ["dial", "integer"]
theorem sc_turned_mark : FnScope N_turned_mark ["dial", "integer"] (defScope st_turned_mark) := ⟨rfl, rfl, rfl, by decide +kernel, rfl, by decide +kernel, by decide +kernel⟩
abbrev st_half_of : Stmt := topS 16
abbrev N_half_of : List Str := ["dial", "size", "turn"]
theorem sc_half_of : FnScope N_half_of ["dial"] (defScope st_half_of) := ⟨rfl, rfl, rfl, by decide +kernel, rfl, by decide +kernel, by decide +kernel⟩
abbrev st_is_turning : Stmt := topS 17
abbrev N_is_turning : List Str := ["dial"]
theorem sc_is_turning : FnScope N_is_turning ["dial"] (defScope st_is_turning) := ⟨rfl, rfl, rfl, by decide +kernel, rfl, by decide +kernel, by decide +kernel⟩
abbrev st_is_loud : Stmt := topS 18
abbrev N_is_loud : List Str := ["dial"]
theorem sc_is_loud : FnScope N_is_loud ["dial"] (defScope st_is_loud) := ⟨rfl, rfl, rfl, by decide +kernel, rfl, by decide +kernel, by decide +kernel⟩
abbrev st_field_prime : Stmt := topS 19
abbrev N_field_prime : List Str := ["dial", "prime"]
theorem sc_field_prime : FnScope N_field_prime ["dial"] (defScope st_field_prime) := ⟨rfl, rfl, rfl, by decide +kernel, rfl, by decide +kernel, by decide +kernel⟩
abbrev st_prime_powers : Stmt := topS 21
abbrev N_prime_powers : List Str := ["number", "pairs", "left", "prime", "power"]
theorem sc_prime_powers : FnScope N_prime_powers ["number"] (defScope st_prime_powers) := ⟨rfl, rfl, rfl, by decide +kernel, rfl, by decide +kernel, by decide +kernel⟩
abbrev st_coarser_dial : Stmt := topS 22
abbrev N_coarser_dial : List Str := ["dial", "modulus"]
theorem sc_coarser_dial : FnScope N_coarser_dial ["dial", "modulus"] (defScope st_coarser_dial) := ⟨rfl, rfl, rfl, by decide +kernel, rfl, by decide +kernel, by decide +kernel⟩
abbrev st_dial_parts : Stmt := topS 23
abbrev N_dial_parts : List Str := ["dial", "_", "power"]
theorem sc_dial_parts : FnScope N_dial_parts ["dial"] (defScope st_dial_parts) := ⟨rfl, rfl, rfl, by decide +kernel, rfl, by decide +kernel, by decide +kernel⟩
abbrev st_law_kettle : Stmt := topS 25
abbrev N_law_kettle : List Str := ["script", "state", "great", "cell", "number"]
theorem sc_law_kettle : FnScope N_law_kettle ["script"] (defScope st_law_kettle) := ⟨rfl, rfl, rfl, by decide +kernel, rfl, by decide +kernel, by decide +kernel⟩
abbrev st_law_pick : Stmt := topS 26
abbrev N_law_pick : List Str := ["bowl", "many", "number"]
theorem sc_law_pick : FnScope N_law_pick ["bowl", "many"] (defScope st_law_pick) := ⟨rfl, rfl, rfl, by decide +kernel, rfl, by decide +kernel, by decide +kernel⟩
abbrev st_law_one : Stmt := topS 27
abbrev N_law_one : List Str := ["bowl", "row"]
theorem sc_law_one : FnScope N_law_one ["bowl", "row"] (defScope st_law_one) := ⟨rfl, rfl, rfl, by decide +kernel, rfl, by decide +kernel, by decide +kernel⟩
abbrev st_law_mixed : Stmt := topS 28
abbrev N_law_mixed : List Str := ["bowl", "row", "left", "k"]
theorem sc_law_mixed : FnScope N_law_mixed ["bowl", "row"] (defScope st_law_mixed) := ⟨rfl, rfl, rfl, by decide +kernel, rfl, by decide +kernel, by decide +kernel⟩
abbrev st_law_same : Stmt := topS 29
abbrev N_law_same : List Str := ["told", "due", "left", "one", "other", "k"]
theorem sc_law_same : FnScope N_law_same ["told", "due"] (defScope st_law_same) := ⟨rfl, rfl, rfl, by decide +kernel, rfl, by decide +kernel, by decide +kernel⟩
abbrev st_law_gcd : Stmt := topS 30
abbrev N_law_gcd : List Str := ["one", "two"]
theorem sc_law_gcd : FnScope N_law_gcd ["one", "two"] (defScope st_law_gcd) := ⟨rfl, rfl, rfl, by decide +kernel, rfl, by decide +kernel, by decide +kernel⟩
abbrev st_law_size : Stmt := topS 31
abbrev N_law_size : List Str := ["kettle", "way", "prime", "n", "lap"]
theorem sc_law_size : FnScope N_law_size ["kettle"] (defScope st_law_size) := ⟨rfl, rfl, rfl, by decide +kernel, rfl, by decide +kernel, by decide +kernel⟩
abbrev st_law_powers : Stmt := topS 32
abbrev N_law_powers : List Str := ["n", "told", "prime", "power"]
theorem sc_law_powers : FnScope N_law_powers ["n"] (defScope st_law_powers) := ⟨rfl, rfl, rfl, by decide +kernel, rfl, by decide +kernel, by decide +kernel⟩
abbrev st_law_heard : Stmt := topS 33
abbrev N_law_heard : List Str := ["thing", "e", "told"]
theorem sc_law_heard : FnScope N_law_heard ["thing"] (defScope st_law_heard) := ⟨rfl, rfl, rfl, by decide +kernel, rfl, by decide +kernel, by decide +kernel⟩
abbrev st_law_checked : Stmt := topS 34
abbrev N_law_checked : List Str := ["kettle", "n", "roots", "k", "other", "due", "pairs", "thing"]
theorem sc_law_checked : FnScope N_law_checked ["kettle", "n", "roots"] (defScope st_law_checked) := ⟨rfl, rfl, rfl, by decide +kernel, rfl, by decide +kernel, by decide +kernel⟩
abbrev st_law_marks : Stmt := topS 35
abbrev N_law_marks : List Str := ["kettle", "n", "k", "great", "lap", "half", "x", "mark", "turned", "told", "stays", "sign"]
theorem sc_law_marks : FnScope N_law_marks ["kettle", "n", "k"] (defScope st_law_marks) := ⟨rfl, rfl, rfl, by decide +kernel, rfl, by decide +kernel, by decide +kernel⟩
abbrev st_law_parts : Stmt := topS 36
abbrev N_law_parts : List Str := ["kettle", "n", "k", "powers", "divisors", "m", "inner", "q", "once", "half"]
theorem sc_law_parts : FnScope N_law_parts ["kettle", "n", "k"] (defScope st_law_parts) := ⟨rfl, rfl, rfl, by decide +kernel, rfl, by decide +kernel, by decide +kernel⟩
abbrev st_law_fields : Stmt := topS 37
abbrev N_law_fields : List Str := ["kettle", "prime", "n", "other", "pairs", "dial", "due"]
theorem sc_law_fields : FnScope N_law_fields ["kettle"] (defScope st_law_fields) := ⟨rfl, rfl, rfl, by decide +kernel, rfl, by decide +kernel, by decide +kernel⟩
abbrev st_law : Stmt := topS 38
abbrev N_law : List Str := ["script", "kettle", "n", "roots", "asked", "k", "prime", "p"]
theorem sc_law : FnScope N_law ["script"] (defScope st_law) := ⟨rfl, rfl, rfl, by decide +kernel, rfl, by decide +kernel, by decide +kernel⟩
structure Tx (K : PySem.W.Frag) (mg : Str → Option Value) where
  a_is_integer : Addr
  d_is_integer : FuncData
  F_is_integer : Fun K "is_integer" "is_integer" st_is_integer a_is_integer d_is_integer
  g_is_integer : mg "is_integer" = some (.ref a_is_integer)
  b_is_integer : L2.Binds K d_is_integer ["thing"] []
  a_rest_of : Addr
  d_rest_of : FuncData
  F_rest_of : Fun K "rest_of" "rest_of" st_rest_of a_rest_of d_rest_of
  g_rest_of : mg "rest_of" = some (.ref a_rest_of)
  b_rest_of : L2.Binds K d_rest_of ["integer", "modulus"] []
  a_divides : Addr
  d_divides : FuncData
  F_divides : Fun K "divides" "divides" st_divides a_divides d_divides
  g_divides : mg "divides" = some (.ref a_divides)
  b_divides : L2.Binds K d_divides ["one", "other"] []
  a_dial_fault : Addr
  d_dial_fault : FuncData
  F_dial_fault : Fun K "dial_fault" "dial_fault" st_dial_fault a_dial_fault d_dial_fault
  g_dial_fault : mg "dial_fault" = some (.ref a_dial_fault)
  b_dial_fault : L2.Binds K d_dial_fault ["thing"] []
  a_check_dial : Addr
  d_check_dial : FuncData
  F_check_dial : Fun K "check_dial" "check_dial" st_check_dial a_check_dial d_check_dial
  g_check_dial : mg "check_dial" = some (.ref a_check_dial)
  b_check_dial : L2.Binds K d_check_dial ["thing"] []
  a_mark_of : Addr
  d_mark_of : FuncData
  F_mark_of : Fun K "mark_of" "mark_of" st_mark_of a_mark_of d_mark_of
  g_mark_of : mg "mark_of" = some (.ref a_mark_of)
  b_mark_of : L2.Binds K d_mark_of ["dial", "integer"] []
  a_turned_mark : Addr
  d_turned_mark : FuncData
  F_turned_mark : Fun K "turned_mark" "turned_mark" st_turned_mark a_turned_mark d_turned_mark
  g_turned_mark : mg "turned_mark" = some (.ref a_turned_mark)
  b_turned_mark : L2.Binds K d_turned_mark ["dial", "integer"] []
  a_half_of : Addr
  d_half_of : FuncData
  F_half_of : Fun K "half_of" "half_of" st_half_of a_half_of d_half_of
  g_half_of : mg "half_of" = some (.ref a_half_of)
  b_half_of : L2.Binds K d_half_of ["dial"] []
  a_is_turning : Addr
  d_is_turning : FuncData
  F_is_turning : Fun K "is_turning" "is_turning" st_is_turning a_is_turning d_is_turning
  g_is_turning : mg "is_turning" = some (.ref a_is_turning)
  b_is_turning : L2.Binds K d_is_turning ["dial"] []
  a_is_loud : Addr
  d_is_loud : FuncData
  F_is_loud : Fun K "is_loud" "is_loud" st_is_loud a_is_loud d_is_loud
  g_is_loud : mg "is_loud" = some (.ref a_is_loud)
  b_is_loud : L2.Binds K d_is_loud ["dial"] []
  a_field_prime : Addr
  d_field_prime : FuncData
  F_field_prime : Fun K "field_prime" "field_prime" st_field_prime a_field_prime d_field_prime
  g_field_prime : mg "field_prime" = some (.ref a_field_prime)
  b_field_prime : L2.Binds K d_field_prime ["dial"] []
  a_prime_powers : Addr
  d_prime_powers : FuncData
  F_prime_powers : Fun K "prime_powers" "prime_powers" st_prime_powers a_prime_powers d_prime_powers
  g_prime_powers : mg "prime_powers" = some (.ref a_prime_powers)
  b_prime_powers : L2.Binds K d_prime_powers ["number"] []
  a_coarser_dial : Addr
  d_coarser_dial : FuncData
  F_coarser_dial : Fun K "coarser_dial" "coarser_dial" st_coarser_dial a_coarser_dial d_coarser_dial
  g_coarser_dial : mg "coarser_dial" = some (.ref a_coarser_dial)
  b_coarser_dial : L2.Binds K d_coarser_dial ["dial", "modulus"] []
  a_dial_parts : Addr
  d_dial_parts : FuncData
  F_dial_parts : Fun K "dial_parts" "dial_parts" st_dial_parts a_dial_parts d_dial_parts
  g_dial_parts : mg "dial_parts" = some (.ref a_dial_parts)
  b_dial_parts : L2.Binds K d_dial_parts ["dial"] []
  a_law_kettle : Addr
  d_law_kettle : FuncData
  F_law_kettle : Fun K "_law_kettle" "_law_kettle" st_law_kettle a_law_kettle d_law_kettle
  g_law_kettle : mg "_law_kettle" = some (.ref a_law_kettle)
  b_law_kettle : L2.Binds K d_law_kettle ["script"] []
  a_law_pick : Addr
  d_law_pick : FuncData
  F_law_pick : Fun K "_law_pick" "_law_pick" st_law_pick a_law_pick d_law_pick
  g_law_pick : mg "_law_pick" = some (.ref a_law_pick)
  b_law_pick : L2.Binds K d_law_pick ["bowl", "many"] []
  a_law_one : Addr
  d_law_one : FuncData
  F_law_one : Fun K "_law_one" "_law_one" st_law_one a_law_one d_law_one
  g_law_one : mg "_law_one" = some (.ref a_law_one)
  b_law_one : L2.Binds K d_law_one ["bowl", "row"] []
  a_law_mixed : Addr
  d_law_mixed : FuncData
  F_law_mixed : Fun K "_law_mixed" "_law_mixed" st_law_mixed a_law_mixed d_law_mixed
  g_law_mixed : mg "_law_mixed" = some (.ref a_law_mixed)
  b_law_mixed : L2.Binds K d_law_mixed ["bowl", "row"] []
  a_law_same : Addr
  d_law_same : FuncData
  F_law_same : Fun K "_law_same" "_law_same" st_law_same a_law_same d_law_same
  g_law_same : mg "_law_same" = some (.ref a_law_same)
  b_law_same : L2.Binds K d_law_same ["told", "due"] []
  a_law_gcd : Addr
  d_law_gcd : FuncData
  F_law_gcd : Fun K "_law_gcd" "_law_gcd" st_law_gcd a_law_gcd d_law_gcd
  g_law_gcd : mg "_law_gcd" = some (.ref a_law_gcd)
  b_law_gcd : L2.Binds K d_law_gcd ["one", "two"] []
  a_law_size : Addr
  d_law_size : FuncData
  F_law_size : Fun K "_law_size" "_law_size" st_law_size a_law_size d_law_size
  g_law_size : mg "_law_size" = some (.ref a_law_size)
  b_law_size : L2.Binds K d_law_size ["kettle"] []
  a_law_powers : Addr
  d_law_powers : FuncData
  F_law_powers : Fun K "_law_powers" "_law_powers" st_law_powers a_law_powers d_law_powers
  g_law_powers : mg "_law_powers" = some (.ref a_law_powers)
  b_law_powers : L2.Binds K d_law_powers ["n"] []
  a_law_heard : Addr
  d_law_heard : FuncData
  F_law_heard : Fun K "_law_heard" "_law_heard" st_law_heard a_law_heard d_law_heard
  g_law_heard : mg "_law_heard" = some (.ref a_law_heard)
  b_law_heard : L2.Binds K d_law_heard ["thing"] []
  a_law_checked : Addr
  d_law_checked : FuncData
  F_law_checked : Fun K "_law_checked" "_law_checked" st_law_checked a_law_checked d_law_checked
  g_law_checked : mg "_law_checked" = some (.ref a_law_checked)
  b_law_checked : L2.Binds K d_law_checked ["kettle", "n", "roots"] []
  a_law_marks : Addr
  d_law_marks : FuncData
  F_law_marks : Fun K "_law_marks" "_law_marks" st_law_marks a_law_marks d_law_marks
  g_law_marks : mg "_law_marks" = some (.ref a_law_marks)
  b_law_marks : L2.Binds K d_law_marks ["kettle", "n", "k"] []
  a_law_parts : Addr
  d_law_parts : FuncData
  F_law_parts : Fun K "_law_parts" "_law_parts" st_law_parts a_law_parts d_law_parts
  g_law_parts : mg "_law_parts" = some (.ref a_law_parts)
  b_law_parts : L2.Binds K d_law_parts ["kettle", "n", "k"] []
  a_law_fields : Addr
  d_law_fields : FuncData
  F_law_fields : Fun K "_law_fields" "_law_fields" st_law_fields a_law_fields d_law_fields
  g_law_fields : mg "_law_fields" = some (.ref a_law_fields)
  b_law_fields : L2.Binds K d_law_fields ["kettle"] []
  a_law : Addr
  d_law : FuncData
  F_law : Fun K "law" "law" st_law a_law d_law
  g_law : mg "law" = some (.ref a_law)
  b_law : L2.Binds K d_law ["script"] []
  g_gcd : mg "gcd" = some (.builtin "math.gcd")
  n_abs : mg "abs" = none
  n_bool : mg "bool" = none
  n_int : mg "int" = none
  n_isinstance : mg "isinstance" = none
  n_len : mg "len" = none
  n_list : mg "list" = none
  n_min : mg "min" = none
  n_range : mg "range" = none
  n_sorted : mg "sorted" = none
  n_str : mg "str" = none
  n_tuple : mg "tuple" = none
  C_BadDial : Addr
  ex_BadDial : ∀ {P : Program} {w : World} {base : Heap}, ExC P w K mg base "BadDial" ["word"] C_BadDial
  k_DIAL_MOST : ∀ {X : Cx} {pos : Pos}, X.K = K → X.mg = mg → Gl X "DIAL_MOST" → DE X (.Name "DIAL_MOST" pos) (dC c_DIAL_MOST)
  k_PRIMES : ∀ {X : Cx} {pos : Pos}, X.K = K → X.mg = mg → Gl X "PRIMES" → DE X (.Name "PRIMES" pos) (dC c_PRIMES)
section
variable {P : Program} {w : World} {K : PySem.W.Frag} {mg : Str → Option Value} {base : Heap}
set_option maxHeartbeats 4000000 in
theorem ok_is_integer (T : Tx K mg) : DFn P w K mg base CX0 1 T.a_is_integer T.d_is_integer ["thing"] sp_is_integer :=
  dfn (n := 1) T.F_is_integer sc_is_integer rfl (by decide) len_is_integer fun cdv A outer s H E hr => ⟨rd_is_integer,
    (ss_one (s_ret (d_and (d_isi (by rfl) T.n_isinstance (da_cons (dv 0) (da_cons (d_ty (by rfl) T.n_int (by decide +kernel)) da_nil))) (d_one (d_not (d_isi (by rfl) T.n_isinstance (da_cons (dv 0) (da_cons (d_ty (by rfl) T.n_bool (by decide +kernel)) da_nil)))))))),
    vc_is_integer⟩
end
section
variable {P : Program} {w : World} {K : PySem.W.Frag} {mg : Str → Option Value} {base : Heap}
set_option maxHeartbeats 4000000 in
theorem ok_rest_of (T : Tx K mg) : DFn P w K mg base CX0 1 T.a_rest_of T.d_rest_of ["integer", "modulus"] sp_rest_of :=
  dfn (n := 2) T.F_rest_of sc_rest_of rfl (by decide) len_rest_of fun cdv A outer s H E hr => ⟨rd_rest_of,
    (ss_cons (s_if (dt_eq (hr.units) (dv 1) d_int) (ss_one (s_ret (dv 0))) ss_nil)
      (ss_one (s_ret (d_mod (dv 0) (dv 1))))),
    vc_rest_of⟩
end
section
variable {P : Program} {w : World} {K : PySem.W.Frag} {mg : Str → Option Value} {base : Heap}
set_option maxHeartbeats 4000000 in
theorem ok_divides (T : Tx K mg) : DFn P w K mg base CX0 1 T.a_divides T.d_divides ["one", "other"] sp_divides :=
  dfn (n := 2) T.F_divides sc_divides rfl (by decide) len_divides fun cdv A outer s H E hr => ⟨rd_divides,
    (ss_cons (s_if (dt_eq (hr.units) (dv 0) d_int) (ss_one (s_ret (d_eq (hr.units) (dv 1) d_int))) ss_nil)
      (ss_one (s_ret (d_eq (hr.units) (d_mod (dv 1) (dv 0)) d_int)))),
    vc_divides⟩
end
section
variable {P : Program} {w : World} {K : PySem.W.Frag} {mg : Str → Option Value} {base : Heap}
set_option maxHeartbeats 4000000 in
theorem ok_dial_fault (T : Tx K mg) : DFn P w K mg base CX0 2 T.a_dial_fault T.d_dial_fault ["thing"] sp_dial_fault :=
  dfn (n := 3) T.F_dial_fault sc_dial_fault rfl (by decide) len_dial_fault fun cdv A outer s H E hr => ⟨rd_dial_fault,
    (ss_cons (s_if (DW.dt (dw_or (dt_not (dt_tru (d_isi (by rfl) T.n_isinstance (da_cons (dv 0) (da_cons (d_ty (by rfl) T.n_tuple (by decide +kernel)) da_nil))))) (dw_or1 (dt_ne (hr.units) (d_len (by rfl) T.n_len (da_cons (dv 0) da_nil)) d_int)))) (ss_one (s_ret d_str)) ss_nil)
      (ss_cons (s_asg (vs := [1, 2]) (dv 0) (g_tup rfl (gs_cons (g_name (i := 1) sc_dial_fault.nd rfl (.inl rfl) (by decide) (.inl rfl)) (gs_cons (g_name (i := 2) sc_dial_fault.nd rfl (.inl rfl) (by decide) (.inl rfl)) gs_nil))))
      (ss_cons (s_if (DW.dt (dw_or (dt_not (dt_tru (d_call (ok_is_integer T) (hr.mono (by decide)) (by rfl) T.g_is_integer T.F_is_integer.kp T.b_is_integer (da_cons (dv 1) da_nil)))) (dw_or1 (dt_not (dt_tru (d_call (ok_is_integer T) (hr.mono (by decide)) (by rfl) T.g_is_integer T.F_is_integer.kp T.b_is_integer (da_cons (dv 2) da_nil))))))) (ss_one (s_ret d_str)) ss_nil)
      (ss_cons (s_if (DW.dt (dw_or (dt_lt (dv 1) d_int) (dw_or (dt_eq (hr.units) (dv 1) d_int) (dw_or1 (dt_gt (dv 1) (T.k_DIAL_MOST rfl rfl (by rfl))))))) (ss_one (s_ret d_str)) ss_nil)
      (ss_cons (s_if (dt_eq (hr.units) (dv 1) d_int) (ss_one (s_ret (d_if (DW.dt (dw_or (dt_eq (hr.units) (dv 2) d_int) (dw_or1 (dt_eq (hr.units) (dv 2) (d_neg d_int))))) d_non d_str))) ss_nil)
      (ss_cons (s_if (DW.dt (dw_or (dt_not (dt_chain op_le op_lt l_le l_lt d_int (dv 2) (dv 1))) (dw_or1 (dt_ne (hr.units) (d_mod (d_mulA (dv 2) (dv 2)) (dv 1)) d_int)))) (ss_one (s_ret d_str)) ss_nil)
      (ss_one (s_ret d_non)))))))),
    vc_dial_fault⟩
end
section
variable {P : Program} {w : World} {K : PySem.W.Frag} {mg : Str → Option Value} {base : Heap}
set_option maxHeartbeats 4000000 in
theorem okX_check_dial (T : Tx K mg) : DFn P w K mg base (L2.CX P w) 3 T.a_check_dial T.d_check_dial ["thing"] (spX_check_dial T.C_BadDial) :=
  dfnX (n := 2) T.F_check_dial sc_check_dial rfl (by decide) (lenX_check_dial T.C_BadDial) fun cdv A outer s H E hr => ⟨rdX_check_dial T.C_BadDial,
    (xs_cons (x_pure (s_set 1 sc_check_dial.nd rfl (.inl rfl) (d_call (ok_dial_fault T) (hr.mono (by decide)) (by rfl) T.g_dial_fault T.F_dial_fault.kp T.b_dial_fault (da_cons (dv 0) da_nil))))
      (xs_one (x_if (dt_notN (dv 1) d_non) (xs_one (x_raise (k := 0) rfl T.ex_BadDial (by decide) (hr.mono (by decide)) (takes_of rfl rfl rfl rfl) (by rfl) (da_cons (dv 1) da_nil))) (xs_pure ss_nil)))),
    vcX_check_dial T.C_BadDial⟩
end
section
variable {P : Program} {w : World} {K : PySem.W.Frag} {mg : Str → Option Value} {base : Heap}
set_option maxHeartbeats 4000000 in
theorem ok_check_dial (T : Tx K mg) : DFn P w K mg base CX0 3 T.a_check_dial T.d_check_dial ["thing"] sp_check_dial :=
  dfn (n := 2) T.F_check_dial sc_check_dial rfl (by decide) len_check_dial fun cdv A outer s H E hr => ⟨rd_check_dial,
    (ss_cons (s_set 1 sc_check_dial.nd rfl (.inl rfl) (d_call (ok_dial_fault T) (hr.mono (by decide)) (by rfl) T.g_dial_fault T.F_dial_fault.kp T.b_dial_fault (da_cons (dv 0) da_nil)))
      (ss_one (s_if (dt_notN (dv 1) d_non) (ss_one s_never) ss_nil))),
    vc_check_dial⟩
end
section
variable {P : Program} {w : World} {K : PySem.W.Frag} {mg : Str → Option Value} {base : Heap}
set_option maxHeartbeats 4000000 in
theorem ok_mark_of (T : Tx K mg) : DFn P w K mg base CX0 2 T.a_mark_of T.d_mark_of ["dial", "integer"] sp_mark_of :=
  dfn (n := 2) T.F_mark_of sc_mark_of rfl (by decide) len_mark_of fun cdv A outer s H E hr => ⟨rd_mark_of,
    (ss_one (s_ret (d_call (ok_rest_of T) (hr.mono (by decide)) (by rfl) T.g_rest_of T.F_rest_of.kp T.b_rest_of (da_cons (dv 1) (da_cons (d_ix (dv 0) d_int) da_nil))))),
    vc_mark_of⟩
end
section
variable {P : Program} {w : World} {K : PySem.W.Frag} {mg : Str → Option Value} {base : Heap}
set_option maxHeartbeats 4000000 in
theorem ok_turned_mark (T : Tx K mg) : DFn P w K mg base CX0 2 T.a_turned_mark T.d_turned_mark ["dial", "integer"] sp_turned_mark :=
  dfn (n := 2) T.F_turned_mark sc_turned_mark rfl (by decide) len_turned_mark fun cdv A outer s H E hr => ⟨rd_turned_mark,
    (ss_one (s_ret (d_call (ok_rest_of T) (hr.mono (by decide)) (by rfl) T.g_rest_of T.F_rest_of.kp T.b_rest_of (da_cons (d_mulA (d_ix (dv 0) d_int) (dv 1)) (da_cons (d_ix (dv 0) d_int) da_nil))))),
    vc_turned_mark⟩
end
section
variable {P : Program} {w : World} {K : PySem.W.Frag} {mg : Str → Option Value} {base : Heap}
set_option maxHeartbeats 4000000 in
theorem ok_half_of (T : Tx K mg) : DFn P w K mg base CX0 1 T.a_half_of T.d_half_of ["dial"] sp_half_of :=
  dfn (n := 3) T.F_half_of sc_half_of rfl (by decide) len_half_of fun cdv A outer s H E hr => ⟨rd_half_of,
    (ss_cons (s_asg (vs := [1, 2]) (dv 0) (g_tup rfl (gs_cons (g_name (i := 1) sc_half_of.nd rfl (.inl rfl) (by decide) (.inl rfl)) (gs_cons (g_name (i := 2) sc_half_of.nd rfl (.inl rfl) (by decide) (.inl rfl)) gs_nil))))
      (ss_cons (s_if (dt_eq (hr.units) (dv 1) d_int) (ss_one (s_ret (d_if (dt_eq (hr.units) (dv 2) d_int) d_int d_int))) ss_nil)
      (ss_one (s_ret (d_mod (d_divA (dv 1) (d_gcd (by rfl) T.g_gcd (da_cons (dv 1) (da_cons (d_sub (dv 2) d_int) da_nil)))) (dv 1)))))),
    vc_half_of⟩
end
section
variable {P : Program} {w : World} {K : PySem.W.Frag} {mg : Str → Option Value} {base : Heap}
set_option maxHeartbeats 4000000 in
theorem ok_is_turning (T : Tx K mg) : DFn P w K mg base CX0 2 T.a_is_turning T.d_is_turning ["dial"] sp_is_turning :=
  dfn (n := 1) T.F_is_turning sc_is_turning rfl (by decide) len_is_turning fun cdv A outer s H E hr => ⟨rd_is_turning,
    (ss_one (s_ret (d_call (ok_divides T) (hr.mono (by decide)) (by rfl) T.g_divides T.F_divides.kp T.b_divides (da_cons (d_ix (dv 0) d_int) (da_cons (d_add (d_ix (dv 0) d_int) d_int) da_nil))))),
    vc_is_turning⟩
end
section
variable {P : Program} {w : World} {K : PySem.W.Frag} {mg : Str → Option Value} {base : Heap}
set_option maxHeartbeats 4000000 in
theorem ok_is_loud (T : Tx K mg) : DFn P w K mg base CX0 2 T.a_is_loud T.d_is_loud ["dial"] sp_is_loud :=
  dfn (n := 1) T.F_is_loud sc_is_loud rfl (by decide) len_is_loud fun cdv A outer s H E hr => ⟨rd_is_loud,
    (ss_one (s_ret (d_call (ok_divides T) (hr.mono (by decide)) (by rfl) T.g_divides T.F_divides.kp T.b_divides (da_cons (d_ix (dv 0) d_int) (da_cons (d_sub (d_ix (dv 0) d_int) d_int) da_nil))))),
    vc_is_loud⟩
end
section
variable {P : Program} {w : World} {K : PySem.W.Frag} {mg : Str → Option Value} {base : Heap}
set_option maxHeartbeats 4000000 in
theorem ok_field_prime (T : Tx K mg) : DFn P w K mg base CX0 1 T.a_field_prime T.d_field_prime ["dial"] sp_field_prime :=
  dfn (n := 2) T.F_field_prime sc_field_prime rfl (by decide) len_field_prime fun cdv A outer s H E hr => ⟨rd_field_prime,
    (ss_cons (s_for (vs := [1]) PassesOwn.never rfl (i_seq (T.k_PRIMES rfl rfl (by rfl))) (g_name (i := 1) sc_field_prime.nd rfl (.inl rfl) (by decide) (.inl rfl)) (ss_one (s_if (dt_eq (hr.units) (dv 0) (d_tup (dan_cons (d_sub (d_mulA (dv 1) (dv 1)) d_int) (dan_cons (dv 1) dan_nil)))) (ss_one (s_ret (dv 1))) ss_nil)))
      (ss_one (s_ret d_non))),
    vc_field_prime⟩
end
section
variable {P : Program} {w : World} {K : PySem.W.Frag} {mg : Str → Option Value} {base : Heap}
set_option maxHeartbeats 4000000 in
theorem ok_prime_powers (T : Tx K mg) : DFn P w K mg base CX0 1 T.a_prime_powers T.d_prime_powers ["number"] sp_prime_powers :=
  dfn (n := 5) T.F_prime_powers sc_prime_powers rfl (by decide) len_prime_powers fun cdv A outer s H E hr => ⟨rd_prime_powers,
    (ss_cons (s_set 1 sc_prime_powers.nd rfl (.inl rfl) (d_lst dan_nil))
      (ss_cons (s_set 2 sc_prime_powers.nd rfl (.inl rfl) (dv 0))
      (ss_cons (s_set 3 sc_prime_powers.nd rfl (.inl rfl) d_int)
      (ss_cons (s_while PassesOwn.never (dt_le (d_mulA (dv 3) (dv 3)) (dv 2)) (ss_cons (s_set 4 sc_prime_powers.nd rfl (.inl rfl) d_int)
      (ss_cons (s_while PassesOwn.never (dt_eq (hr.units) (d_mod (dv 2) (dv 3)) d_int) (ss_cons (s_set 2 sc_prime_powers.nd rfl (.inl rfl) (d_divA (dv 2) (dv 3)))
      (ss_one (s_set 4 sc_prime_powers.nd rfl (.inl rfl) (d_mulA (dv 4) (dv 3))))))
      (ss_cons (s_if (dt_gt (dv 4) d_int) (ss_one (s_expr (m_append (dv 1) (da_cons (d_tup (dan_cons (dv 3) (dan_cons (dv 4) dan_nil))) da_nil)))) ss_nil)
      (ss_one (s_augI 3 sc_prime_powers.nd rfl (.inl rfl) d_int ip_add))))))
      (ss_cons (s_if (dt_gt (dv 2) d_int) (ss_one (s_expr (m_append (dv 1) (da_cons (d_tup (dan_cons (dv 2) (dan_cons (dv 2) dan_nil))) da_nil)))) ss_nil)
      (ss_one (s_ret (d_tupC (by rfl) T.n_tuple (da_cons (dv 1) da_nil))))))))),
    vc_prime_powers⟩
end
section
variable {P : Program} {w : World} {K : PySem.W.Frag} {mg : Str → Option Value} {base : Heap}
set_option maxHeartbeats 4000000 in
theorem ok_coarser_dial (T : Tx K mg) : DFn P w K mg base CX0 2 T.a_coarser_dial T.d_coarser_dial ["dial", "modulus"] sp_coarser_dial :=
  dfn (n := 2) T.F_coarser_dial sc_coarser_dial rfl (by decide) len_coarser_dial fun cdv A outer s H E hr => ⟨rd_coarser_dial,
    (ss_one (s_ret (d_tup (dan_cons (dv 1) (dan_cons (d_call (ok_rest_of T) (hr.mono (by decide)) (by rfl) T.g_rest_of T.F_rest_of.kp T.b_rest_of (da_cons (d_ix (dv 0) d_int) (da_cons (dv 1) da_nil))) dan_nil))))),
    vc_coarser_dial⟩
end
section
variable {P : Program} {w : World} {K : PySem.W.Frag} {mg : Str → Option Value} {base : Heap}
set_option maxHeartbeats 4000000 in
theorem ok_dial_parts (T : Tx K mg) : DFn P w K mg base CX0 3 T.a_dial_parts T.d_dial_parts ["dial"] sp_dial_parts :=
  dfn (n := 3) T.F_dial_parts sc_dial_parts rfl (by decide) len_dial_parts fun cdv A outer s H E hr => ⟨rd_dial_parts,
    (ss_one (s_ret (d_tupC (by rfl) T.n_tuple (da_cons (d_sorted hr (by rfl) T.n_sorted (da_cons (d_lc rfl sc_dial_parts.nd (i_seq (d_call (ok_prime_powers T) (hr.mono (by decide)) (by rfl) T.g_prime_powers T.F_prime_powers.kp T.b_prime_powers (da_cons (d_ix (dv 0) d_int) da_nil))) (blkOk_by (own := [("_", 1), ("power", 2)]) (N := N_dial_parts) (sc := defScope st_dial_parts) (by decide +kernel)) rfl (fun _ _ _ _ _ => (g_tup rfl (gs_cons (g_name (i := 1) sc_dial_parts.nd rfl (.inl rfl) (by decide) (.inr rfl)) (gs_cons (g_name (i := 2) sc_dial_parts.nd rfl (.inl rfl) (by decide) (.inr rfl)) gs_nil)))) (fun _ _ _ _ _ => ts_nil) (fun _ _ _ _ _ => (d_call (ok_coarser_dial T) (hr.mono (by decide)) (by rfl) T.g_coarser_dial T.F_coarser_dial.kp T.b_coarser_dial (da_cons (dv 0) (da_cons (dv 2) da_nil))))) da_nil)) da_nil)))),
    vc_dial_parts⟩
end
section
variable {P : Program} {w : World} {K : PySem.W.Frag} {mg : Str → Option Value} {base : Heap}
set_option maxHeartbeats 4000000 in
theorem ok_law_kettle (T : Tx K mg) : DFn P w K mg base CX0 1 T.a_law_kettle T.d_law_kettle ["script"] sp_law_kettle :=
  dfn (n := 5) T.F_law_kettle sc_law_kettle rfl (by decide) len_law_kettle fun cdv A outer s H E hr => ⟨rd_law_kettle,
    (ss_cons (s_set 1 sc_law_kettle.nd rfl (.inl rfl) d_int)
      (ss_cons (s_set 2 sc_law_kettle.nd rfl (.inl rfl) (d_lst dan_nil))
      (ss_cons (s_for (vs := [3]) PassesOwn.never rfl (i_seq (d_slice (dv 0) do_none (do_some d_int))) (g_name (i := 3) sc_law_kettle.nd rfl (.inl rfl) (by decide) (.inl rfl)) (ss_cons (s_set 4 sc_law_kettle.nd rfl (.inl rfl) (d_abs (by rfl) T.n_abs (da_cons (d_intC (by rfl) T.n_int (da_cons (dv 3) da_nil)) da_nil)))
      (ss_cons (s_set 1 sc_law_kettle.nd rfl (.inl rfl) (d_mod (d_intC (by rfl) T.n_int (da_cons (d_add (d_add (d_mulA (dv 1) d_int) (d_mod (d_intC (by rfl) T.n_int (da_cons (dv 4) da_nil)) d_int)) d_int) da_nil)) d_int))
      (ss_one (s_if (dt_ge (dv 4) d_int) (ss_one (s_expr (m_append (dv 2) (da_cons (dv 4) da_nil)))) ss_nil)))))
      (ss_cons (s_expr (m_reverse (dv 2)))
      (ss_one (s_ret (d_lst (dan_cons (dv 1) (dan_cons d_int (dan_cons (dv 2) dan_nil)))))))))),
    vc_law_kettle⟩
end
section
variable {P : Program} {w : World} {K : PySem.W.Frag} {mg : Str → Option Value} {base : Heap}
set_option maxHeartbeats 4000000 in
theorem ok_law_pick (T : Tx K mg) : DFn P w K mg base CX0 1 T.a_law_pick T.d_law_pick ["bowl", "many"] sp_law_pick :=
  dfn (n := 3) T.F_law_pick sc_law_pick rfl (by decide) len_law_pick fun cdv A outer s H E hr => ⟨rd_law_pick,
    (ss_cons (s_sub (d_add (d_ix (dv 0) d_int) d_int) (dv 0) d_int)
      (ss_cons (s_while PassesOwn.never (DW.dt (dw_and (dt_gt (d_len (by rfl) T.n_len (da_cons (d_ix (dv 0) d_int) da_nil)) d_int) (dw_and1 (dt_eq (hr.units) (d_ix (d_ix (dv 0) d_int) (d_neg d_int)) d_int)))) (ss_one (s_expr (m_pop (d_ix (dv 0) d_int)))))
      (ss_cons (s_if (dt_gt (d_len (by rfl) T.n_len (da_cons (d_ix (dv 0) d_int) da_nil)) d_int) (ss_cons (s_set 2 sc_law_pick.nd rfl (.inl rfl) (m_pop (d_ix (dv 0) d_int)))
      (ss_cons (s_expr (m_append (d_ix (dv 0) d_int) (da_cons (d_divA (dv 2) (dv 1)) da_nil)))
      (ss_one (s_ret (d_mod (d_intC (by rfl) T.n_int (da_cons (dv 2) da_nil)) (dv 1)))))) ss_nil)
      (ss_cons (s_sub (d_mod (d_intC (by rfl) T.n_int (da_cons (d_add (d_add (d_mulA (d_ix (dv 0) d_int) d_int) (d_mulA (d_ix (dv 0) d_int) d_int)) d_int) da_nil)) d_int) (dv 0) d_int)
      (ss_one (s_ret (d_mod (d_intC (by rfl) T.n_int (da_cons (d_divA (d_ix (dv 0) d_int) d_int) da_nil)) (dv 1)))))))),
    vc_law_pick⟩
end
section
variable {P : Program} {w : World} {K : PySem.W.Frag} {mg : Str → Option Value} {base : Heap}
set_option maxHeartbeats 4000000 in
theorem ok_law_one (T : Tx K mg) : DFn P w K mg base CX0 2 T.a_law_one T.d_law_one ["bowl", "row"] sp_law_one :=
  dfn (n := 2) T.F_law_one sc_law_one rfl (by decide) len_law_one fun cdv A outer s H E hr => ⟨rd_law_one,
    (ss_one (s_ret (d_ix (dv 1) (d_call (ok_law_pick T) (hr.mono (by decide)) (by rfl) T.g_law_pick T.F_law_pick.kp T.b_law_pick (da_cons (dv 0) (da_cons (d_len (by rfl) T.n_len (da_cons (dv 1) da_nil)) da_nil)))))),
    vc_law_one⟩
end
section
variable {P : Program} {w : World} {K : PySem.W.Frag} {mg : Str → Option Value} {base : Heap}
set_option maxHeartbeats 4000000 in
theorem ok_law_mixed (T : Tx K mg) : DFn P w K mg base CX0 2 T.a_law_mixed T.d_law_mixed ["bowl", "row"] sp_law_mixed :=
  dfn (n := 4) T.F_law_mixed sc_law_mixed rfl (by decide) len_law_mixed fun cdv A outer s H E hr => ⟨rd_law_mixed,
    (ss_cons (s_set 2 sc_law_mixed.nd rfl (.inr rfl) (d_listC (by rfl) T.n_list (da_cons (dv 1) da_nil)))
      (ss_one (s_ret (d_lc rfl sc_law_mixed.nd (i_rng1 (by rfl) T.n_range (d_len (by rfl) T.n_len (da_cons (dv 1) da_nil))) (blkOk_by (own := [("k", 3)]) (N := N_law_mixed) (sc := defScope st_law_mixed) (by decide +kernel)) rfl (fun _ _ _ _ _ => (g_name (i := 3) sc_law_mixed.nd rfl (.inl rfl) (by decide) (.inr rfl))) (fun _ _ _ _ _ => ts_nil) (fun _ _ _ _ _ => (m_popAt (dv 2) (da_cons (d_call (ok_law_pick T) (hr.mono (by decide)) (by rfl) T.g_law_pick T.F_law_pick.kp T.b_law_pick (da_cons (dv 0) (da_cons (d_len (by rfl) T.n_len (da_cons (dv 2) da_nil)) da_nil))) da_nil))))))),
    vc_law_mixed⟩
end
section
variable {P : Program} {w : World} {K : PySem.W.Frag} {mg : Str → Option Value} {base : Heap}
set_option maxHeartbeats 4000000 in
theorem ok_law_same (T : Tx K mg) : DFn P w K mg base CX0 1 T.a_law_same T.d_law_same ["told", "due"] sp_law_same :=
  dfn (n := 6) T.F_law_same sc_law_same rfl (by decide) len_law_same fun cdv A outer s H E hr => ⟨rd_law_same,
    (ss_cons (s_set 2 sc_law_same.nd rfl (.inl rfl) (d_lst (dan_cons (d_tup (dan_cons (dv 0) (dan_cons (dv 1) dan_nil))) dan_nil)))
      (ss_cons (s_while PassesOwn.never (dt_gt (d_len (by rfl) T.n_len (da_cons (dv 2) da_nil)) d_int) (ss_cons (s_asg (vs := [3, 4]) (m_pop (dv 2)) (g_tup rfl (gs_cons (g_name (i := 3) sc_law_same.nd rfl (.inr rfl) (by decide) (.inl rfl)) (gs_cons (g_name (i := 4) sc_law_same.nd rfl (.inr rfl) (by decide) (.inl rfl)) gs_nil))))
      (ss_one (s_if (dt_isN (dv 4) d_non) (ss_one (s_if (dt_notN (dv 3) d_non) (ss_one (s_ret d_bl)) ss_nil)) (ss_one (s_if (dt_tru (d_isi (by rfl) T.n_isinstance (da_cons (dv 4) (da_cons (d_ty (by rfl) T.n_tuple (by decide +kernel)) da_nil)))) (ss_cons (s_if (DW.dt (dw_or (dt_not (dt_tru (d_isi (by rfl) T.n_isinstance (da_cons (dv 3) (da_cons (d_ty (by rfl) T.n_tuple (by decide +kernel)) da_nil))))) (dw_or1 (dt_ne (hr.units) (d_len (by rfl) T.n_len (da_cons (dv 3) da_nil)) (d_len (by rfl) T.n_len (da_cons (dv 4) da_nil)))))) (ss_one (s_ret d_bl)) ss_nil)
      (ss_one (s_expr (m_extend (dv 2) (da_cons (d_lc rfl sc_law_same.nd (i_rng1 (by rfl) T.n_range (d_len (by rfl) T.n_len (da_cons (dv 4) da_nil))) (blkOk_by (own := [("k", 5)]) (N := N_law_same) (sc := defScope st_law_same) (by decide +kernel)) rfl (fun _ _ _ _ _ => (g_name (i := 5) sc_law_same.nd rfl (.inl rfl) (by decide) (.inr rfl))) (fun _ _ _ _ _ => ts_nil) (fun _ _ _ _ _ => (d_tup (dan_cons (d_ix (dv 3) (dv 5)) (dan_cons (d_ix (dv 4) (dv 5)) dan_nil))))) da_nil))))) (ss_one (s_if (DW.dt (dw_or (dt_ne (hr.units) (d_isi (by rfl) T.n_isinstance (da_cons (dv 3) (da_cons (d_ty (by rfl) T.n_bool (by decide +kernel)) da_nil))) (d_isi (by rfl) T.n_isinstance (da_cons (dv 4) (da_cons (d_ty (by rfl) T.n_bool (by decide +kernel)) da_nil)))) (dw_or1 (dt_ne (hr.units) (d_isi (by rfl) T.n_isinstance (da_cons (dv 3) (da_cons (d_ty (by rfl) T.n_str (by decide +kernel)) da_nil))) (d_isi (by rfl) T.n_isinstance (da_cons (dv 4) (da_cons (d_ty (by rfl) T.n_str (by decide +kernel)) da_nil))))))) (ss_one (s_ret d_bl)) (ss_one (s_if (DW.dt (dw_or (dt_ne (hr.units) (d_isi (by rfl) T.n_isinstance (da_cons (dv 3) (da_cons (d_ty (by rfl) T.n_int (by decide +kernel)) da_nil))) (d_isi (by rfl) T.n_isinstance (da_cons (dv 4) (da_cons (d_ty (by rfl) T.n_int (by decide +kernel)) da_nil)))) (dw_or1 (dt_ne (hr.units) (dv 3) (dv 4))))) (ss_one (s_ret d_bl)) ss_nil))))))))))
      (ss_one (s_ret d_bl)))),
    vc_law_same⟩
end
section
variable {P : Program} {w : World} {K : PySem.W.Frag} {mg : Str → Option Value} {base : Heap}
set_option maxHeartbeats 4000000 in
theorem ok_law_gcd (T : Tx K mg) : DFn P w K mg base CX0 1 T.a_law_gcd T.d_law_gcd ["one", "two"] sp_law_gcd :=
  dfn (n := 2) T.F_law_gcd sc_law_gcd rfl (by decide) len_law_gcd fun cdv A outer s H E hr => ⟨rd_law_gcd,
    (ss_cons (s_while PassesOwn.never (dt_ne (hr.units) (dv 1) d_int) (ss_one (s_par 0 1 rfl sc_law_gcd.nd rfl rfl (by decide) rfl rfl (dv 1) (d_mod (d_intC (by rfl) T.n_int (da_cons (dv 0) da_nil)) (dv 1)))))
      (ss_one (s_ret (d_abs (by rfl) T.n_abs (da_cons (dv 0) da_nil))))),
    vc_law_gcd⟩
end
section
variable {P : Program} {w : World} {K : PySem.W.Frag} {mg : Str → Option Value} {base : Heap}
set_option maxHeartbeats 4000000 in
theorem ok_law_size (T : Tx K mg) : DFn P w K mg base CX0 3 T.a_law_size T.d_law_size ["kettle"] sp_law_size :=
  dfn (n := 5) T.F_law_size sc_law_size rfl (by decide) len_law_size fun cdv A outer s H E hr => ⟨rd_law_size,
    (ss_cons (s_set 1 sc_law_size.nd rfl (.inl rfl) (d_call (ok_law_pick T) (hr.mono (by decide)) (by rfl) T.g_law_pick T.F_law_pick.kp T.b_law_pick (da_cons (dv 0) (da_cons d_int da_nil))))
      (ss_cons (s_if (dt_eq (hr.units) (dv 1) d_int) (ss_one (s_ret (d_add d_int (d_call (ok_law_pick T) (hr.mono (by decide)) (by rfl) T.g_law_pick T.F_law_pick.kp T.b_law_pick (da_cons (dv 0) (da_cons d_int da_nil)))))) ss_nil)
      (ss_cons (s_if (dt_eq (hr.units) (dv 1) d_int) (ss_one (s_ret (d_call (ok_law_one T) (hr.mono (by decide)) (by rfl) T.g_law_one T.F_law_one.kp T.b_law_one (da_cons (dv 0) (da_cons (d_tup (dan_cons d_int (dan_cons d_int (dan_cons d_int (dan_cons d_int (dan_cons d_int (dan_cons d_int (dan_cons d_int (dan_cons d_int (dan_cons d_int (dan_cons d_int (dan_cons d_int (dan_cons d_int dan_nil))))))))))))) da_nil))))) ss_nil)
      (ss_cons (s_if (dt_eq (hr.units) (dv 1) d_int) (ss_cons (s_set 2 sc_law_size.nd rfl (.inl rfl) (d_call (ok_law_one T) (hr.mono (by decide)) (by rfl) T.g_law_one T.F_law_one.kp T.b_law_one (da_cons (dv 0) (da_cons (d_tup (dan_cons d_int (dan_cons d_int (dan_cons d_int (dan_cons d_int (dan_cons d_int (dan_cons d_int dan_nil))))))) da_nil))))
      (ss_cons (s_set 3 sc_law_size.nd rfl (.inl rfl) (dv 2))
      (ss_cons (s_for (vs := [4]) PassesOwn.never rfl (i_rng1 (by rfl) T.n_range (d_call (ok_law_pick T) (hr.mono (by decide)) (by rfl) T.g_law_pick T.F_law_pick.kp T.b_law_pick (da_cons (dv 0) (da_cons d_int da_nil)))) (g_name (i := 4) sc_law_size.nd rfl (.inl rfl) (by decide) (.inl rfl)) (ss_one (s_set 3 sc_law_size.nd rfl (.inl rfl) (d_if (dt_le (d_mulA (dv 3) (dv 2)) d_int) (d_mulA (dv 3) (dv 2)) (dv 3)))))
      (ss_one (s_ret (dv 3)))))) ss_nil)
      (ss_cons (s_if (dt_eq (hr.units) (dv 1) d_int) (ss_one (s_ret (d_call (ok_law_one T) (hr.mono (by decide)) (by rfl) T.g_law_one T.F_law_one.kp T.b_law_one (da_cons (dv 0) (da_cons (d_tup (dan_cons d_int (dan_cons d_int (dan_cons d_int (dan_cons d_int (dan_cons d_int (dan_cons d_int (dan_cons d_int (dan_cons d_int (dan_cons d_int (dan_cons d_int dan_nil))))))))))) da_nil))))) ss_nil)
      (ss_cons (s_if (dt_eq (hr.units) (dv 1) d_int) (ss_one (s_ret (d_add d_int (d_call (ok_law_pick T) (hr.mono (by decide)) (by rfl) T.g_law_pick T.F_law_pick.kp T.b_law_pick (da_cons (dv 0) (da_cons d_int da_nil)))))) ss_nil)
      (ss_one (s_ret (d_mulA (d_add d_int (d_call (ok_law_pick T) (hr.mono (by decide)) (by rfl) T.g_law_pick T.F_law_pick.kp T.b_law_pick (da_cons (dv 0) (da_cons d_int da_nil)))) (d_add d_int (d_call (ok_law_pick T) (hr.mono (by decide)) (by rfl) T.g_law_pick T.F_law_pick.kp T.b_law_pick (da_cons (dv 0) (da_cons d_int da_nil))))))))))))),
    vc_law_size⟩
end
section
variable {P : Program} {w : World} {K : PySem.W.Frag} {mg : Str → Option Value} {base : Heap}
set_option maxHeartbeats 4000000 in
theorem ok_law_powers (T : Tx K mg) : DFn P w K mg base CX0 1 T.a_law_powers T.d_law_powers ["n"] sp_law_powers :=
  dfn (n := 4) T.F_law_powers sc_law_powers rfl (by decide) len_law_powers fun cdv A outer s H E hr => ⟨rd_law_powers,
    (ss_cons (s_set 1 sc_law_powers.nd rfl (.inl rfl) (d_lst dan_nil))
      (ss_cons (s_set 2 sc_law_powers.nd rfl (.inl rfl) d_int)
      (ss_cons (s_while PassesOwn.never (dt_gt (dv 0) d_int) (ss_cons (s_set 3 sc_law_powers.nd rfl (.inl rfl) d_int)
      (ss_cons (s_while PassesOwn.never (dt_eq (hr.units) (d_mod (d_intC (by rfl) T.n_int (da_cons (dv 0) da_nil)) (dv 2)) d_int) (ss_cons (s_set 0 sc_law_powers.nd rfl (.inl rfl) (d_divA (dv 0) (dv 2)))
      (ss_one (s_set 3 sc_law_powers.nd rfl (.inl rfl) (d_mulA (dv 3) (dv 2))))))
      (ss_cons (s_if (dt_gt (dv 3) d_int) (ss_one (s_expr (m_append (dv 1) (da_cons (dv 3) da_nil)))) ss_nil)
      (ss_one (s_set 2 sc_law_powers.nd rfl (.inl rfl) (d_if (DW.dt (dw_or (dt_le (d_mulA (dv 2) (dv 2)) (dv 0)) (dw_or1 (dt_le (dv 0) (dv 2))))) (d_add (dv 2) d_int) (dv 0))))))))
      (ss_one (s_ret (d_sorted hr (by rfl) T.n_sorted (da_cons (dv 1) da_nil))))))),
    vc_law_powers⟩
end
section
variable {P : Program} {w : World} {K : PySem.W.Frag} {mg : Str → Option Value} {base : Heap}
set_option maxHeartbeats 4000000 in
theorem ok_law_heard (T : Tx K mg) : DFn P w K mg base CX0 4 T.a_law_heard T.d_law_heard ["thing"] sp_law_heard :=
  dfn (n := 3) T.F_law_heard sc_law_heard rfl (by decide) len_law_heard fun cdv A outer s H E hr => ⟨rd_law_heard T.C_BadDial,
    (ss_cons (s_try (i := 1) rfl rfl sc_law_heard.nd rfl rfl (by rfl) rfl T.ex_BadDial takes0 (fun W pn xe tk _ => (xs_one (x_set 2 sc_law_heard.nd rfl (.inl rfl) (x_call (okX_check_dial T) (hr.mono (by decide)) tk (by rfl) T.g_check_dial T.F_check_dial.kp T.b_check_dial (da_cons (dv 0) da_nil))))) (fun a dd oe pn hz hf => (ss_one (s_ret (d_tup (dan_cons d_str (dan_cons (d_xf T.ex_BadDial (by decide) hz hf (dv 1)) dan_nil)))))))
      (ss_one (s_ret (d_tup (dan_cons d_str (dan_cons (dv 2) dan_nil)))))),
    vc_law_heard T.C_BadDial⟩
end
section
variable {P : Program} {w : World} {K : PySem.W.Frag} {mg : Str → Option Value} {base : Heap}
set_option maxHeartbeats 4000000 in
theorem ok_law_checked (T : Tx K mg) : DFn P w K mg base CX0 5 T.a_law_checked T.d_law_checked ["kettle", "n", "roots"] sp_law_checked :=
  dfn (n := 8) T.F_law_checked sc_law_checked rfl (by decide) len_law_checked fun cdv A outer s H E hr => ⟨rd_law_checked,
    (ss_cons (s_set 3 sc_law_checked.nd rfl (.inl rfl) (d_call (ok_law_one T) (hr.mono (by decide)) (by rfl) T.g_law_one T.F_law_one.kp T.b_law_one (da_cons (dv 0) (da_cons (dv 2) da_nil))))
      (ss_cons (s_set 4 sc_law_checked.nd rfl (.inl rfl) (d_add d_int (d_call (ok_law_pick T) (hr.mono (by decide)) (by rfl) T.g_law_pick T.F_law_pick.kp T.b_law_pick (da_cons (dv 0) (da_cons (d_sub (dv 1) d_int) da_nil)))))
      (ss_cons (s_set 5 sc_law_checked.nd rfl (.inl rfl) (d_if (dt_in (hu65 hr) (dv 4) (dv 2)) (d_tup (dan_cons d_str (dan_cons d_non dan_nil))) (d_tup (dan_cons d_str (dan_cons d_str dan_nil)))))
      (ss_cons (s_set 6 sc_law_checked.nd rfl (.inl rfl) (d_lst (dan_cons (d_tup (dan_cons (d_tup (dan_cons (dv 1) (dan_cons (dv 3) dan_nil))) (dan_cons (d_tup (dan_cons d_str (dan_cons d_non dan_nil))) dan_nil))) (dan_cons (d_tup (dan_cons (d_tup (dan_cons (dv 1) (dan_cons (dv 4) dan_nil))) (dan_cons (dv 5) dan_nil))) (dan_cons (d_tup (dan_cons (d_tup (dan_cons (dv 1) (dan_cons d_int dan_nil))) (dan_cons (d_tup (dan_cons d_str (dan_cons d_str dan_nil))) dan_nil))) (dan_cons (d_tup (dan_cons (d_tup (dan_cons (dv 1) (dan_cons (dv 1) dan_nil))) (dan_cons (d_tup (dan_cons d_str (dan_cons d_str dan_nil))) dan_nil))) dan_nil))))))
      (ss_cons (s_expr (m_extend (dv 6) (da_cons (d_lst (dan_cons (d_tup (dan_cons (d_tup (dan_cons (dv 1) (dan_cons (d_add (dv 3) (dv 1)) dan_nil))) (dan_cons (d_tup (dan_cons d_str (dan_cons d_str dan_nil))) dan_nil))) (dan_cons (d_tup (dan_cons (d_tup (dan_cons (dv 1) (dan_cons (d_sub (dv 3) (dv 1)) dan_nil))) (dan_cons (d_tup (dan_cons d_str (dan_cons d_str dan_nil))) dan_nil))) (dan_cons (d_tup (dan_cons (d_tup (dan_cons (dv 1) (dan_cons d_bl dan_nil))) (dan_cons (d_tup (dan_cons d_str (dan_cons d_str dan_nil))) dan_nil))) (dan_cons (d_tup (dan_cons (d_lst (dan_cons (dv 1) (dan_cons (dv 3) dan_nil))) (dan_cons (d_tup (dan_cons d_str (dan_cons d_str dan_nil))) dan_nil))) dan_nil))))) da_nil)))
      (ss_cons (s_expr (m_extend (dv 6) (da_cons (d_lst (dan_cons (d_tup (dan_cons (d_tup (dan_cons (d_add d_int (dv 1)) (dan_cons d_int dan_nil))) (dan_cons (d_tup (dan_cons d_str (dan_cons d_str dan_nil))) dan_nil))) (dan_cons (d_tup (dan_cons (d_tup (dan_cons (d_neg (dv 1)) (dan_cons (dv 3) dan_nil))) (dan_cons (d_tup (dan_cons d_str (dan_cons d_str dan_nil))) dan_nil))) (dan_cons (d_tup (dan_cons (d_tup (dan_cons d_int (dan_cons d_int dan_nil))) (dan_cons (d_tup (dan_cons d_str (dan_cons d_str dan_nil))) dan_nil))) dan_nil)))) da_nil)))
      (ss_cons (s_expr (m_extend (dv 6) (da_cons (d_lst (dan_cons (d_tup (dan_cons (d_tup (dan_cons d_int (dan_cons d_int dan_nil))) (dan_cons (d_tup (dan_cons d_str (dan_cons d_non dan_nil))) dan_nil))) (dan_cons (d_tup (dan_cons (d_tup (dan_cons d_int (dan_cons (d_neg d_int) dan_nil))) (dan_cons (d_tup (dan_cons d_str (dan_cons d_non dan_nil))) dan_nil))) (dan_cons (d_tup (dan_cons (d_tup (dan_cons d_int (dan_cons (d_add (dv 3) d_int) dan_nil))) (dan_cons (d_tup (dan_cons d_str (dan_cons d_str dan_nil))) dan_nil))) (dan_cons (d_tup (dan_cons (d_tup (dan_cons d_int (dan_cons d_int dan_nil))) (dan_cons (d_tup (dan_cons d_str (dan_cons d_str dan_nil))) dan_nil))) dan_nil))))) da_nil)))
      (ss_cons (s_expr (m_extend (dv 6) (da_cons (d_lst (dan_cons (d_tup (dan_cons (d_tup (dan_cons (dv 1) (dan_cons (dv 3) (dan_cons d_int dan_nil)))) (dan_cons (d_tup (dan_cons d_str (dan_cons d_str dan_nil))) dan_nil))) (dan_cons (d_tup (dan_cons (d_tup (dan_cons (dv 1) dan_nil)) (dan_cons (d_tup (dan_cons d_str (dan_cons d_str dan_nil))) dan_nil))) (dan_cons (d_tup (dan_cons (d_tup (dan_cons d_int (dan_cons d_non dan_nil))) (dan_cons (d_tup (dan_cons d_str (dan_cons d_str dan_nil))) dan_nil))) (dan_cons (d_tup (dan_cons (d_tup (dan_cons d_bl (dan_cons d_int dan_nil))) (dan_cons (d_tup (dan_cons d_str (dan_cons d_str dan_nil))) dan_nil))) dan_nil))))) da_nil)))
      (ss_cons (s_expr (m_append (dv 6) (da_cons (d_tup (dan_cons (d_tup (dan_cons d_int (dan_cons d_int dan_nil))) (dan_cons (d_tup (dan_cons d_str (dan_cons d_str dan_nil))) dan_nil))) da_nil)))
      (ss_cons (s_for (vs := [7, 5]) PassesOwn.never rfl (i_seq (dv 6)) (g_tup rfl (gs_cons (g_name (i := 7) sc_law_checked.nd rfl (.inl rfl) (by decide) (.inl rfl)) (gs_cons (g_name (i := 5) sc_law_checked.nd rfl (.inl rfl) (by decide) (.inl rfl)) gs_nil))) (ss_one (s_if (dt_not (dt_tru (d_call (ok_law_same T) (hr.mono (by decide)) (by rfl) T.g_law_same T.F_law_same.kp T.b_law_same (da_cons (d_call (ok_law_heard T) (hr.mono (by decide)) (by rfl) T.g_law_heard T.F_law_heard.kp T.b_law_heard (da_cons (dv 7) da_nil)) (da_cons (dv 5) da_nil))))) (ss_one (s_ret d_bl)) ss_nil)))
      (ss_one (s_ret d_bl)))))))))))),
    vc_law_checked⟩
end
section
variable {P : Program} {w : World} {K : PySem.W.Frag} {mg : Str → Option Value} {base : Heap}
set_option maxHeartbeats 4000000 in
theorem ok_law_marks (T : Tx K mg) : DFn P w K mg base CX0 3 T.a_law_marks T.d_law_marks ["kettle", "n", "k"] sp_law_marks :=
  dfn (n := 12) T.F_law_marks sc_law_marks rfl (by decide) len_law_marks fun cdv A outer s H E hr => ⟨rd_law_marks,
    (ss_cons (s_set 3 sc_law_marks.nd rfl (.inl rfl) (d_call (ok_law_pick T) (hr.mono (by decide)) (by rfl) T.g_law_pick T.F_law_pick.kp T.b_law_pick (da_cons (dv 0) (da_cons d_int da_nil))))
      (ss_cons (s_for (vs := [4]) PassesOwn.never rfl (i_rng1 (by rfl) T.n_range (d_call (ok_law_pick T) (hr.mono (by decide)) (by rfl) T.g_law_pick T.F_law_pick.kp T.b_law_pick (da_cons (dv 0) (da_cons d_int da_nil)))) (g_name (i := 4) sc_law_marks.nd rfl (.inl rfl) (by decide) (.inl rfl)) (ss_cons (s_set 3 sc_law_marks.nd rfl (.inl rfl) (d_add (d_mulA (dv 3) (dv 3)) (dv 4)))
      (ss_one (s_if (dt_gt (d_divA (dv 3) (d_pow d_int d_int)) (d_pow d_int d_int)) (ss_one s_break) ss_nil))))
      (ss_cons (s_set 5 sc_law_marks.nd rfl (.inl rfl) (d_mod (d_intC (by rfl) T.n_int (da_cons (d_divA (dv 1) (d_call (ok_law_gcd T) (hr.mono (by decide)) (by rfl) T.g_law_gcd T.F_law_gcd.kp T.b_law_gcd (da_cons (dv 1) (da_cons (d_sub (dv 2) d_int) da_nil)))) da_nil)) (dv 1)))
      (ss_cons (s_for (vs := [6]) PassesOwn.never rfl (i_seq (d_tup (dan_cons (dv 3) (dan_cons (d_neg (dv 3)) (dan_cons (dv 1) (dan_cons (d_neg d_int) (dan_cons (d_call (ok_law_pick T) (hr.mono (by decide)) (by rfl) T.g_law_pick T.F_law_pick.kp T.b_law_pick (da_cons (dv 0) (da_cons (dv 1) da_nil))) (dan_cons (dv 5) (dan_cons (d_add (dv 5) d_int) (dan_cons (d_mulA d_int (dv 5)) (dan_cons (d_sub (dv 5) d_int) dan_nil))))))))))) (g_name (i := 6) sc_law_marks.nd rfl (.inl rfl) (by decide) (.inl rfl)) (ss_cons (s_set 7 sc_law_marks.nd rfl (.inl rfl) (d_mod (d_intC (by rfl) T.n_int (da_cons (dv 6) da_nil)) (dv 1)))
      (ss_cons (s_set 8 sc_law_marks.nd rfl (.inl rfl) (d_mod (d_intC (by rfl) T.n_int (da_cons (d_mulA (dv 2) (dv 6)) da_nil)) (dv 1)))
      (ss_cons (s_set 9 sc_law_marks.nd rfl (.inl rfl) (d_tup (dan_cons (d_call (ok_mark_of T) (hr.mono (by decide)) (by rfl) T.g_mark_of T.F_mark_of.kp T.b_mark_of (da_cons (d_tup (dan_cons (dv 1) (dan_cons (dv 2) dan_nil))) (da_cons (dv 6) da_nil))) (dan_cons (d_call (ok_turned_mark T) (hr.mono (by decide)) (by rfl) T.g_turned_mark T.F_turned_mark.kp T.b_turned_mark (da_cons (d_tup (dan_cons (dv 1) (dan_cons (dv 2) dan_nil))) (da_cons (dv 6) da_nil))) (dan_cons (d_call (ok_turned_mark T) (hr.mono (by decide)) (by rfl) T.g_turned_mark T.F_turned_mark.kp T.b_turned_mark (da_cons (d_tup (dan_cons (dv 1) (dan_cons (dv 2) dan_nil))) (da_cons (dv 8) da_nil))) (dan_cons (d_call (ok_turned_mark T) (hr.mono (by decide)) (by rfl) T.g_turned_mark T.F_turned_mark.kp T.b_turned_mark (da_cons (d_tup (dan_cons (dv 1) (dan_cons (dv 2) dan_nil))) (da_cons (dv 7) da_nil))) dan_nil))))))
      (ss_cons (s_if (dt_not (dt_tru (d_call (ok_law_same T) (hr.mono (by decide)) (by rfl) T.g_law_same T.F_law_same.kp T.b_law_same (da_cons (dv 9) (da_cons (d_tup (dan_cons (dv 7) (dan_cons (dv 8) (dan_cons (dv 7) (dan_cons (dv 8) dan_nil))))) da_nil))))) (ss_one (s_ret d_bl)) ss_nil)
      (ss_cons (s_set 10 sc_law_marks.nd rfl (.inl rfl) (d_if (dt_eq (hr.units) (dv 5) d_int) (d_eq (hr.units) (dv 7) d_int) (d_eq (hr.units) (d_mod (d_intC (by rfl) T.n_int (da_cons (dv 7) da_nil)) (dv 5)) d_int)))
      (ss_one (s_if (dt_ne (hr.units) (d_eq (hr.units) (dv 8) (dv 7)) (dv 10)) (ss_one (s_ret d_bl)) ss_nil))))))))
      (ss_cons (s_set 9 sc_law_marks.nd rfl (.inl rfl) (d_tup (dan_cons (d_call (ok_half_of T) (hr.mono (by decide)) (by rfl) T.g_half_of T.F_half_of.kp T.b_half_of (da_cons (d_tup (dan_cons (dv 1) (dan_cons (dv 2) dan_nil))) da_nil)) (dan_cons (d_call (ok_is_turning T) (hr.mono (by decide)) (by rfl) T.g_is_turning T.F_is_turning.kp T.b_is_turning (da_cons (d_tup (dan_cons (dv 1) (dan_cons (dv 2) dan_nil))) da_nil)) (dan_cons (d_call (ok_is_loud T) (hr.mono (by decide)) (by rfl) T.g_is_loud T.F_is_loud.kp T.b_is_loud (da_cons (d_tup (dan_cons (dv 1) (dan_cons (dv 2) dan_nil))) da_nil)) dan_nil)))))
      (ss_cons (s_if (dt_not (dt_tru (d_call (ok_law_same T) (hr.mono (by decide)) (by rfl) T.g_law_same T.F_law_same.kp T.b_law_same (da_cons (dv 9) (da_cons (d_tup (dan_cons (dv 5) (dan_cons (d_eq (hr.units) (d_mod (d_intC (by rfl) T.n_int (da_cons (d_add (dv 2) d_int) da_nil)) (dv 1)) d_int) (dan_cons (d_eq (hr.units) (d_mod (d_intC (by rfl) T.n_int (da_cons (d_sub (dv 2) d_int) da_nil)) (dv 1)) d_int) dan_nil)))) da_nil))))) (ss_one (s_ret d_bl)) ss_nil)
      (ss_cons (s_set 11 sc_law_marks.nd rfl (.inl rfl) (d_call (ok_law_one T) (hr.mono (by decide)) (by rfl) T.g_law_one T.F_law_one.kp T.b_law_one (da_cons (dv 0) (da_cons (d_tup (dan_cons d_int (dan_cons (d_neg d_int) dan_nil))) da_nil))))
      (ss_cons (s_set 9 sc_law_marks.nd rfl (.inl rfl) (d_tup (dan_cons (d_call (ok_mark_of T) (hr.mono (by decide)) (by rfl) T.g_mark_of T.F_mark_of.kp T.b_mark_of (da_cons (d_tup (dan_cons d_int (dan_cons (dv 11) dan_nil))) (da_cons (dv 3) da_nil))) (dan_cons (d_call (ok_turned_mark T) (hr.mono (by decide)) (by rfl) T.g_turned_mark T.F_turned_mark.kp T.b_turned_mark (da_cons (d_tup (dan_cons d_int (dan_cons (dv 11) dan_nil))) (da_cons (dv 3) da_nil))) (dan_cons (d_call (ok_half_of T) (hr.mono (by decide)) (by rfl) T.g_half_of T.F_half_of.kp T.b_half_of (da_cons (d_tup (dan_cons d_int (dan_cons (dv 11) dan_nil))) da_nil)) (dan_cons (d_call (ok_is_turning T) (hr.mono (by decide)) (by rfl) T.g_is_turning T.F_is_turning.kp T.b_is_turning (da_cons (d_tup (dan_cons d_int (dan_cons (dv 11) dan_nil))) da_nil)) (dan_cons (d_call (ok_is_loud T) (hr.mono (by decide)) (by rfl) T.g_is_loud T.F_is_loud.kp T.b_is_loud (da_cons (d_tup (dan_cons d_int (dan_cons (dv 11) dan_nil))) da_nil)) dan_nil)))))))
      (ss_one (s_ret (d_call (ok_law_same T) (hr.mono (by decide)) (by rfl) T.g_law_same T.F_law_same.kp T.b_law_same (da_cons (dv 9) (da_cons (d_tup (dan_cons (dv 3) (dan_cons (d_mulA (dv 11) (dv 3)) (dan_cons (d_intC (by rfl) T.n_int (da_cons (d_eq (hr.units) (dv 11) d_int) da_nil)) (dan_cons (d_eq (hr.units) (dv 11) (d_neg d_int)) (dan_cons (d_eq (hr.units) (dv 11) d_int) dan_nil)))))) da_nil))))))))))))),
    vc_law_marks⟩
end
section
variable {P : Program} {w : World} {K : PySem.W.Frag} {mg : Str → Option Value} {base : Heap}
set_option maxHeartbeats 4000000 in
theorem ok_law_parts (T : Tx K mg) : DFn P w K mg base CX0 4 T.a_law_parts T.d_law_parts ["kettle", "n", "k"] sp_law_parts :=
  dfn (n := 10) T.F_law_parts sc_law_parts rfl (by decide) len_law_parts fun cdv A outer s H E hr => ⟨rd_law_parts,
    (ss_cons (s_set 3 sc_law_parts.nd rfl (.inl rfl) (d_call (ok_law_powers T) (hr.mono (by decide)) (by rfl) T.g_law_powers T.F_law_powers.kp T.b_law_powers (da_cons (dv 1) da_nil)))
      (ss_cons (s_if (dt_not (dt_tru (d_call (ok_law_same T) (hr.mono (by decide)) (by rfl) T.g_law_same T.F_law_same.kp T.b_law_same (da_cons (d_call (ok_dial_parts T) (hr.mono (by decide)) (by rfl) T.g_dial_parts T.F_dial_parts.kp T.b_dial_parts (da_cons (d_tup (dan_cons (dv 1) (dan_cons (dv 2) dan_nil))) da_nil)) (da_cons (d_tupC (by rfl) T.n_tuple (da_cons (d_lc rfl sc_law_parts.nd (i_seq (dv 3)) (blkOk_by (own := [("q", 7)]) (N := N_law_parts) (sc := defScope st_law_parts) (by decide +kernel)) rfl (fun _ _ _ _ _ => (g_name (i := 7) sc_law_parts.nd rfl (.inl rfl) (by decide) (.inr rfl))) (fun _ _ _ _ _ => ts_nil) (fun _ _ _ _ _ => (d_tup (dan_cons (dv 7) (dan_cons (d_mod (d_intC (by rfl) T.n_int (da_cons (dv 2) da_nil)) (dv 7)) dan_nil))))) da_nil)) da_nil))))) (ss_one (s_ret d_bl)) ss_nil)
      (ss_cons (s_set 4 sc_law_parts.nd rfl (.inl rfl) (d_add (d_lc rfl sc_law_parts.nd (i_rng2 (by rfl) T.n_range d_int (d_add (d_min2 rfl (by rfl) T.n_min (da_cons (dv 1) (da_cons d_int da_nil))) d_int)) (blkOk_by (own := [("m", 5)]) (N := N_law_parts) (sc := defScope st_law_parts) (by decide +kernel)) rfl (fun _ _ _ _ _ => (g_name (i := 5) sc_law_parts.nd rfl (.inl rfl) (by decide) (.inr rfl))) (fun _ _ _ _ _ => (ts_one (dt_eq (hr.units) (d_mod (d_intC (by rfl) T.n_int (da_cons (dv 1) da_nil)) (dv 5)) d_int))) (fun _ _ _ _ _ => (dv 5))) (d_lst (dan_cons (dv 1) dan_nil))))
      (ss_cons (s_set 5 sc_law_parts.nd rfl (.inr rfl) (d_call (ok_law_one T) (hr.mono (by decide)) (by rfl) T.g_law_one T.F_law_one.kp T.b_law_one (da_cons (dv 0) (da_cons (d_add (dv 4) (dv 3)) da_nil))))
      (ss_cons (s_set 6 sc_law_parts.nd rfl (.inl rfl) (d_add (d_lc rfl sc_law_parts.nd (i_rng2 (by rfl) T.n_range d_int (d_add (d_min2 rfl (by rfl) T.n_min (da_cons (dv 5) (da_cons d_int da_nil))) d_int)) (blkOk_by (own := [("q", 7)]) (N := N_law_parts) (sc := defScope st_law_parts) (by decide +kernel)) rfl (fun _ _ _ _ _ => (g_name (i := 7) sc_law_parts.nd rfl (.inl rfl) (by decide) (.inr rfl))) (fun _ _ _ _ _ => (ts_one (dt_eq (hr.units) (d_mod (d_intC (by rfl) T.n_int (da_cons (dv 5) da_nil)) (dv 7)) d_int))) (fun _ _ _ _ _ => (dv 7))) (d_lst (dan_cons (dv 5) dan_nil))))
      (ss_cons (s_set 7 sc_law_parts.nd rfl (.inl rfl) (d_call (ok_law_one T) (hr.mono (by decide)) (by rfl) T.g_law_one T.F_law_one.kp T.b_law_one (da_cons (dv 0) (da_cons (dv 6) da_nil))))
      (ss_cons (s_set 8 sc_law_parts.nd rfl (.inl rfl) (d_call (ok_coarser_dial T) (hr.mono (by decide)) (by rfl) T.g_coarser_dial T.F_coarser_dial.kp T.b_coarser_dial (da_cons (d_tup (dan_cons (dv 1) (dan_cons (dv 2) dan_nil))) (da_cons (dv 5) da_nil))))
      (ss_cons (s_if (dt_not (dt_tru (d_call (ok_law_same T) (hr.mono (by decide)) (by rfl) T.g_law_same T.F_law_same.kp T.b_law_same (da_cons (d_tup (dan_cons (dv 8) (dan_cons (d_call (ok_coarser_dial T) (hr.mono (by decide)) (by rfl) T.g_coarser_dial T.F_coarser_dial.kp T.b_coarser_dial (da_cons (d_tup (dan_cons (dv 1) (dan_cons (dv 2) dan_nil))) (da_cons (dv 1) da_nil))) dan_nil))) (da_cons (d_tup (dan_cons (d_tup (dan_cons (dv 5) (dan_cons (d_mod (d_intC (by rfl) T.n_int (da_cons (dv 2) da_nil)) (dv 5)) dan_nil))) (dan_cons (d_tup (dan_cons (dv 1) (dan_cons (dv 2) dan_nil))) dan_nil))) da_nil))))) (ss_one (s_ret d_bl)) ss_nil)
      (ss_cons (s_if (dt_not (dt_tru (d_call (ok_law_same T) (hr.mono (by decide)) (by rfl) T.g_law_same T.F_law_same.kp T.b_law_same (da_cons (d_tup (dan_cons (d_call (ok_coarser_dial T) (hr.mono (by decide)) (by rfl) T.g_coarser_dial T.F_coarser_dial.kp T.b_coarser_dial (da_cons (d_tup (dan_cons (dv 5) (dan_cons (d_mod (d_intC (by rfl) T.n_int (da_cons (dv 2) da_nil)) (dv 5)) dan_nil))) (da_cons (dv 7) da_nil))) (dan_cons (d_call (ok_coarser_dial T) (hr.mono (by decide)) (by rfl) T.g_coarser_dial T.F_coarser_dial.kp T.b_coarser_dial (da_cons (d_tup (dan_cons (dv 1) (dan_cons (dv 2) dan_nil))) (da_cons (dv 7) da_nil))) dan_nil))) (da_cons (d_tup (dan_cons (d_tup (dan_cons (dv 7) (dan_cons (d_mod (d_intC (by rfl) T.n_int (da_cons (dv 2) da_nil)) (dv 7)) dan_nil))) (dan_cons (d_tup (dan_cons (dv 7) (dan_cons (d_mod (d_intC (by rfl) T.n_int (da_cons (dv 2) da_nil)) (dv 7)) dan_nil))) dan_nil))) da_nil))))) (ss_one (s_ret d_bl)) ss_nil)
      (ss_cons (s_set 9 sc_law_parts.nd rfl (.inl rfl) (d_mod (d_intC (by rfl) T.n_int (da_cons (d_divA (dv 5) (d_call (ok_law_gcd T) (hr.mono (by decide)) (by rfl) T.g_law_gcd T.F_law_gcd.kp T.b_law_gcd (da_cons (dv 5) (da_cons (d_sub (d_mod (d_intC (by rfl) T.n_int (da_cons (dv 2) da_nil)) (dv 5)) d_int) da_nil)))) da_nil)) (dv 5)))
      (ss_one (s_ret (d_call (ok_law_same T) (hr.mono (by decide)) (by rfl) T.g_law_same T.F_law_same.kp T.b_law_same (da_cons (d_tup (dan_cons (d_call (ok_half_of T) (hr.mono (by decide)) (by rfl) T.g_half_of T.F_half_of.kp T.b_half_of (da_cons (dv 8) da_nil)) (dan_cons (d_call (ok_check_dial T) (hr.mono (by decide)) (by rfl) T.g_check_dial T.F_check_dial.kp T.b_check_dial (da_cons (dv 8) da_nil)) (dan_cons (d_call (ok_is_turning T) (hr.mono (by decide)) (by rfl) T.g_is_turning T.F_is_turning.kp T.b_is_turning (da_cons (dv 8) da_nil)) dan_nil)))) (da_cons (d_tup (dan_cons (dv 9) (dan_cons d_non (dan_cons (d_eq (hr.units) (d_mod (d_intC (by rfl) T.n_int (da_cons (d_add (dv 2) d_int) da_nil)) (dv 5)) d_int) dan_nil)))) da_nil))))))))))))))),
    vc_law_parts⟩
end
section
variable {P : Program} {w : World} {K : PySem.W.Frag} {mg : Str → Option Value} {base : Heap}
set_option maxHeartbeats 4000000 in
theorem ok_law_fields (T : Tx K mg) : DFn P w K mg base CX0 3 T.a_law_fields T.d_law_fields ["kettle"] sp_law_fields :=
  dfn (n := 7) T.F_law_fields sc_law_fields rfl (by decide) len_law_fields fun cdv A outer s H E hr => ⟨rd_law_fields,
    (ss_cons (s_set 1 sc_law_fields.nd rfl (.inl rfl) (d_call (ok_law_one T) (hr.mono (by decide)) (by rfl) T.g_law_one T.F_law_one.kp T.b_law_one (da_cons (dv 0) (da_cons (d_tup (dan_cons d_int (dan_cons d_int (dan_cons d_int (dan_cons d_int (dan_cons d_int dan_nil)))))) da_nil))))
      (ss_cons (s_set 2 sc_law_fields.nd rfl (.inl rfl) (d_sub (d_mulA (dv 1) (dv 1)) d_int))
      (ss_cons (s_set 3 sc_law_fields.nd rfl (.inl rfl) (d_call (ok_law_one T) (hr.mono (by decide)) (by rfl) T.g_law_one T.F_law_one.kp T.b_law_one (da_cons (dv 0) (da_cons (d_tup (dan_cons d_int (dan_cons d_int (dan_cons d_int (dan_cons d_int (dan_cons d_int (dan_cons d_int (dan_cons d_int (dan_cons d_int (dan_cons d_int (dan_cons d_int (dan_cons d_int (dan_cons d_int (dan_cons d_int dan_nil)))))))))))))) da_nil))))
      (ss_cons (s_set 4 sc_law_fields.nd rfl (.inl rfl) (d_lst (dan_cons (d_tup (dan_cons (d_tup (dan_cons (dv 2) (dan_cons (dv 1) dan_nil))) (dan_cons (dv 1) dan_nil))) (dan_cons (d_tup (dan_cons (d_tup (dan_cons (dv 2) (dan_cons (d_sub (dv 2) (dv 1)) dan_nil))) (dan_cons d_non dan_nil))) (dan_cons (d_tup (dan_cons (d_tup (dan_cons (dv 2) (dan_cons d_int dan_nil))) (dan_cons d_non dan_nil))) (dan_cons (d_tup (dan_cons (d_tup (dan_cons (dv 2) (dan_cons (d_sub (dv 2) d_int) dan_nil))) (dan_cons d_non dan_nil))) (dan_cons (d_tup (dan_cons (d_tup (dan_cons (d_sub (d_mulA (dv 3) (dv 3)) d_int) (dan_cons (dv 3) dan_nil))) (dan_cons d_non dan_nil))) dan_nil)))))))
      (ss_cons (s_expr (m_append (dv 4) (da_cons (d_tup (dan_cons (d_tup (dan_cons d_int (dan_cons (d_call (ok_law_one T) (hr.mono (by decide)) (by rfl) T.g_law_one T.F_law_one.kp T.b_law_one (da_cons (dv 0) (da_cons (d_tup (dan_cons d_int (dan_cons (d_neg d_int) dan_nil))) da_nil))) dan_nil))) (dan_cons d_non dan_nil))) da_nil)))
      (ss_cons (s_setLc 4 rfl sc_law_fields.nd rfl rfl (sw_true rfl rfl rfl (by decide +kernel)) (i_seq (dv 4)) (blkOk_by (own := [("dial", 5), ("due", 6)]) (N := N_law_fields) (sc := defScope st_law_fields) (by decide +kernel)) rfl (fun _ _ _ _ _ => (g_tup rfl (gs_cons (g_name (i := 5) sc_law_fields.nd rfl (.inl rfl) (by decide) (.inr rfl)) (gs_cons (g_name (i := 6) sc_law_fields.nd rfl (.inl rfl) (by decide) (.inr rfl)) gs_nil)))) (fun _ _ _ _ _ => (ts_one (DW.dt (dw_or (dt_ne (hr.units) (d_ix (dv 5) d_int) d_int) (dw_or1 (dt_lt (d_ix (dv 5) d_int) d_int)))))) (fun _ _ _ _ _ => (d_tup (dan_cons (dv 5) (dan_cons (dv 6) dan_nil)))))
      (ss_one (s_ret (d_eq (hr.units) (d_len (by rfl) T.n_len (da_cons (d_lc rfl sc_law_fields.nd (i_seq (dv 4)) (blkOk_by (own := [("dial", 5), ("due", 6)]) (N := N_law_fields) (sc := defScope st_law_fields) (by decide +kernel)) rfl (fun _ _ _ _ _ => (g_tup rfl (gs_cons (g_name (i := 5) sc_law_fields.nd rfl (.inl rfl) (by decide) (.inr rfl)) (gs_cons (g_name (i := 6) sc_law_fields.nd rfl (.inl rfl) (by decide) (.inr rfl)) gs_nil)))) (fun _ _ _ _ _ => (ts_one (dt_not (dt_tru (d_call (ok_law_same T) (hr.mono (by decide)) (by rfl) T.g_law_same T.F_law_same.kp T.b_law_same (da_cons (d_call (ok_field_prime T) (hr.mono (by decide)) (by rfl) T.g_field_prime T.F_field_prime.kp T.b_field_prime (da_cons (dv 5) da_nil)) (da_cons (dv 6) da_nil))))))) (fun _ _ _ _ _ => (dv 5))) da_nil)) d_int))))))))),
    vc_law_fields⟩
end
section
variable {P : Program} {w : World} {K : PySem.W.Frag} {mg : Str → Option Value} {base : Heap}
set_option maxHeartbeats 4000000 in
theorem ok_law (T : Tx K mg) : DFn P w K mg base CX0 6 T.a_law T.d_law ["script"] sp_law :=
  dfn (n := 8) T.F_law sc_law rfl (by decide) len_law fun cdv A outer s H E hr => ⟨rd_law,
    (ss_cons (s_set 1 sc_law.nd rfl (.inl rfl) (d_call (ok_law_kettle T) (hr.mono (by decide)) (by rfl) T.g_law_kettle T.F_law_kettle.kp T.b_law_kettle (da_cons (dv 0) da_nil)))
      (ss_cons (s_set 2 sc_law.nd rfl (.inr rfl) (d_call (ok_law_size T) (hr.mono (by decide)) (by rfl) T.g_law_size T.F_law_size.kp T.b_law_size (da_cons (dv 1) da_nil)))
      (ss_cons (s_setLc 3 rfl sc_law.nd rfl rfl (sw_true rfl rfl rfl (by decide +kernel)) (i_rng2 (by rfl) T.n_range d_int (dv 2)) (blkOk_by (own := [("k", 5)]) (N := N_law) (sc := defScope st_law) (by decide +kernel)) rfl (fun _ _ _ _ _ => (g_name (i := 5) sc_law.nd rfl (.inl rfl) (by decide) (.inr rfl))) (fun _ _ _ _ _ => (ts_one (dt_eq (hr.units) (d_mod (d_intC (by rfl) T.n_int (da_cons (d_sub (d_mulA (dv 5) (dv 5)) d_int) da_nil)) (dv 2)) d_int))) (fun _ _ _ _ _ => (dv 5)))
      (ss_cons (s_if (DW.dt (dw_or (dt_not (dt_tru (d_call (ok_law_checked T) (hr.mono (by decide)) (by rfl) T.g_law_checked T.F_law_checked.kp T.b_law_checked (da_cons (dv 1) (da_cons (dv 2) (da_cons (dv 3) da_nil)))))) (dw_or1 (dt_not (dt_tru (d_call (ok_law_fields T) (hr.mono (by decide)) (by rfl) T.g_law_fields T.F_law_fields.kp T.b_law_fields (da_cons (dv 1) da_nil))))))) (ss_one (s_ret d_bl)) ss_nil)
      (ss_cons (s_set 4 sc_law.nd rfl (.inl rfl) (d_add (d_slice (d_call (ok_law_mixed T) (hr.mono (by decide)) (by rfl) T.g_law_mixed T.F_law_mixed.kp T.b_law_mixed (da_cons (dv 1) (da_cons (dv 3) da_nil))) do_none (do_some d_int)) (d_lst (dan_cons d_int (dan_cons (d_sub (dv 2) d_int) dan_nil)))))
      (ss_cons (s_for (vs := [5]) PassesOwn.never rfl (i_seq (dv 4)) (g_name (i := 5) sc_law.nd rfl (.inr rfl) (by decide) (.inl rfl)) (ss_cons (s_if (DW.dt (dw_or (dt_not (dt_tru (d_call (ok_law_marks T) (hr.mono (by decide)) (by rfl) T.g_law_marks T.F_law_marks.kp T.b_law_marks (da_cons (dv 1) (da_cons (dv 2) (da_cons (dv 5) da_nil)))))) (dw_or1 (dt_not (dt_tru (d_call (ok_law_parts T) (hr.mono (by decide)) (by rfl) T.g_law_parts T.F_law_parts.kp T.b_law_parts (da_cons (dv 1) (da_cons (dv 2) (da_cons (dv 5) da_nil))))))))) (ss_one (s_ret d_bl)) ss_nil)
      (ss_cons (s_setLc 6 rfl sc_law.nd rfl rfl (sw_true rfl rfl rfl (by decide +kernel)) (i_seq (d_tup (dan_cons d_int (dan_cons d_int (dan_cons d_int (dan_cons d_int (dan_cons d_int dan_nil))))))) (blkOk_by (own := [("p", 7)]) (N := N_law) (sc := defScope st_law) (by decide +kernel)) rfl (fun _ _ _ _ _ => (g_name (i := 7) sc_law.nd rfl (.inl rfl) (by decide) (.inr rfl))) (fun _ _ _ _ _ => (ts_one (dt_eq (hr.units) (d_tup (dan_cons (dv 2) (dan_cons (dv 5) dan_nil))) (d_tup (dan_cons (d_sub (d_mulA (dv 7) (dv 7)) d_int) (dan_cons (dv 7) dan_nil)))))) (fun _ _ _ _ _ => (dv 7)))
      (ss_one (s_if (dt_not (dt_tru (d_call (ok_law_same T) (hr.mono (by decide)) (by rfl) T.g_law_same T.F_law_same.kp T.b_law_same (da_cons (d_call (ok_field_prime T) (hr.mono (by decide)) (by rfl) T.g_field_prime T.F_field_prime.kp T.b_field_prime (da_cons (d_tup (dan_cons (dv 2) (dan_cons (dv 5) dan_nil))) da_nil)) (da_cons (d_if (dt_gt (d_len (by rfl) T.n_len (da_cons (dv 6) da_nil)) d_int) (d_ix (dv 6) d_int) d_non) da_nil))))) (ss_one (s_ret d_bl)) ss_nil)))))
      (ss_one (s_ret d_bl)))))))),
    vc_law⟩
end
end K01
namespace K01
open PySem PySem.Spec PyProof.Rows L2 G
def clsBody (s : Stmt) : List Stmt := match s with
  | .ClassDef _ _ _ b _ _ _ _ _ _ _ => b
  | _ => []
abbrev sI_BadDial : Stmt := (clsBody (topS 6)).getD 0 (.Pass ⟨0, 0, 0, 0⟩)
theorem scI_BadDial : FnScope ["self", "word"] ["self", "word"] (defScope sI_BadDial) := ⟨rfl, rfl, rfl, by decide +kernel, rfl, by decide +kernel, by decide +kernel⟩
theorem init_BadDial {P : Program} {w : World} {K : PySem.W.Frag} {mg : Str → Option Value} {base : Heap} {f : Addr} {fd : FuncData} (F : Fun K "__init__" "BadDial.__init__" sI_BadDial f fd) : FnOk P w K mg base CX0 1 f fd ["self", "word"] (G.spI K ["word"]) :=
  F.ok scI_BadDial (init_len rfl) fun cdv A outer s H vs Q E hr h => ⟨_, pss_one (ps_ost (pv 0) (pv 1)), init_read rfl h⟩
set_option maxHeartbeats 4000000 in
theorem all_mk {P : Program} {w : World} {K : PySem.W.Frag} {h : Heap} {mg : Str → Option Value} {fa : Addr} (X : K.In h) (GN : h.Ns mainGlobals mg) (hfa : mg "law" = some (.ref fa))
    {f_is_integer : Addr} {od_is_integer an_is_integer : Option Addr} {sl_is_integer : Array (Option Value)} {oc_is_integer kV_is_integer dc_is_integer pm_is_integer cd_is_integer ct_is_integer : Value}
    {f_rest_of : Addr} {od_rest_of an_rest_of : Option Addr} {sl_rest_of : Array (Option Value)} {oc_rest_of kV_rest_of dc_rest_of pm_rest_of cd_rest_of ct_rest_of : Value}
    {f_divides : Addr} {od_divides an_divides : Option Addr} {sl_divides : Array (Option Value)} {oc_divides kV_divides dc_divides pm_divides cd_divides ct_divides : Value}
    {f_dial_fault : Addr} {od_dial_fault an_dial_fault : Option Addr} {sl_dial_fault : Array (Option Value)} {oc_dial_fault kV_dial_fault dc_dial_fault pm_dial_fault cd_dial_fault ct_dial_fault : Value}
    {f_check_dial : Addr} {od_check_dial an_check_dial : Option Addr} {sl_check_dial : Array (Option Value)} {oc_check_dial kV_check_dial dc_check_dial pm_check_dial cd_check_dial ct_check_dial : Value}
    {f_mark_of : Addr} {od_mark_of an_mark_of : Option Addr} {sl_mark_of : Array (Option Value)} {oc_mark_of kV_mark_of dc_mark_of pm_mark_of cd_mark_of ct_mark_of : Value}
    {f_turned_mark : Addr} {od_turned_mark an_turned_mark : Option Addr} {sl_turned_mark : Array (Option Value)} {oc_turned_mark kV_turned_mark dc_turned_mark pm_turned_mark cd_turned_mark ct_turned_mark : Value}
    {f_half_of : Addr} {od_half_of an_half_of : Option Addr} {sl_half_of : Array (Option Value)} {oc_half_of kV_half_of dc_half_of pm_half_of cd_half_of ct_half_of : Value}
    {f_is_turning : Addr} {od_is_turning an_is_turning : Option Addr} {sl_is_turning : Array (Option Value)} {oc_is_turning kV_is_turning dc_is_turning pm_is_turning cd_is_turning ct_is_turning : Value}
    {f_is_loud : Addr} {od_is_loud an_is_loud : Option Addr} {sl_is_loud : Array (Option Value)} {oc_is_loud kV_is_loud dc_is_loud pm_is_loud cd_is_loud ct_is_loud : Value}
    {f_field_prime : Addr} {od_field_prime an_field_prime : Option Addr} {sl_field_prime : Array (Option Value)} {oc_field_prime kV_field_prime dc_field_prime pm_field_prime cd_field_prime ct_field_prime : Value}
    {f_prime_powers : Addr} {od_prime_powers an_prime_powers : Option Addr} {sl_prime_powers : Array (Option Value)} {oc_prime_powers kV_prime_powers dc_prime_powers pm_prime_powers cd_prime_powers ct_prime_powers : Value}
    {f_coarser_dial : Addr} {od_coarser_dial an_coarser_dial : Option Addr} {sl_coarser_dial : Array (Option Value)} {oc_coarser_dial kV_coarser_dial dc_coarser_dial pm_coarser_dial cd_coarser_dial ct_coarser_dial : Value}
    {f_dial_parts : Addr} {od_dial_parts an_dial_parts : Option Addr} {sl_dial_parts : Array (Option Value)} {oc_dial_parts kV_dial_parts dc_dial_parts pm_dial_parts cd_dial_parts ct_dial_parts : Value}
    {f_law_kettle : Addr} {od_law_kettle an_law_kettle : Option Addr} {sl_law_kettle : Array (Option Value)} {oc_law_kettle kV_law_kettle dc_law_kettle pm_law_kettle cd_law_kettle ct_law_kettle : Value}
    {f_law_pick : Addr} {od_law_pick an_law_pick : Option Addr} {sl_law_pick : Array (Option Value)} {oc_law_pick kV_law_pick dc_law_pick pm_law_pick cd_law_pick ct_law_pick : Value}
    {f_law_one : Addr} {od_law_one an_law_one : Option Addr} {sl_law_one : Array (Option Value)} {oc_law_one kV_law_one dc_law_one pm_law_one cd_law_one ct_law_one : Value}
    {f_law_mixed : Addr} {od_law_mixed an_law_mixed : Option Addr} {sl_law_mixed : Array (Option Value)} {oc_law_mixed kV_law_mixed dc_law_mixed pm_law_mixed cd_law_mixed ct_law_mixed : Value}
    {f_law_same : Addr} {od_law_same an_law_same : Option Addr} {sl_law_same : Array (Option Value)} {oc_law_same kV_law_same dc_law_same pm_law_same cd_law_same ct_law_same : Value}
    {f_law_gcd : Addr} {od_law_gcd an_law_gcd : Option Addr} {sl_law_gcd : Array (Option Value)} {oc_law_gcd kV_law_gcd dc_law_gcd pm_law_gcd cd_law_gcd ct_law_gcd : Value}
    {f_law_size : Addr} {od_law_size an_law_size : Option Addr} {sl_law_size : Array (Option Value)} {oc_law_size kV_law_size dc_law_size pm_law_size cd_law_size ct_law_size : Value}
    {f_law_powers : Addr} {od_law_powers an_law_powers : Option Addr} {sl_law_powers : Array (Option Value)} {oc_law_powers kV_law_powers dc_law_powers pm_law_powers cd_law_powers ct_law_powers : Value}
    {f_law_heard : Addr} {od_law_heard an_law_heard : Option Addr} {sl_law_heard : Array (Option Value)} {oc_law_heard kV_law_heard dc_law_heard pm_law_heard cd_law_heard ct_law_heard : Value}
    {f_law_checked : Addr} {od_law_checked an_law_checked : Option Addr} {sl_law_checked : Array (Option Value)} {oc_law_checked kV_law_checked dc_law_checked pm_law_checked cd_law_checked ct_law_checked : Value}
    {f_law_marks : Addr} {od_law_marks an_law_marks : Option Addr} {sl_law_marks : Array (Option Value)} {oc_law_marks kV_law_marks dc_law_marks pm_law_marks cd_law_marks ct_law_marks : Value}
    {f_law_parts : Addr} {od_law_parts an_law_parts : Option Addr} {sl_law_parts : Array (Option Value)} {oc_law_parts kV_law_parts dc_law_parts pm_law_parts cd_law_parts ct_law_parts : Value}
    {f_law_fields : Addr} {od_law_fields an_law_fields : Option Addr} {sl_law_fields : Array (Option Value)} {oc_law_fields kV_law_fields dc_law_fields pm_law_fields cd_law_fields ct_law_fields : Value}
    {f_law : Addr} {od_law an_law : Option Addr} {sl_law : Array (Option Value)} {oc_law kV_law dc_law pm_law cd_law ct_law : Value}
    {B_BadDial_DataError : Addr}
    {B_BadDial_GainError : Addr}
    {C_BadDial fI_BadDial N_BadDial : Addr} {nm_BadDial q_BadDial : Str} {bs_BadDial : List Value} {sn_BadDial : List Str} {sub_BadDial : List Value} {ab_BadDial : Bool} {col_BadDial : Option Bool} {dd_BadDial : Option Addr} {m0_BadDial m1_BadDial m2_BadDial m3_BadDial m5_BadDial : Option Value}
    {odi_BadDial ani_BadDial : Option Addr} {sli_BadDial : Array (Option Value)} {oci_BadDial kVi_BadDial dci_BadDial pmi_BadDial cdi_BadDial cti_BadDial : Value}
    {t_DIAL_MOST_1 : Tok}
    {t_PRIMES_1 t_PRIMES_2 t_PRIMES_3 t_PRIMES_4 t_PRIMES_5 : Tok}
    {p_PRIMES : Addr} {pd_PRIMES : Option Addr} {pn_PRIMES : Nat} {ps_PRIMES : Array (Option Value)}
    (a_is_integer : PySem.W.nsIn K mainGlobals "is_integer" = some (some (.ref f_is_integer)))
    (l_is_integer : K.lookup f_is_integer = some ⟨oc_is_integer, od_is_integer, .func (PySem.W.fnOf "is_integer" "is_integer" (defArgs st_is_integer) (defBody st_is_integer) (defScope st_is_integer) .none kV_is_integer dc_is_integer pm_is_integer an_is_integer cd_is_integer ct_is_integer), sl_is_integer⟩)
    (c_is_integer : PySem.W.codeIn K cd_is_integer "is_integer" = true)
    (k_is_integer : PySem.W.keepIn K (.ref f_is_integer) = true)
    (a_rest_of : PySem.W.nsIn K mainGlobals "rest_of" = some (some (.ref f_rest_of)))
    (l_rest_of : K.lookup f_rest_of = some ⟨oc_rest_of, od_rest_of, .func (PySem.W.fnOf "rest_of" "rest_of" (defArgs st_rest_of) (defBody st_rest_of) (defScope st_rest_of) .none kV_rest_of dc_rest_of pm_rest_of an_rest_of cd_rest_of ct_rest_of), sl_rest_of⟩)
    (c_rest_of : PySem.W.codeIn K cd_rest_of "rest_of" = true)
    (k_rest_of : PySem.W.keepIn K (.ref f_rest_of) = true)
    (a_divides : PySem.W.nsIn K mainGlobals "divides" = some (some (.ref f_divides)))
    (l_divides : K.lookup f_divides = some ⟨oc_divides, od_divides, .func (PySem.W.fnOf "divides" "divides" (defArgs st_divides) (defBody st_divides) (defScope st_divides) .none kV_divides dc_divides pm_divides an_divides cd_divides ct_divides), sl_divides⟩)
    (c_divides : PySem.W.codeIn K cd_divides "divides" = true)
    (k_divides : PySem.W.keepIn K (.ref f_divides) = true)
    (a_dial_fault : PySem.W.nsIn K mainGlobals "dial_fault" = some (some (.ref f_dial_fault)))
    (l_dial_fault : K.lookup f_dial_fault = some ⟨oc_dial_fault, od_dial_fault, .func (PySem.W.fnOf "dial_fault" "dial_fault" (defArgs st_dial_fault) (defBody st_dial_fault) (defScope st_dial_fault) .none kV_dial_fault dc_dial_fault pm_dial_fault an_dial_fault cd_dial_fault ct_dial_fault), sl_dial_fault⟩)
    (c_dial_fault : PySem.W.codeIn K cd_dial_fault "dial_fault" = true)
    (k_dial_fault : PySem.W.keepIn K (.ref f_dial_fault) = true)
    (a_check_dial : PySem.W.nsIn K mainGlobals "check_dial" = some (some (.ref f_check_dial)))
    (l_check_dial : K.lookup f_check_dial = some ⟨oc_check_dial, od_check_dial, .func (PySem.W.fnOf "check_dial" "check_dial" (defArgs st_check_dial) (defBody st_check_dial) (defScope st_check_dial) .none kV_check_dial dc_check_dial pm_check_dial an_check_dial cd_check_dial ct_check_dial), sl_check_dial⟩)
    (c_check_dial : PySem.W.codeIn K cd_check_dial "check_dial" = true)
    (k_check_dial : PySem.W.keepIn K (.ref f_check_dial) = true)
    (a_mark_of : PySem.W.nsIn K mainGlobals "mark_of" = some (some (.ref f_mark_of)))
    (l_mark_of : K.lookup f_mark_of = some ⟨oc_mark_of, od_mark_of, .func (PySem.W.fnOf "mark_of" "mark_of" (defArgs st_mark_of) (defBody st_mark_of) (defScope st_mark_of) .none kV_mark_of dc_mark_of pm_mark_of an_mark_of cd_mark_of ct_mark_of), sl_mark_of⟩)
    (c_mark_of : PySem.W.codeIn K cd_mark_of "mark_of" = true)
    (k_mark_of : PySem.W.keepIn K (.ref f_mark_of) = true)
    (a_turned_mark : PySem.W.nsIn K mainGlobals "turned_mark" = some (some (.ref f_turned_mark)))
    (l_turned_mark : K.lookup f_turned_mark = some ⟨oc_turned_mark, od_turned_mark, .func (PySem.W.fnOf "turned_mark" "turned_mark" (defArgs st_turned_mark) (defBody st_turned_mark) (defScope st_turned_mark) .none kV_turned_mark dc_turned_mark pm_turned_mark an_turned_mark cd_turned_mark ct_turned_mark), sl_turned_mark⟩)
    (c_turned_mark : PySem.W.codeIn K cd_turned_mark "turned_mark" = true)
    (k_turned_mark : PySem.W.keepIn K (.ref f_turned_mark) = true)
    (a_half_of : PySem.W.nsIn K mainGlobals "half_of" = some (some (.ref f_half_of)))
    (l_half_of : K.lookup f_half_of = some ⟨oc_half_of, od_half_of, .func (PySem.W.fnOf "half_of" "half_of" (defArgs st_half_of) (defBody st_half_of) (defScope st_half_of) .none kV_half_of dc_half_of pm_half_of an_half_of cd_half_of ct_half_of), sl_half_of⟩)
    (c_half_of : PySem.W.codeIn K cd_half_of "half_of" = true)
    (k_half_of : PySem.W.keepIn K (.ref f_half_of) = true)
    (a_is_turning : PySem.W.nsIn K mainGlobals "is_turning" = some (some (.ref f_is_turning)))
    (l_is_turning : K.lookup f_is_turning = some ⟨oc_is_turning, od_is_turning, .func (PySem.W.fnOf "is_turning" "is_turning" (defArgs st_is_turning) (defBody st_is_turning) (defScope st_is_turning) .none kV_is_turning dc_is_turning pm_is_turning an_is_turning cd_is_turning ct_is_turning), sl_is_turning⟩)
    (c_is_turning : PySem.W.codeIn K cd_is_turning "is_turning" = true)
    (k_is_turning : PySem.W.keepIn K (.ref f_is_turning) = true)
    (a_is_loud : PySem.W.nsIn K mainGlobals "is_loud" = some (some (.ref f_is_loud)))
    (l_is_loud : K.lookup f_is_loud = some ⟨oc_is_loud, od_is_loud, .func (PySem.W.fnOf "is_loud" "is_loud" (defArgs st_is_loud) (defBody st_is_loud) (defScope st_is_loud) .none kV_is_loud dc_is_loud pm_is_loud an_is_loud cd_is_loud ct_is_loud), sl_is_loud⟩)
    (c_is_loud : PySem.W.codeIn K cd_is_loud "is_loud" = true)
    (k_is_loud : PySem.W.keepIn K (.ref f_is_loud) = true)
    (a_field_prime : PySem.W.nsIn K mainGlobals "field_prime" = some (some (.ref f_field_prime)))
    (l_field_prime : K.lookup f_field_prime = some ⟨oc_field_prime, od_field_prime, .func (PySem.W.fnOf "field_prime" "field_prime" (defArgs st_field_prime) (defBody st_field_prime) (defScope st_field_prime) .none kV_field_prime dc_field_prime pm_field_prime an_field_prime cd_field_prime ct_field_prime), sl_field_prime⟩)
    (c_field_prime : PySem.W.codeIn K cd_field_prime "field_prime" = true)
    (k_field_prime : PySem.W.keepIn K (.ref f_field_prime) = true)
    (a_prime_powers : PySem.W.nsIn K mainGlobals "prime_powers" = some (some (.ref f_prime_powers)))
    (l_prime_powers : K.lookup f_prime_powers = some ⟨oc_prime_powers, od_prime_powers, .func (PySem.W.fnOf "prime_powers" "prime_powers" (defArgs st_prime_powers) (defBody st_prime_powers) (defScope st_prime_powers) .none kV_prime_powers dc_prime_powers pm_prime_powers an_prime_powers cd_prime_powers ct_prime_powers), sl_prime_powers⟩)
    (c_prime_powers : PySem.W.codeIn K cd_prime_powers "prime_powers" = true)
    (k_prime_powers : PySem.W.keepIn K (.ref f_prime_powers) = true)
    (a_coarser_dial : PySem.W.nsIn K mainGlobals "coarser_dial" = some (some (.ref f_coarser_dial)))
    (l_coarser_dial : K.lookup f_coarser_dial = some ⟨oc_coarser_dial, od_coarser_dial, .func (PySem.W.fnOf "coarser_dial" "coarser_dial" (defArgs st_coarser_dial) (defBody st_coarser_dial) (defScope st_coarser_dial) .none kV_coarser_dial dc_coarser_dial pm_coarser_dial an_coarser_dial cd_coarser_dial ct_coarser_dial), sl_coarser_dial⟩)
    (c_coarser_dial : PySem.W.codeIn K cd_coarser_dial "coarser_dial" = true)
    (k_coarser_dial : PySem.W.keepIn K (.ref f_coarser_dial) = true)
    (a_dial_parts : PySem.W.nsIn K mainGlobals "dial_parts" = some (some (.ref f_dial_parts)))
    (l_dial_parts : K.lookup f_dial_parts = some ⟨oc_dial_parts, od_dial_parts, .func (PySem.W.fnOf "dial_parts" "dial_parts" (defArgs st_dial_parts) (defBody st_dial_parts) (defScope st_dial_parts) .none kV_dial_parts dc_dial_parts pm_dial_parts an_dial_parts cd_dial_parts ct_dial_parts), sl_dial_parts⟩)
    (c_dial_parts : PySem.W.codeIn K cd_dial_parts "dial_parts" = true)
    (k_dial_parts : PySem.W.keepIn K (.ref f_dial_parts) = true)
    (a_law_kettle : PySem.W.nsIn K mainGlobals "_law_kettle" = some (some (.ref f_law_kettle)))
    (l_law_kettle : K.lookup f_law_kettle = some ⟨oc_law_kettle, od_law_kettle, .func (PySem.W.fnOf "_law_kettle" "_law_kettle" (defArgs st_law_kettle) (defBody st_law_kettle) (defScope st_law_kettle) .none kV_law_kettle dc_law_kettle pm_law_kettle an_law_kettle cd_law_kettle ct_law_kettle), sl_law_kettle⟩)
    (c_law_kettle : PySem.W.codeIn K cd_law_kettle "_law_kettle" = true)
    (k_law_kettle : PySem.W.keepIn K (.ref f_law_kettle) = true)
    (a_law_pick : PySem.W.nsIn K mainGlobals "_law_pick" = some (some (.ref f_law_pick)))
    (l_law_pick : K.lookup f_law_pick = some ⟨oc_law_pick, od_law_pick, .func (PySem.W.fnOf "_law_pick" "_law_pick" (defArgs st_law_pick) (defBody st_law_pick) (defScope st_law_pick) .none kV_law_pick dc_law_pick pm_law_pick an_law_pick cd_law_pick ct_law_pick), sl_law_pick⟩)
    (c_law_pick : PySem.W.codeIn K cd_law_pick "_law_pick" = true)
    (k_law_pick : PySem.W.keepIn K (.ref f_law_pick) = true)
    (a_law_one : PySem.W.nsIn K mainGlobals "_law_one" = some (some (.ref f_law_one)))
    (l_law_one : K.lookup f_law_one = some ⟨oc_law_one, od_law_one, .func (PySem.W.fnOf "_law_one" "_law_one" (defArgs st_law_one) (defBody st_law_one) (defScope st_law_one) .none kV_law_one dc_law_one pm_law_one an_law_one cd_law_one ct_law_one), sl_law_one⟩)
    (c_law_one : PySem.W.codeIn K cd_law_one "_law_one" = true)
    (k_law_one : PySem.W.keepIn K (.ref f_law_one) = true)
    (a_law_mixed : PySem.W.nsIn K mainGlobals "_law_mixed" = some (some (.ref f_law_mixed)))
    (l_law_mixed : K.lookup f_law_mixed = some ⟨oc_law_mixed, od_law_mixed, .func (PySem.W.fnOf "_law_mixed" "_law_mixed" (defArgs st_law_mixed) (defBody st_law_mixed) (defScope st_law_mixed) .none kV_law_mixed dc_law_mixed pm_law_mixed an_law_mixed cd_law_mixed ct_law_mixed), sl_law_mixed⟩)
    (c_law_mixed : PySem.W.codeIn K cd_law_mixed "_law_mixed" = true)
    (k_law_mixed : PySem.W.keepIn K (.ref f_law_mixed) = true)
    (a_law_same : PySem.W.nsIn K mainGlobals "_law_same" = some (some (.ref f_law_same)))
    (l_law_same : K.lookup f_law_same = some ⟨oc_law_same, od_law_same, .func (PySem.W.fnOf "_law_same" "_law_same" (defArgs st_law_same) (defBody st_law_same) (defScope st_law_same) .none kV_law_same dc_law_same pm_law_same an_law_same cd_law_same ct_law_same), sl_law_same⟩)
    (c_law_same : PySem.W.codeIn K cd_law_same "_law_same" = true)
    (k_law_same : PySem.W.keepIn K (.ref f_law_same) = true)
    (a_law_gcd : PySem.W.nsIn K mainGlobals "_law_gcd" = some (some (.ref f_law_gcd)))
    (l_law_gcd : K.lookup f_law_gcd = some ⟨oc_law_gcd, od_law_gcd, .func (PySem.W.fnOf "_law_gcd" "_law_gcd" (defArgs st_law_gcd) (defBody st_law_gcd) (defScope st_law_gcd) .none kV_law_gcd dc_law_gcd pm_law_gcd an_law_gcd cd_law_gcd ct_law_gcd), sl_law_gcd⟩)
    (c_law_gcd : PySem.W.codeIn K cd_law_gcd "_law_gcd" = true)
    (k_law_gcd : PySem.W.keepIn K (.ref f_law_gcd) = true)
    (a_law_size : PySem.W.nsIn K mainGlobals "_law_size" = some (some (.ref f_law_size)))
    (l_law_size : K.lookup f_law_size = some ⟨oc_law_size, od_law_size, .func (PySem.W.fnOf "_law_size" "_law_size" (defArgs st_law_size) (defBody st_law_size) (defScope st_law_size) .none kV_law_size dc_law_size pm_law_size an_law_size cd_law_size ct_law_size), sl_law_size⟩)
    (c_law_size : PySem.W.codeIn K cd_law_size "_law_size" = true)
    (k_law_size : PySem.W.keepIn K (.ref f_law_size) = true)
    (a_law_powers : PySem.W.nsIn K mainGlobals "_law_powers" = some (some (.ref f_law_powers)))
    (l_law_powers : K.lookup f_law_powers = some ⟨oc_law_powers, od_law_powers, .func (PySem.W.fnOf "_law_powers" "_law_powers" (defArgs st_law_powers) (defBody st_law_powers) (defScope st_law_powers) .none kV_law_powers dc_law_powers pm_law_powers an_law_powers cd_law_powers ct_law_powers), sl_law_powers⟩)
    (c_law_powers : PySem.W.codeIn K cd_law_powers "_law_powers" = true)
    (k_law_powers : PySem.W.keepIn K (.ref f_law_powers) = true)
    (a_law_heard : PySem.W.nsIn K mainGlobals "_law_heard" = some (some (.ref f_law_heard)))
    (l_law_heard : K.lookup f_law_heard = some ⟨oc_law_heard, od_law_heard, .func (PySem.W.fnOf "_law_heard" "_law_heard" (defArgs st_law_heard) (defBody st_law_heard) (defScope st_law_heard) .none kV_law_heard dc_law_heard pm_law_heard an_law_heard cd_law_heard ct_law_heard), sl_law_heard⟩)
    (c_law_heard : PySem.W.codeIn K cd_law_heard "_law_heard" = true)
    (k_law_heard : PySem.W.keepIn K (.ref f_law_heard) = true)
    (a_law_checked : PySem.W.nsIn K mainGlobals "_law_checked" = some (some (.ref f_law_checked)))
    (l_law_checked : K.lookup f_law_checked = some ⟨oc_law_checked, od_law_checked, .func (PySem.W.fnOf "_law_checked" "_law_checked" (defArgs st_law_checked) (defBody st_law_checked) (defScope st_law_checked) .none kV_law_checked dc_law_checked pm_law_checked an_law_checked cd_law_checked ct_law_checked), sl_law_checked⟩)
    (c_law_checked : PySem.W.codeIn K cd_law_checked "_law_checked" = true)
    (k_law_checked : PySem.W.keepIn K (.ref f_law_checked) = true)
    (a_law_marks : PySem.W.nsIn K mainGlobals "_law_marks" = some (some (.ref f_law_marks)))
    (l_law_marks : K.lookup f_law_marks = some ⟨oc_law_marks, od_law_marks, .func (PySem.W.fnOf "_law_marks" "_law_marks" (defArgs st_law_marks) (defBody st_law_marks) (defScope st_law_marks) .none kV_law_marks dc_law_marks pm_law_marks an_law_marks cd_law_marks ct_law_marks), sl_law_marks⟩)
    (c_law_marks : PySem.W.codeIn K cd_law_marks "_law_marks" = true)
    (k_law_marks : PySem.W.keepIn K (.ref f_law_marks) = true)
    (a_law_parts : PySem.W.nsIn K mainGlobals "_law_parts" = some (some (.ref f_law_parts)))
    (l_law_parts : K.lookup f_law_parts = some ⟨oc_law_parts, od_law_parts, .func (PySem.W.fnOf "_law_parts" "_law_parts" (defArgs st_law_parts) (defBody st_law_parts) (defScope st_law_parts) .none kV_law_parts dc_law_parts pm_law_parts an_law_parts cd_law_parts ct_law_parts), sl_law_parts⟩)
    (c_law_parts : PySem.W.codeIn K cd_law_parts "_law_parts" = true)
    (k_law_parts : PySem.W.keepIn K (.ref f_law_parts) = true)
    (a_law_fields : PySem.W.nsIn K mainGlobals "_law_fields" = some (some (.ref f_law_fields)))
    (l_law_fields : K.lookup f_law_fields = some ⟨oc_law_fields, od_law_fields, .func (PySem.W.fnOf "_law_fields" "_law_fields" (defArgs st_law_fields) (defBody st_law_fields) (defScope st_law_fields) .none kV_law_fields dc_law_fields pm_law_fields an_law_fields cd_law_fields ct_law_fields), sl_law_fields⟩)
    (c_law_fields : PySem.W.codeIn K cd_law_fields "_law_fields" = true)
    (k_law_fields : PySem.W.keepIn K (.ref f_law_fields) = true)
    (a_law : PySem.W.nsIn K mainGlobals "law" = some (some (.ref f_law)))
    (l_law : K.lookup f_law = some ⟨oc_law, od_law, .func (PySem.W.fnOf "law" "law" (defArgs st_law) (defBody st_law) (defScope st_law) .none kV_law dc_law pm_law an_law cd_law ct_law), sl_law⟩)
    (c_law : PySem.W.codeIn K cd_law "law" = true)
    (k_law : PySem.W.keepIn K (.ref f_law) = true)
    (g_gcd : PySem.W.nsIn K mainGlobals "gcd" = some (some (.builtin "math.gcd")))
    (n_abs : PySem.W.nsIn K mainGlobals "abs" = some none)
    (n_bool : PySem.W.nsIn K mainGlobals "bool" = some none)
    (n_int : PySem.W.nsIn K mainGlobals "int" = some none)
    (n_isinstance : PySem.W.nsIn K mainGlobals "isinstance" = some none)
    (n_len : PySem.W.nsIn K mainGlobals "len" = some none)
    (n_list : PySem.W.nsIn K mainGlobals "list" = some none)
    (n_min : PySem.W.nsIn K mainGlobals "min" = some none)
    (n_range : PySem.W.nsIn K mainGlobals "range" = some none)
    (n_sorted : PySem.W.nsIn K mainGlobals "sorted" = some none)
    (n_str : PySem.W.nsIn K mainGlobals "str" = some none)
    (n_tuple : PySem.W.nsIn K mainGlobals "tuple" = some none)
    (aC_BadDial : PySem.W.nsIn K mainGlobals "BadDial" = some (some (.ref C_BadDial)))
    (xL_BadDial : K.lookup C_BadDial = some (excClassObj nm_BadDial q_BadDial C_BadDial N_BadDial bs_BadDial [.ref B_BadDial_DataError, .ref B_BadDial_GainError, .type "ValueError", .type "Exception", .type "BaseException", .type "object"] true sn_BadDial sub_BadDial ab_BadDial col_BadDial dd_BadDial m0_BadDial m1_BadDial m2_BadDial m3_BadDial m5_BadDial "ValueError.__new__"))
    (sa_BadDial : PySem.W.findIn K (.ref C_BadDial) "__setattr__" = some (some (.builtin "object.__setattr__")))
    (ga_BadDial : PySem.W.findIn K (.ref C_BadDial) "__getattribute__" = some (some (.builtin "BaseException.__getattribute__")))
    (gg_BadDial : PySem.W.findIn K (.ref C_BadDial) "__getattr__" = some none)
    (hd_BadDial : PySem.W.hasDictIn K C_BadDial = true)
    (no_BadDial_word : PySem.W.findIn K (.ref C_BadDial) "word" = some none)
    (i1_BadDial : PySem.W.findIn K (.ref C_BadDial) "__init__" = some (some (.ref fI_BadDial)))
    (i2_BadDial : PySem.W.typeIn K (.ref fI_BadDial) = some (.type "function"))
    (i3_BadDial : K.lookup fI_BadDial = some ⟨oci_BadDial, odi_BadDial, .func (PySem.W.fnOf "__init__" "BadDial.__init__" (defArgs sI_BadDial) (defBody sI_BadDial) (defScope sI_BadDial) .none kVi_BadDial dci_BadDial pmi_BadDial ani_BadDial cdi_BadDial cti_BadDial), sli_BadDial⟩)
    (i4_BadDial : PySem.W.codeIn K cdi_BadDial "BadDial.__init__" = true)
    (i5_BadDial : PySem.W.keepIn K (.ref fI_BadDial) = true)
    (kC_BadDial : PySem.W.keepIn K (.ref C_BadDial) = true)
    (eC_BadDial : PySem.W.subIn K (.ref C_BadDial) (.type "BaseException") = some true)
    (tC_BadDial : PySem.W.typeIn K (.ref C_BadDial) = some (.type "type"))
    (iC_BadDial : PySem.W.isClsIn K C_BadDial = true)
    (sC_BadDial : PySem.W.subIn K (.ref C_BadDial) (.ref C_BadDial) = some true)
    (v_DIAL_MOST : PySem.W.nsIn K mainGlobals "DIAL_MOST" = some (some (.int 10000 t_DIAL_MOST_1)))
    (v_PRIMES : PySem.W.nsIn K mainGlobals "PRIMES" = some (some (.ref p_PRIMES)))
    (w_PRIMES : K.lookup p_PRIMES = some ⟨.type "tuple", pd_PRIMES, .seq #[.int 3 t_PRIMES_1, .int 5 t_PRIMES_2, .int 7 t_PRIMES_3, .int 11 t_PRIMES_4, .int 13 t_PRIMES_5] pn_PRIMES, ps_PRIMES⟩)
    : ∃ fd : FuncData, (∀ (s : Shared) (u : Value), BindsTo s fd ⟨[u], []⟩ [("script", u)]) ∧ ∀ base : Heap, K.In base → base.Ns mainGlobals mg → FnOk P w K mg base CX0 6 fa fd ["script"] (G.upF K sp_law) := by
  have e := hfa.symm.trans (PySem.W.mg_of X GN a_law)
  cases e
  have F_is_integer := fun_mk (st := st_is_integer) l_is_integer c_is_integer k_is_integer
  have b_is_integer := F_is_integer.binds (ps := ["thing"]) fun _ _ _ _ _ _ us hl => match us, hl with | [_], _ => rfl
  have F_rest_of := fun_mk (st := st_rest_of) l_rest_of c_rest_of k_rest_of
  have b_rest_of := F_rest_of.binds (ps := ["integer", "modulus"]) fun _ _ _ _ _ _ us hl => match us, hl with | [_, _], _ => rfl
  have F_divides := fun_mk (st := st_divides) l_divides c_divides k_divides
  have b_divides := F_divides.binds (ps := ["one", "other"]) fun _ _ _ _ _ _ us hl => match us, hl with | [_, _], _ => rfl
  have F_dial_fault := fun_mk (st := st_dial_fault) l_dial_fault c_dial_fault k_dial_fault
  have b_dial_fault := F_dial_fault.binds (ps := ["thing"]) fun _ _ _ _ _ _ us hl => match us, hl with | [_], _ => rfl
  have F_check_dial := fun_mk (st := st_check_dial) l_check_dial c_check_dial k_check_dial
  have b_check_dial := F_check_dial.binds (ps := ["thing"]) fun _ _ _ _ _ _ us hl => match us, hl with | [_], _ => rfl
  have F_mark_of := fun_mk (st := st_mark_of) l_mark_of c_mark_of k_mark_of
  have b_mark_of := F_mark_of.binds (ps := ["dial", "integer"]) fun _ _ _ _ _ _ us hl => match us, hl with | [_, _], _ => rfl
  have F_turned_mark := fun_mk (st := st_turned_mark) l_turned_mark c_turned_mark k_turned_mark
  have b_turned_mark := F_turned_mark.binds (ps := ["dial", "integer"]) fun _ _ _ _ _ _ us hl => match us, hl with | [_, _], _ => rfl
  have F_half_of := fun_mk (st := st_half_of) l_half_of c_half_of k_half_of
  have b_half_of := F_half_of.binds (ps := ["dial"]) fun _ _ _ _ _ _ us hl => match us, hl with | [_], _ => rfl
  have F_is_turning := fun_mk (st := st_is_turning) l_is_turning c_is_turning k_is_turning
  have b_is_turning := F_is_turning.binds (ps := ["dial"]) fun _ _ _ _ _ _ us hl => match us, hl with | [_], _ => rfl
  have F_is_loud := fun_mk (st := st_is_loud) l_is_loud c_is_loud k_is_loud
  have b_is_loud := F_is_loud.binds (ps := ["dial"]) fun _ _ _ _ _ _ us hl => match us, hl with | [_], _ => rfl
  have F_field_prime := fun_mk (st := st_field_prime) l_field_prime c_field_prime k_field_prime
  have b_field_prime := F_field_prime.binds (ps := ["dial"]) fun _ _ _ _ _ _ us hl => match us, hl with | [_], _ => rfl
  have F_prime_powers := fun_mk (st := st_prime_powers) l_prime_powers c_prime_powers k_prime_powers
  have b_prime_powers := F_prime_powers.binds (ps := ["number"]) fun _ _ _ _ _ _ us hl => match us, hl with | [_], _ => rfl
  have F_coarser_dial := fun_mk (st := st_coarser_dial) l_coarser_dial c_coarser_dial k_coarser_dial
  have b_coarser_dial := F_coarser_dial.binds (ps := ["dial", "modulus"]) fun _ _ _ _ _ _ us hl => match us, hl with | [_, _], _ => rfl
  have F_dial_parts := fun_mk (st := st_dial_parts) l_dial_parts c_dial_parts k_dial_parts
  have b_dial_parts := F_dial_parts.binds (ps := ["dial"]) fun _ _ _ _ _ _ us hl => match us, hl with | [_], _ => rfl
  have F_law_kettle := fun_mk (st := st_law_kettle) l_law_kettle c_law_kettle k_law_kettle
  have b_law_kettle := F_law_kettle.binds (ps := ["script"]) fun _ _ _ _ _ _ us hl => match us, hl with | [_], _ => rfl
  have F_law_pick := fun_mk (st := st_law_pick) l_law_pick c_law_pick k_law_pick
  have b_law_pick := F_law_pick.binds (ps := ["bowl", "many"]) fun _ _ _ _ _ _ us hl => match us, hl with | [_, _], _ => rfl
  have F_law_one := fun_mk (st := st_law_one) l_law_one c_law_one k_law_one
  have b_law_one := F_law_one.binds (ps := ["bowl", "row"]) fun _ _ _ _ _ _ us hl => match us, hl with | [_, _], _ => rfl
  have F_law_mixed := fun_mk (st := st_law_mixed) l_law_mixed c_law_mixed k_law_mixed
  have b_law_mixed := F_law_mixed.binds (ps := ["bowl", "row"]) fun _ _ _ _ _ _ us hl => match us, hl with | [_, _], _ => rfl
  have F_law_same := fun_mk (st := st_law_same) l_law_same c_law_same k_law_same
  have b_law_same := F_law_same.binds (ps := ["told", "due"]) fun _ _ _ _ _ _ us hl => match us, hl with | [_, _], _ => rfl
  have F_law_gcd := fun_mk (st := st_law_gcd) l_law_gcd c_law_gcd k_law_gcd
  have b_law_gcd := F_law_gcd.binds (ps := ["one", "two"]) fun _ _ _ _ _ _ us hl => match us, hl with | [_, _], _ => rfl
  have F_law_size := fun_mk (st := st_law_size) l_law_size c_law_size k_law_size
  have b_law_size := F_law_size.binds (ps := ["kettle"]) fun _ _ _ _ _ _ us hl => match us, hl with | [_], _ => rfl
  have F_law_powers := fun_mk (st := st_law_powers) l_law_powers c_law_powers k_law_powers
  have b_law_powers := F_law_powers.binds (ps := ["n"]) fun _ _ _ _ _ _ us hl => match us, hl with | [_], _ => rfl
  have F_law_heard := fun_mk (st := st_law_heard) l_law_heard c_law_heard k_law_heard
  have b_law_heard := F_law_heard.binds (ps := ["thing"]) fun _ _ _ _ _ _ us hl => match us, hl with | [_], _ => rfl
  have F_law_checked := fun_mk (st := st_law_checked) l_law_checked c_law_checked k_law_checked
  have b_law_checked := F_law_checked.binds (ps := ["kettle", "n", "roots"]) fun _ _ _ _ _ _ us hl => match us, hl with | [_, _, _], _ => rfl
  have F_law_marks := fun_mk (st := st_law_marks) l_law_marks c_law_marks k_law_marks
  have b_law_marks := F_law_marks.binds (ps := ["kettle", "n", "k"]) fun _ _ _ _ _ _ us hl => match us, hl with | [_, _, _], _ => rfl
  have F_law_parts := fun_mk (st := st_law_parts) l_law_parts c_law_parts k_law_parts
  have b_law_parts := F_law_parts.binds (ps := ["kettle", "n", "k"]) fun _ _ _ _ _ _ us hl => match us, hl with | [_, _, _], _ => rfl
  have F_law_fields := fun_mk (st := st_law_fields) l_law_fields c_law_fields k_law_fields
  have b_law_fields := F_law_fields.binds (ps := ["kettle"]) fun _ _ _ _ _ _ us hl => match us, hl with | [_], _ => rfl
  have F_law := fun_mk (st := st_law) l_law c_law k_law
  have b_law := F_law.binds (ps := ["script"]) fun _ _ _ _ _ _ us hl => match us, hl with | [_], _ => rfl
  have FI_BadDial := fun_mk (x := "__init__") (qual := "BadDial.__init__") (st := sI_BadDial) i3_BadDial i4_BadDial i5_BadDial
  have bI_BadDial := FI_BadDial.binds (ps := ["self", "word"]) fun _ _ _ _ _ _ us hl => match us, hl with | [_, _], _ => rfl
  have oex_BadDial : OexC K C_BadDial := { cls := ⟨nm_BadDial, q_BadDial, N_BadDial, bs_BadDial, _, sn_BadDial, sub_BadDial, ab_BadDial, col_BadDial, dd_BadDial, m0_BadDial, m1_BadDial, m2_BadDial, m3_BadDial, m5_BadDial, xL_BadDial, by rfl⟩, sa := sa_BadDial, exC := eC_BadDial, tyC := tC_BadDial, kC := kC_BadDial }
  have exc_BadDial : ∀ {P : Program} {w : World} {base : Heap}, G.ExC P w K mg base "BadDial" ["word"] C_BadDial := fun {P w base} => { T := oex_BadDial, F := ⟨ga_BadDial, gg_BadDial, eC_BadDial, hd_BadDial⟩, no := fun f hf => by rw [List.mem_singleton] at hf; subst hf; exact no_BadDial_word, gC := PySem.W.mg_of X GN aC_BadDial, ex := exm_self eC_BadDial iC_BadDial tC_BadDial sC_BadDial, init := ⟨fI_BadDial, _, _, i1_BadDial, i2_BadDial, init_BadDial FI_BadDial, bI_BadDial⟩ }
  let T : Tx K mg := {
    a_is_integer := f_is_integer,
    d_is_integer := _,
    F_is_integer := F_is_integer,
    g_is_integer := PySem.W.mg_of X GN a_is_integer,
    b_is_integer := b_is_integer,
    a_rest_of := f_rest_of,
    d_rest_of := _,
    F_rest_of := F_rest_of,
    g_rest_of := PySem.W.mg_of X GN a_rest_of,
    b_rest_of := b_rest_of,
    a_divides := f_divides,
    d_divides := _,
    F_divides := F_divides,
    g_divides := PySem.W.mg_of X GN a_divides,
    b_divides := b_divides,
    a_dial_fault := f_dial_fault,
    d_dial_fault := _,
    F_dial_fault := F_dial_fault,
    g_dial_fault := PySem.W.mg_of X GN a_dial_fault,
    b_dial_fault := b_dial_fault,
    a_check_dial := f_check_dial,
    d_check_dial := _,
    F_check_dial := F_check_dial,
    g_check_dial := PySem.W.mg_of X GN a_check_dial,
    b_check_dial := b_check_dial,
    a_mark_of := f_mark_of,
    d_mark_of := _,
    F_mark_of := F_mark_of,
    g_mark_of := PySem.W.mg_of X GN a_mark_of,
    b_mark_of := b_mark_of,
    a_turned_mark := f_turned_mark,
    d_turned_mark := _,
    F_turned_mark := F_turned_mark,
    g_turned_mark := PySem.W.mg_of X GN a_turned_mark,
    b_turned_mark := b_turned_mark,
    a_half_of := f_half_of,
    d_half_of := _,
    F_half_of := F_half_of,
    g_half_of := PySem.W.mg_of X GN a_half_of,
    b_half_of := b_half_of,
    a_is_turning := f_is_turning,
    d_is_turning := _,
    F_is_turning := F_is_turning,
    g_is_turning := PySem.W.mg_of X GN a_is_turning,
    b_is_turning := b_is_turning,
    a_is_loud := f_is_loud,
    d_is_loud := _,
    F_is_loud := F_is_loud,
    g_is_loud := PySem.W.mg_of X GN a_is_loud,
    b_is_loud := b_is_loud,
    a_field_prime := f_field_prime,
    d_field_prime := _,
    F_field_prime := F_field_prime,
    g_field_prime := PySem.W.mg_of X GN a_field_prime,
    b_field_prime := b_field_prime,
    a_prime_powers := f_prime_powers,
    d_prime_powers := _,
    F_prime_powers := F_prime_powers,
    g_prime_powers := PySem.W.mg_of X GN a_prime_powers,
    b_prime_powers := b_prime_powers,
    a_coarser_dial := f_coarser_dial,
    d_coarser_dial := _,
    F_coarser_dial := F_coarser_dial,
    g_coarser_dial := PySem.W.mg_of X GN a_coarser_dial,
    b_coarser_dial := b_coarser_dial,
    a_dial_parts := f_dial_parts,
    d_dial_parts := _,
    F_dial_parts := F_dial_parts,
    g_dial_parts := PySem.W.mg_of X GN a_dial_parts,
    b_dial_parts := b_dial_parts,
    a_law_kettle := f_law_kettle,
    d_law_kettle := _,
    F_law_kettle := F_law_kettle,
    g_law_kettle := PySem.W.mg_of X GN a_law_kettle,
    b_law_kettle := b_law_kettle,
    a_law_pick := f_law_pick,
    d_law_pick := _,
    F_law_pick := F_law_pick,
    g_law_pick := PySem.W.mg_of X GN a_law_pick,
    b_law_pick := b_law_pick,
    a_law_one := f_law_one,
    d_law_one := _,
    F_law_one := F_law_one,
    g_law_one := PySem.W.mg_of X GN a_law_one,
    b_law_one := b_law_one,
    a_law_mixed := f_law_mixed,
    d_law_mixed := _,
    F_law_mixed := F_law_mixed,
    g_law_mixed := PySem.W.mg_of X GN a_law_mixed,
    b_law_mixed := b_law_mixed,
    a_law_same := f_law_same,
    d_law_same := _,
    F_law_same := F_law_same,
    g_law_same := PySem.W.mg_of X GN a_law_same,
    b_law_same := b_law_same,
    a_law_gcd := f_law_gcd,
    d_law_gcd := _,
    F_law_gcd := F_law_gcd,
    g_law_gcd := PySem.W.mg_of X GN a_law_gcd,
    b_law_gcd := b_law_gcd,
    a_law_size := f_law_size,
    d_law_size := _,
    F_law_size := F_law_size,
    g_law_size := PySem.W.mg_of X GN a_law_size,
    b_law_size := b_law_size,
    a_law_powers := f_law_powers,
    d_law_powers := _,
    F_law_powers := F_law_powers,
    g_law_powers := PySem.W.mg_of X GN a_law_powers,
    b_law_powers := b_law_powers,
    a_law_heard := f_law_heard,
    d_law_heard := _,
    F_law_heard := F_law_heard,
    g_law_heard := PySem.W.mg_of X GN a_law_heard,
    b_law_heard := b_law_heard,
    a_law_checked := f_law_checked,
    d_law_checked := _,
    F_law_checked := F_law_checked,
    g_law_checked := PySem.W.mg_of X GN a_law_checked,
    b_law_checked := b_law_checked,
    a_law_marks := f_law_marks,
    d_law_marks := _,
    F_law_marks := F_law_marks,
    g_law_marks := PySem.W.mg_of X GN a_law_marks,
    b_law_marks := b_law_marks,
    a_law_parts := f_law_parts,
    d_law_parts := _,
    F_law_parts := F_law_parts,
    g_law_parts := PySem.W.mg_of X GN a_law_parts,
    b_law_parts := b_law_parts,
    a_law_fields := f_law_fields,
    d_law_fields := _,
    F_law_fields := F_law_fields,
    g_law_fields := PySem.W.mg_of X GN a_law_fields,
    b_law_fields := b_law_fields,
    a_law := fa,
    d_law := _,
    F_law := F_law,
    g_law := PySem.W.mg_of X GN a_law,
    b_law := b_law,
    g_gcd := PySem.W.mg_of X GN g_gcd,
    n_abs := PySem.W.mg_none_of X GN n_abs,
    n_bool := PySem.W.mg_none_of X GN n_bool,
    n_int := PySem.W.mg_none_of X GN n_int,
    n_isinstance := PySem.W.mg_none_of X GN n_isinstance,
    n_len := PySem.W.mg_none_of X GN n_len,
    n_list := PySem.W.mg_none_of X GN n_list,
    n_min := PySem.W.mg_none_of X GN n_min,
    n_range := PySem.W.mg_none_of X GN n_range,
    n_sorted := PySem.W.mg_none_of X GN n_sorted,
    n_str := PySem.W.mg_none_of X GN n_str,
    n_tuple := PySem.W.mg_none_of X GN n_tuple,
    C_BadDial := C_BadDial,
    ex_BadDial := exc_BadDial,
    k_DIAL_MOST := fun _ hm hg => d_glob (v := .int 10000) hg (hm ▸ PySem.W.mg_of X GN v_DIAL_MOST) ⟨_, rfl⟩ (fun _ => rfl),
    k_PRIMES := fun hK hm hg => d_glob (v := .ref p_PRIMES) hg (hm ▸ PySem.W.mg_of X GN v_PRIMES) rfl (fun H => hK ▸ rp_tup (ds := [.int 3, .int 5, .int 7, .int 11, .int 13]) (vs := [.int 3, .int 5, .int 7, .int 11, .int 13]) w_PRIMES rfl rfl (by show 5 ≤ sizeLine; decide) (.cons ⟨_, rfl⟩ (.cons ⟨_, rfl⟩ (.cons ⟨_, rfl⟩ (.cons ⟨_, rfl⟩ (.cons ⟨_, rfl⟩ .nil))))) (fun _ => ⟨_, _, rfl, rfl, ⟨_, _, rfl, rfl, ⟨_, _, rfl, rfl, ⟨_, _, rfl, rfl, ⟨_, _, rfl, rfl, rfl⟩⟩⟩⟩⟩) H) }
  exact ⟨T.d_law, fun s v => .of_eq rfl, fun base _ _ => ok_law T⟩
end K01
open PySem PySem.W PyProof.Rows
set_option maxHeartbeats 0 in
theorem PySem.Challenge.cw_everygain_k01_all_roots_of_one_holds : PySem.Challenge.rw_everygain_k01_all_roots_of_one.Holds := by
  w_on; o_law; k_head; (case hw => w_witness2)
  k_fill
  refine L2.walk_of (l := PySem.Challenge.rw_everygain_k01_all_roots_of_one) (n := 63) (k := 6) (x := "script") (CX := fun _ => L2.CX0) (sp := fun w => G.upF _ K01.sp_law) rfl (by decide) rfl ⟨rfl, by decide, by decide⟩ (fun w h Y => PySem.W.kIn_of Y) ?F (fun _ H a ns hl hO hS => G.script_in hO hS ⟨ns, rfl, hl, fun _ => rfl⟩) (fun _ _ _ _ _ h => h)
  case F =>
    intro w mg fa h KX G hmg
    refine' K01.all_mk KX G hmg ?a_is_integer ?l_is_integer ?c_is_integer ?k_is_integer ?a_rest_of ?l_rest_of ?c_rest_of ?k_rest_of ?a_divides ?l_divides ?c_divides ?k_divides ?a_dial_fault ?l_dial_fault ?c_dial_fault ?k_dial_fault ?a_check_dial ?l_check_dial ?c_check_dial ?k_check_dial ?a_mark_of ?l_mark_of ?c_mark_of ?k_mark_of ?a_turned_mark ?l_turned_mark ?c_turned_mark ?k_turned_mark ?a_half_of ?l_half_of ?c_half_of ?k_half_of ?a_is_turning ?l_is_turning ?c_is_turning ?k_is_turning ?a_is_loud ?l_is_loud ?c_is_loud ?k_is_loud ?a_field_prime ?l_field_prime ?c_field_prime ?k_field_prime ?a_prime_powers ?l_prime_powers ?c_prime_powers ?k_prime_powers ?a_coarser_dial ?l_coarser_dial ?c_coarser_dial ?k_coarser_dial ?a_dial_parts ?l_dial_parts ?c_dial_parts ?k_dial_parts ?a_law_kettle ?l_law_kettle ?c_law_kettle ?k_law_kettle ?a_law_pick ?l_law_pick ?c_law_pick ?k_law_pick ?a_law_one ?l_law_one ?c_law_one ?k_law_one ?a_law_mixed ?l_law_mixed ?c_law_mixed ?k_law_mixed ?a_law_same ?l_law_same ?c_law_same ?k_law_same ?a_law_gcd ?l_law_gcd ?c_law_gcd ?k_law_gcd ?a_law_size ?l_law_size ?c_law_size ?k_law_size ?a_law_powers ?l_law_powers ?c_law_powers ?k_law_powers ?a_law_heard ?l_law_heard ?c_law_heard ?k_law_heard ?a_law_checked ?l_law_checked ?c_law_checked ?k_law_checked ?a_law_marks ?l_law_marks ?c_law_marks ?k_law_marks ?a_law_parts ?l_law_parts ?c_law_parts ?k_law_parts ?a_law_fields ?l_law_fields ?c_law_fields ?k_law_fields ?a_law ?l_law ?c_law ?k_law ?g_gcd ?n_abs ?n_bool ?n_int ?n_isinstance ?n_len ?n_list ?n_min ?n_range ?n_sorted ?n_str ?n_tuple ?aC_BadDial ?xL_BadDial ?sa_BadDial ?ga_BadDial ?gg_BadDial ?hd_BadDial ?no_BadDial_word ?i1_BadDial ?i2_BadDial ?i3_BadDial ?i4_BadDial ?i5_BadDial ?kC_BadDial ?eC_BadDial ?tC_BadDial ?iC_BadDial ?sC_BadDial ?v_DIAL_MOST ?v_PRIMES ?w_PRIMES
    (case a_is_integer => k_is); (case l_is_integer => k_is); (case c_is_integer => k_is); (case k_is_integer => k_is); (case a_rest_of => k_is); (case l_rest_of => k_is)
    (case c_rest_of => k_is); (case k_rest_of => k_is); (case a_divides => k_is); (case l_divides => k_is); (case c_divides => k_is); (case k_divides => k_is)
    (case a_dial_fault => k_is); (case l_dial_fault => k_is); (case c_dial_fault => k_is); (case k_dial_fault => k_is); (case a_check_dial => k_is); (case l_check_dial => k_is)
    (case c_check_dial => k_is); (case k_check_dial => k_is); (case a_mark_of => k_is); (case l_mark_of => k_is); (case c_mark_of => k_is); (case k_mark_of => k_is)
    (case a_turned_mark => k_is); (case l_turned_mark => k_is); (case c_turned_mark => k_is); (case k_turned_mark => k_is); (case a_half_of => k_is); (case l_half_of => k_is)
    (case c_half_of => k_is); (case k_half_of => k_is); (case a_is_turning => k_is); (case l_is_turning => k_is); (case c_is_turning => k_is); (case k_is_turning => k_is)
    (case a_is_loud => k_is); (case l_is_loud => k_is); (case c_is_loud => k_is); (case k_is_loud => k_is); (case a_field_prime => k_is); (case l_field_prime => k_is)
    (case c_field_prime => k_is); (case k_field_prime => k_is); (case a_prime_powers => k_is); (case l_prime_powers => k_is); (case c_prime_powers => k_is); (case k_prime_powers => k_is)
    (case a_coarser_dial => k_is); (case l_coarser_dial => k_is); (case c_coarser_dial => k_is); (case k_coarser_dial => k_is); (case a_dial_parts => k_is); (case l_dial_parts => k_is)
    (case c_dial_parts => k_is); (case k_dial_parts => k_is); (case a_law_kettle => k_is); (case l_law_kettle => k_is); (case c_law_kettle => k_is); (case k_law_kettle => k_is)
    (case a_law_pick => k_is); (case l_law_pick => k_is); (case c_law_pick => k_is); (case k_law_pick => k_is); (case a_law_one => k_is); (case l_law_one => k_is)
    (case c_law_one => k_is); (case k_law_one => k_is); (case a_law_mixed => k_is); (case l_law_mixed => k_is); (case c_law_mixed => k_is); (case k_law_mixed => k_is)
    (case a_law_same => k_is); (case l_law_same => k_is); (case c_law_same => k_is); (case k_law_same => k_is); (case a_law_gcd => k_is); (case l_law_gcd => k_is)
    (case c_law_gcd => k_is); (case k_law_gcd => k_is); (case a_law_size => k_is); (case l_law_size => k_is); (case c_law_size => k_is); (case k_law_size => k_is)
    (case a_law_powers => k_is); (case l_law_powers => k_is); (case c_law_powers => k_is); (case k_law_powers => k_is); (case a_law_heard => k_is); (case l_law_heard => k_is)
    (case c_law_heard => k_is); (case k_law_heard => k_is); (case a_law_checked => k_is); (case l_law_checked => k_is); (case c_law_checked => k_is); (case k_law_checked => k_is)
    (case a_law_marks => k_is); (case l_law_marks => k_is); (case c_law_marks => k_is); (case k_law_marks => k_is); (case a_law_parts => k_is); (case l_law_parts => k_is)
    (case c_law_parts => k_is); (case k_law_parts => k_is); (case a_law_fields => k_is); (case l_law_fields => k_is); (case c_law_fields => k_is); (case k_law_fields => k_is)
    (case a_law => k_is); (case l_law => k_is); (case c_law => k_is); (case k_law => k_is); (case g_gcd => k_is); (case n_abs => k_is)
    (case n_bool => k_is); (case n_int => k_is); (case n_isinstance => k_is); (case n_len => k_is); (case n_list => k_is); (case n_min => k_is)
    (case n_range => k_is); (case n_sorted => k_is); (case n_str => k_is); (case n_tuple => k_is); (case aC_BadDial => k_is); (case xL_BadDial => k_is)
    (case sa_BadDial => k_is); (case ga_BadDial => k_is); (case gg_BadDial => k_is); (case hd_BadDial => k_is); (case no_BadDial_word => k_is); (case i1_BadDial => k_is)
    (case i2_BadDial => k_is); (case i3_BadDial => k_is); (case i4_BadDial => k_is); (case i5_BadDial => k_is); (case kC_BadDial => k_is); (case eC_BadDial => k_is)
    (case tC_BadDial => k_is); (case iC_BadDial => k_is); (case sC_BadDial => first | rfl | k_is); (case v_DIAL_MOST => k_is); (case v_PRIMES => k_is); (case w_PRIMES => k_is)
