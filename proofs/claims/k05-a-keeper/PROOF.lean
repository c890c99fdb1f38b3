import PyProof.Rows.All
import Wide.All
import OpenK.AllK
import Wide.FinOn
import HandS.ForMost
import HandS.ForExc
import HandS.IsInst
import HandS.Conv
import HandS.Style
import HandS.TryMany
import HandS.ExcIs
import HandS.More
import PySem.Challenge.RW_logreplica_k05_a_keeper
set_option Elab.async false
set_option linter.all false
set_option maxRecDepth 100000
set_option maxHeartbeats 4000000
/-! A layer over the readings: values as data, a world of things that stay (G), a world of things that change (M), the heap (H). -/
namespace Fw
open PySem L2

/-- the script; an object by its place -/
abbrev scrD (ns : List Int) : PyData := .dict [(.list (ns.map PyData.int), .none)]
abbrev objD (a : Addr) : PyData := .dict [(.int (a : Int), .bool true)]

mutual
inductive Rp (K : PySem.W.Frag) (G : Hp) : V → PyData → Prop
  | non : Rp K G .non .none
  | bl (b : Bool) : Rp K G (.bl b) (.bool b)
  | int (i : Int) : Rp K G (.int i) (.int i)
  | str (x : Str) : Rp K G (.str x) (.str x)
  | lst {a : Addr} {xs : List V} {ds : List PyData} : G a = some (.lst xs) → RpAll K G xs ds → Rp K G (.ref a) (.list ds)
  | tup {a : Addr} {xs : List V} {ds : List PyData} : G a = some (.tup xs) → RpAll K G xs ds → Rp K G (.ref a) (.tuple ds)
  | scr {a : Addr} {ns : List Int} : SqL K G a (ns.map V.int) → Rp K G (.ref a) (.dict [(.list (ns.map PyData.int), .none)])
  | obj {a : Addr} : Rp K G (.ref a) (.dict [(.int (a : Int), .bool true)])
inductive RpAll (K : PySem.W.Frag) (G : Hp) : List V → List PyData → Prop
  | nil : RpAll K G [] []
  | cons {v : V} {vs : List V} {d : PyData} {ds : List PyData} : Rp K G v d → RpAll K G vs ds → RpAll K G (v :: vs) (d :: ds)
end

section
variable {K : PySem.W.Frag} {G G' : Hp}
theorem Rp.non_inv {v : V} (h : Rp K G v .none) : v = .non := by cases h; rfl
theorem Rp.bl_inv {v : V} {b : Bool} (h : Rp K G v (.bool b)) : v = .bl b := by cases h; rfl
theorem Rp.int_inv {v : V} {i : Int} (h : Rp K G v (.int i)) : v = .int i := by cases h; rfl
theorem Rp.str_inv {v : V} {x : Str} (h : Rp K G v (.str x)) : v = .str x := by cases h; rfl
theorem Rp.lst_inv {v : V} {ds : List PyData} (h : Rp K G v (.list ds)) : ∃ a xs, v = .ref a ∧ G a = some (.lst xs) ∧ RpAll K G xs ds := by
  cases h with
  | lst h1 h2 => exact ⟨_, _, rfl, h1, h2⟩
theorem Rp.tup_inv {v : V} {ds : List PyData} (h : Rp K G v (.tuple ds)) : ∃ a xs, v = .ref a ∧ G a = some (.tup xs) ∧ RpAll K G xs ds := by
  cases h with
  | tup h1 h2 => exact ⟨_, _, rfl, h1, h2⟩
theorem map_int_inj : ∀ {a b : List Int}, a.map PyData.int = b.map PyData.int → a = b
  | [], [], _ => rfl
  | [], _ :: _, h => by simp at h
  | _ :: _, [], h => by simp at h
  | x :: r, y :: t, h => by
    rw [List.map_cons, List.map_cons] at h
    injection h with h1 h2
    injection h1 with h1
    rw [h1, map_int_inj h2]
theorem Rp.dict_inv {v : V} {kvs : List (PyData × PyData)} (h : Rp K G v (.dict kvs)) :
    (∃ (a : Addr) (ns : List Int), v = .ref a ∧ kvs = [(.list (ns.map PyData.int), .none)] ∧ SqL K G a (ns.map V.int)) ∨ (∃ a : Addr, v = .ref a ∧ kvs = [(.int (a : Int), .bool true)]) := by
  cases h with
  | scr h1 => exact .inl ⟨_, _, rfl, rfl, h1⟩
  | obj => exact .inr ⟨_, rfl, rfl⟩
theorem Rp.scr_inv {v : V} {ns : List Int} (h : Rp K G v (scrD ns)) : ∃ a, v = .ref a ∧ SqL K G a (ns.map V.int) := by
  rcases h.dict_inv with ⟨a, ms, rfl, e, hs⟩ | ⟨a, rfl, e⟩
  · injection e with e _
    injection e with e _
    injection e with e
    rw [map_int_inj e]
    exact ⟨a, rfl, hs⟩
  · injection e with e _
    injection e with e _
    cases e
theorem Rp.obj_inv {v : V} {a : Addr} (h : Rp K G v (objD a)) : v = .ref a := by
  rcases h.dict_inv with ⟨b, ms, rfl, e, hs⟩ | ⟨b, rfl, e⟩
  · injection e with e _
    injection e with e _
    cases e
  · injection e with e _
    injection e with e _
    injection e with e
    have : a = b := Int.ofNat.inj e
    rw [this]
theorem RpAll.nil_inv {vs : List V} (h : RpAll K G vs []) : vs = [] := by cases h; rfl
theorem RpAll.cons_inv {vs : List V} {d : PyData} {ds : List PyData} (h : RpAll K G vs (d :: ds)) : ∃ v ws, vs = v :: ws ∧ Rp K G v d ∧ RpAll K G ws ds := by
  cases h with
  | cons h1 h2 => exact ⟨_, _, rfl, h1, h2⟩
mutual
theorem Rp.mono (s : Same G G') : ∀ {v : V} {d : PyData}, Rp K G v d → Rp K G' v d
  | _, _, .non => .non
  | _, _, .bl b => .bl b
  | _, _, .int i => .int i
  | _, _, .str x => .str x
  | _, _, .lst h1 h2 => .lst (s _ _ h1) (RpAll.mono s h2)
  | _, _, .tup h1 h2 => .tup (s _ _ h1) (RpAll.mono s h2)
  | _, _, .scr h => .scr (s.seq h)
  | _, _, .obj => .obj
theorem RpAll.mono (s : Same G G') : ∀ {vs : List V} {ds : List PyData}, RpAll K G vs ds → RpAll K G' vs ds
  | _, _, .nil => .nil
  | _, _, .cons h1 h2 => .cons (Rp.mono s h1) (RpAll.mono s h2)
end
theorem RpAll.length : ∀ {ds : List PyData} {vs : List V}, RpAll K G vs ds → vs.length = ds.length
  | [], _, h => by rw [h.nil_inv]; rfl
  | d :: ds, _, h => by
    obtain ⟨v, ws, rfl, _, h2⟩ := h.cons_inv
    rw [List.length_cons, List.length_cons, h2.length]
theorem RpAll.get : ∀ {ds : List PyData} {vs : List V} {i : Nat} {d : PyData}, RpAll K G vs ds → ds[i]? = some d → ∃ v, vs[i]? = some v ∧ Rp K G v d
  | [], _, i, d, h, e => by simp at e
  | x :: ds, _, 0, d, h, e => by
    obtain ⟨v, ws, rfl, h1, _⟩ := h.cons_inv
    have : x = d := by simpa using e
    subst this
    exact ⟨v, rfl, h1⟩
  | x :: ds, _, i + 1, d, h, e => by
    obtain ⟨v, ws, rfl, _, h2⟩ := h.cons_inv
    obtain ⟨w, e1, e2⟩ := h2.get (i := i) (d := d) (by simpa using e)
    exact ⟨w, by simpa using e1, e2⟩
theorem RpAll.of_get : ∀ {ds : List PyData} {vs : List V} {i : Nat} {v : V}, RpAll K G vs ds → vs[i]? = some v → ∃ d, ds[i]? = some d ∧ Rp K G v d := by
  intro ds vs i v h e
  have hl := h.length
  have hi : i < ds.length := by
    rw [← hl]
    exact (List.getElem?_eq_some_iff.mp e).1
  obtain ⟨w, e1, e2⟩ := h.get (List.getElem?_eq_getElem hi)
  rw [e] at e1
  cases e1
  exact ⟨_, List.getElem?_eq_getElem hi, e2⟩
theorem RpAll.append : ∀ {ds es : List PyData} {vs ws : List V}, RpAll K G vs ds → RpAll K G ws es → RpAll K G (vs ++ ws) (ds ++ es)
  | [], es, _, ws, h, g => by rw [h.nil_inv]; exact g
  | d :: ds, es, _, ws, h, g => by
    obtain ⟨v, us, rfl, h1, h2⟩ := h.cons_inv
    exact .cons h1 (h2.append g)
theorem RpAll.one {v : V} {d : PyData} (h : Rp K G v d) : RpAll K G [v] [d] := .cons h .nil
theorem RpAll.take : ∀ {ds : List PyData} {vs : List V} (n : Nat), RpAll K G vs ds → RpAll K G (vs.take n) (ds.take n)
  | _, _, 0, _ => .nil
  | [], _, n + 1, h => by rw [h.nil_inv]; exact .nil
  | d :: ds, _, n + 1, h => by
    obtain ⟨v, us, rfl, h1, h2⟩ := h.cons_inv
    exact .cons h1 (h2.take n)
theorem RpAll.drop : ∀ {ds : List PyData} {vs : List V} (n : Nat), RpAll K G vs ds → RpAll K G (vs.drop n) (ds.drop n)
  | _, _, 0, h => h
  | [], _, n + 1, h => by rw [h.nil_inv]; exact .nil
  | d :: ds, _, n + 1, h => by
    obtain ⟨v, us, rfl, h1, h2⟩ := h.cons_inv
    exact h2.drop n
theorem RpAll.set {v : V} {d : PyData} (r : Rp K G v d) : ∀ {ds : List PyData} {vs : List V} (i : Nat), RpAll K G vs ds → RpAll K G (vs.set i v) (ds.set i d)
  | [], _, i, h => by rw [h.nil_inv]; exact .nil
  | x :: ds, _, 0, h => by
    obtain ⟨w, us, rfl, h1, h2⟩ := h.cons_inv
    exact .cons r h2
  | x :: ds, _, i + 1, h => by
    obtain ⟨w, us, rfl, h1, h2⟩ := h.cons_inv
    exact .cons h1 (h2.set r i)
theorem RpAll.rep {ds : List PyData} {vs : List V} (h : RpAll K G vs ds) : ∀ n : Nat, RpAll K G (List.replicate n vs).flatten (List.replicate n ds).flatten
  | 0 => .nil
  | n + 1 => by
    rw [List.replicate_succ, List.replicate_succ, List.flatten_cons, List.flatten_cons]
    exact h.append (h.rep n)
theorem RpAll.ints : ∀ {ns : List Int} {vs : List V}, RpAll K G vs (ns.map PyData.int) → vs = ns.map V.int
  | [], _, h => h.nil_inv
  | n :: ns, _, h => by
    obtain ⟨v, us, rfl, h1, h2⟩ := h.cons_inv
    rw [h1.int_inv, h2.ints]; rfl
theorem RpAll.of_ints : ∀ (ns : List Int), RpAll K G (ns.map V.int) (ns.map PyData.int)
  | [] => .nil
  | n :: ns => .cons (.int n) (RpAll.of_ints ns)
theorem RpAll.strs : ∀ {ns : List Str} {vs : List V}, RpAll K G vs (ns.map PyData.str) → vs = ns.map V.str
  | [], _, h => h.nil_inv
  | n :: ns, _, h => by
    obtain ⟨v, us, rfl, h1, h2⟩ := h.cons_inv
    rw [h1.str_inv, h2.strs]; rfl
end

/-! ### no dict within; to the layer's own reading of data -/
mutual
def plainD : PyData → Bool
  | .none => true
  | .bool _ => true
  | .int _ => true
  | .str _ => true
  | .list xs => plainAll xs
  | .tuple xs => plainAll xs
  | .dict _ => false
def plainAll : List PyData → Bool
  | [] => true
  | d :: ds => plainD d && plainAll ds
end
mutual
theorem Rp.dp {K : PySem.W.Frag} {G H : Hp} (s : Same G H) : ∀ (d : PyData) (v : V), plainD d = true → Rp K G v d → Dp K H v d
  | .none, _, _, h => by rw [h.non_inv]; exact .non
  | .bool b, _, _, h => by rw [h.bl_inv]; exact .bl b
  | .int i, _, _, h => by rw [h.int_inv]; exact .int i
  | .str x, _, _, h => by rw [h.str_inv]; exact .str x
  | .list ds, _, p, h => by
    obtain ⟨a, xs, rfl, h1, h2⟩ := h.lst_inv
    exact .lst (SqL.of (s _ _ h1)) (RpAll.dp s ds xs (by unfold plainD at p; exact p) h2)
  | .tuple ds, _, p, h => by
    obtain ⟨a, xs, rfl, h1, h2⟩ := h.tup_inv
    exact .tup (SqT.of (s _ _ h1)) (RpAll.dp s ds xs (by unfold plainD at p; exact p) h2)
  | .dict _, _, p, _ => by unfold plainD at p; cases p
theorem RpAll.dp {K : PySem.W.Frag} {G H : Hp} (s : Same G H) : ∀ (ds : List PyData) (vs : List V), plainAll ds = true → RpAll K G vs ds → DpAll K H vs ds
  | [], _, _, h => by rw [h.nil_inv]; exact .nil
  | d :: ds, _, p, h => by
    obtain ⟨v, us, rfl, h1, h2⟩ := h.cons_inv
    unfold plainAll at p
    have p' := Bool.and_eq_true_iff.mp p
    exact .cons (Rp.dp s d v p'.1 h1) (RpAll.dp s ds us p'.2 h2)
end

/-! ### steps -/
structure Stp (G M H G' M' H' : Hp) : Prop where
  gg : Same G G'
  th : ∀ b, H b ≠ none → H' b ≠ none
  fr : ∀ b o, H b = some o → M b = none → H' b = some o
  ng : ∀ b, H b ≠ none → G b = none → G' b = none
  nm : ∀ b, H b ≠ none → M b = none → M' b = none
structure Wf {ρ : Type} (R : ρ → Hp → Hp → Prop) (G M H : Hp) (r : ρ) : Prop where
  gh : Same G H
  mh : Same M H
  dj : ∀ b, M b ≠ none → G b = none
  res : R r G M
class Stab {ρ : Type} (R : ρ → Hp → Hp → Prop) : Prop where
  out : ∀ (r : ρ) (G G' M : Hp), Same G G' → (∀ b, M b ≠ none → G' b = none) → R r G M → R r G' M

theorem some_ne {o : HO} {x : Option HO} (h : x = some o) : x ≠ none := fun e => by rw [h] at e; cases e
theorem Stp.refl (G M H : Hp) : Stp G M H G M H := ⟨Same.refl _, fun _ h => h, fun _ _ h _ => h, fun _ _ h => h, fun _ _ h => h⟩
theorem Stp.trans {G M H G1 M1 H1 G2 M2 H2 : Hp} (a : Stp G M H G1 M1 H1) (b : Stp G1 M1 H1 G2 M2 H2) : Stp G M H G2 M2 H2 where
  gg := a.gg.trans b.gg
  th := fun x h => b.th x (a.th x h)
  fr := fun x o h m => b.fr x o (a.fr x o h m) (a.nm x (some_ne h) m)
  ng := fun x h g => b.ng x (a.th x h) (a.ng x h g)
  nm := fun x h m => b.nm x (a.th x h) (a.nm x h m)
theorem Stp.rebase {G0 M0 H0 G M H : Hp} (s : Stp G0 M0 H0 G M H) : Stp G M0 H0 G M H := ⟨Same.refl _, s.th, s.fr, fun _ _ g => g, s.nm⟩
theorem Stp.unbase {G0 M0 H0 G M H G2 M2 H2 : Hp} (s : Stp G0 M0 H0 G M H) (t : Stp G M0 H0 G2 M2 H2) : Stp G0 M0 H0 G2 M2 H2 := ⟨s.gg.trans t.gg, t.th, t.fr, fun b h g => t.ng b h (s.ng b h g), t.nm⟩
section
variable {ρ : Type} {R : ρ → Hp → Hp → Prop} {G M H G' M' H' : Hp} {r : ρ}
theorem same_new {p : Addr} {o : HO} (h : H p = none) : Same H (upd H p o) := fun b u e => by rw [upd_ne (ne_of_none e h)]; exact e
theorem same_upd {p : Addr} {o : HO} (s : Same G H) (h : G p = none) : Same G (upd H p o) := fun b u e => by rw [upd_ne (ne_of_none e h)]; exact s b u e
theorem same_both {p : Addr} {o : HO} (s : Same G H) : Same (upd G p o) (upd H p o) := fun b u e => by
  by_cases hb : b = p
  · subst hb; rw [upd_same] at e ⊢; exact e
  · rw [upd_ne hb] at e ⊢; exact s b u e
theorem Wf.gn (w : Wf R G M H r) {p : Addr} (h : H p = none) : G p = none := w.gh.free h
theorem Wf.mn (w : Wf R G M H r) {p : Addr} (h : H p = none) : M p = none := w.mh.free h
theorem Wf.alloc [Stab R] (w : Wf R G M H r) {p : Addr} (h : H p = none) (o : HO) : Wf R (upd G p o) M (upd H p o) r := by
  have hd : ∀ b, M b ≠ none → upd G p o b = none := fun b hb => by
    have : b ≠ p := fun e => hb (by rw [e]; exact w.mn h)
    rw [upd_ne this]; exact w.dj b hb
  exact ⟨same_both w.gh, same_upd w.mh (w.mn h), hd, Stab.out r G _ M (same_new (w.gn h)) hd w.res⟩
theorem Stp.alloc (hg : G p = none) (h : H p = none) (o : HO) : Stp G M H (upd G p o) M (upd H p o) where
  gg := same_new hg
  th := fun b hb => by
    by_cases e : b = p
    · rw [e, upd_same]; exact fun z => nomatch z
    · rw [upd_ne e]; exact hb
  fr := fun b u e _ => by rw [upd_ne (ne_of_none e h)]; exact e
  ng := fun b hb g => by
    have : b ≠ p := fun e => hb (by rw [e]; exact h)
    rw [upd_ne this]; exact g
  nm := fun _ _ m => m
/-- a hidden thing is laid or changed -/
theorem Wf.hid (w : Wf R G M H r) {p : Addr} (g : G p = none) (m : M p = none) (o : HO) : Wf R G M (upd H p o) r := ⟨same_upd w.gh g, same_upd w.mh m, w.dj, w.res⟩
theorem Stp.hid (s : Stp G M H G' M' H') {p : Addr} (h : H p = none) (o : HO) : Stp G M H G' M' (upd H' p o) where
  gg := s.gg
  th := fun b hb => by
    by_cases e : b = p
    · rw [e, upd_same]; exact fun z => nomatch z
    · rw [upd_ne e]; exact s.th b hb
  fr := fun b u e m => by rw [upd_ne (ne_of_none e h)]; exact s.fr b u e m
  ng := s.ng
  nm := s.nm
/-- a hidden thing comes to stay as it is -/
theorem Wf.freeze [Stab R] (w : Wf R G M H r) {p : Addr} {o : HO} (h : H p = some o) (g : G p = none) (m : M p = none) : Wf R (upd G p o) M H r := by
  have hd : ∀ b, M b ≠ none → upd G p o b = none := fun b hb => by
    have : b ≠ p := fun e => hb (by rw [e]; exact m)
    rw [upd_ne this]; exact w.dj b hb
  refine ⟨fun b u e => ?_, w.mh, hd, Stab.out r G _ M (same_new g) hd w.res⟩
  by_cases hb : b = p
  · subst hb; rw [upd_same] at e; rw [h]; exact e
  · rw [upd_ne hb] at e; exact w.gh b u e
theorem Stp.freeze (s : Stp G M H G' M' H') {p : Addr} {o : HO} (h : H p = none) (g : G' p = none) : Stp G M H (upd G' p o) M' H' where
  gg := s.gg.trans (same_new g)
  th := s.th
  fr := s.fr
  ng := fun b hb gb => by
    have : b ≠ p := fun e => hb (by rw [e]; exact h)
    rw [upd_ne this]; exact s.ng b hb gb
  nm := s.nm
end

/-! ### what the slots hold -/
inductive Sk where
  | hid
  | dat (d : PyData)
  | own (ds : List PyData)
abbrev SE := List Sk
structure EnvO (K : PySem.W.Frag) (B G M H : Hp) (σ : St) (e : SE) : Prop where
  len : σ.length = e.length
  dat : ∀ (i : Nat) d, e[i]? = some (.dat d) → ∃ v, σ[i]? = some (some v) ∧ Rp K G v d
  own : ∀ (i : Nat) ds, e[i]? = some (.own ds) → ∃ l vs, σ[i]? = some (some (.ref l)) ∧ B l = none ∧ G l = none ∧ M l = none ∧ H l = some (.lst vs) ∧ RpAll K G vs ds
  sep : ∀ (i j : Nat) ds es l, e[i]? = some (.own ds) → e[j]? = some (.own es) → σ[i]? = some (some (.ref l)) → σ[j]? = some (some (.ref l)) → i = j
section
variable {K : PySem.W.Frag} {B G M H G' M' H' : Hp} {σ : St} {e : SE}
theorem EnvO.step (v : EnvO K B G M H σ e) (s : Stp G M H G' M' H') : EnvO K B G' M' H' σ e where
  len := v.len
  dat := fun i d h => by
    obtain ⟨x, h1, h2⟩ := v.dat i d h
    exact ⟨x, h1, h2.mono s.gg⟩
  own := fun i ds h => by
    obtain ⟨l, vs, h1, h2, h3, h4, h5, h6⟩ := v.own i ds h
    exact ⟨l, vs, h1, h2, s.ng l (some_ne h5) h3, s.nm l (some_ne h5) h4, s.fr l _ h5 h4, h6.mono s.gg⟩
  sep := v.sep
theorem getElem?_set_ne' {α : Type} {l : List α} {i j : Nat} {x : α} (h : i ≠ j) : (l.set i x)[j]? = l[j]? := List.getElem?_set_ne h
theorem set_cases {α : Type} {l : List α} {i j : Nat} {x y : α} (h : (l.set i x)[j]? = some y) : (i = j ∧ y = x ∧ j < l.length) ∨ (i ≠ j ∧ l[j]? = some y) := by
  by_cases hij : i = j
  · subst hij
    by_cases hl : i < l.length
    · rw [List.getElem?_set_self hl] at h
      cases h
      exact .inl ⟨rfl, rfl, hl⟩
    · rw [List.getElem?_eq_none (by rw [List.length_set]; omega)] at h
      cases h
  · rw [List.getElem?_set_ne hij] at h
    exact .inr ⟨hij, h⟩
/-- a slot takes a datum -/
theorem EnvO.setD (v : EnvO K B G M H σ e) {i : Nat} {x : V} {d : PyData} (h : Rp K G x d) : EnvO K B G M H (σ.set i (some x)) (e.set i (.dat d)) where
  len := by rw [List.length_set, List.length_set, v.len]
  dat := fun j d' hj => by
    rcases set_cases hj with ⟨rfl, e1, hl⟩ | ⟨hne, hj⟩
    · injection e1 with e1
      subst e1
      exact ⟨x, List.getElem?_set_self (by rw [v.len]; exact hl), h⟩
    · obtain ⟨w, h1, h2⟩ := v.dat j d' hj
      exact ⟨w, by rw [List.getElem?_set_ne hne]; exact h1, h2⟩
  own := fun j ds hj => by
    rcases set_cases hj with ⟨_, e1, _⟩ | ⟨hne, hj⟩
    · cases e1
    · obtain ⟨l, vs, h1, h2⟩ := v.own j ds hj
      exact ⟨l, vs, by rw [List.getElem?_set_ne hne]; exact h1, h2⟩
  sep := fun j k ds es l hj hk h1 h2 => by
    rcases set_cases hj with ⟨_, e1, _⟩ | ⟨hne, hj⟩
    · cases e1
    rcases set_cases hk with ⟨_, e1, _⟩ | ⟨hne2, hk⟩
    · cases e1
    rw [List.getElem?_set_ne hne] at h1
    rw [List.getElem?_set_ne hne2] at h2
    exact v.sep j k ds es l hj hk h1 h2
theorem EnvO.setH (v : EnvO K B G M H σ e) {i : Nat} {x : Option V} : EnvO K B G M H (σ.set i x) (e.set i .hid) where
  len := by rw [List.length_set, List.length_set, v.len]
  dat := fun j d' hj => by
    rcases set_cases hj with ⟨_, e1, hl⟩ | ⟨hne, hj⟩
    · cases e1
    · obtain ⟨w, h1, h2⟩ := v.dat j d' hj
      exact ⟨w, by rw [List.getElem?_set_ne hne]; exact h1, h2⟩
  own := fun j ds hj => by
    rcases set_cases hj with ⟨_, e1, _⟩ | ⟨hne, hj⟩
    · cases e1
    · obtain ⟨l, vs, h1, h2⟩ := v.own j ds hj
      exact ⟨l, vs, by rw [List.getElem?_set_ne hne]; exact h1, h2⟩
  sep := fun j k ds es l hj hk h1 h2 => by
    rcases set_cases hj with ⟨_, e1, _⟩ | ⟨hne, hj⟩
    · cases e1
    rcases set_cases hk with ⟨_, e1, _⟩ | ⟨hne2, hk⟩
    · cases e1
    rw [List.getElem?_set_ne hne] at h1
    rw [List.getElem?_set_ne hne2] at h2
    exact v.sep j k ds es l hj hk h1 h2
/-- a slot takes a new list of its own -/
theorem EnvO.setO (v : EnvO K B G M H σ e) {i : Nat} {l : Addr} {vs : List V} {ds : List PyData} (hB : B l = none) (hG : G l = none) (hM : M l = none) (hH : H l = some (.lst vs)) (h : RpAll K G vs ds)
    (new : ∀ (j : Nat) es, e[j]? = some (.own es) → σ[j]? ≠ some (some (.ref l))) : EnvO K B G M H (σ.set i (some (.ref l))) (e.set i (.own ds)) where
  len := by rw [List.length_set, List.length_set, v.len]
  dat := fun j d' hj => by
    rcases set_cases hj with ⟨_, e1, hl⟩ | ⟨hne, hj⟩
    · cases e1
    · obtain ⟨w, h1, h2⟩ := v.dat j d' hj
      exact ⟨w, by rw [List.getElem?_set_ne hne]; exact h1, h2⟩
  own := fun j es hj => by
    rcases set_cases hj with ⟨rfl, e1, hl⟩ | ⟨hne, hj⟩
    · injection e1 with e1
      subst e1
      exact ⟨l, vs, List.getElem?_set_self (by rw [v.len]; exact hl), hB, hG, hM, hH, h⟩
    · obtain ⟨l', vs', h1, h2⟩ := v.own j es hj
      exact ⟨l', vs', by rw [List.getElem?_set_ne hne]; exact h1, h2⟩
  sep := fun j k es fs a hj hk h1 h2 => by
    rcases set_cases hj with ⟨e1, _, hl⟩ | ⟨hne, hj⟩
    · rcases set_cases hk with ⟨e2, _, _⟩ | ⟨hne2, hk⟩
      · rw [← e1, ← e2]
      · subst e1
        rw [List.getElem?_set_self (by rw [v.len]; exact hl)] at h1
        rw [List.getElem?_set_ne hne2] at h2
        cases h1
        exact absurd h2 (new k _ hk)
    · rw [List.getElem?_set_ne hne] at h1
      rcases set_cases hk with ⟨e2, _, hl⟩ | ⟨hne2, hk⟩
      · subst e2
        rw [List.getElem?_set_self (by rw [v.len]; exact hl)] at h2
        cases h2
        exact absurd h1 (new j _ hj)
      · rw [List.getElem?_set_ne hne2] at h2
        exact v.sep j k es fs a hj hk h1 h2
/-- the own list of a slot is changed -/
theorem EnvO.mutO (v : EnvO K B G M H σ e) {i : Nat} {l : Addr} {vs' : List V} {ds ds' : List PyData} (hi : e[i]? = some (.own ds)) (hl : σ[i]? = some (some (.ref l))) (h : RpAll K G vs' ds') :
    EnvO K B G M (upd H l (.lst vs')) σ (e.set i (.own ds')) where
  len := by rw [List.length_set, v.len]
  dat := fun j d' hj => by
    rcases set_cases hj with ⟨_, e1, _⟩ | ⟨hne, hj⟩
    · cases e1
    · exact v.dat j d' hj
  own := fun j es hj => by
    rcases set_cases hj with ⟨rfl, e1, _⟩ | ⟨hne, hj⟩
    · injection e1 with e1
      subst e1
      obtain ⟨l', ws, h1, h2, h3, h4, h5, h6⟩ := v.own i ds hi
      rw [hl] at h1
      cases h1
      exact ⟨l, vs', hl, h2, h3, h4, upd_same, h⟩
    · obtain ⟨l', ws, h1, h2, h3, h4, h5, h6⟩ := v.own j es hj
      have : l' ≠ l := fun q => hne (v.sep i j ds es l hi hj hl (by rw [← q]; exact h1))
      exact ⟨l', ws, h1, h2, h3, h4, by rw [upd_ne this]; exact h5, h6⟩
  sep := fun j k es fs a hj hk h1 h2 => by
    have own_of : ∀ (j : Nat) es, (e.set i (.own ds'))[j]? = some (.own es) → ∃ es', e[j]? = some (.own es') := fun j es hj => by
      rcases set_cases hj with ⟨q, _, _⟩ | ⟨_, hj⟩
      · exact ⟨ds, by rw [← q]; exact hi⟩
      · exact ⟨es, hj⟩
    obtain ⟨es', hj'⟩ := own_of j es hj
    obtain ⟨fs', hk'⟩ := own_of k fs hk
    exact v.sep j k _ _ a hj' hk' h1 h2
/-- the own list of a slot comes to stay: it is a datum from now on -/
theorem EnvO.frz (v : EnvO K B G M H σ e) {i : Nat} {ds : List PyData} (hi : e[i]? = some (.own ds)) : ∃ l vs, σ[i]? = some (some (.ref l)) ∧ B l = none ∧ G l = none ∧ M l = none ∧ H l = some (.lst vs) ∧
    EnvO K B (upd G l (.lst vs)) M H σ (e.set i (.dat (.list ds))) := by
  obtain ⟨l, vs, h1, h2, h3, h4, h5, h6⟩ := v.own i ds hi
  have sm : Same G (upd G l (.lst vs)) := same_new h3
  refine ⟨l, vs, h1, h2, h3, h4, h5, by rw [List.length_set, v.len], fun j d hj => ?_, fun j es hj => ?_, fun j k es fs a hj hk g1 g2 => ?_⟩
  · rcases set_cases hj with ⟨rfl, e1, _⟩ | ⟨hne, hj⟩
    · injection e1 with e1
      subst e1
      exact ⟨.ref l, h1, .lst upd_same (h6.mono sm)⟩
    · obtain ⟨w, g1, g2⟩ := v.dat j d hj
      exact ⟨w, g1, g2.mono sm⟩
  · rcases set_cases hj with ⟨_, e1, _⟩ | ⟨hne, hj⟩
    · cases e1
    · obtain ⟨l', ws, g1, g2, g3, g4, g5, g6⟩ := v.own j es hj
      have : l' ≠ l := fun q => hne (v.sep i j ds es l hi hj h1 (by rw [← q]; exact g1))
      exact ⟨l', ws, g1, g2, by rw [upd_ne this]; exact g3, g4, g5, g6.mono sm⟩
  · rcases set_cases hj with ⟨_, e1, _⟩ | ⟨hne, hj⟩
    · cases e1
    rcases set_cases hk with ⟨_, e1, _⟩ | ⟨hne2, hk⟩
    · cases e1
    exact v.sep j k es fs a hj hk g1 g2
end
end Fw

namespace Fw
open PySem L2

/-! ### expressions -/
section
variable (K : PySem.W.Frag) {ρ : Type} (R : ρ → Hp → Hp → Prop)
/-- te gives data as P says, the state goes with it -/
def EvS (te : TE) (e : SE) (r : ρ) (P : PyData → ρ → Prop) : Prop := ∀ (B : Hp) (σ : St) (G M H : Hp), EnvO K B G M H σ e → Wf R G M H r → ∀ Q : VK,
  (∀ v d r' G' M' H', P d r' → Stp G M H G' M' H' → Wf R G' M' H' r' → Rp K G' v d → Q v H') → te σ H Q
def EvTS (tt : TT) (e : SE) (r : ρ) (P : Bool → ρ → Prop) : Prop := ∀ (B : Hp) (σ : St) (G M H : Hp), EnvO K B G M H σ e → Wf R G M H r → ∀ Q : Bool → Hp → Prop,
  (∀ b r' G' M' H', P b r' → Stp G M H G' M' H' → Wf R G' M' H' r' → Q b H') → tt σ H Q
abbrev EvD (te : TE) (e : SE) (r : ρ) (d : PyData) : Prop := EvS K R te e r (fun d' r' => d' = d ∧ r' = r)
abbrev EvT (tt : TT) (e : SE) (r : ρ) (b : Bool) : Prop := EvTS K R tt e r (fun b' r' => b' = b ∧ r' = r)
/-- a new list -/
def EvF (te : TE) (e : SE) (r : ρ) (ds : List PyData) : Prop := ∀ (B : Hp) (σ : St) (G M H : Hp), EnvO K B G M H σ e → Wf R G M H r → ∀ Q : VK,
  (∀ l vs G' M' H', Stp G M H G' M' H' → Wf R G' M' H' r → H l = none → G' l = none → M' l = none → H' l = some (.lst vs) → RpAll K G' vs ds → Q (.ref l) H') → te σ H Q
def EvA (ta : TA) (e : SE) (r : ρ) (ds : List PyData) : Prop := ∀ (B : Hp) (σ : St) (G M H : Hp), EnvO K B G M H σ e → Wf R G M H r → ∀ Q : List V → Hp → Prop,
  (∀ vs G' M' H', Stp G M H G' M' H' → Wf R G' M' H' r → RpAll K G' vs ds → Q vs H') → ta σ H Q
def EvO (to : TO) (e : SE) (r : ρ) (o : Option Int) : Prop := ∀ (B : Hp) (σ : St) (G M H : Hp), EnvO K B G M H σ e → Wf R G M H r → ∀ Q : Option Int → Hp → Prop,
  (∀ G' M' H', Stp G M H G' M' H' → Wf R G' M' H' r → Q o H') → to σ H Q
end
/-- by values: a pure step (no change of M) -/
structure Al (G M H G' H' : Hp) : Prop where
  st : Stp G M H G' M H'
  gh : Same G' H'
  mh : Same M H'
  dj : ∀ b, M b ≠ none → G' b = none
def Pre (G M H : Hp) : Prop := Same G H ∧ Same M H ∧ ∀ b, M b ≠ none → G b = none
def OpD (K : PySem.W.Frag) (r2 : R2) (d1 d2 d3 : PyData) : Prop := ∀ x y G M H, Pre G M H → Rp K G x d1 → Rp K G y d2 → ∀ Q : VK, (∀ z G' H', Al G M H G' H' → Rp K G' z d3 → Q z H') → r2 x y H Q
def OpF (K : PySem.W.Frag) (r2 : R2) (d1 d2 : PyData) (ds : List PyData) : Prop := ∀ x y G M H, Pre G M H → Rp K G x d1 → Rp K G y d2 → ∀ Q : VK,
  (∀ l vs H', (∀ b o, H b = some o → H' b = some o) → H l = none → H' l = some (.lst vs) → RpAll K G vs ds → Q (.ref l) H') → r2 x y H Q
def UnD (K : PySem.W.Frag) (r : V → Hp → VK → Prop) (d1 d3 : PyData) : Prop := ∀ x G M H, Pre G M H → Rp K G x d1 → ∀ Q : VK, (∀ z, Rp K G z d3 → Q z H) → r x H Q
/-- a call of a builtin -/
def CbD (K : PySem.W.Frag) (r : List V → Hp → VK → Prop) (ds : List PyData) (d3 : PyData) : Prop := ∀ vs G M H, Pre G M H → RpAll K G vs ds → ∀ Q : VK, (∀ z, Rp K G z d3 → Q z H) → r vs H Q
def CbF (K : PySem.W.Frag) (r : List V → Hp → VK → Prop) (ds : List PyData) (es : List PyData) : Prop := ∀ vs G M H, Pre G M H → RpAll K G vs ds → ∀ Q : VK,
  (∀ l ws H', (∀ b o, H b = some o → H' b = some o) → H l = none → H' l = some (.lst ws) → RpAll K G ws es → Q (.ref l) H') → r vs H Q

section
variable {K : PySem.W.Frag} {ρ : Type} {R : ρ → Hp → Hp → Prop} {e : SE} {r : ρ} {ta tb te tc : TE} {t u : TT} {d d1 d2 d3 : PyData} {ds es : List PyData} {G M H G' H' : Hp}
theorem Wf.pre (w : Wf R G M H r) : Pre G M H := ⟨w.gh, w.mh, w.dj⟩
theorem Al.refl (p : Pre G M H) : Al G M H G H := ⟨Stp.refl _ _ _, p.1, p.2.1, p.2.2⟩
theorem Wf.al [Stab R] (w : Wf R G M H r) (a : Al G M H G' H') : Wf R G' M H' r := ⟨a.gh, a.mh, a.dj, Stab.out r G G' M a.st.gg a.dj w.res⟩
theorem Al.new (p : Pre G M H) {q : Addr} (h : H q = none) (o : HO) : Al G M H (upd G q o) (upd H q o) := by
  obtain ⟨p1, p2, p3⟩ := p
  refine ⟨Stp.alloc (p1.free h) h o, same_both p1, same_upd p2 (p2.free h), fun b hb => ?_⟩
  have : b ≠ q := fun e => hb (by rw [e]; exact p2.free h)
  rw [upd_ne this]; exact p3 b hb
theorem Al.trans {G'' H'' : Hp} (a : Al G M H G' H') (b : Al G' M H' G'' H'') : Al G M H G'' H'' := ⟨a.st.trans b.st, b.gh, b.mh, b.dj⟩
theorem Al.pre (a : Al G M H G' H') : Pre G' M H' := ⟨a.gh, a.mh, a.dj⟩

/-- from a new list to a datum -/
theorem EvF.ev [Stab R] (h : EvF K R te e r ds) : EvD K R te e r (.list ds) := fun B σ G M H v w Q q =>
  h B σ G M H v w Q fun l vs G' M' H' s w' h1 h2 h3 h4 h5 => q (.ref l) (.list ds) r _ M' H' ⟨rfl, rfl⟩ (s.freeze h1 h2) (w'.freeze h4 h2 h3) (.lst upd_same (h5.mono (same_new h2)))
theorem EvS.imp {P P' : PyData → ρ → Prop} (h : EvS K R te e r P) (hp : ∀ d r', P d r' → P' d r') : EvS K R te e r P' := fun B σ G M H v w Q q =>
  h B σ G M H v w Q fun x d r' G' M' H' p => q x d r' G' M' H' (hp d r' p)
theorem EvS.of (h : EvD K R te e r d) {P : PyData → ρ → Prop} (hp : P d r) : EvS K R te e r P := h.imp fun d' r' ⟨e1, e2⟩ => by rw [e1, e2]; exact hp
theorem EvTS.imp {P P' : Bool → ρ → Prop} (h : EvTS K R t e r P) (hp : ∀ d r', P d r' → P' d r') : EvTS K R t e r P' := fun B σ G M H v w Q q =>
  h B σ G M H v w Q fun b r' G' M' H' p => q b r' G' M' H' (hp b r' p)
theorem EvT.is {b b' : Bool} (h : EvT K R t e r b) (eq : b = b') : EvT K R t e r b' := eq ▸ h
theorem EvD.is {d d' : PyData} (h : EvD K R te e r d) (eq : d = d') : EvD K R te e r d' := eq ▸ h
/-- one after the other -/
theorem ev_seq2 {ta tb : TE} {P1 : PyData → ρ → Prop} {P2 : PyData → PyData → ρ → Prop} (ha : EvS K R ta e r P1) (hb : ∀ d1 r1, P1 d1 r1 → EvS K R tb e r1 (P2 d1)) (B : Hp) (σ : St) (G M H : Hp) (v : EnvO K B G M H σ e) (w : Wf R G M H r)
    (Q : V → V → Hp → Prop) (q : ∀ x y d1 d2 r2 G' M' H', P2 d1 d2 r2 → Stp G M H G' M' H' → Wf R G' M' H' r2 → Rp K G' x d1 → Rp K G' y d2 → Q x y H') : ta σ H fun x H1 => tb σ H1 fun y H2 => Q x y H2 :=
  ha B σ G M H v w _ fun x d1 r1 G1 M1 H1 p1 s1 w1 h1 => hb d1 r1 p1 B σ G1 M1 H1 (v.step s1) w1 _ fun y d2 r2 G2 M2 H2 p2 s2 w2 h2 => q x y d1 d2 r2 G2 M2 H2 p2 (s1.trans s2) w2 (h1.mono s2.gg) h2

theorem ev_var {i : Nat} (h : e[i]? = some (.dat d)) : EvD K R (tVar i) e r d := fun B σ G M H v w Q q => by
  obtain ⟨x, h1, h2⟩ := v.dat i d h
  exact ⟨x, h1, q x d r G M H ⟨rfl, rfl⟩ (Stp.refl _ _ _) w h2⟩
theorem ev_c {v : V} (h : ∀ G, Rp K G v d) : EvD K R (tC v) e r d := fun B σ G M H _ w Q q => q v d r G M H ⟨rfl, rfl⟩ (Stp.refl _ _ _) w (h G)
theorem ev_int {i : Int} : EvD K R (tC (.int i)) e r (.int i) := ev_c fun _ => .int i
theorem ev_str {x : Str} : EvD K R (tC (.str x)) e r (.str x) := ev_c fun _ => .str x
theorem ev_bl {b : Bool} : EvD K R (tC (.bl b)) e r (.bool b) := ev_c fun _ => .bl b
theorem ev_non : EvD K R (tC .non) e r .none := ev_c fun _ => .non
theorem evs_op [Stab R] {r2 : R2} {P1 : PyData → ρ → Prop} {P2 : PyData → PyData → ρ → Prop} {P3 : PyData → ρ → Prop} (ha : EvS K R ta e r P1) (hb : ∀ d1 r1, P1 d1 r1 → EvS K R tb e r1 (P2 d1))
    (hr : ∀ d1 d2 r', P2 d1 d2 r' → ∃ d3, OpD K r2 d1 d2 d3 ∧ P3 d3 r') : EvS K R (tOp r2 ta tb) e r P3 := fun B σ G M H v w Q q =>
  ev_seq2 ha hb B σ G M H v w _ fun x y d1 d2 r' G' M' H' p s w' h1 h2 => by
    obtain ⟨d3, o, p3⟩ := hr d1 d2 r' p
    exact o x y G' M' H' w'.pre h1 h2 Q fun z G3 H3 a h3 => q z d3 r' G3 M' H3 p3 (s.trans a.st) (w'.al a) h3
theorem ev_op [Stab R] {r2 : R2} (ha : EvD K R ta e r d1) (hb : EvD K R tb e r d2) (hr : OpD K r2 d1 d2 d3) : EvD K R (tOp r2 ta tb) e r d3 :=
  evs_op (P2 := fun x y r' => x = d1 ∧ y = d2 ∧ r' = r) ha (fun _ _ ⟨e1, e2⟩ => by rw [e1, e2]; exact hb.imp fun _ _ ⟨e3, e4⟩ => ⟨rfl, e3, e4⟩) fun _ _ _ ⟨e1, e2, e3⟩ => by rw [e1, e2, e3]; exact ⟨d3, hr, rfl, rfl⟩
theorem evf_op [Stab R] {r2 : R2} (ha : EvD K R ta e r d1) (hb : EvD K R tb e r d2) (hr : OpF K r2 d1 d2 ds) : EvF K R (tOp r2 ta tb) e r ds := fun B σ G M H v w Q q =>
  ev_seq2 (P2 := fun x y r' => x = d1 ∧ y = d2 ∧ r' = r) ha (fun _ _ ⟨e1, e2⟩ => by rw [e1, e2]; exact hb.imp fun _ _ ⟨e3, e4⟩ => ⟨rfl, e3, e4⟩) B σ G M H v w _ fun x y _ _ r' G' M' H' ⟨e1, e2, e3⟩ s w' h1 h2 => by
    subst e1 e2 e3
    refine hr x y G' M' H' w'.pre h1 h2 Q fun l vs H3 k hl h3 hd => ?_
    have hg := w'.gn hl
    have hm := w'.mn hl
    have h0 : H l = none := by
      cases z : H l with
      | none => rfl
      | some o => exact absurd hl (s.th l (some_ne z))
    refine q l vs G' M' H3 ⟨s.gg, fun b hb => ?_, fun b o hb m => k _ _ (s.fr b o hb m), s.ng, s.nm⟩ ⟨w'.gh.trans k, w'.mh.trans k, w'.dj, w'.res⟩ h0 hg hm h3 hd
    cases z : H' b with
    | none => exact absurd z (s.th b hb)
    | some o => exact some_ne (k b o z)
theorem ev_un {r1 : V → Hp → VK → Prop} (ha : EvD K R ta e r d1) (hr : UnD K r1 d1 d3) : EvD K R (tUn r1 ta) e r d3 := fun B σ G M H v w Q q =>
  ha B σ G M H v w _ fun x d r' G' M' H' ⟨e1, e2⟩ s w' h => by
    subst e1 e2
    exact hr x G' M' H' w'.pre h Q fun z hz => q z d3 r' G' M' H' ⟨rfl, rfl⟩ s w' hz

/-! ### operators by values -/
theorem op_of {r2 : R2} {g : V} {x y : V} (hx : ∀ G, Rp K G x d1) (hy : ∀ G, Rp K G y d2) (ix : ∀ G v, Rp K G v d1 → v = x) (iy : ∀ G v, Rp K G v d2 → v = y) (hz : ∀ G, Rp K G g d3) (h : ∀ H (Q : VK), Q g H → r2 x y H Q) : OpD K r2 d1 d2 d3 :=
  fun a b G M H p h1 h2 Q q => by
    rw [ix G a h1, iy G b h2]
    exact h H Q (q g G H (Al.refl p) (hz G))
section
variable {i j : Int} {a b : Str} {p q : Bool}
theorem opI {g : Int → Int → Int} : OpD K (rI0 fun i j => .int (g i j)) (.int i) (.int j) (.int (g i j)) :=
  op_of (fun _ => .int i) (fun _ => .int j) (fun _ _ h => h.int_inv) (fun _ _ h => h.int_inv) (fun _ => .int _) fun H Q q => ⟨i, j, rfl, rfl, q⟩
theorem opIC {C : Int → Int → Prop} {g : Int → Int → Int} (c : C i j) : OpD K (rI C fun i j => .int (g i j)) (.int i) (.int j) (.int (g i j)) :=
  op_of (fun _ => .int i) (fun _ => .int j) (fun _ _ h => h.int_inv) (fun _ _ h => h.int_inv) (fun _ => .int _) fun H Q q => ⟨i, j, rfl, rfl, c, q⟩
theorem opB {g : Int → Int → Bool} : OpD K (rI0 fun i j => .bl (g i j)) (.int i) (.int j) (.bool (g i j)) :=
  op_of (fun _ => .int i) (fun _ => .int j) (fun _ _ h => h.int_inv) (fun _ _ h => h.int_inv) (fun _ => .bl _) fun H Q q => ⟨i, j, rfl, rfl, q⟩
theorem opEqI : OpD K rEq (.int i) (.int j) (.bool (decide (i = j))) :=
  op_of (g := .bl (decide (i = j))) (fun _ => .int i) (fun _ => .int j) (fun _ _ h => h.int_inv) (fun _ _ h => h.int_inv) (fun _ => .bl _) fun H Q q => ⟨rfl, by rw [show decide (V.int i = V.int j) = decide (i = j) from by rw [dec_int]; by_cases h : i = j <;> simp [h]]; exact q⟩
theorem opNeI : OpD K rNe (.int i) (.int j) (.bool (!decide (i = j))) :=
  op_of (g := .bl (!decide (i = j))) (fun _ => .int i) (fun _ => .int j) (fun _ _ h => h.int_inv) (fun _ _ h => h.int_inv) (fun _ => .bl _) fun H Q q => ⟨rfl, by rw [show decide (V.int i = V.int j) = decide (i = j) from by rw [dec_int]; by_cases h : i = j <;> simp [h]]; exact q⟩
theorem opEqS : OpD K rEq (.str a) (.str b) (.bool (decide (a = b))) :=
  op_of (g := .bl (decide (a = b))) (fun _ => .str a) (fun _ => .str b) (fun _ _ h => h.str_inv) (fun _ _ h => h.str_inv) (fun _ => .bl _) fun H Q q => ⟨rfl, by rw [show decide (V.str a = V.str b) = decide (a = b) from by by_cases h : a = b <;> simp [h]]; exact q⟩
theorem opEqB : OpD K rEq (.bool p) (.bool q) (.bool (decide (p = q))) :=
  op_of (g := .bl (decide (p = q))) (fun _ => .bl p) (fun _ => .bl q) (fun _ _ h => h.bl_inv) (fun _ _ h => h.bl_inv) (fun _ => .bl _) fun H Q z => ⟨rfl, by rw [show decide (V.bl p = V.bl q) = decide (p = q) from by by_cases h : p = q <;> simp [h]]; exact z⟩
theorem opNeB : OpD K rNe (.bool p) (.bool q) (.bool (!decide (p = q))) :=
  op_of (g := .bl (!decide (p = q))) (fun _ => .bl p) (fun _ => .bl q) (fun _ _ h => h.bl_inv) (fun _ _ h => h.bl_inv) (fun _ => .bl _) fun H Q z => ⟨rfl, by rw [show decide (V.bl p = V.bl q) = decide (p = q) from by by_cases h : p = q <;> simp [h]]; exact z⟩
theorem opIsB : OpD K rIsB (.bool p) (.bool q) (.bool (decide (p = q))) :=
  op_of (fun _ => .bl p) (fun _ => .bl q) (fun _ _ h => h.bl_inv) (fun _ _ h => h.bl_inv) (fun _ => .bl _) fun H Q z => ⟨p, q, rfl, rfl, z⟩
theorem opNotB : OpD K rNotB (.bool p) (.bool q) (.bool (!decide (p = q))) :=
  op_of (fun _ => .bl p) (fun _ => .bl q) (fun _ _ h => h.bl_inv) (fun _ _ h => h.bl_inv) (fun _ => .bl _) fun H Q z => ⟨p, q, rfl, rfl, z⟩
theorem opCatS (h : a.length + b.length ≤ sizeLine) : OpD K (fun x y H Q => ∃ i j, x = .str i ∧ y = .str j ∧ i.length + j.length ≤ sizeLine ∧ Q (.str (i ++ j)) H) (.str a) (.str b) (.str (a ++ b)) :=
  op_of (fun _ => .str a) (fun _ => .str b) (fun _ _ h => h.str_inv) (fun _ _ h => h.str_inv) (fun _ => .str _) fun H Q z => ⟨a, b, rfl, rfl, h, z⟩
end
theorem opEqD (p1 : plainD d1 = true) (p2 : plainD d2 = true) (s1 : SeqAt.shaped d1 = true) (s2 : SeqAt.shaped d2 = true) : OpD K (rEqD K) d1 d2 (.bool (PyData.eqv d1 d2)) :=
  fun x y G M H p h1 h2 Q q => ⟨d1, d2, Rp.dp p.1 d1 x p1 h1, Rp.dp p.1 d2 y p2 h2, s1, s2, q _ G H (Al.refl p) (.bl _)⟩
theorem opNeD (p1 : plainD d1 = true) (p2 : plainD d2 = true) (s1 : SeqAt.shaped d1 = true) (s2 : SeqAt.shaped d2 = true) : OpD K (rNeD K) d1 d2 (.bool (!PyData.eqv d1 d2)) :=
  fun x y G M H p h1 h2 Q q => ⟨d1, d2, Rp.dp p.1 d1 x p1 h1, Rp.dp p.1 d2 y p2 h2, s1, s2, q _ G H (Al.refl p) (.bl _)⟩
theorem opCat (h : ds.length + es.length ≤ sizeLine) : OpF K rCat (.list ds) (.list es) (ds ++ es) := fun x y G M H p h1 h2 Q q => by
  obtain ⟨a, xs, rfl, g1, r1⟩ := h1.lst_inv
  obtain ⟨b, ys, rfl, g2, r2⟩ := h2.lst_inv
  exact ⟨a, b, xs, ys, rfl, rfl, p.1 _ _ g1, p.1 _ _ g2, by rw [r1.length, r2.length]; exact h, fun l hl => q l _ _ (same_new hl) hl upd_same (r1.append r2)⟩
theorem opRep {k : Int} (h1 : -(2 ^ 63) ≤ k) (h2 : k < 2 ^ 63) (h : ds.length * k.toNat ≤ sizeLine) : OpF K rRep (.list ds) (.int k) (List.replicate k.toNat ds).flatten := fun x y G M H p g1 g2 Q q => by
  obtain ⟨a, xs, rfl, g1, r1⟩ := g1.lst_inv
  rw [g2.int_inv]
  exact ⟨a, k, xs, rfl, rfl, p.1 _ _ g1, h1, h2, by rw [r1.length]; exact h, fun l hl => q l _ _ (same_new hl) hl upd_same (r1.rep _)⟩
theorem ixN_len {n m : Nat} {i : Int} (h : n = m) : ixN n i = ixN m i := by rw [h]
theorem RpAll.atI {G : Hp} {vs : List V} {i : Int} (h : RpAll K G vs ds) (ha : L2.atI ds i = some d) : ∃ v, L2.atI vs i = some v ∧ Rp K G v d := by
  unfold L2.atI at ha ⊢
  rw [h.length]
  cases z : ixN ds.length i with
  | none => rw [z] at ha; cases ha
  | some j =>
    rw [z] at ha
    exact h.get (i := j) ha
theorem opIxL {i : Int} (h : L2.atI ds i = some d) : OpD K (rIxL K) (.list ds) (.int i) d := fun x y G M H p h1 h2 Q q => by
  obtain ⟨a, xs, rfl, g1, r1⟩ := h1.lst_inv
  rw [h2.int_inv]
  obtain ⟨v, e1, e2⟩ := r1.atI h
  exact ⟨a, xs, i, v, rfl, rfl, SqL.of (p.1 _ _ g1), e1, q v G H (Al.refl p) e2⟩
theorem opIxT {i : Int} (h : L2.atI ds i = some d) : OpD K (rIxT K) (.tuple ds) (.int i) d := fun x y G M H p h1 h2 Q q => by
  obtain ⟨a, xs, rfl, g1, r1⟩ := h1.tup_inv
  rw [h2.int_inv]
  obtain ⟨v, e1, e2⟩ := r1.atI h
  exact ⟨a, xs, i, v, rfl, rfl, SqT.of (p.1 _ _ g1), e1, q v G H (Al.refl p) e2⟩
theorem opIxScr {i n : Int} {ns : List Int} (h : L2.atI ns i = some n) : OpD K (rIxL K) (scrD ns) (.int i) (.int n) := fun x y G M H p h1 h2 Q q => by
  obtain ⟨a, rfl, g1⟩ := h1.scr_inv
  rw [h2.int_inv]
  refine ⟨a, ns.map V.int, i, .int n, rfl, rfl, p.1.seq g1, ?_, q _ G H (Al.refl p) (.int n)⟩
  unfold L2.atI at h ⊢
  rw [List.length_map]
  cases z : ixN ns.length i with
  | none => rw [z] at h; cases h
  | some j =>
    rw [z] at h
    show (ns.map V.int)[j]? = some (V.int n)
    rw [List.getElem?_map, show ns[j]? = some n from h]; rfl
theorem opIxS {i : Int} {w : Str} {c : Nat} (hl : w.length ≤ sizeLine) (h : L2.atI w.cps.toList i = some c) : OpD K rIxS (.str w) (.int i) (.str ⟨#[c]⟩) := fun x y G M H p h1 h2 Q q => by
  rw [h1.str_inv, h2.int_inv]
  exact ⟨w, i, c, rfl, rfl, hl, h, q _ G H (Al.refl p) (.str _)⟩
theorem opNeg {i : Int} : UnD K (rU fun i => .int (-i)) (.int i) (.int (-i)) := fun x G M H p h Q q => by
  rw [h.int_inv]
  exact ⟨i, rfl, q _ (.int _)⟩

/-! ### arguments, displays -/
theorem ea_nil : EvA K R tNil e r [] := fun B σ G M H v w Q q => q [] G M H (Stp.refl _ _ _) w .nil
theorem ea_cons {tr : TA} (h : EvD K R te e r d) (hr : EvA K R tr e r ds) : EvA K R (tCons te tr) e r (d :: ds) := fun B σ G M H v w Q q =>
  h B σ G M H v w _ fun x d' r' G1 M1 H1 ⟨e1, e2⟩ s1 w1 h1 => by
    subst e1 e2
    exact hr B σ G1 M1 H1 (v.step s1) w1 _ fun xs G2 M2 H2 s2 w2 h2 => q (x :: xs) G2 M2 H2 (s1.trans s2) w2 (.cons (h1.mono s2.gg) h2)
theorem free_back {G M H G' M' H' : Hp} (s : Stp G M H G' M' H') {l : Addr} (h : H' l = none) : H l = none := by
  cases z : H l with
  | none => rfl
  | some o => exact absurd h (s.th l (some_ne z))
theorem evf_lst {ta : TA} (h : EvA K R ta e r ds) (hl : ds.length ≤ sizeLine) : EvF K R (tLst ta) e r ds := fun B σ G M H v w Q q =>
  h B σ G M H v w _ fun vs G1 M1 H1 s w1 h1 => ⟨by rw [h1.length]; exact hl, fun p hp => q p vs G1 M1 _ (s.hid (free_back s hp) _) (w1.hid (w1.gn hp) (w1.mn hp) _) (free_back s hp) (w1.gn hp) (w1.mn hp) upd_same h1⟩
theorem ev_lst [Stab R] {ta : TA} (h : EvA K R ta e r ds) (hl : ds.length ≤ sizeLine) : EvD K R (tLst ta) e r (.list ds) := (evf_lst h hl).ev
theorem ev_tup [Stab R] {ta : TA} (h : EvA K R ta e r ds) (hl : ds.length ≤ sizeLine) : EvD K R (tTup ta) e r (.tuple ds) := fun B σ G M H v w Q q =>
  h B σ G M H v w _ fun vs G1 M1 H1 s w1 h1 => ⟨by rw [h1.length]; exact hl, fun p hp => q (.ref p) _ r (upd G1 p (.tup vs)) M1 _ ⟨rfl, rfl⟩ (s.trans (Stp.alloc (w1.gn hp) hp _)) (w1.alloc hp _) (.tup upd_same (h1.mono (same_new (w1.gn hp))))⟩

/-! ### slices -/
theorem eo_none : EvO K R tNoPart e r none := fun B σ G M H v w Q q => q G M H (Stp.refl _ _ _) w
theorem eo_some {i : Int} (h : EvD K R te e r (.int i)) : EvO K R (tPart te) e r (some i) := fun B σ G M H v w Q q =>
  h B σ G M H v w _ fun x d r' G' M' H' ⟨e1, e2⟩ s w' hx => by
    subst e1 e2
    exact ⟨i, hx.int_inv, q G' M' H' s w'⟩
def cutD {α : Type} (xs : List α) (lo hi : Option Int) : List α := (xs.drop (HT.sIx xs.length 0 lo)).take (HT.sIx xs.length xs.length hi - HT.sIx xs.length 0 lo)
theorem evf_sl [Stab R] {tl th : TO} {lo hi : Option Int} (h : EvD K R te e r (.list ds)) (h1 : EvO K R tl e r lo) (h2 : EvO K R th e r hi) : EvF K R (tSl (rSlL K) te tl th) e r (cutD ds lo hi) := fun B σ G M H v w Q q =>
  h B σ G M H v w _ fun x d r' G1 M1 H1 ⟨e1, e2⟩ s1 w1 hx => by
    subst e1 e2
    refine h1 B σ G1 M1 H1 (v.step s1) w1 _ fun G2 M2 H2 s2 w2 => h2 B σ G2 M2 H2 ((v.step s1).step s2) w2 _ fun G3 M3 H3 s3 w3 => ?_
    obtain ⟨a, xs, rfl, g1, rr⟩ := hx.lst_inv
    have s13 := s2.trans s3
    have rr3 := rr.mono s13.gg
    refine ⟨a, xs, rfl, SqL.of (w3.gh _ _ (s13.gg _ _ g1)), fun p hp => ?_⟩
    have s := s1.trans s13
    refine q p _ G3 M3 _ (s.hid (free_back s hp) _) (w3.hid (w3.gn hp) (w3.mn hp) _) (free_back s hp) (w3.gn hp) (w3.mn hp) upd_same ?_
    unfold cutD cutV
    rw [rr.length]
    exact (rr3.drop _).take _

/-! ### builtins -/
theorem ev_cb {f : List V → Hp → VK → Prop} {ta : TA} (h : EvA K R ta e r ds) (hr : CbD K f ds d3) : EvD K R (tCB f ta) e r d3 := fun B σ G M H v w Q q =>
  h B σ G M H v w _ fun vs G' M' H' s w' hv => hr vs G' M' H' w'.pre hv Q fun z hz => q z d3 r G' M' H' ⟨rfl, rfl⟩ s w' hz
theorem evf_cb {f : List V → Hp → VK → Prop} {ta : TA} (h : EvA K R ta e r ds) (hr : CbF K f ds es) : EvF K R (tCB f ta) e r es := fun B σ G M H v w Q q =>
  h B σ G M H v w _ fun vs G' M' H' s w' hv => hr vs G' M' H' w'.pre hv Q fun l ws H3 k hl h3 hd => by
    refine q l ws G' M' H3 ⟨s.gg, fun b hb => ?_, fun b o hb m => k _ _ (s.fr b o hb m), s.ng, s.nm⟩ ⟨w'.gh.trans k, w'.mh.trans k, w'.dj, w'.res⟩ (free_back s hl) (w'.gn hl) (w'.mn hl) h3 hd
    cases z : H' b with
    | none => exact absurd z (s.th b hb)
    | some o => exact some_ne (k b o z)
def rLenS (K : PySem.W.Frag) : List V → Hp → VK → Prop := fun xs H Q => ∃ p ys, xs = [.ref p] ∧ (SqL K H p ys ∨ SqT K H p ys) ∧ Q (.int ys.length) H
theorem cbLen : CbD K (rLenS K) [.list ds] (.int (ds.length : Int)) := fun vs G M H p h Q q => by
  obtain ⟨v, ws, rfl, h1, h2⟩ := h.cons_inv
  rw [h2.nil_inv]
  obtain ⟨a, xs, rfl, g1, rr⟩ := h1.lst_inv
  refine ⟨a, xs, rfl, .inl (SqL.of (p.1 _ _ g1)), ?_⟩
  rw [rr.length]
  exact q _ (.int _)
theorem cbLenT : CbD K (rLenS K) [.tuple ds] (.int (ds.length : Int)) := fun vs G M H p h Q q => by
  obtain ⟨v, ws, rfl, h1, h2⟩ := h.cons_inv
  rw [h2.nil_inv]
  obtain ⟨a, xs, rfl, g1, rr⟩ := h1.tup_inv
  refine ⟨a, xs, rfl, .inr (SqT.of (p.1 _ _ g1)), ?_⟩
  rw [rr.length]
  exact q _ (.int _)
theorem cbLenScr {ns : List Int} : CbD K (rLenS K) [scrD ns] (.int (ns.length : Int)) := fun vs G M H p h Q q => by
  obtain ⟨v, ws, rfl, h1, h2⟩ := h.cons_inv
  rw [h2.nil_inv]
  obtain ⟨a, rfl, g1⟩ := h1.scr_inv
  refine ⟨a, _, rfl, .inl (p.1.seq g1), ?_⟩
  rw [List.length_map]
  exact q _ (.int _)
def rListS (K : PySem.W.Frag) : List V → Hp → VK → Prop := fun xs H Q => ∃ p ys, xs = [.ref p] ∧ (SqL K H p ys ∨ SqT K H p ys) ∧ ∀ l, H l = none → Q (.ref l) (upd H l (.lst ys))
theorem cbList : CbF K (rListS K) [.list ds] ds := fun vs G M H p h Q q => by
  obtain ⟨v, ws, rfl, h1, h2⟩ := h.cons_inv
  rw [h2.nil_inv]
  obtain ⟨a, xs, rfl, g1, rr⟩ := h1.lst_inv
  exact ⟨a, xs, rfl, .inl (SqL.of (p.1 _ _ g1)), fun l hl => q l xs _ (same_new hl) hl upd_same rr⟩
theorem cb2 {f : Int → Int → Int} {i j : Int} : CbD K (fun xs H Q => ∃ i j, xs = [.int i, .int j] ∧ Q (.int (f i j)) H) [.int i, .int j] (.int (f i j)) := fun vs G M H p h Q q => by
  obtain ⟨v, ws, rfl, h1, h2⟩ := h.cons_inv
  obtain ⟨v2, ws2, rfl, h3, h4⟩ := h2.cons_inv
  rw [h4.nil_inv, h1.int_inv, h3.int_inv]
  exact ⟨i, j, rfl, q _ (.int _)⟩
theorem cb1 {f : Int → Int} {i : Int} : CbD K (fun xs H Q => ∃ i, xs = [.int i] ∧ Q (.int (f i)) H) [.int i] (.int (f i)) := fun vs G M H p h Q q => by
  obtain ⟨v, ws, rfl, h1, h2⟩ := h.cons_inv
  rw [h2.nil_inv, h1.int_inv]
  exact ⟨i, rfl, q _ (.int _)⟩
theorem cbIntB {b : Bool} : CbD K (fun xs H Q => (∃ i, xs = [.int i] ∧ Q (.int i) H) ∨ ∃ k, xs = [.bl k] ∧ Q (.int (if k then 1 else 0)) H) [.bool b] (.int (if b then 1 else 0)) := fun vs G M H p h Q q => by
  obtain ⟨v, ws, rfl, h1, h2⟩ := h.cons_inv
  rw [h2.nil_inv, h1.bl_inv]
  exact .inr ⟨b, rfl, q _ (.int _)⟩

/-! ### isinstance -/
def tyD : PyData → String
  | .none => "NoneType"
  | .bool _ => "bool"
  | .int _ => "int"
  | .str _ => "str"
  | .list _ => "list"
  | .tuple _ => "tuple"
  | .dict _ => "dict"
theorem tyx_of {K : PySem.W.Frag} {G H : Hp} (s : Same G H) {v : V} {d : PyData} (h : Rp K G v d) (hd : ∀ kvs, d ≠ .dict kvs) : TyX K H v (.type (tyD d)) := by
  cases d with
  | none => rw [h.non_inv]; exact .base .non
  | bool b => rw [h.bl_inv]; exact .base (.bl b)
  | int i => rw [h.int_inv]; exact .base (.int i)
  | str x => rw [h.str_inv]; exact .base (.str x)
  | list ds =>
    obtain ⟨a, xs, rfl, g1, rr⟩ := h.lst_inv
    exact .base (.lst (s _ _ g1))
  | tuple ds =>
    obtain ⟨a, xs, rfl, g1, rr⟩ := h.tup_inv
    exact .base (.tup (s _ _ g1))
  | dict kvs => exact absurd rfl (hd kvs)
/-- isinstance(e, a built-in class) -/
theorem ev_isi {T ty : String} {b : Bool} (h : EvD K R te e r d) (ht : tyD d = ty) (hd : ty ≠ "dict") (hk : kitB ty T = some b) : EvD K R (tCB (rIsi K) (tCons te (tCons (tC (.ty T)) tNil))) e r (.bool b) := fun B σ G M H v w Q q =>
  h B σ G M H v w _ fun x d' r' G' M' H' ⟨e1, e2⟩ s w' hx => by
    subst e1 e2 ht
    exact ⟨x, .ty T, _, .type T, b, rfl, .ty T, tyx_of w'.gh hx (fun kvs z => hd (by rw [z]; rfl)), kit_ty hk, q _ _ r' G' M' H' ⟨rfl, rfl⟩ s w' (.bl b)⟩
section
variable {i : Int} {b : Bool} {x : Str}
theorem isi_int (h : EvD K R te e r (.int i)) : EvD K R (tCB (rIsi K) (tCons te (tCons (tC (.ty "int")) tNil))) e r (.bool true) := ev_isi (ty := "int") h rfl (by decide) (by decide +kernel)
theorem isi_intB (h : EvD K R te e r (.int i)) : EvD K R (tCB (rIsi K) (tCons te (tCons (tC (.ty "bool")) tNil))) e r (.bool false) := ev_isi (ty := "int") h rfl (by decide) (by decide +kernel)
theorem isi_bool (h : EvD K R te e r (.bool b)) : EvD K R (tCB (rIsi K) (tCons te (tCons (tC (.ty "bool")) tNil))) e r (.bool true) := ev_isi (ty := "bool") h rfl (by decide) (by decide +kernel)
theorem isi_noneB (h : EvD K R te e r .none) : EvD K R (tCB (rIsi K) (tCons te (tCons (tC (.ty "bool")) tNil))) e r (.bool false) := ev_isi (ty := "NoneType") h rfl (by decide) (by decide +kernel)
theorem isi_str (h : EvD K R te e r (.str x)) : EvD K R (tCB (rIsi K) (tCons te (tCons (tC (.ty "str")) tNil))) e r (.bool true) := ev_isi (ty := "str") h rfl (by decide) (by decide +kernel)
theorem isi_list (h : EvD K R te e r (.list ds)) : EvD K R (tCB (rIsi K) (tCons te (tCons (tC (.ty "list")) tNil))) e r (.bool true) := ev_isi (ty := "list") h rfl (by decide) (by decide +kernel)
theorem isi_tup (h : EvD K R te e r (.tuple ds)) : EvD K R (tCB (rIsi K) (tCons te (tCons (tC (.ty "tuple")) tNil))) e r (.bool true) := ev_isi (ty := "tuple") h rfl (by decide) (by decide +kernel)
end

/-! ### tests -/
theorem et_test {b : Bool} (h : EvD K R te e r (.bool b)) : EvT K R (tTest te) e r b := fun B σ G M H v w Q q =>
  h B σ G M H v w _ fun x d r' G' M' H' ⟨e1, e2⟩ s w' hx => by
    subst e1
    exact ⟨b, hx.bl_inv, q b r' G' M' H' ⟨rfl, e2⟩ s w'⟩
theorem et_B {b : Bool} (h : EvD K R te e r (.bool b)) : EvT K R (tB te) e r b := fun B σ G M H v w Q q =>
  h B σ G M H v w _ fun x d r' G' M' H' ⟨e1, e2⟩ s w' hx => by
    subst e1
    exact ⟨b, hx.bl_inv, q b r' G' M' H' ⟨rfl, e2⟩ s w'⟩
theorem et_and {a b : Bool} (h1 : EvT K R t e r a) (h2 : a = true → EvT K R u e r b) : EvT K R (tAnd t u) e r (a && b) := fun B σ G M H v w Q q =>
  h1 B σ G M H v w _ fun c r' G' M' H' ⟨e1, e2⟩ s w' => by
    subst e1 e2
    cases c with
    | true =>
      show u σ H' Q
      exact h2 rfl B σ G' M' H' (v.step s) w' Q fun c r2 G2 M2 H2 ⟨e1, e2⟩ s2 w2 => q c r2 G2 M2 H2 ⟨by rw [e1]; rfl, e2⟩ (s.trans s2) w2
    | false =>
      show Q false H'
      exact q false _ G' M' H' ⟨rfl, rfl⟩ s w'
theorem et_or {a b : Bool} (h1 : EvT K R t e r a) (h2 : a = false → EvT K R u e r b) : EvT K R (tOr t u) e r (a || b) := fun B σ G M H v w Q q =>
  h1 B σ G M H v w _ fun c r' G' M' H' ⟨e1, e2⟩ s w' => by
    subst e1 e2
    cases c with
    | true =>
      show Q true H'
      exact q true _ G' M' H' ⟨rfl, rfl⟩ s w'
    | false =>
      show u σ H' Q
      exact h2 rfl B σ G' M' H' (v.step s) w' Q fun c r2 G2 M2 H2 ⟨e1, e2⟩ s2 w2 => q c r2 G2 M2 H2 ⟨by rw [e1]; rfl, e2⟩ (s.trans s2) w2
theorem et_not {a : Bool} (h1 : EvT K R t e r a) : EvT K R (tNot t) e r (!a) := fun B σ G M H v w Q q =>
  h1 B σ G M H v w _ fun c r' G' M' H' ⟨e1, e2⟩ s w' => q (!c) r' G' M' H' ⟨by rw [e1], e2⟩ s w'
theorem et_yes : EvT K R tYes e r true := fun B σ G M H v w Q q => q true r G M H ⟨rfl, rfl⟩ (Stp.refl _ _ _) w
theorem ev_andV {a b : Bool} (h1 : EvD K R ta e r (.bool a)) (h2 : a = true → EvD K R tb e r (.bool b)) : EvD K R (tAndV ta tb) e r (.bool (a && b)) := fun B σ G M H v w Q q =>
  h1 B σ G M H v w _ fun x d r' G' M' H' ⟨e1, e2⟩ s w' hx => by
    subst e1 e2
    refine ⟨a, hx.bl_inv, ?_⟩
    cases a with
    | true =>
      show tb σ H' Q
      exact h2 rfl B σ G' M' H' (v.step s) w' Q fun y d r2 G2 M2 H2 ⟨e1, e2⟩ s2 w2 hy => q y d r2 G2 M2 H2 ⟨e1, e2⟩ (s.trans s2) w2 hy
    | false =>
      show Q (.bl false) H'
      exact q _ _ _ G' M' H' ⟨rfl, rfl⟩ s w' (.bl _)
theorem ev_orV {a b : Bool} (h1 : EvD K R ta e r (.bool a)) (h2 : a = false → EvD K R tb e r (.bool b)) : EvD K R (tOrV ta tb) e r (.bool (a || b)) := fun B σ G M H v w Q q =>
  h1 B σ G M H v w _ fun x d r' G' M' H' ⟨e1, e2⟩ s w' hx => by
    subst e1 e2
    refine ⟨a, hx.bl_inv, ?_⟩
    cases a with
    | true =>
      show Q (.bl true) H'
      exact q _ _ _ G' M' H' ⟨rfl, rfl⟩ s w' (.bl _)
    | false =>
      show tb σ H' Q
      exact h2 rfl B σ G' M' H' (v.step s) w' Q fun y d r2 G2 M2 H2 ⟨e1, e2⟩ s2 w2 hy => q y d r2 G2 M2 H2 ⟨e1, e2⟩ (s.trans s2) w2 hy
theorem ev_notV {a : Bool} (h1 : EvD K R ta e r (.bool a)) : EvD K R (tNotV ta) e r (.bool (!a)) := fun B σ G M H v w Q q =>
  h1 B σ G M H v w _ fun x d r' G' M' H' ⟨e1, e2⟩ s w' hx => by
    subst e1 e2
    exact ⟨a, hx.bl_inv, q _ _ _ G' M' H' ⟨rfl, rfl⟩ s w' (.bl _)⟩
theorem ev_if {b : Bool} (h : EvT K R t e r b) (h1 : b = true → EvD K R ta e r d) (h2 : b = false → EvD K R tb e r d) : EvD K R (tIf t ta tb) e r d := fun B σ G M H v w Q q =>
  h B σ G M H v w _ fun c r' G' M' H' ⟨e1, e2⟩ s w' => by
    subst e1 e2
    cases c with
    | true =>
      show ta σ H' Q
      exact h1 rfl B σ G' M' H' (v.step s) w' Q fun y d r2 G2 M2 H2 p s2 w2 hy => q y d r2 G2 M2 H2 p (s.trans s2) w2 hy
    | false =>
      show tb σ H' Q
      exact h2 rfl B σ G' M' H' (v.step s) w' Q fun y d r2 G2 M2 H2 p s2 w2 hy => q y d r2 G2 M2 H2 p (s.trans s2) w2 hy
/-- is None, of a datum -/
def isNoneD : PyData → Bool
  | .none => true
  | _ => false
theorem isNone_of {G : Hp} {x : V} : ∀ {d : PyData}, Rp K G x d → decide (x = V.non) = isNoneD d
  | .none, hx => by rw [hx.non_inv]; rfl
  | .bool b, hx => by rw [hx.bl_inv]; rfl
  | .int i, hx => by rw [hx.int_inv]; rfl
  | .str x, hx => by rw [hx.str_inv]; rfl
  | .list ds, hx => by obtain ⟨a, xs, rfl, _⟩ := hx.lst_inv; rfl
  | .tuple ds, hx => by obtain ⟨a, xs, rfl, _⟩ := hx.tup_inv; rfl
  | .dict ds, hx => by rcases hx.dict_inv with ⟨a, ns, rfl, _⟩ | ⟨a, rfl, _⟩ <;> rfl
theorem ev_isN (h : EvD K R te e r d) : EvD K R (tIsN te) e r (.bool (isNoneD d)) := fun B σ G M H v w Q q =>
  h B σ G M H v w _ fun x d' r' G' M' H' ⟨e1, e2⟩ s w' hx => by
    subst e1 e2
    show Q (.bl (decide (x = V.non))) H'
    rw [isNone_of hx]
    exact q _ _ _ G' M' H' ⟨rfl, rfl⟩ s w' (.bl _)
theorem ev_notN (h : EvD K R te e r d) : EvD K R (tNotN te) e r (.bool (!isNoneD d)) := fun B σ G M H v w Q q =>
  h B σ G M H v w _ fun x d' r' G' M' H' ⟨e1, e2⟩ s w' hx => by
    subst e1 e2
    show Q (.bl (!decide (x = V.non))) H'
    rw [isNone_of hx]
    exact q _ _ _ G' M' H' ⟨rfl, rfl⟩ s w' (.bl _)

/-! ### calls of pure defs -/
/-- a pure def: what the arguments are, what comes -/
def spD (K : PySem.W.Frag) {α : Type} (args : α → List PyData) (pre : α → Prop) (res : α → PyData → Prop) : Sp := fun vs H Q _ => ∃ G M a, Pre G M H ∧ RpAll K G vs (args a) ∧ pre a ∧
  ∀ v d G' H', res a d → Al G M H G' H' → Rp K G' v d → Q v H'
theorem evs_call [Stab R] {α : Type} {args : α → List PyData} {pre : α → Prop} {res : α → PyData → Prop} {E : XK} {ta : TA} (a : α) (h : EvA K R ta e r (args a)) (hp : pre a) : EvS K R (tCall (spD K args pre res) [] E ta) e r (fun d r' => res a d ∧ r' = r) := fun B σ G M H v w Q q =>
  h B σ G M H v w _ fun vs G' M' H' s w' hv => ⟨G', M', a, w'.pre, by rw [List.append_nil]; exact hv, hp, fun x d G2 H2 p a hx => q x d r G2 M' H2 ⟨p, rfl⟩ (s.trans a.st) (w'.al a) hx⟩
/-- one value -/
abbrev spF (K : PySem.W.Frag) {α : Type} (args : α → List PyData) (pre : α → Prop) (f : α → PyData) : Sp := spD K args pre fun a d => d = f a
theorem ev_call [Stab R] {α : Type} {args : α → List PyData} {pre : α → Prop} {f : α → PyData} {E : XK} {ta : TA} (a : α) (h : EvA K R ta e r (args a)) (hp : pre a) : EvD K R (tCall (spF K args pre f) [] E ta) e r (f a) := evs_call a h hp
end
end Fw

namespace Fw
open PySem L2

/-! ### statements -/
structure Post (ρ : Type) where
  nx : SE → ρ → Prop
  rt : PyData → ρ → Prop
  bk : SE → ρ → Prop := fun _ _ => False
  ct : SE → ρ → Prop := fun _ _ => False
  ex : Value → ρ → Prop := fun _ _ => False
section
variable (K : PySem.W.Frag) {ρ : Type} (R : ρ → Hp → Hp → Prop) (E : XK)
/-- the ends are met: seen from the entry (G0, M0, H0) -/
structure EndsOk (G0 M0 H0 : Hp) (D : Ends) (P : Post ρ) : Prop where
  nx : ∀ e r σ G M H, P.nx e r → Stp G0 M0 H0 G M H → EnvO K H0 G M H σ e → Wf R G M H r → D.nx σ H
  rt : ∀ d r v G M H, P.rt d r → Stp G0 M0 H0 G M H → Wf R G M H r → Rp K G v d → D.rt v H
  bk : ∀ e r σ G M H, P.bk e r → Stp G0 M0 H0 G M H → EnvO K H0 G M H σ e → Wf R G M H r → D.bk σ H
  ct : ∀ e r σ G M H, P.ct e r → Stp G0 M0 H0 G M H → EnvO K H0 G M H σ e → Wf R G M H r → D.ct σ H
  ex : ∀ c r G M H, P.ex c r → Stp G0 M0 H0 G M H → Wf R G M H r → E c none H
def SP (ts : TS) (e : SE) (r : ρ) (P : Post ρ) : Prop := ∀ (G0 M0 H0 : Hp) (σ : St) (G M H : Hp) (D : Ends), Stp G0 M0 H0 G M H → EnvO K H0 G M H σ e → Wf R G M H r → EndsOk K R E G0 M0 H0 D P → ts D σ H
end
section
variable {K : PySem.W.Frag} {ρ : Type} {R : ρ → Hp → Hp → Prop} {e : SE} {r : ρ} {ta tb te tc : TE} {t : TT} {tu tw tz : TS} {d : PyData} {ds es : List PyData} {P : Post ρ} {E : XK}
theorem sp_next (h : P.nx e r) : SP K R E tNext e r P := fun G0 M0 H0 σ G M H D s v w k => k.nx e r σ G M H h s v w
theorem sp_brk (h : P.bk e r) : SP K R E tBreak e r P := fun G0 M0 H0 σ G M H D s v w k => k.bk e r σ G M H h s v w
theorem sp_cont (h : P.ct e r) : SP K R E tCont e r P := fun G0 M0 H0 σ G M H D s v w k => k.ct e r σ G M H h s v w
/-- an end that comes behind another statement -/
theorem EndsOk.behind {G0 M0 H0 : Hp} {D : Ends} {N : SE → ρ → Prop} (k : EndsOk K R E G0 M0 H0 D P) (h : ∀ e r, N e r → SP K R E tz e r P) : EndsOk K R E G0 M0 H0 { D with nx := tz D } { P with nx := N } :=
  ⟨fun e r σ G M H n s v w => h e r n G0 M0 H0 σ G M H D s v w k, k.rt, k.bk, k.ct, k.ex⟩
theorem sp_seq {N : SE → ρ → Prop} (h : SP K R E tu e r { P with nx := N }) (k : ∀ e r, N e r → SP K R E tz e r P) : SP K R E (tSeq tu tz) e r P := fun G0 M0 H0 σ G M H D s v w q =>
  h G0 M0 H0 σ G M H _ s v w (q.behind k)
/-- x = e -/
theorem sp_asgS {i : Nat} {Pe : PyData → ρ → Prop} (h : EvS K R te e r Pe) (k : ∀ d r', Pe d r' → SP K R E tz (e.set i (.dat d)) r' P) : SP K R E (tSeq (tAsg te (gName i)) tz) e r P := fun G0 M0 H0 σ G M H D s v w q =>
  h H0 σ G M H v w _ fun x d r' G' M' H' p s' w' hx => k d r' p G0 M0 H0 _ G' M' H' D (s.trans s') ((v.step s').setD hx) w' q
theorem sp_asg {i : Nat} (h : EvD K R te e r d) (k : SP K R E tz (e.set i (.dat d)) r P) : SP K R E (tSeq (tAsg te (gName i)) tz) e r P := sp_asgS h fun _ _ ⟨e1, e2⟩ => by rw [e1, e2]; exact k
theorem sp_asgN {i : Nat} {Pe : PyData → ρ → Prop} (h : EvS K R te e r Pe) (k : ∀ d r', Pe d r' → P.nx (e.set i (.dat d)) r') : SP K R E (tAsg te (gName i)) e r P := fun G0 M0 H0 σ G M H D s v w q =>
  h H0 σ G M H v w _ fun x d r' G' M' H' p s' w' hx => q.nx _ r' _ G' M' H' (k d r' p) (s.trans s') ((v.step s').setD hx) w'
theorem sp_asg1 {i : Nat} (h : EvD K R te e r d) (k : P.nx (e.set i (.dat d)) r) : SP K R E (tAsg te (gName i)) e r P := sp_asgN h fun _ _ ⟨e1, e2⟩ => by rw [e1, e2]; exact k
theorem own_new {B G M H : Hp} {σ : St} {l : Addr} (v : EnvO K B G M H σ e) (h : H l = none) : ∀ (j : Nat) es, e[j]? = some (.own es) → σ[j]? ≠ some (some (.ref l)) := fun j es hj q => by
  obtain ⟨l', vs, h1, h2, h3, h4, h5, h6⟩ := v.own j es hj
  rw [q] at h1
  cases h1
  rw [h] at h5
  cases h5
theorem born {G0 M0 H0 G M H : Hp} (s : Stp G0 M0 H0 G M H) {l : Addr} (h : H l = none) : H0 l = none := free_back s h
/-- x = a new list, kept as one's own -/
theorem sp_asgO {i : Nat} (h : EvF K R te e r ds) (k : SP K R E tz (e.set i (.own ds)) r P) : SP K R E (tSeq (tAsg te (gName i)) tz) e r P := fun G0 M0 H0 σ G M H D s v w q =>
  h H0 σ G M H v w _ fun l vs G' M' H' s' w' h1 h2 h3 h4 h5 => k G0 M0 H0 _ G' M' H' D (s.trans s') ((v.step s').setO (born s h1) h2 h3 h4 h5 fun j es hj => own_new v h1 j es hj) w' q
theorem sp_asgO1 {i : Nat} (h : EvF K R te e r ds) (k : P.nx (e.set i (.own ds)) r) : SP K R E (tAsg te (gName i)) e r P := fun G0 M0 H0 σ G M H D s v w q =>
  h H0 σ G M H v w _ fun l vs G' M' H' s' w' h1 h2 h3 h4 h5 => q.nx _ r _ G' M' H' k (s.trans s') ((v.step s').setO (born s h1) h2 h3 h4 h5 fun j es hj => own_new v h1 j es hj) w'
/-- an own list is from now on a datum -/
theorem sp_frz [Stab R] {i : Nat} (hi : e[i]? = some (.own ds)) (k : SP K R E tu (e.set i (.dat (.list ds))) r P) : SP K R E tu e r P := fun G0 M0 H0 σ G M H D s v w q => by
  obtain ⟨l, vs, h1, h2, h3, h4, h5, v'⟩ := v.frz hi
  exact k G0 M0 H0 σ _ M H D (s.freeze h2 h3) v' (w.freeze h5 h3 h4) q
/-- x.append(e), x one's own -/
theorem sp_appS {i : Nat} {Pe : PyData → ρ → Prop} (hi : e[i]? = some (.own ds)) (hz : ds.length < sizeLine) (h : EvS K R te e r Pe) (k : ∀ d r', Pe d r' → P.nx (e.set i (.own (ds ++ [d]))) r') :
    SP K R E (tDrop (tBM K "list" rAppend (tVar i) (tCons te tNil))) e r P := fun G0 M0 H0 σ G M H D s v w q => by
  obtain ⟨l, vs, h1, h2, h3, h4, h5, h6⟩ := v.own i ds hi
  refine ⟨.ref l, h1, .inl ⟨rfl, vs, SqL.of h5⟩, h H0 σ G M H v w _ fun x d r' G' M' H' p s' w' hx => ?_⟩
  have hl := s'.fr l _ h5 h4
  refine ⟨l, vs, x, rfl, rfl, hl, by rw [h6.length]; exact hz, ?_⟩
  have v2 := (v.step s').mutO (vs' := vs ++ [x]) (ds' := ds ++ [d]) hi h1 ((h6.mono s'.gg).append (.one hx))
  exact q.nx _ r' σ G' M' _ (k d r' p) ((s.trans s').hid h2 _) v2 (w'.hid (s'.ng l (some_ne h5) h3) (s'.nm l (some_ne h5) h4) _)
theorem sp_app {i : Nat} (hi : e[i]? = some (.own ds)) (hz : ds.length < sizeLine) (h : EvD K R te e r d) (k : P.nx (e.set i (.own (ds ++ [d]))) r) :
    SP K R E (tDrop (tBM K "list" rAppend (tVar i) (tCons te tNil))) e r P := sp_appS hi hz h fun _ _ ⟨e1, e2⟩ => by rw [e1, e2]; exact k
/-- x[j] = e, x one's own -/
theorem sp_setL {i : Nat} {j : Int} {n : Nat} (hi : e[i]? = some (.own ds)) (h : EvD K R te e r d) (hj : EvD K R tb e r (.int j)) (hn : ixN ds.length j = some n) (k : P.nx (e.set i (.own (ds.set n d))) r) :
    SP K R E (tAsg te (gSub (tVar i) tb rSetL)) e r P := fun G0 M0 H0 σ G M H D s v w q =>
  h H0 σ G M H v w _ fun x d' r' G1 M1 H1 ⟨e1, e2⟩ s1 w1 hx => by
    subst e1 e2
    have v1 := v.step s1
    obtain ⟨l, vs, h1, h2, h3, h4, h5, h6⟩ := v1.own i ds hi
    refine ⟨.ref l, h1, hj H0 σ G1 M1 H1 v1 w1 _ fun y d2 r2 G2 M2 H2 ⟨e1, e2⟩ s2 w2 hy => ?_⟩
    subst e1 e2
    have hl := s2.fr l _ h5 h4
    have h62 := h6.mono s2.gg
    refine ⟨l, vs, j, n, rfl, hy.int_inv, hl, by rw [h6.length]; exact hn, ?_⟩
    have v2 := (v1.step s2).mutO (vs' := vs.set n x) (ds' := ds.set n d') hi h1 (h62.set (hx.mono s2.gg) n)
    exact q.nx _ _ σ G2 M2 _ k ((s.trans (s1.trans s2)).hid h2 _) v2 (w2.hid (s2.ng l (some_ne h5) h3) (s2.nm l (some_ne h5) h4) _)
theorem sp_drop {Pe : PyData → ρ → Prop} (h : EvS K R te e r Pe) (k : ∀ d r', Pe d r' → P.nx e r') : SP K R E (tDrop te) e r P := fun G0 M0 H0 σ G M H D s v w q =>
  h H0 σ G M H v w _ fun x d r' G' M' H' p s' w' hx => q.nx e r' σ G' M' H' (k d r' p) (s.trans s') (v.step s') w'
theorem sp_retS {Pe : PyData → ρ → Prop} (h : EvS K R te e r Pe) (k : ∀ d r', Pe d r' → P.rt d r') : SP K R E (tRet te) e r P := fun G0 M0 H0 σ G M H D s v w q =>
  h H0 σ G M H v w _ fun x d r' G' M' H' p s' w' hx => q.rt d r' x G' M' H' (k d r' p) (s.trans s') w' hx
theorem sp_ret (h : EvD K R te e r d) (k : P.rt d r) : SP K R E (tRet te) e r P := sp_retS h fun _ _ ⟨e1, e2⟩ => by rw [e1, e2]; exact k
theorem sp_ifS {Pb : Bool → ρ → Prop} (h : EvTS K R t e r Pb) (k1 : ∀ r', Pb true r' → SP K R E tu e r' P) (k2 : ∀ r', Pb false r' → SP K R E tw e r' P) : SP K R E (tIfS t tu tw) e r P := fun G0 M0 H0 σ G M H D s v w q =>
  h H0 σ G M H v w _ fun b r' G' M' H' p s' w' => by
    cases b with
    | true =>
      show tu D σ H'
      exact k1 r' p G0 M0 H0 σ G' M' H' D (s.trans s') (v.step s') w' q
    | false =>
      show tw D σ H'
      exact k2 r' p G0 M0 H0 σ G' M' H' D (s.trans s') (v.step s') w' q
theorem sp_if {b : Bool} (h : EvT K R t e r b) (k1 : b = true → SP K R E tu e r P) (k2 : b = false → SP K R E tw e r P) : SP K R E (tIfS t tu tw) e r P :=
  sp_ifS h (fun r' ⟨e1, e2⟩ => by rw [e2]; exact k1 e1.symm) (fun r' ⟨e1, e2⟩ => by rw [e2]; exact k2 e1.symm)
/-- an if without else, then the rest -/
theorem sp_when {b : Bool} (h : EvT K R t e r b) (k1 : b = true → SP K R E tu e r { P with nx := fun e' r' => SP K R E tz e' r' P }) (k2 : b = false → SP K R E tz e r P) : SP K R E (tSeq (tIfS t tu tNext) tz) e r P :=
  sp_seq (N := fun e' r' => SP K R E tz e' r' P) (sp_if h k1 fun hb => sp_next (k2 hb)) fun _ _ h => h
theorem sp_whenS {Pb : Bool → ρ → Prop} (h : EvTS K R t e r Pb) (k1 : ∀ r', Pb true r' → SP K R E tu e r' { P with nx := fun e' r' => SP K R E tz e' r' P }) (k2 : ∀ r', Pb false r' → SP K R E tz e r' P) : SP K R E (tSeq (tIfS t tu tNext) tz) e r P :=
  sp_seq (N := fun e' r' => SP K R E tz e' r' P) (sp_ifS h k1 fun r' hb => sp_next (k2 r' hb)) fun _ _ h => h
/-- if c: x = e, told by the value x has behind it -/
theorem sp_ifAsg {b : Bool} {i : Nat} (h : EvT K R t e r b) (h1 : b = true → EvD K R te e r d) (h2 : b = false → e.set i (.dat d) = e) (k : SP K R E tz (e.set i (.dat d)) r P) : SP K R E (tSeq (tIfS t (tAsg te (gName i)) tNext) tz) e r P :=
  sp_when h (fun hb => sp_asg1 (h1 hb) k) fun hb => by
    have g := k
    rw [h2 hb] at g
    exact g
theorem sp_imp {P' : Post ρ} (h : SP K R E tu e r P) (h1 : ∀ e r, P.nx e r → P'.nx e r) (h2 : ∀ d r, P.rt d r → P'.rt d r) (h3 : ∀ e r, P.bk e r → P'.bk e r := by intro _ _ h; exact h) (h4 : ∀ e r, P.ct e r → P'.ct e r := by intro _ _ h; exact h) (h5 : ∀ c r, P.ex c r → P'.ex c r := by intro _ _ h; exact h) : SP K R E tu e r P' := fun G0 M0 H0 σ G M H D s v w q =>
  h G0 M0 H0 σ G M H D s v w ⟨fun e r σ G M H n => q.nx e r σ G M H (h1 e r n), fun d r x G M H n => q.rt d r x G M H (h2 d r n), fun e r σ G M H n => q.bk e r σ G M H (h3 e r n), fun e r σ G M H n => q.ct e r σ G M H (h4 e r n), fun c r G M H n => q.ex c r G M H (h5 c r n)⟩

/-! ### loops -/
theorem EndsOk.rebase {G0 M0 H0 G M H : Hp} {D : Ends} (s : Stp G0 M0 H0 G M H) (k : EndsOk K R E G0 M0 H0 D P) : EndsOk K R E G M0 H0 D P :=
  ⟨fun e r σ G M H h t => k.nx e r σ G M H h (s.unbase t), fun d r v G M H h t => k.rt d r v G M H h (s.unbase t), fun e r σ G M H h t => k.bk e r σ G M H h (s.unbase t), fun e r σ G M H h t => k.ct e r σ G M H h (s.unbase t), fun c r G M H h t => k.ex c r G M H h (s.unbase t)⟩
theorem sp_forL {i : Nat} {tl : TE} (h : EvD K R tl e r (.list ds)) (I : Nat → SE → ρ → Prop) (h0 : I 0 e r)
    (hs : ∀ k d e' r', ds[k]? = some d → I k e' r' → SP K R E tu (e'.set i (.dat d)) r' ⟨I (k + 1), P.rt, P.nx, I (k + 1), P.ex⟩) (hd : ∀ e' r', I ds.length e' r' → P.nx e' r') : SP K R E (tFor (iList K tl) (gName i) tu) e r P := fun G0 M0 H0 σ G M H D s v w q =>
  h H0 σ G M H v w _ fun x d r' G' M' H' ⟨e1, e2⟩ s' w' hx => by
    subst e1 e2
    obtain ⟨a, xs, rfl, ha, rr⟩ := hx.lst_inv
    have s0 := s.trans s'
    refine ⟨a, rfl, ⟨xs, SqL.of (w'.gh _ _ ha)⟩, for_list (K := K) (a := a) (xs := xs) (fun k σ1 H1 => ∃ e1 r1 G1 M1, I k e1 r1 ∧ Stp G' M0 H0 G1 M1 H1 ∧ EnvO K H0 G1 M1 H1 σ1 e1 ∧ Wf R G1 M1 H1 r1)
      ⟨e, _, G', M', h0, s0.rebase, v.step s', w'⟩ (fun k σ1 H1 _ ⟨e1, r1, G1, M1, _, s1, _, w1⟩ => SqL.of (w1.gh _ _ (s1.gg _ _ ha))) ?_ ?_⟩
    · rintro k y σ1 H1 hy ⟨e1, r1, G1, M1, p, s1, v1, w1⟩
      obtain ⟨d, hd', ry⟩ := rr.of_get hy
      exact hs k d e1 r1 hd' p G' M0 H0 _ G1 M1 H1 _ s1 (v1.setD (ry.mono s1.gg)) w1
        ⟨fun e2 r2 σ2 G2 M2 H2 p2 s2 v2 w2 => ⟨e2, r2, G2, M2, p2, s2, v2, w2⟩, fun d r x G M H n t => q.rt d r x G M H n (s0.unbase t), fun e r σ G M H n t => q.nx e r σ G M H n (s0.unbase t), fun e2 r2 σ2 G2 M2 H2 p2 s2 v2 w2 => ⟨e2, r2, G2, M2, p2, s2, v2, w2⟩, fun c r G M H n t => q.ex c r G M H n (s0.unbase t)⟩
    · rintro σ1 H1 ⟨e1, r1, G1, M1, p, s1, v1, w1⟩
      rw [rr.length] at p
      exact q.nx e1 r1 σ1 G1 M1 H1 (hd e1 r1 p) (s0.unbase s1) v1 w1
theorem sp_forR {i : Nat} {lo n : Int} {wi : TI} (h : ∀ (B : Hp) (σ : St) (G M H : Hp), EnvO K B G M H σ e → Wf R G M H r → ∀ Q : It → Hp → Prop, (∀ G' M' H', Stp G M H G' M' H' → Wf R G' M' H' r → Q (Itr lo (n - lo).toNat) H') → wi σ H Q)
    (I : Nat → SE → ρ → Prop) (h0 : I 0 e r)
    (hs : ∀ (k : Nat) e' r', lo + (k : Int) < n → I k e' r' → SP K R E tu (e'.set i (.dat (.int (lo + (k : Int))))) r' ⟨I (k + 1), P.rt, P.nx, I (k + 1), P.ex⟩) (hd : ∀ e' r', I (n - lo).toNat e' r' → P.nx e' r') : SP K R E (tFor wi (gName i) tu) e r P := fun G0 M0 H0 σ G M H D s v w q =>
  h H0 σ G M H v w _ fun G' M' H' s' w' => by
    have s0 := s.trans s'
    refine for_range (lo := lo) (n := (n - lo).toNat) (fun k σ1 H1 => ∃ e1 r1 G1 M1, I k e1 r1 ∧ Stp G0 M0 H0 G1 M1 H1 ∧ EnvO K H0 G1 M1 H1 σ1 e1 ∧ Wf R G1 M1 H1 r1)
      ⟨e, r, G', M', h0, s0, v.step s', w'⟩ ?_ ?_
    · rintro k σ1 H1 hk ⟨e1, r1, G1, M1, p, s1, v1, w1⟩
      exact hs k e1 r1 (by omega) p G0 M0 H0 _ G1 M1 H1 _ s1 (v1.setD (.int _)) w1
        ⟨fun e2 r2 σ2 G2 M2 H2 p2 s2 v2 w2 => ⟨e2, r2, G2, M2, p2, s2, v2, w2⟩, q.rt, q.nx, fun e2 r2 σ2 G2 M2 H2 p2 s2 v2 w2 => ⟨e2, r2, G2, M2, p2, s2, v2, w2⟩, q.ex⟩
    · rintro σ1 H1 ⟨e1, r1, G1, M1, p, s1, v1, w1⟩
      exact q.nx e1 r1 σ1 G1 M1 H1 (hd e1 r1 p) s1 v1 w1
theorem it_r1 {ta : TA} {n : Int} (h : EvA K R ta e r [.int n]) (h1 : -(2 ^ 62) ≤ n) (h2 : n < 2 ^ 62) (B : Hp) (σ : St) (G M H : Hp) (v : EnvO K B G M H σ e) (w : Wf R G M H r) (Q : It → Hp → Prop)
    (q : ∀ G' M' H', Stp G M H G' M' H' → Wf R G' M' H' r → Q (Itr 0 (n - 0).toNat) H') : iRng1 ta σ H Q :=
  h B σ G M H v w _ fun vs G' M' H' s w' hv => by
    obtain ⟨x, ws, rfl, g1, g2⟩ := hv.cons_inv
    rw [g2.nil_inv, g1.int_inv]
    refine ⟨n, rfl, h1, h2, ?_⟩
    have z := q G' M' H' s w'
    rw [Int.sub_zero] at z
    exact z
theorem it_r2 {ta : TA} {lo n : Int} (h : EvA K R ta e r [.int lo, .int n]) (h1 : -(2 ^ 62) ≤ lo ∧ lo < 2 ^ 62 ∧ -(2 ^ 62) ≤ n ∧ n < 2 ^ 62) (B : Hp) (σ : St) (G M H : Hp) (v : EnvO K B G M H σ e) (w : Wf R G M H r) (Q : It → Hp → Prop)
    (q : ∀ G' M' H', Stp G M H G' M' H' → Wf R G' M' H' r → Q (Itr lo (n - lo).toNat) H') : iRng2 ta σ H Q :=
  h B σ G M H v w _ fun vs G' M' H' s w' hv => by
    obtain ⟨x, ws, rfl, g1, g2⟩ := hv.cons_inv
    obtain ⟨y, us, rfl, g3, g4⟩ := g2.cons_inv
    rw [g4.nil_inv, g1.int_inv, g3.int_inv]
    exact ⟨lo, n, rfl, h1, q G' M' H' s w'⟩
/-- for k in range(n) -/
theorem sp_forR1 {i : Nat} {ta : TA} {n : Int} (h : EvA K R ta e r [.int n]) (h1 : -(2 ^ 62) ≤ n ∧ n < 2 ^ 62) (I : Nat → SE → ρ → Prop) (h0 : I 0 e r)
    (hs : ∀ (k : Nat) e' r', (k : Int) < n → I k e' r' → SP K R E tu (e'.set i (.dat (.int (k : Int)))) r' ⟨I (k + 1), P.rt, P.nx, I (k + 1), P.ex⟩) (hd : ∀ e' r', I n.toNat e' r' → P.nx e' r') : SP K R E (tFor (iRng1 ta) (gName i) tu) e r P :=
  sp_forR (lo := 0) (it_r1 h h1.1 h1.2) I h0 (fun k e' r' hk p => by
    have z := hs k e' r' (by omega) p
    rw [← Int.zero_add (k : Int)] at z
    exact z) (by rw [Int.sub_zero]; exact hd)
/-- for k in range(lo, n) -/
theorem sp_forR2 {i : Nat} {ta : TA} {lo n : Int} (h : EvA K R ta e r [.int lo, .int n]) (h1 : -(2 ^ 62) ≤ lo ∧ lo < 2 ^ 62 ∧ -(2 ^ 62) ≤ n ∧ n < 2 ^ 62) (I : Nat → SE → ρ → Prop) (h0 : I 0 e r)
    (hs : ∀ (k : Nat) e' r', lo + (k : Int) < n → I k e' r' → SP K R E tu (e'.set i (.dat (.int (lo + (k : Int))))) r' ⟨I (k + 1), P.rt, P.nx, I (k + 1), P.ex⟩) (hd : ∀ e' r', I (n - lo).toNat e' r' → P.nx e' r') : SP K R E (tFor (iRng2 ta) (gName i) tu) e r P :=
  sp_forR (it_r2 h h1) I h0 hs hd
/-- a loop, then the rest -/
theorem sp_while (I : Nat → SE → ρ → Prop) (m0 : Nat) (h0 : I m0 e r)
    (hs : ∀ m e' r', I m e' r' → ∃ b, EvT K R t e' r' b ∧ (b = true → SP K R E tu e' r' ⟨fun e2 r2 => ∃ m', m' < m ∧ I m' e2 r2, P.rt, P.nx, fun e2 r2 => ∃ m', m' < m ∧ I m' e2 r2, P.ex⟩) ∧ (b = false → P.nx e' r')) : SP K R E (tWhile t tu) e r P := fun G0 M0 H0 σ G M H D s v w q => by
  refine ⟨fun m σ1 H1 => ∃ e1 r1 G1 M1, I m e1 r1 ∧ Stp G0 M0 H0 G1 M1 H1 ∧ EnvO K H0 G1 M1 H1 σ1 e1 ∧ Wf R G1 M1 H1 r1, ⟨m0, e, r, G, M, h0, s, v, w⟩, ?_⟩
  rintro m σ1 H1 ⟨e1, r1, G1, M1, p, s1, v1, w1⟩
  obtain ⟨b, hb, h1, h2⟩ := hs m e1 r1 p
  refine hb H0 σ1 G1 M1 H1 v1 w1 _ fun b' r' G2 M2 H2 ⟨e3, e4⟩ s2 w2 => ?_
  subst e3 e4
  cases b' with
  | true =>
    refine ⟨fun σ3 H3 => ∃ e3 r3 G3 M3, (∃ m', m' < m ∧ I m' e3 r3) ∧ Stp G0 M0 H0 G3 M3 H3 ∧ EnvO K H0 G3 M3 H3 σ3 e3 ∧ Wf R G3 M3 H3 r3, fun σ3 H3 ⟨e3, r3, G3, M3, ⟨m', l, p'⟩, s3, v3, w3⟩ => ⟨m', l, e3, r3, G3, M3, p', s3, v3, w3⟩, ?_⟩
    exact h1 rfl G0 M0 H0 σ1 G2 M2 H2 _ (s1.trans s2) (v1.step s2) w2
      ⟨fun e3 r3 σ3 G3 M3 H3 p3 s3 v3 w3 => ⟨e3, r3, G3, M3, p3, s3, v3, w3⟩, q.rt, q.nx, fun e3 r3 σ3 G3 M3 H3 p3 s3 v3 w3 => ⟨e3, r3, G3, M3, p3, s3, v3, w3⟩, q.ex⟩
  | false => exact q.nx e1 _ σ1 G2 M2 H2 (h2 rfl) (s1.trans s2) (v1.step s2) w2

/-! ### comprehensions -/
/-- the state of a comprehension: the new list at D so far -/
def Cs (K : PySem.W.Frag) {ρ : Type} (R : ρ → Hp → Hp → Prop) (G M H : Hp) (r : ρ) (D : Addr) (ds : List PyData) (H' : Hp) : Prop :=
  ∃ G' M' vs, Stp G M H G' M' H' ∧ Wf R G' M' H' r ∧ H D = none ∧ G' D = none ∧ M' D = none ∧ H' D = some (.lst vs) ∧ RpAll K G' vs ds
theorem cs_turn {B G M H H' : Hp} {σ2 : St} {e2 : SE} {D : Addr} {b : Bool} {Pn : Hp → Prop} (c : Cs K R G M H r D ds H') (hl : ds.length < sizeLine) (v : ∀ G' M' H', Stp G M H G' M' H' → EnvO K B G' M' H' σ2 e2)
    (ht : EvT K R t e2 r b) (he : b = true → EvD K R te e2 r d) (h1 : b = true → ∀ H', Cs K R G M H r D (ds ++ [d]) H' → Pn H') (h2 : b = false → ∀ H', Cs K R G M H r D ds H' → Pn H') :
    t σ2 H' fun b H3 => if b = true then te σ2 H3 fun y H4 => ∃ acc, H4 D = some (.lst acc) ∧ acc.length < sizeLine ∧ Pn (upd H4 D (.lst (acc ++ [y]))) else Pn H3 := by
  obtain ⟨G', M', vs, s, w, h0, g0, m0, hD, hv⟩ := c
  refine ht B σ2 G' M' H' (v _ _ _ s) w _ fun b' r' G2 M2 H2 ⟨e1, e2'⟩ s2 w2 => ?_
  subst e1 e2'
  have hD2 := s2.fr D _ hD m0
  have gD2 := s2.ng D (some_ne hD) g0
  have mD2 := s2.nm D (some_ne hD) m0
  have s02 := s.trans s2
  cases b' with
  | true =>
    show te σ2 H2 _
    refine he rfl B σ2 G2 M2 H2 (v _ _ _ s02) w2 _ fun y d' r'' G3 M3 H3 ⟨e1, e2'⟩ s3 w3 hy => ?_
    subst e1 e2'
    have hD3 := s3.fr D _ hD2 mD2
    have gD3 := s3.ng D (some_ne hD2) gD2
    have mD3 := s3.nm D (some_ne hD2) mD2
    refine ⟨vs, hD3, by rw [hv.length]; exact hl, h1 rfl _ ⟨G3, M3, vs ++ [y], (s02.trans s3).hid h0 _, w3.hid gD3 mD3 _, h0, gD3, mD3, upd_same, ?_⟩⟩
    exact (hv.mono (s2.gg.trans s3.gg)).append (.one hy)
  | false =>
    show Pn H2
    exact h2 rfl _ ⟨G2, M2, vs, s02, w2, h0, gD2, mD2, hD2, hv.mono s2.gg⟩
def lcOut (p : PyData → Bool) (f : PyData → PyData) (its : List PyData) : List PyData := (its.filter p).map f
theorem lcOut_succ {p : PyData → Bool} {f : PyData → PyData} {its : List PyData} {i : Nat} (h : its[i]? = some d) : lcOut p f (its.take (i + 1)) = if p d = true then lcOut p f (its.take i) ++ [f d] else lcOut p f (its.take i) := by
  unfold lcOut
  rw [List.take_add_one, h, List.filter_append, List.map_append]
  by_cases hp : p d = true
  · rw [if_pos hp]
    simp [hp]
  · rw [if_neg hp]
    simp [hp]
theorem lcOut_len {p : PyData → Bool} {f : PyData → PyData} (its : List PyData) (i : Nat) : (lcOut p f (its.take i)).length ≤ its.length := by
  unfold lcOut
  rw [List.length_map]
  refine Nat.le_trans (List.length_filter_le _ _) ?_
  rw [List.length_take]
  omega
theorem wipe_back {σ : St} {j : Nat} {x : V} : wipe ((wipe σ [j]).set j (some x)) [j] = wipe σ [j] := by
  show ((σ.set j none).set j (some x)).set j none = σ.set j none
  rw [List.set_set, List.set_set]
theorem wipe_set {σ : St} {j : Nat} {x : V} : (wipe σ [j]).set j (some x) = σ.set j (some x) := by
  show (σ.set j none).set j (some x) = σ.set j (some x)
  rw [List.set_set]
/-- [f(x) for x in xs if p(x)] -/
theorem evf_lcL {its : List PyData} {tl : TE} {j : Nat} (p : PyData → Bool) (f : PyData → PyData) (h : EvD K R tl e r (.list its)) (hz : its.length < sizeLine)
    (ht : ∀ d, d ∈ its → EvT K R t (e.set j (.dat d)) r (p d)) (he : ∀ d, d ∈ its → p d = true → EvD K R te (e.set j (.dat d)) r (f d)) :
    EvF K R (tLc (iList K tl) (gName j) t te [j]) e r (lcOut p f its) := fun B σ G M H v w Q q =>
  h B σ G M H v w _ fun x d r' G1 M1 H1 ⟨e1, e2⟩ s1 w1 hx => by
    subst e1 e2
    obtain ⟨a, xs, rfl, ha, rr⟩ := hx.lst_inv
    refine ⟨a, rfl, ⟨xs, SqL.of (w1.gh _ _ ha)⟩, fun D hD => ?_⟩
    refine lc_list (K := K) (a := a) (xs := xs) (fun i H' => Cs K R G1 M1 H1 r' D (lcOut p f (its.take i)) H') ⟨G1, M1, [], (Stp.refl _ _ _).hid hD _, w1.hid (w1.gn hD) (w1.mn hD) _, hD, w1.gn hD, w1.mn hD, upd_same, .nil⟩ ?_ ?_ ?_
    · rintro i H' _ ⟨G', M', vs, s', w', _⟩
      exact SqL.of (w'.gh _ _ (s'.gg _ _ ha))
    · intro i y H' hy c
      obtain ⟨d, hd, ry⟩ := rr.of_get hy
      have hm : d ∈ its := List.mem_of_getElem? hd
      show wipe ((wipe σ [j]).set j (some y)) [j] = wipe σ [j] ∧ _
      rw [wipe_back, wipe_set]
      refine ⟨rfl, ?_⟩
      refine cs_turn (B := B) (e2 := e.set j (.dat d)) (d := f d) (b := p d) c (Nat.lt_of_le_of_lt (lcOut_len its i) hz) (fun G' M' H' s => ((v.step s1).step s).setD (ry.mono s.gg)) (ht d hm) (he d hm) ?_ ?_
      · intro hp H'' c'
        rw [lcOut_succ hd, if_pos hp]
        exact c'
      · intro hp H'' c'
        rw [lcOut_succ hd, if_neg (by rw [hp]; decide)]
        exact c'
    · rintro H' ⟨G', M', vs, s', w', h0, g0, m0, hD', hv⟩
      rw [rr.length, List.take_length] at hv
      exact q D vs G' M' H' (s1.trans s') w' (free_back s1 h0) g0 m0 hD' hv
def rgD (n : Nat) : List PyData := (List.range n).map fun (k : Nat) => PyData.int (k : Int)
theorem rgD_len (n : Nat) : (rgD n).length = n := by unfold rgD; rw [List.length_map, List.length_range]
theorem rgD_get {n i : Nat} (h : i < n) : (rgD n)[i]? = some (.int (i : Int)) := by unfold rgD; rw [List.getElem?_map, List.getElem?_range h]; rfl
/-- [f(k) for k in range(n) if p(k)] -/
theorem evf_lcR1 {ta : TA} {j : Nat} {n : Int} (p : PyData → Bool) (f : PyData → PyData) (h : EvA K R ta e r [.int n]) (h1 : -(2 ^ 62) ≤ n) (hz : n < 16777216)
    (ht : ∀ k : Nat, (k : Int) < n → EvT K R t (e.set j (.dat (.int (k : Int)))) r (p (.int k))) (he : ∀ k : Nat, (k : Int) < n → p (.int k) = true → EvD K R te (e.set j (.dat (.int (k : Int)))) r (f (.int k))) :
    EvF K R (tLc (iRng1 ta) (gName j) t te [j]) e r (lcOut p f (rgD n.toNat)) := fun B σ G M H v w Q q =>
  it_r1 h h1 (by omega) B σ G M H v w _ fun G1 M1 H1 s1 w1 D hD => by
    have en : (n - 0).toNat = n.toNat := by rw [Int.sub_zero]
    rw [en]
    refine lc_range (lo := 0) (n := n.toNat) (fun i H' => Cs K R G1 M1 H1 r D (lcOut p f ((rgD n.toNat).take i)) H') ⟨G1, M1, [], (Stp.refl _ _ _).hid hD _, w1.hid (w1.gn hD) (w1.mn hD) _, hD, w1.gn hD, w1.mn hD, upd_same, .nil⟩ ?_ ?_
    · intro i H' hi c
      have hk : (i : Int) < n := by omega
      have hd := rgD_get hi
      rw [Int.zero_add]
      show wipe ((wipe σ [j]).set j (some (.int (i : Int)))) [j] = wipe σ [j] ∧ _
      rw [wipe_back, wipe_set]
      refine ⟨rfl, ?_⟩
      refine cs_turn (B := B) (e2 := e.set j (.dat (.int (i : Int)))) (d := f (.int i)) (b := p (.int i)) c (Nat.lt_of_le_of_lt (lcOut_len _ i) (by rw [rgD_len, sizeLine_eq]; omega)) (fun G' M' H' s => ((v.step s1).step s).setD (.int _)) (ht i hk) (he i hk) ?_ ?_
      · intro hp H'' c'
        rw [lcOut_succ hd, if_pos hp]
        exact c'
      · intro hp H'' c'
        rw [lcOut_succ hd, if_neg (by rw [hp]; decide)]
        exact c'
    · rintro H' ⟨G', M', vs, s', w', h0, g0, m0, hD', hv⟩
      rw [List.take_of_length_le (by rw [rgD_len]; exact Nat.le_refl _)] at hv
      exact q D vs G' M' H' (s1.trans s') w' (free_back s1 h0) g0 m0 hD' hv
/-- list(range(n)) -/
theorem evf_listRg {n : Int} (h : EvD K R te e r (.int n)) (h0 : 0 ≤ n) (h1 : n ≤ 16777216) : EvF K R (tLstRg (tRg1 te)) e r (rgD n.toNat) := fun B σ G M H v w Q q =>
  h B σ G M H v w _ fun x d r' G1 M1 H1 ⟨e1, e2⟩ s1 w1 hx => by
    subst e1 e2
    refine ⟨n, hx.int_inv, .of_le (Int.le_refl _) h1 (by decide) h0, fun p hp => ?_⟩
    refine q p _ G1 M1 _ (s1.hid (free_back s1 hp) _) (w1.hid (w1.gn hp) (w1.mn hp) _) (free_back s1 hp) (w1.gn hp) (w1.mn hp) upd_same ?_
    have : rgV 0 n = ((List.range n.toNat).map fun (k : Nat) => (k : Int)).map V.int := by
      unfold rgV
      rw [Int.sub_zero, List.map_map]
      refine List.map_congr_left fun k _ => ?_
      show V.int (0 + (k : Int)) = V.int k
      rw [Int.zero_add]
    rw [this]
    have e : rgD n.toNat = ((List.range n.toNat).map fun (k : Nat) => (k : Int)).map PyData.int := by unfold rgD; rw [List.map_map]; rfl
    rw [e]
    exact RpAll.of_ints _
/-- sep.join(xs) -/
theorem ev_join {to : TE} {a : Str} {ys : List Str} (ho : EvD K R to e r (.str a)) (h : EvD K R te e r (.list (ys.map PyData.str))) (hz : (ys.map (·.length)).sum + ys.length * a.length ≤ 16777216) :
    EvD K R (tM1 (fun x xs H Q => ∃ a p, ∃ ys : List Str, x = .str a ∧ xs = [.ref p] ∧ (SqL K H p (ys.map V.str) ∨ SqT K H p (ys.map V.str)) ∧ (ys.map (·.length)).sum + ys.length * a.length ≤ 16777216 ∧ Q (.str (Txt.join a ys)) H) to te) e r (.str (Txt.join a ys)) := fun B σ G M H v w Q q =>
  ho B σ G M H v w _ fun x d r' G1 M1 H1 ⟨e1, e2⟩ s1 w1 hx => by
    subst e1 e2
    refine ⟨⟨a, hx.str_inv⟩, h B σ G1 M1 H1 (v.step s1) w1 _ fun y d r' G2 M2 H2 ⟨e1, e2⟩ s2 w2 hy => ?_⟩
    subst e1 e2
    obtain ⟨p, xs, rfl, hp, rr⟩ := hy.lst_inv
    refine ⟨a, p, ys, hx.str_inv, rfl, .inl (SqL.of (w2.gh _ _ ?_)), hz, q _ _ _ G2 M2 H2 ⟨rfl, rfl⟩ (s1.trans s2) w2 (.str _)⟩
    rw [← rr.strs]
    exact hp
end

/-! ### a pure def -/
/-- M stays as it is -/
def RM (M0 : Hp) : Unit → Hp → Hp → Prop := fun _ _ M => M = M0
instance {M0 : Hp} : Stab (RM M0) := ⟨fun _ _ _ _ _ _ h => h⟩
def startE (ds : List PyData) (n : Nat) : SE := ds.map Sk.dat ++ List.replicate n Sk.hid
section
variable {P : Program} {w : World} {K : PySem.W.Frag} {mg : Str → Option Value} {base : Heap}
theorem env_start {B G M H : Hp} {vs : List V} {ds : List PyData} {n : Nat} (h : RpAll K G vs ds) : EnvO K B G M H (vs.map some ++ List.replicate n none) (startE ds n) := by
  have own : ∀ (i : Nat) es, (startE ds n)[i]? ≠ some (.own es) := fun i es q => by
    unfold startE at q
    rcases List.mem_append.mp (List.mem_of_getElem? q) with m | m
    · obtain ⟨d, _, e⟩ := List.mem_map.mp m
      cases e
    · cases (List.mem_replicate.mp m).2
  refine ⟨by unfold startE; simp [h.length], fun i d q => ?_, fun i es q => absurd q (own i es), fun i j es fs l q => absurd q (own i es)⟩
  unfold startE at q
  by_cases hi : i < (ds.map Sk.dat).length
  · rw [List.getElem?_append_left hi, List.getElem?_map] at q
    cases z : ds[i]? with
    | none => rw [z] at q; cases q
    | some d' =>
      rw [z] at q
      have q : some (Sk.dat d') = some (Sk.dat d) := q
      injection q with q
      injection q with q
      subst q
      obtain ⟨v, e1, e2⟩ := h.get z
      have hv : i < (vs.map some).length := by rw [List.length_map, h.length]; simpa using hi
      exact ⟨v, by rw [List.getElem?_append_left hv, List.getElem?_map, e1]; rfl, e2⟩
  · rw [List.getElem?_append_right (by omega)] at q
    cases (List.mem_replicate.mp (List.mem_of_getElem? q)).2
/-- a pure def keeps its promise -/
theorem ok_pure {x qual : Str} {st : Stmt} {f : Addr} {fd : FuncData} {N ps : List Str} {k : Nat} {α : Type} {args : α → List PyData} {pre : α → Prop} {res : α → PyData → Prop} (F : Fun K x qual st f fd) (S : FnScope N ps (defScope st))
    (len : ∀ a, (args a).length = ps.length)
    (body : ∀ (cdv : Value) (A : Around) (outer : List Env) (s : Shared) (H : Hp) (E : XK), Room k (A.deeper (PyProof.Rows.envOfC qual (defScope st) s.heap.objs.size f cdv)) →
      ∃ t, PSs (cxOf CX0 P w K mg base N qual (defScope st) f cdv A outer s H E).nox (defBody st) t ∧ ∀ (M0 : Hp) a, pre a → SP K (RM M0) E0 t (startE (args a) (N.length - ps.length)) () ⟨fun _ _ => res a .none, fun d _ => res a d, fun _ _ => False, fun _ _ => False, fun _ _ => False⟩) :
    FnOk P w K mg base CX0 (k + 1) f fd ps (spD K args pre res) := by
  refine F.ok S (fun vs H Q E h => ?_) (fun cdv A outer s H vs Q E hr h => ?_)
  · obtain ⟨G, M, a, p, hv, hp, _⟩ := h
    rw [hv.length]
    exact len a
  · obtain ⟨t, ht, hb⟩ := body cdv A outer s H E hr
    refine ⟨t, ht, ?_⟩
    obtain ⟨G, M, a, p, hv, hp, q⟩ := h
    have hs : L2.start N vs = vs.map some ++ List.replicate (N.length - ps.length) none := by unfold L2.start; rw [hv.length, len a]
    rw [hs]
    refine hb M a hp G M H _ G M H _ (Stp.refl _ _ _) (env_start hv) ⟨p.1, p.2.1, p.2.2, rfl⟩ ⟨?_, ?_, fun _ _ _ _ _ _ z => z.elim, fun _ _ _ _ _ _ z => z.elim, fun _ _ _ _ _ z => z.elim⟩
    · intro e r σ G' M' H' hp' s' v' w'
      have e1 : M' = M := w'.res
      subst e1
      exact q .non .none G' H' hp' ⟨s', w'.gh, w'.mh, w'.dj⟩ .non
    · intro d r v G' M' H' hp' s' w' hx
      have e1 : M' = M := w'.res
      subst e1
      exact q v d G' H' hp' ⟨s', w'.gh, w'.mh, w'.dj⟩ hx
/-- where a def stands -/
structure DefAt (K : PySem.W.Frag) (mg : Str → Option Value) (x qual : Str) (st : Stmt) (ps : List Str) where
  a : Addr
  fd : FuncData
  F : Fun K x qual st a fd
  b : Binds K fd ps []
  g : mg x = some (.ref a)
/-- where a method stands -/
structure MethAt (K : PySem.W.Frag) (C : Addr) (m qual : Str) (st : Stmt) (ps : List Str) where
  a : Addr
  fd : FuncData
  F : Fun K m qual st a fd
  b : Binds K fd ps []
  m : Meth K C m a
/-- the law's own promise -/
def spLaw (K : PySem.W.Frag) : Sp := fun vs H Q _ => ∃ (a : Addr) (ns : List Int), vs = [.ref a] ∧ SqL K H a (ns.map V.int) ∧ ns.length ≤ 63 ∧ ∀ H', Q (.bl true) H'
abbrev spTrue (K : PySem.W.Frag) : Sp := spF K (fun ns : List Int => [scrD ns]) (fun ns => ns.length ≤ 63) (fun _ => .bool true)
theorem spLaw_of {f : Addr} {fd : FuncData} {k : Nat} {ps : List Str} (F : FnOk P w K mg base CX0 k f fd ps (spTrue K)) : FnOk P w K mg base CX0 k f fd ps (spLaw K) :=
  F.imp fun vs H Q E ⟨a, ns, e, hs, hl, q⟩ => by
    subst e
    refine ⟨H, fun _ => none, ns, ⟨Same.refl _, (fun b o h => by cases h), (fun b h => absurd rfl h)⟩, .one (.scr hs), hl, fun v d G' H' hd _ hx => ?_⟩
    subst hd
    rw [hx.bl_inv]
    exact q H'
end
end Fw

/-! Rows of entries as data, words, numbers drawn: plain Lean. -/
namespace Fw
open PySem L2
open PySem.PyData (strOk)
abbrev Ent := Int × Str
def entD (e : Ent) : PyData := .tuple [.int e.1, .str e.2]
def rowD (es : List Ent) : PyData := .list (es.map entD)
def wOk (x : Str) : Prop := strOk x = true ∧ x.length ≤ 129
def rowOk (es : List Ent) : Prop := ∀ e ∈ es, strOk e.2 = true
theorem rowOk_nil : rowOk [] := fun _ h => nomatch h
theorem rowOk_append {a b : List Ent} (h : rowOk a) (g : rowOk b) : rowOk (a ++ b) := fun e he => (List.mem_append.mp he).elim (h e) (g e)
theorem rowOk_sub {a b : List Ent} (h : rowOk b) (s : ∀ e ∈ a, e ∈ b) : rowOk a := fun e he => h e (s e he)
theorem rowOk_one {e : Ent} (h : strOk e.2 = true) : rowOk [e] := fun x hx => by rw [List.mem_singleton.mp hx]; exact h
theorem plain_rows : ∀ es : List Ent, plainAll (es.map entD) = true
  | [] => rfl
  | e :: es => by
    show (plainD (entD e) && plainAll (es.map entD)) = true
    rw [plain_rows es]; rfl
theorem plain_row (es : List Ent) : plainD (rowD es) = true := plain_rows es
theorem canLay_rows : ∀ es : List Ent, rowOk es → PyData.canLayAll0 (es.map entD) = true
  | [], _ => rfl
  | e :: es, h => by
    show (PyData.canLay0 (entD e) && PyData.canLayAll0 (es.map entD)) = true
    rw [canLay_rows es fun x hx => h x (List.mem_cons_of_mem _ hx)]
    have : strOk e.2 = true := h e List.mem_cons_self
    show (true && (strOk e.2 && true) && true) = true
    rw [this]; rfl
theorem depth_rows : ∀ es : List Ent, PyData.depthAll (es.map entD) ≤ 1
  | [] => Nat.zero_le _
  | e :: es => by
    show max (PyData.depth (entD e)) (PyData.depthAll (es.map entD)) ≤ 1
    have h1 := depth_rows es
    have h2 : PyData.depth (entD e) = 1 := rfl
    rw [h2]
    omega
theorem shaped_row {es : List Ent} (h : rowOk es) : SeqAt.shaped (rowD es) = true := by
  unfold SeqAt.shaped
  rw [Bool.and_eq_true]
  refine ⟨canLay_rows es h, decide_eq_true ?_⟩
  show PyData.depthAll (es.map entD) + 1 ≤ 64
  have := depth_rows es
  omega
theorem eqv_ent (a b : Ent) : PyData.eqv (entD a) (entD b) = decide (a = b) := by
  obtain ⟨i, x⟩ := a
  obtain ⟨j, y⟩ := b
  show (i == j && (x == y && true)) = _
  by_cases h1 : i = j
  · subst h1
    by_cases h2 : x = y
    · subst h2; simp
    · simp [h2]
  · simp [h1]
theorem eqv_rows : ∀ a b : List Ent, PyData.eqvAll (a.map entD) (b.map entD) = decide (a = b)
  | [], [] => rfl
  | [], _ :: _ => rfl
  | _ :: _, [] => rfl
  | x :: a, y :: b => by
    show (PyData.eqv (entD x) (entD y) && PyData.eqvAll (a.map entD) (b.map entD)) = _
    rw [eqv_ent, eqv_rows a b]
    by_cases h1 : x = y
    · subst h1
      by_cases h2 : a = b
      · subst h2; simp
      · simp [h2]
    · simp [h1]
theorem eqv_row (a b : List Ent) : PyData.eqv (rowD a) (rowD b) = decide (a = b) := eqv_rows a b
theorem rowD_nil : PyData.list [] = rowD [] := rfl
section
variable {K : PySem.W.Frag}
theorem opEqR {a b : List Ent} (h1 : rowOk a) (h2 : rowOk b) : OpD K (rEqD K) (rowD a) (rowD b) (.bool (decide (a = b))) := by
  rw [← eqv_row]
  exact opEqD (plain_row a) (plain_row b) (shaped_row h1) (shaped_row h2)
theorem opNeR {a b : List Ent} (h1 : rowOk a) (h2 : rowOk b) : OpD K (rNeD K) (rowD a) (rowD b) (.bool (!decide (a = b))) := by
  rw [← eqv_row]
  exact opNeD (plain_row a) (plain_row b) (shaped_row h1) (shaped_row h2)
end
/-- the last term -/
def lastT (es : List Ent) : Int := match es.getLast? with
  | none => 0
  | some e => e.1
def asNew (a b : List Ent) : Bool := if lastT a ≠ lastT b then decide (lastT b < lastT a) else decide (b.length ≤ a.length)
theorem lastT_nil : lastT [] = 0 := rfl
theorem lastT_snoc (es : List Ent) (e : Ent) : lastT (es ++ [e]) = e.1 := by unfold lastT; rw [List.getLast?_concat]
theorem atI_row {es : List Ent} {i : Nat} {e : Ent} (h : es[i]? = some e) : L2.atI (es.map entD) (i : Int) = some (entD e) := atI_nat (by rw [List.getElem?_map, h]; rfl)
theorem atI_rowLast {es : List Ent} (h : es ≠ []) : ∃ e, L2.atI (es.map entD) (-1) = some (entD e) ∧ lastT es = e.1 := by
  obtain ⟨e, he⟩ : ∃ e, es.getLast? = some e := by
    cases q : es.getLast? with
    | none => exact absurd (List.getLast?_eq_none_iff.mp q) h
    | some e => exact ⟨e, rfl⟩
  obtain ⟨ys, rfl⟩ := List.getLast?_eq_some_iff.mp he
  exact ⟨e, by rw [List.map_append]; exact atI_last _ _, lastT_snoc ys e⟩

/-! ### numbers -/
def cellAt (ns : List Int) (k : Int) : Int := if k < ns.length then ns.getD k.toNat 0 else 0
def mixed (ns : List Int) (k : Int) : Int :=
  ((cellAt ns k + 7919 * k) * 48271 % 2147483647 * ((cellAt ns k + 7919 * k) * 48271 % 2147483647) + 7 * ((cellAt ns k + 7919 * k) * 48271 % 2147483647) + k) % 2147483629
theorem mixed_rng (ns : List Int) (k : Int) : 0 ≤ mixed ns k ∧ mixed ns k < 2147483629 := ⟨Int.emod_nonneg _ (by decide), Int.emod_lt_of_pos _ (by decide)⟩
theorem atI_cell {ns : List Int} {k : Int} (h0 : 0 ≤ k) (h : k < ns.length) : L2.atI ns k = some (ns.getD k.toNat 0) := by
  have e : k = (k.toNat : Int) := by omega
  have hl : k.toNat < ns.length := by omega
  have := atI_nat (xs := ns) (j := k.toNat) (v := ns.getD k.toNat 0) (by rw [List.getD_eq_getElem?_getD, List.getElem?_eq_getElem hl]; rfl)
  rw [← e] at this
  exact this
/-! ### words -/
def alphaA : Str := (" !\"#$&'()*+,-./0123456789:;<=>?@ABCDEFGHIJKLMNOPQRSTUVWXYZ[\\]^_`" : String)
def alphaB : Str := ("abcdefghijklmnopqrstuvwxyz{|}~" : String)
def alpha : Str := alphaA ++ alphaB
theorem alpha_len : alpha.cps.toList.length = 94 := by decide +kernel
theorem alpha_small : alpha.length ≤ sizeLine := by rw [sizeLine_eq]; decide +kernel
theorem alphaA_len : alphaA.length + alphaB.length ≤ sizeLine := by rw [sizeLine_eq]; decide +kernel
theorem alpha_all : alpha.cps.toList.all (fun c => decide (c < 0x110000)) = true := by decide +kernel
def signBy (n : Int) : Str := ⟨#[alpha.cps.toList.getD (n % 94).toNat 0]⟩
theorem sign_at (n : Int) : L2.atI alpha.cps.toList (n % 94) = some (alpha.cps.toList.getD (n % 94).toNat 0) := by
  have h0 : 0 ≤ n % 94 := Int.emod_nonneg _ (by decide)
  have h1 : n % 94 < 94 := Int.emod_lt_of_pos _ (by decide)
  have e : n % 94 = ((n % 94).toNat : Int) := by omega
  have hl : (n % 94).toNat < alpha.cps.toList.length := by rw [alpha_len]; omega
  have := atI_nat (xs := alpha.cps.toList) (j := (n % 94).toNat) (v := alpha.cps.toList.getD (n % 94).toNat 0) (by rw [List.getD_eq_getElem?_getD, List.getElem?_eq_getElem hl]; rfl)
  rw [← e] at this
  exact this
theorem signBy_len (n : Int) : (signBy n).length = 1 := rfl
theorem signBy_ok (n : Int) : strOk (signBy n) = true := by
  have h1 : n % 94 < 94 := Int.emod_lt_of_pos _ (by decide)
  have h0 : 0 ≤ n % 94 := Int.emod_nonneg _ (by decide)
  have hl : (n % 94).toNat < alpha.cps.toList.length := by rw [alpha_len]; omega
  have hm : alpha.cps.toList.getD (n % 94).toNat 0 ∈ alpha.cps.toList := by
    rw [List.getD_eq_getElem?_getD, List.getElem?_eq_getElem hl]
    exact List.getElem_mem hl
  have := List.all_eq_true.mp alpha_all _ hm
  unfold strOk signBy
  simp only [List.all_toArray, List.all_cons, List.all_nil, Bool.and_true]
  exact this
theorem strOk_append {a b : Str} (h1 : strOk a = true) (h2 : strOk b = true) : strOk (a ++ b) = true := by
  show (a.cps ++ b.cps).all _ = true
  rw [Array.all_append]
  rw [show a.cps.all _ = true from h1, show b.cps.all _ = true from h2]
  rfl
theorem len_append (a b : Str) : (a ++ b).length = a.length + b.length := by
  show (a.cps ++ b.cps).size = _
  rw [Array.size_append]; rfl
theorem join_ok : ∀ ys : List Str, (∀ y ∈ ys, strOk y = true ∧ y.length = 1) → strOk (Str.join Str.empty ys) = true ∧ (Str.join Str.empty ys).length = ys.length
  | [], _ => ⟨by decide +kernel, rfl⟩
  | [x], h => h x List.mem_cons_self
  | x :: y :: r, h => by
    obtain ⟨h1, h2⟩ := join_ok (y :: r) fun z hz => h z (List.mem_cons_of_mem _ hz)
    obtain ⟨h3, h4⟩ := h x List.mem_cons_self
    have he : strOk Str.empty = true := by decide +kernel
    refine ⟨strOk_append (strOk_append h3 he) h1, ?_⟩
    show ((x ++ Str.empty) ++ Str.join Str.empty (y :: r)).length = _
    rw [len_append, len_append, h2, h4]
    show 1 + 0 + (y :: r).length = (x :: y :: r).length
    rw [List.length_cons (a := x)]
    omega
def wordSize (n : Int) : Int := if n / 4 % 9 = 1 then 10 + n / 36 % 120 else n % 4
theorem wordSize_rng (n : Int) : 0 ≤ wordSize n ∧ wordSize n ≤ 129 := by
  unfold wordSize
  split <;> omega
def wordSigns (n : Int) : List Str := (List.range (wordSize n).toNat).map fun (k : Nat) => signBy (n / 36 + 7 * (k : Int))
def emptyS : Str := ("" : String)
theorem emptyS_eq : emptyS = Str.empty := by decide +kernel
def wordBy (n : Int) : Str := Txt.join emptyS (wordSigns n)
theorem wordSigns_ok (n : Int) : ∀ y ∈ wordSigns n, strOk y = true ∧ y.length = 1 := fun y hy => by
  obtain ⟨k, _, rfl⟩ := List.mem_map.mp hy
  exact ⟨signBy_ok _, signBy_len _⟩
theorem wordSigns_len (n : Int) : (wordSigns n).length ≤ 129 := by
  unfold wordSigns
  rw [List.length_map, List.length_range]
  have := wordSize_rng n
  omega
theorem wordBy_ok (n : Int) : wOk (wordBy n) := by
  unfold wordBy wOk
  rw [emptyS_eq, TL.join_eq]
  obtain ⟨h1, h2⟩ := join_ok _ (wordSigns_ok n)
  exact ⟨h1, by rw [h2]; exact wordSigns_len n⟩
theorem wordSigns_fit (n : Int) : ((wordSigns n).map (·.length)).sum + (wordSigns n).length * emptyS.length ≤ 16777216 := by
  have h : ∀ ys : List Str, (∀ y ∈ ys, strOk y = true ∧ y.length = 1) → (ys.map (·.length)).sum = ys.length := fun ys => by
    induction ys with
    | nil => intro _; rfl
    | cons y r ih =>
      intro hy
      rw [List.map_cons, List.sum_cons, ih fun z hz => hy z (List.mem_cons_of_mem _ hz), (hy y List.mem_cons_self).2, List.length_cons]
      omega
  rw [h _ (wordSigns_ok n)]
  have := wordSigns_len n
  have e : emptyS.length = 0 := by rw [emptyS_eq]; rfl
  rw [e]
  omega
def entBy (n : Int) : Ent := (if n / 4 % 6 = 1 then 1 + n ^ 3 else 1 + n % 4, wordBy (n / 24))
theorem entBy_ok (n : Int) : strOk (entBy n).2 = true := (wordBy_ok _).1
def rowSize (n : Int) : Int := if n / 6 % 4 = 1 then n % 6 + 60 else n % 6
theorem rowSize_rng (n : Int) : 0 ≤ rowSize n ∧ rowSize n ≤ 65 := by
  unfold rowSize
  split <;> omega
def rowBy (ns : List Int) (at_ : Int) : List Ent := (List.range (rowSize (mixed ns at_)).toNat).map fun (k : Nat) => entBy (mixed ns (at_ + 2 + 3 * (k : Int)))
theorem rowBy_ok (ns : List Int) (a : Int) : rowOk (rowBy ns a) := fun e he => by
  obtain ⟨k, _, rfl⟩ := List.mem_map.mp he
  exact entBy_ok _
theorem rowBy_len (ns : List Int) (a : Int) : (rowBy ns a).length ≤ 65 := by
  unfold rowBy
  rw [List.length_map, List.length_range]
  have := rowSize_rng (mixed ns a)
  omega
theorem lcOut_all {f : PyData → PyData} (its : List PyData) : lcOut (fun _ => true) f its = its.map f := by
  unfold lcOut
  rw [List.filter_eq_self.mpr fun _ _ => rfl]
theorem rgD_map (n : Nat) (f : PyData → PyData) : (rgD n).map f = (List.range n).map fun (k : Nat) => f (.int (k : Int)) := by unfold rgD; rw [List.map_map]; rfl
end Fw
namespace Fw
open PySem L2
/-- whether the entry ahead of a place is there, and of a term -/
def agreesB (es : List Ent) (k t : Int) : Bool := if k = 0 then true else match es[(k - 1).toNat]? with
  | some e => decide (e.1 = t)
  | none => false
theorem agreesB_at {es : List Ent} {k t : Int} {e : Ent} (h0 : 0 < k) (h : es[(k - 1).toNat]? = some e) : agreesB es k t = decide (e.1 = t) := by
  unfold agreesB
  rw [if_neg (by omega), h]
theorem agreesB_out {es : List Ent} {k t : Int} (h0 : 0 < k) (h : (es.length : Int) < k) : agreesB es k t = false := by
  unfold agreesB
  rw [if_neg (by omega), List.getElem?_eq_none (by omega)]
theorem row_get {es : List Ent} {k : Int} (h0 : 0 < k) (h : k ≤ es.length) : ∃ e, es[(k - 1).toNat]? = some e ∧ L2.atI (es.map entD) (k - 1) = some (entD e) := by
  have hl : (k - 1).toNat < es.length := by omega
  refine ⟨es[(k - 1).toNat], List.getElem?_eq_getElem hl, ?_⟩
  have := atI_row (List.getElem?_eq_getElem hl)
  have e : ((k - 1).toNat : Int) = k - 1 := by omega
  rw [e] at this
  exact this
end Fw
namespace Fw
open PySem L2
/-! ### what more than half hold -/
def cnt (hs : List Int) (n : Int) : Nat := (hs.filter fun h => decide (n ≤ h)).length
def settledUp (es : List Ent) (t : Int) (hs : List Int) : Nat → Int
  | 0 => 0
  | n + 1 => if (hs.length : Int) < 2 * (cnt hs ((n : Int) + 1) : Int) ∧ (es[n]?.map (·.1)) = some t then (n : Int) + 1 else settledUp es t hs n
def settledBy (es : List Ent) (t : Int) (hs : List Int) : Int := settledUp es t hs es.length
def geD (n : Int) : PyData → Bool
  | .int h => decide (n ≤ h)
  | _ => false
theorem cnt_out (hs : List Int) (n : Int) : (lcOut (geD n) (fun d => d) (hs.map PyData.int)).length = cnt hs n := by
  unfold lcOut cnt
  rw [List.length_map, List.filter_map, List.length_map]; rfl
theorem cnt_nil (n : Int) : cnt [] n = 0 := rfl
theorem cnt_snoc (hs : List Int) (h n : Int) : cnt (hs ++ [h]) n = if n ≤ h then cnt hs n + 1 else cnt hs n := by
  unfold cnt
  rw [List.filter_append, List.length_append]
  by_cases q : n ≤ h
  · rw [if_pos q]; simp [q]
  · rw [if_neg q]; simp [q]
theorem cnt_le (hs : List Int) (n : Int) : cnt hs n ≤ hs.length := List.length_filter_le _ _
theorem settledUp_rng (es : List Ent) (t : Int) (hs : List Int) : ∀ n : Nat, 0 ≤ settledUp es t hs n ∧ settledUp es t hs n ≤ n
  | 0 => ⟨Int.le_refl _, Int.le_refl _⟩
  | n + 1 => by
    have := settledUp_rng es t hs n
    unfold settledUp
    split <;> omega
end Fw
namespace Fw
open PySem L2
def heldOne (ns : List Int) (size : Int) (k : Nat) : Int := if mixed ns (4 + 3 * (k : Int)) / 70 % 11 = 1 then 10 ^ 20 else mixed ns (4 + 3 * (k : Int)) % (size + 3)
def heldBy (ns : List Int) (size : Int) (n : Nat) : List Int := (List.range n).map (heldOne ns size)
theorem heldBy_succ (ns : List Int) (size : Int) (n : Nat) : heldBy ns size (n + 1) = heldBy ns size n ++ [heldOne ns size n] := by
  unfold heldBy
  rw [List.range_succ, List.map_append]; rfl
theorem heldBy_len (ns : List Int) (size : Int) (n : Nat) : (heldBy ns size n).length = n := by unfold heldBy; rw [List.length_map, List.length_range]
theorem plain_ints : ∀ hs : List Int, plainAll (hs.map PyData.int) = true
  | [] => rfl
  | e :: es => plain_ints es
theorem shaped_ints (hs : List Int) : SeqAt.shaped (.list (hs.map PyData.int)) = true := by
  unfold SeqAt.shaped
  have h1 : ∀ hs : List Int, PyData.canLayAll0 (hs.map PyData.int) = true := fun hs => by
    induction hs with
    | nil => rfl
    | cons h t ih => exact ih
  have h2 : ∀ hs : List Int, PyData.depthAll (hs.map PyData.int) = 0 := fun hs => by
    induction hs with
    | nil => rfl
    | cons h t ih =>
      show max 0 (PyData.depthAll (t.map PyData.int)) = 0
      rw [ih]; rfl
  rw [Bool.and_eq_true]
  refine ⟨h1 hs, decide_eq_true ?_⟩
  show PyData.depthAll (hs.map PyData.int) + 1 ≤ 64
  rw [h2]
  decide
theorem eqv_ints : ∀ a b : List Int, PyData.eqvAll (a.map PyData.int) (b.map PyData.int) = decide (a = b)
  | [], [] => rfl
  | [], _ :: _ => rfl
  | _ :: _, [] => rfl
  | x :: a, y :: b => by
    show ((x == y) && PyData.eqvAll (a.map PyData.int) (b.map PyData.int)) = _
    rw [eqv_ints a b]
    by_cases h1 : x = y
    · subst h1
      by_cases h2 : a = b
      · subst h2; simp
      · simp [h2]
    · simp [h1]
theorem opEqIs {K : PySem.W.Frag} {a b : List Int} : OpD K (rEqD K) (.list (a.map .int)) (.list (b.map .int)) (.bool (decide (a = b))) := by
  rw [← eqv_ints]
  exact opEqD (plain_ints a) (plain_ints b) (shaped_ints a) (shaped_ints b)
theorem opNeIs {K : PySem.W.Frag} {a b : List Int} : OpD K (rNeD K) (.list (a.map .int)) (.list (b.map .int)) (.bool (!decide (a = b))) := by
  rw [← eqv_ints]
  exact opNeD (plain_ints a) (plain_ints b) (shaped_ints a) (shaped_ints b)
end Fw

/-! Objects: a state is M itself and what is known of G; calls of defs that change it or raise. -/
namespace Fw
open PySem L2

structure MF where
  m : Hp
  f : V → PyData → Prop
def Rmf (K : PySem.W.Frag) : MF → Hp → Hp → Prop := fun r G M => M = r.m ∧ ∀ v d, r.f v d → Rp K G v d
instance {K : PySem.W.Frag} : Stab (Rmf K) := ⟨fun _ _ _ _ s _ h => ⟨h.1, fun v d q => (h.2 v d q).mono s⟩⟩
def VF (K : PySem.W.Frag) (r : MF) (v : V) (d : PyData) : Prop := ∀ G M, Rmf K r G M → Rp K G v d
section
variable {K : PySem.W.Frag} {r : MF}
theorem VF.int {i : Int} : VF K r (.int i) (.int i) := fun _ _ _ => .int i
theorem VF.bl {b : Bool} : VF K r (.bl b) (.bool b) := fun _ _ _ => .bl b
theorem VF.obj {a : Addr} : VF K r (.ref a) (objD a) := fun _ _ _ => .obj
theorem VF.fact {v : V} {d : PyData} (h : r.f v d) : VF K r v d := fun _ _ q => q.2 v d h
end
def addF (f : V → PyData → Prop) (v : V) (d : PyData) : V → PyData → Prop := fun w e => f w e ∨ (w = v ∧ e = d)
section
variable {K : PySem.W.Frag} {r : MF} {e : SE} {ta tb te tv : TE} {d : PyData} {ds : List PyData} {a C dx l : Addr} {fs : List (Str × V)} {f : Str} {v : V} {xs : List V}
theorem Wf.at {G M H : Hp} (w : Wf (Rmf K) G M H r) {o : HO} (h : r.m a = some o) : H a = some o := w.mh a o (by rw [w.res.1]; exact h)
theorem ev_fld (h : EvD K (Rmf K) ta e r (objD a)) (hm : r.m a = some (.ins C dx fs)) (c : Cls K C) (n : NoAttr K C f) (hl : fs.lookup f = some v) (hv : VF K r v d) : EvD K (Rmf K) (tFld K ta f) e r d := fun B σ G M H ve w Q q =>
  h B σ G M H ve w _ fun x d' r' G' M' H' ⟨e1, e2⟩ s w' hx => by
    subst e1 e2
    exact ⟨a, C, dx, fs, v, hx.obj_inv, w'.at hm, c, n, hl, q v d _ G' M' H' ⟨rfl, rfl⟩ s w' (hv _ _ w'.res)⟩
theorem inst_of {p : Addr} {m : Str} (h : r.m p = some (.ins C dx fs)) (l : fs.lookup m = none) : ∀ G M, Rmf K r G M → ∃ dx fs, M p = some (.ins C dx fs) ∧ fs.lookup m = none := fun G M hM => ⟨dx, fs, by rw [hM.1]; exact h, l⟩
/-- a thing of M changes -/
theorem Stp.mutM {G M H : Hp} (hm : ∃ o, M a = some o) (mh : Same M H) (o' : HO) : Stp G M H G (upd M a o') (upd H a o') where
  gg := Same.refl _
  th := fun b hb => by
    by_cases e : b = a
    · rw [e, upd_same]; exact fun z => nomatch z
    · rw [upd_ne e]; exact hb
  fr := fun b u e m => by
    have : b ≠ a := fun z => by rw [z] at m; obtain ⟨o, h⟩ := hm; rw [m] at h; cases h
    rw [upd_ne this]; exact e
  ng := fun _ _ g => g
  nm := fun b _ m => by
    have : b ≠ a := fun z => by rw [z] at m; obtain ⟨o, h⟩ := hm; rw [m] at h; cases h
    rw [upd_ne this]; exact m
theorem Wf.mutM {G M H : Hp} (w : Wf (Rmf K) G M H r) {o : HO} (hm : r.m a = some o) (o' : HO) {f' : V → PyData → Prop} (hf : ∀ v d, f' v d → Rp K G v d) : Wf (Rmf K) G (upd M a o') (upd H a o') ⟨upd r.m a o', f'⟩ := by
  have hM : M = r.m := w.res.1
  subst hM
  refine ⟨same_upd w.gh (w.dj a (some_ne hm)), same_both w.mh, fun b hb => ?_, rfl, hf⟩
  by_cases e : b = a
  · rw [e]; exact w.dj a (some_ne hm)
  · rw [upd_ne e] at hb; exact w.dj b hb
/-- a new thing comes to M -/
theorem Stp.newM {G M H : Hp} (h : H a = none) (o' : HO) : Stp G M H G (upd M a o') (upd H a o') where
  gg := Same.refl _
  th := fun b hb => by
    by_cases e : b = a
    · rw [e, upd_same]; exact fun z => nomatch z
    · rw [upd_ne e]; exact hb
  fr := fun b u e m => by rw [upd_ne (ne_of_none e h)]; exact e
  ng := fun _ _ g => g
  nm := fun b hb m => by
    have : b ≠ a := fun z => hb (by rw [z]; exact h)
    rw [upd_ne this]; exact m
theorem Wf.newM {G M H : Hp} (w : Wf (Rmf K) G M H r) (h : H a = none) (o' : HO) : Wf (Rmf K) G (upd M a o') (upd H a o') ⟨upd r.m a o', r.f⟩ := by
  have hM : M = r.m := w.res.1
  subst hM
  refine ⟨same_upd w.gh (w.gn h), same_both w.mh, fun b hb => ?_, rfl, w.res.2⟩
  by_cases e : b = a
  · rw [e]; exact w.gn h
  · rw [upd_ne e] at hb; exact w.dj b hb
/-- a hidden new list comes to M -/
theorem Wf.toM {G M H : Hp} (w : Wf (Rmf K) G M H r) {o : HO} (h : H a = some o) (g : G a = none) : Wf (Rmf K) G (upd M a o) H ⟨upd r.m a o, r.f⟩ := by
  have hM : M = r.m := w.res.1
  subst hM
  refine ⟨w.gh, fun b u e => ?_, fun b hb => ?_, rfl, w.res.2⟩
  · by_cases q : b = a
    · rw [q, upd_same] at e; rw [q, h]; exact e
    · rw [upd_ne q] at e; exact w.mh b u e
  · by_cases q : b = a
    · rw [q]; exact g
    · rw [upd_ne q] at hb; exact w.dj b hb
theorem Stp.toM {G M H G' M' H' : Hp} (s : Stp G M H G' M' H') (h : H a = none) (o : HO) : Stp G M H G' (upd M' a o) H' :=
  ⟨s.gg, s.th, s.fr, s.ng, fun b hb m => by
    have : b ≠ a := fun z => hb (by rw [z]; exact h)
    rw [upd_ne this]; exact s.nm b hb m⟩
/-- o.f = e -/
theorem sp_fld {P : Post MF} {E : XK} (h : EvD K (Rmf K) tv e r d) (ha : EvD K (Rmf K) ta e r (objD a)) (hm : r.m a = some (.ins C dx fs)) (c : Cls K C) (n : NoAttr K C f) (hl : fs.length < 1000)
    (k : ∀ v, (∃ G, Rp K G v d) → P.nx e ⟨upd r.m a (.ins C dx (putF f v fs)), addF r.f v d⟩) : SP K (Rmf K) E (sFld K ta tv f) e r P := fun G0 M0 H0 σ G M H D s ve w q =>
  h H0 σ G M H ve w _ fun v d' r' G1 M1 H1 ⟨e1, e2⟩ s1 w1 hv => by
    subst e1 e2
    refine ha H0 σ G1 M1 H1 (ve.step s1) w1 _ fun x d2 r2 G2 M2 H2 ⟨e1, e2⟩ s2 w2 hx => ?_
    subst e1 e2
    refine ⟨a, C, dx, fs, hx.obj_inv, w2.at hm, c, n, hl, ?_⟩
    have hM : M2 = r2.m := w2.res.1
    have st : Stp G2 M2 H2 G2 (upd M2 a (.ins C dx (putF f v fs))) (upd H2 a (.ins C dx (putF f v fs))) := Stp.mutM ⟨_, by rw [hM]; exact hm⟩ w2.mh _
    have s3 := (s1.trans s2).trans st
    refine q.nx e _ σ G2 _ _ (k v ⟨_, hv⟩) (s.trans s3) (ve.step s3) (w2.mutM hm _ fun v' d' hf => ?_)
    rcases hf with hf | ⟨e1, e2⟩
    · exact w2.res.2 v' d' hf
    · rw [e1, e2]; exact hv.mono s2.gg
/-- o.f = a new list that stays -/
theorem sp_fldL {P : Post MF} {E : XK} (h : EvF K (Rmf K) tv e r ds) (ha : EvD K (Rmf K) ta e r (objD a)) (hm : r.m a = some (.ins C dx fs)) (c : Cls K C) (n : NoAttr K C f) (hl : fs.length < 1000)
    (k : ∀ l, (∀ es, ¬ r.f (.ref l) (.list es)) → P.nx e ⟨upd r.m a (.ins C dx (putF f (.ref l) fs)), addF r.f (.ref l) (.list ds)⟩) : SP K (Rmf K) E (sFld K ta tv f) e r P := fun G0 M0 H0 σ G M H D s ve w q =>
  h H0 σ G M H ve w _ fun l vs G1 M1 H1 s1 w1 h1 h2 h3 h4 h5 => by
    have s1' := s1.freeze (o := .lst vs) h1 h2
    have w1' := w1.freeze h4 h2 h3
    refine ha H0 σ _ M1 H1 (ve.step s1') w1' _ fun x d2 r2 G2 M2 H2 ⟨e1, e2⟩ s2 w2 hx => ?_
    subst e1 e2
    refine ⟨a, C, dx, fs, hx.obj_inv, w2.at hm, c, n, hl, ?_⟩
    have hM : M2 = r2.m := w2.res.1
    have st : Stp G2 M2 H2 G2 (upd M2 a (.ins C dx (putF f (.ref l) fs))) (upd H2 a (.ins C dx (putF f (.ref l) fs))) := Stp.mutM ⟨_, by rw [hM]; exact hm⟩ w2.mh _
    have s3 := (s1'.trans s2).trans st
    refine q.nx e _ σ G2 _ _ (k l fun es hf => ?_) (s.trans s3) (ve.step s3) (w2.mutM hm _ fun v' d' hf => ?_)
    · obtain ⟨b, xs, e1, e2, _⟩ := (w.res.2 _ _ hf).lst_inv
      cases e1
      rw [w.gn h1] at e2
      cases e2
    · rcases hf with hf | ⟨e1, e2⟩
      · exact w2.res.2 v' d' hf
      · rw [e1, e2]; exact (Rp.lst upd_same (h5.mono (same_new h2))).mono s2.gg
/-- o.f = a new list of ints -/
theorem sp_fldN {P : Post MF} {E : XK} {ns : List Int} (h : EvF K (Rmf K) tv e r (ns.map .int)) (ha : EvD K (Rmf K) ta e r (objD a)) (hm : r.m a = some (.ins C dx fs)) (c : Cls K C) (n : NoAttr K C f) (hl : fs.length < 1000)
    (ha' : ∀ m', EvD K (Rmf K) ta e ⟨m', r.f⟩ (objD a))
    (k : ∀ l, r.m l = none → l ≠ a → P.nx e ⟨upd (upd r.m l (.lst (ns.map .int))) a (.ins C dx (putF f (.ref l) fs)), r.f⟩) : SP K (Rmf K) E (sFld K ta tv f) e r P := fun G0 M0 H0 σ G M H D s ve w q =>
  h H0 σ G M H ve w _ fun l vs G1 M1 H1 s1 w1 h1 h2 h3 h4 h5 => by
    have hM1 : M1 = r.m := w1.res.1
    have hla : l ≠ a := fun z => by rw [hM1, z, hm] at h3; cases h3
    have wl := w1.toM h4 h2
    have sl := s1.toM h1 (.lst vs)
    have hn := h5.ints
    subst hn
    refine ha' _ H0 σ G1 _ H1 (ve.step sl) wl _ fun x d2 r2 G2 M2 H2 ⟨e1, e2⟩ s2 w2 hx => ?_
    subst e1 e2
    have hm' : (upd r.m l (.lst (ns.map .int))) a = some (.ins C dx fs) := by rw [upd_ne hla.symm]; exact hm
    refine ⟨a, C, dx, fs, hx.obj_inv, w2.at hm', c, n, hl, ?_⟩
    have hM : M2 = upd r.m l (.lst (ns.map .int)) := w2.res.1
    have st : Stp G2 M2 H2 G2 (upd M2 a (.ins C dx (putF f (.ref l) fs))) (upd H2 a (.ins C dx (putF f (.ref l) fs))) := Stp.mutM ⟨_, by rw [hM]; exact hm'⟩ w2.mh _
    have s3 := (sl.trans s2).trans st
    exact q.nx e _ σ G2 _ _ (k l (by rw [← hM1]; exact h3) hla) (s.trans s3) (ve.step s3) (w2.mutM hm' _ w2.res.2)
/-- o.f[j] = e, an int -/
theorem sp_setF {P : Post MF} {E : XK} {i j : Int} {n : Nat} (h : EvD K (Rmf K) te e r (.int i)) (ho : EvD K (Rmf K) ta e r (objD l)) (hj : EvD K (Rmf K) tb e r (.int j)) (hm : r.m l = some (.lst xs)) (hn : ixN xs.length j = some n)
    (k : P.nx e ⟨upd r.m l (.lst (xs.set n (.int i))), r.f⟩) : SP K (Rmf K) E (tAsg te (gSub ta tb rSetL)) e r P := fun G0 M0 H0 σ G M H D s ve w q =>
  h H0 σ G M H ve w _ fun v d' r' G1 M1 H1 ⟨e1, e2⟩ s1 w1 hv => by
    subst e1 e2
    refine ho H0 σ G1 M1 H1 (ve.step s1) w1 _ fun x d2 r2 G2 M2 H2 ⟨e1, e2⟩ s2 w2 hx => ?_
    subst e1 e2
    refine hj H0 σ G2 M2 H2 ((ve.step s1).step s2) w2 _ fun y d3 r3 G3 M3 H3 ⟨e1, e2⟩ s3 w3 hy => ?_
    subst e1 e2
    rw [hv.int_inv]
    refine ⟨l, xs, j, n, hx.obj_inv, hy.int_inv, w3.at hm, hn, ?_⟩
    have hM : M3 = r3.m := w3.res.1
    have st : Stp G3 M3 H3 G3 (upd M3 l (.lst (xs.set n (.int i)))) (upd H3 l (.lst (xs.set n (.int i)))) := Stp.mutM ⟨_, by rw [hM]; exact hm⟩ w3.mh _
    have s4 := ((s1.trans s2).trans s3).trans st
    exact q.nx e _ σ G3 _ _ k (s.trans s4) (ve.step s4) (w3.mutM hm _ w3.res.2)
/-- o.f[j] -/
theorem ev_ixM {j : Int} (h : EvD K (Rmf K) ta e r (objD l)) (hb : EvD K (Rmf K) tb e r (.int j)) (hm : r.m l = some (.lst xs)) (ha : L2.atI xs j = some v) (hv : VF K r v d) : EvD K (Rmf K) (tOp (rIxL K) ta tb) e r d := fun B σ G M H ve w Q q =>
  h B σ G M H ve w _ fun x d' r' G1 M1 H1 ⟨e1, e2⟩ s1 w1 hx => by
    subst e1 e2
    refine hb B σ G1 M1 H1 (ve.step s1) w1 _ fun y d2 r2 G2 M2 H2 ⟨e1, e2⟩ s2 w2 hy => ?_
    subst e1 e2
    exact ⟨l, xs, j, v, hx.obj_inv, hy.int_inv, SqL.of (w2.at hm), ha, q v d _ G2 M2 H2 ⟨rfl, rfl⟩ (s1.trans s2) w2 (hv _ _ w2.res)⟩
/-- list(o.f) -/
theorem evf_listM {ns : List Int} (h : EvD K (Rmf K) ta e r (objD l)) (hm : r.m l = some (.lst (ns.map .int))) : EvF K (Rmf K) (tCB (rListS K) (tCons ta tNil)) e r (ns.map .int) := fun B σ G M H ve w Q q =>
  h B σ G M H ve w _ fun x d' r' G1 M1 H1 ⟨e1, e2⟩ s1 w1 hx => by
    subst e1 e2
    refine ⟨l, ns.map .int, by rw [hx.obj_inv], .inl (SqL.of (w1.at hm)), fun p hp => ?_⟩
    exact q p _ G1 M1 _ (s1.hid (free_back s1 hp) _) (w1.hid (w1.gn hp) (w1.mn hp) _) (free_back s1 hp) (w1.gn hp) (w1.mn hp) upd_same (RpAll.of_ints ns)
end

/-! ### own lists that are lent -/
def ScD (K : PySem.W.Frag) (d : PyData) : Prop := ∀ G G' v, Rp K G v d → Rp K G' v d
theorem ScD.bl {K : PySem.W.Frag} {b : Bool} : ScD K (.bool b) := fun _ _ _ h => by rw [h.bl_inv]; exact .bl b
theorem ScD.int {K : PySem.W.Frag} {b : Int} : ScD K (.int b) := fun _ _ _ h => by rw [h.int_inv]; exact .int b
theorem ScD.non {K : PySem.W.Frag} : ScD K .none := fun _ _ _ h => by rw [h.non_inv]; exact .non
theorem ScD.obj {K : PySem.W.Frag} {a : Addr} : ScD K (objD a) := fun _ _ _ h => by rw [h.obj_inv]; exact .obj
section
variable {K : PySem.W.Frag} {ρ : Type} {R : ρ → Hp → Hp → Prop} {e : SE} {r : ρ} {te : TE} {t : TT} {d : PyData} {ds : List PyData}
/-- a pure reading: an own list is lent for it -/
theorem ev_lend [Stab R] {i : Nat} (hi : e[i]? = some (.own ds)) (h : ∀ M0, EvD K (RM M0) te (e.set i (.dat (.list ds))) () d) (sc : ScD K d) : EvD K R te e r d := fun B σ G M H v w Q q => by
  obtain ⟨l, vs, h1, h2, h3, h4, h5, v'⟩ := v.frz hi
  have w0 : Wf (RM M) G M H () := ⟨w.gh, w.mh, w.dj, rfl⟩
  refine h M B σ _ M H v' (w0.freeze h5 h3 h4) Q fun x d' _ G' M' H' ⟨e1, _⟩ s' w' hx => ?_
  subst e1
  have e2 : M' = M := w'.res
  subst e2
  have sg : Same G G' := (same_new h3).trans s'.gg
  exact q x d' r G M' H' ⟨rfl, rfl⟩ ⟨Same.refl _, s'.th, s'.fr, fun _ _ g => g, fun _ _ m => m⟩ ⟨fun b o hb => w'.gh b o (sg b o hb), w'.mh, w.dj, w.res⟩ (sc _ _ _ hx)
/-- list(x), x one's own -/
theorem evf_listO {i : Nat} (hi : e[i]? = some (.own ds)) : EvF K R (tCB (rListS K) (tCons (tVar i) tNil)) e r ds := fun B σ G M H v w Q q => by
  obtain ⟨l, vs, h1, h2, h3, h4, h5, h6⟩ := v.own i ds hi
  exact ⟨.ref l, h1, l, vs, rfl, .inl (SqL.of h5), fun p hp => q p vs G M _ ((Stp.refl _ _ _).hid hp _) (w.hid (w.gn hp) (w.mn hp) _) hp (w.gn hp) (w.mn hp) upd_same h6⟩
/-- a row that does not stand at l stands without it -/
def wo (G : Hp) (l : Addr) : Hp := fun b => if b = l then none else G b
theorem wo_ne {G : Hp} {l b : Addr} (h : b ≠ l) : wo G l b = G b := by unfold wo; rw [if_neg h]
theorem wo_same {G : Hp} {l : Addr} : wo G l l = none := by unfold wo; rw [if_pos rfl]
theorem Rp.wo_row {G : Hp} {l : Addr} {vs : List V} {v : V} {es : List Ent} (h : Rp K G v (rowD es)) (hl : G l = some (.lst vs)) (hv : v ≠ .ref l) : Rp K (wo G l) v (rowD es) := by
  obtain ⟨a, xs, rfl, h1, h2⟩ := Rp.lst_inv (ds := es.map entD) h
  refine Rp.lst (ds := es.map entD) (by rw [wo_ne (fun z => hv (by rw [z]))]; exact h1) ?_
  have all : ∀ (es : List Ent) (xs : List V), RpAll K G xs (es.map entD) → RpAll K (wo G l) xs (es.map entD) := fun es => by
    induction es with
    | nil => intro xs h; rw [RpAll.nil_inv h]; exact .nil
    | cons x r ih =>
      intro xs h
      obtain ⟨u, us, rfl, g1, g2⟩ := RpAll.cons_inv (d := entD x) (ds := r.map entD) h
      refine .cons ?_ (ih us g2)
      obtain ⟨b, ys, rfl, k1, k2⟩ := Rp.tup_inv (ds := [.int x.1, .str x.2]) g1
      refine Rp.tup (ds := [.int x.1, .str x.2]) (by rw [wo_ne (ne_of k1 hl (by intro z; cases z))]; exact k1) ?_
      obtain ⟨p, ps, rfl, m1, m2⟩ := k2.cons_inv
      obtain ⟨q, qs, rfl, m3, m4⟩ := m2.cons_inv
      rw [m1.int_inv, m3.str_inv, m4.nil_inv]
      exact .cons (.int _) (.cons (.str _) .nil)
  exact all es xs h2
/-- an own list is lent to what changes the state: what is known behind it does not lean on it -/
theorem evs_lend {r : MF} {i : Nat} {P' : PyData → MF → Prop} {P : Addr → PyData → MF → Prop} (hi : e[i]? = some (.own ds)) (h : ∀ l, EvS K (Rmf K) te (e.set i (.dat (.list ds))) ⟨r.m, addF r.f (.ref l) (.list ds)⟩ (P l))
    (k : ∀ l d r', P l d r' → ScD K d ∧ ∃ f, (∀ v d, f v d → r.f v d ∨ (r'.f v d ∧ v ≠ .ref l ∧ ∃ es, d = rowD es)) ∧ P' d ⟨r'.m, f⟩) : EvS K (Rmf K) te e r P' := fun B σ G M H v w Q q => by
  obtain ⟨l, vs, h1, h2, h3, h4, h5, v'⟩ := v.frz hi
  obtain ⟨l2, vs2, h1', _, _, _, h5', h6'⟩ := v.own i ds hi
  rw [h1] at h1'
  cases h1'
  rw [h5] at h5'
  cases h5'
  have wf := w.freeze h5 h3 h4
  have w0 : Wf (Rmf K) (upd G l (.lst vs)) M H ⟨r.m, addF r.f (.ref l) (.list ds)⟩ := ⟨wf.gh, wf.mh, wf.dj, wf.res.1, fun v d hf => by
    rcases hf with hf | ⟨e1, e2⟩
    · exact wf.res.2 v d hf
    · rw [e1, e2]; exact .lst upd_same (h6'.mono (same_new h3))⟩
  refine h l B σ _ M H v' w0 Q fun x d r' G' M' H' p s' w' hx => ?_
  obtain ⟨sc, f, hf, p'⟩ := k l d r' p
  have hl' : G' l = some (.lst vs) := s'.gg _ _ upd_same
  have sg : Same G (wo G' l) := fun b o hb => by
    have : b ≠ l := ne_of_none hb h3
    rw [wo_ne this]
    exact s'.gg _ _ (by rw [upd_ne this]; exact hb)
  have sw : Same (wo G' l) G' := fun b o hb => by
    by_cases e1 : b = l
    · rw [e1, wo_same] at hb; cases hb
    · rw [wo_ne e1] at hb; exact hb
  refine q x d _ (wo G' l) M' H' p' ⟨sg, s'.th, s'.fr, fun b hb g => ?_, s'.nm⟩ ⟨sw.trans w'.gh, w'.mh, fun b hb => ?_, w'.res.1, fun v d hf' => ?_⟩ (sc _ _ _ hx)
  · by_cases e1 : b = l
    · rw [e1, wo_same]
    · rw [wo_ne e1]; exact s'.ng b hb (by rw [upd_ne e1]; exact g)
  · by_cases e1 : b = l
    · rw [e1, wo_same]
    · rw [wo_ne e1]; exact w'.dj b hb
  · rcases hf v d hf' with g | ⟨g1, g2, es, rfl⟩
    · exact (w.res.2 v d g).mono sg
    · exact (w'.res.2 v _ g1).wo_row hl' g2
end

/-! ### calls of defs that change the state, or raise -/
/-- a new list comes of it -/
def spN (K : PySem.W.Frag) {α : Type} (args : α → List PyData) (pre : α → Prop) (res : α → List PyData) : Sp := fun vs H Q _ => ∃ G M a, Pre G M H ∧ RpAll K G vs (args a) ∧ pre a ∧
  ∀ l ws G' H', Al G M H G' H' → H l = none → G' l = none → H' l = some (.lst ws) → RpAll K G' ws (res a) → Q (.ref l) H'
theorem evf_call {K : PySem.W.Frag} {ρ : Type} {R : ρ → Hp → Hp → Prop} [Stab R] {e : SE} {r : ρ} {α : Type} {args : α → List PyData} {pre : α → Prop} {res : α → List PyData} {E : XK} {ta : TA} (a : α) (h : EvA K R ta e r (args a)) (hp : pre a) : EvF K R (tCall (spN K args pre res) [] E ta) e r (res a) := fun B σ G M H v w Q q =>
  h B σ G M H v w _ fun vs G' M' H' s w' hv => ⟨G', M', a, w'.pre, by rw [List.append_nil]; exact hv, hp, fun l ws G2 H2 al h1 h2 h3 h4 => q l ws G2 M' H2 (s.trans al.st) (w'.al al) (free_back s h1) h2 (w'.mn h1) h3 h4⟩
def spX (K : PySem.W.Frag) {ρ : Type} (R : ρ → Hp → Hp → Prop) {α : Type} (args : α → List PyData) (pre : α → ρ → Prop) (post : α → ρ → PyData → ρ → Prop) (exc : α → ρ → Value → ρ → Prop) : Sp := fun vs H Q E =>
  ∃ G M a r, Wf R G M H r ∧ RpAll K G vs (args a) ∧ pre a r ∧ (∀ v d r' G' M' H', post a r d r' → Stp G M H G' M' H' → Wf R G' M' H' r' → Rp K G' v d → Q v H') ∧
    (∀ c r' G' M' H', exc a r c r' → Stp G M H G' M' H' → Wf R G' M' H' r' → E c none H')
/-- no change, but it may raise -/
def spPX (K : PySem.W.Frag) {α : Type} (args : α → List PyData) (pre : α → Prop) (res : α → PyData → Prop) (exc : α → Value → Prop) : Sp := fun vs H Q E =>
  ∃ G M a, Pre G M H ∧ RpAll K G vs (args a) ∧ pre a ∧ (∀ v d G' H', res a d → Al G M H G' H' → Rp K G' v d → Q v H') ∧ (∀ c G' H', exc a c → Al G M H G' H' → E c none H')
section
variable {K : PySem.W.Frag} {ρ : Type} {R : ρ → Hp → Hp → Prop} {e : SE} {r : ρ} {te : TE} {t : TA} {d : PyData} {ds : List PyData} {α : Type} {args : α → List PyData} {E : XK}
/-- as EvS, where te may raise -/
def EvX (K : PySem.W.Frag) {ρ : Type} (R : ρ → Hp → Hp → Prop) (E : XK) (te : TE) (e : SE) (r : ρ) (P : PyData → ρ → Prop) (PE : Value → ρ → Prop) : Prop := ∀ (B : Hp) (σ : St) (G M H : Hp), EnvO K B G M H σ e → Wf R G M H r → ∀ Q : VK,
  (∀ v d r' G' M' H', P d r' → Stp G M H G' M' H' → Wf R G' M' H' r' → Rp K G' v d → Q v H') → (∀ c r' G' M' H', PE c r' → Stp G M H G' M' H' → Wf R G' M' H' r' → E c none H') → te σ H Q
theorem EvX.s {P : PyData → ρ → Prop} {PE : Value → ρ → Prop} (h : EvX K R E te e r P PE) (n : ∀ c r', ¬ PE c r') : EvS K R te e r P := fun B σ G M H v w Q q => h B σ G M H v w Q q fun c r' _ _ _ p => (n c r' p).elim
theorem evx_call {pre : α → ρ → Prop} {post : α → ρ → PyData → ρ → Prop} {exc : α → ρ → Value → ρ → Prop} (a : α) (h : EvA K R t e r (args a)) (hp : pre a r) : EvX K R E (tCall (spX K R args pre post exc) [] E t) e r (post a r) (exc a r) := fun B σ G M H v w Q q qe =>
  h B σ G M H v w _ fun vs G' M' H' s w' hv => ⟨G', M', a, r, w', by rw [List.append_nil]; exact hv, hp, fun x d r' G2 M2 H2 p s2 w2 hx => q x d r' G2 M2 H2 p (s.trans s2) w2 hx, fun c r' G2 M2 H2 p s2 w2 => qe c r' G2 M2 H2 p (s.trans s2) w2⟩
theorem evx_callP [Stab R] {pre : α → Prop} {res : α → PyData → Prop} {exc : α → Value → Prop} (a : α) (h : EvA K R t e r (args a)) (hp : pre a) : EvX K R E (tCall (spPX K args pre res exc) [] E t) e r (fun d r' => res a d ∧ r' = r) (fun c r' => exc a c ∧ r' = r) := fun B σ G M H v w Q q qe =>
  h B σ G M H v w _ fun vs G' M' H' s w' hv => ⟨G', M', a, w'.pre, by rw [List.append_nil]; exact hv, hp, fun x d G2 H2 p a hx => q x d r G2 M' H2 ⟨p, rfl⟩ (s.trans a.st) (w'.al a) hx, fun c G2 H2 p a => qe c r G2 M' H2 ⟨p, rfl⟩ (s.trans a.st) (w'.al a)⟩
theorem evx_meth {pre : α → ρ → Prop} {post : α → ρ → PyData → ρ → Prop} {exc : α → ρ → Value → ρ → Prop} {p C : Addr} {m : Str} (a : α) (ho : EvD K R te e r (objD p)) (hi : ∀ G M, R r G M → ∃ dx fs, M p = some (.ins C dx fs) ∧ fs.lookup m = none)
    (h : EvA K R t e r ds) (hs : args a = objD p :: ds) (hp : pre a r) : EvX K R E (tMeth C m (spX K R args pre post exc) [] E te t) e r (post a r) (exc a r) := fun B σ G M H v w Q q qe =>
  ho B σ G M H v w _ fun x d' r' G1 M1 H1 ⟨e1, e2⟩ s1 w1 hx => by
    subst e1 e2
    obtain ⟨dx, fs, h1, h2⟩ := hi G1 M1 w1.res
    refine ⟨p, dx, fs, hx.obj_inv, w1.mh _ _ h1, h2, h B σ G1 M1 H1 (v.step s1) w1 _ fun vs G2 M2 H2 s2 w2 hv => ?_⟩
    exact ⟨G2, M2, a, _, w2, by rw [hs, List.append_nil]; exact .cons (hx.mono s2.gg) hv, hp, fun x d r' G3 M3 H3 p s3 w3 hx => q x d r' G3 M3 H3 p ((s1.trans s2).trans s3) w3 hx, fun c r' G3 M3 H3 p s3 w3 => qe c r' G3 M3 H3 p ((s1.trans s2).trans s3) w3⟩
theorem evts_notN {P : PyData → ρ → Prop} {PB : Bool → ρ → Prop} (h : EvS K R te e r P) (k : ∀ d r', P d r' → PB (!isNoneD d) r') : EvTS K R (tB (tNotN te)) e r PB := fun B σ G M H v w Q q =>
  h B σ G M H v w _ fun x d r' G' M' H' p s' w' hx => by
    show ∃ c, V.bl (!decide (x = V.non)) = .bl c ∧ Q c H'
    rw [isNone_of hx]
    exact ⟨_, rfl, q _ r' G' M' H' (k d r' p) s' w'⟩
theorem evts_B {P : PyData → ρ → Prop} {PB : Bool → ρ → Prop} (h : EvS K R te e r P) (k : ∀ d r', P d r' → ∃ b, d = .bool b ∧ PB b r') : EvTS K R (tB te) e r PB := fun B σ G M H v w Q q =>
  h B σ G M H v w _ fun x d r' G' M' H' p s' w' hx => by
    obtain ⟨b, e1, p2⟩ := k d r' p
    subst e1
    exact ⟨b, hx.bl_inv, q b r' G' M' H' p2 s' w'⟩
theorem evts_test {P : PyData → ρ → Prop} {PB : Bool → ρ → Prop} (h : EvS K R te e r P) (k : ∀ d r', P d r' → ∃ b, d = .bool b ∧ PB b r') : EvTS K R (tTest te) e r PB := fun B σ G M H v w Q q =>
  h B σ G M H v w _ fun x d r' G' M' H' p s' w' hx => by
    obtain ⟨b, e1, p2⟩ := k d r' p
    subst e1
    exact ⟨b, hx.bl_inv, q b r' G' M' H' p2 s' w'⟩
theorem sp_asgX {i : Nat} {tz : TS} {P : Post ρ} {Pe : PyData → ρ → Prop} {PE : Value → ρ → Prop} (h : EvX K R E te e r Pe PE) (k : ∀ d r', Pe d r' → SP K R E tz (e.set i (.dat d)) r' P) (kx : ∀ c r', PE c r' → P.ex c r') : SP K R E (tSeq (tAsg te (gName i)) tz) e r P := fun G0 M0 H0 σ G M H D s v w q =>
  h H0 σ G M H v w _ (fun x d r' G' M' H' p s' w' hx => k d r' p G0 M0 H0 _ G' M' H' D (s.trans s') ((v.step s').setD hx) w' q) fun c r' G' M' H' p s' w' => q.ex c r' G' M' H' (kx c r' p) (s.trans s') w'
theorem sp_retX {P : Post ρ} {Pe : PyData → ρ → Prop} {PE : Value → ρ → Prop} (h : EvX K R E te e r Pe PE) (k : ∀ d r', Pe d r' → P.rt d r') (kx : ∀ c r', PE c r' → P.ex c r') : SP K R E (tRet te) e r P := fun G0 M0 H0 σ G M H D s v w q =>
  h H0 σ G M H v w _ (fun x d r' G' M' H' p s' w' hx => q.rt d r' x G' M' H' (k d r' p) (s.trans s') w' hx) fun c r' G' M' H' p s' w' => q.ex c r' G' M' H' (kx c r' p) (s.trans s') w'
theorem sp_dropX {P : Post ρ} {Pe : PyData → ρ → Prop} {PE : Value → ρ → Prop} (h : EvX K R E te e r Pe PE) (k : ∀ d r', Pe d r' → P.nx e r') (kx : ∀ c r', PE c r' → P.ex c r') : SP K R E (tDrop te) e r P := fun G0 M0 H0 σ G M H D s v w q =>
  h H0 σ G M H v w _ (fun x d r' G' M' H' p s' w' hx => q.nx e r' σ G' M' H' (k d r' p) (s.trans s') (v.step s') w') fun c r' G' M' H' p s' w' => q.ex c r' G' M' H' (kx c r' p) (s.trans s') w'
/-- an attribute of what may raise -/
theorem evx_fld {K : PySem.W.Frag} {r : MF} {Pe : PyData → MF → Prop} {PE : Value → MF → Prop} {C : Addr} {f : Str} {P : PyData → MF → Prop} (h : EvX K (Rmf K) E te e r Pe PE) (c : Cls K C) (n : NoAttr K C f)
    (k : ∀ d r', Pe d r' → ∃ a dx fs v d2, d = objD a ∧ r'.m a = some (.ins C dx fs) ∧ fs.lookup f = some v ∧ VF K r' v d2 ∧ P d2 r') : EvX K (Rmf K) E (tFld K te f) e r P PE := fun B σ G M H ve w Q q qe =>
  h B σ G M H ve w _ (fun x d r' G' M' H' p s w' hx => by
    obtain ⟨a, dx, fs, v, d2, rfl, h1, h2, h3, h4⟩ := k d r' p
    exact ⟨a, C, dx, fs, v, hx.obj_inv, w'.at h1, c, n, h2, q v d2 r' G' M' H' h4 s w' (h3 _ _ w'.res)⟩) qe
/-- a new object -/
theorem evx_make {K : PySem.W.Frag} {r : MF} {args : α → List PyData} {pre : α → MF → Prop} {post : α → MF → PyData → MF → Prop} {exc : α → MF → Value → MF → Prop} {C : Addr} {P : PyData → MF → Prop} {PE : Value → MF → Prop} (h : EvA K (Rmf K) t e r ds)
    (k : ∀ x dx, r.m x = none → ∃ a, args a = objD x :: ds ∧ pre a ⟨upd r.m x (.ins C dx []), r.f⟩ ∧ (∀ d r', post a ⟨upd r.m x (.ins C dx []), r.f⟩ d r' → d = .none ∧ P (objD x) r') ∧ (∀ c r', exc a ⟨upd r.m x (.ins C dx []), r.f⟩ c r' → PE c r')) :
    EvX K (Rmf K) E (tMake C (spX K (Rmf K) args pre post exc) [] E t) e r P PE := fun B σ G M H v w Q q qe =>
  h B σ G M H v w _ fun vs G1 M1 H1 s1 w1 hv x dx nx ndx ne => by
    have hM : M1 = r.m := w1.res.1
    obtain ⟨a, ea, hp, k1, k2⟩ := k x dx (by rw [← hM]; exact w1.mn nx)
    have wh : Wf (Rmf K) G1 M1 (upd H1 dx (.own x)) r := w1.hid (w1.gn ndx) (w1.mn ndx) _
    have sh : Stp G1 M1 H1 G1 M1 (upd H1 dx (.own x)) := (Stp.refl _ _ _).hid ndx _
    have nx' : (upd H1 dx (.own x)) x = none := by rw [upd_ne ne.symm]; exact nx
    have w2 := wh.newM nx' (.ins C dx [])
    have s2 : Stp G M H G1 _ _ := (s1.trans sh).trans (Stp.newM (G := G1) (M := M1) nx' (.ins C dx []))
    refine ⟨G1, _, a, _, w2, by rw [ea, List.append_nil]; exact .cons .obj hv, hp, fun u d r' G' M' H' p s' w' hu => ?_, fun c r' G' M' H' p s' w' => qe c r' G' M' H' (k2 c r' p) (s2.trans s') w'⟩
    obtain ⟨e1, e2⟩ := k1 d r' p
    subst e1
    exact ⟨hu.non_inv, q (.ref x) (objD x) r' G' M' H' e2 (s2.trans s') w' .obj⟩
end

/-! ### bodies that return a new list -/
/-- each return gives a new list, as P says -/
def SPN (K : PySem.W.Frag) {ρ : Type} (R : ρ → Hp → Hp → Prop) (ts : TS) (e : SE) (r : ρ) (P : List PyData → Prop) : Prop := ∀ (G0 M0 H0 : Hp) (σ : St) (G M H : Hp) (D : Ends), Stp G0 M0 H0 G M H → EnvO K H0 G M H σ e → Wf R G M H r →
  (∀ l ws ds G' M' H', P ds → Stp G0 M0 H0 G' M' H' → Wf R G' M' H' r → H0 l = none → G' l = none → H' l = some (.lst ws) → RpAll K G' ws ds → D.rt (.ref l) H') → ts D σ H
section
variable {K : PySem.W.Frag} {ρ : Type} {R : ρ → Hp → Hp → Prop} {e : SE} {r : ρ} {te : TE} {t : TT} {tu tw tz : TS} {d : PyData} {ds : List PyData} {P : List PyData → Prop}
theorem spn_ret (h : EvF K R te e r ds) (k : P ds) : SPN K R (tRet te) e r P := fun G0 M0 H0 σ G M H D s v w q =>
  h H0 σ G M H v w _ fun l vs G' M' H' s' w' h1 h2 h3 h4 h5 => q l vs ds G' M' H' k (s.trans s') w' (born s h1) h2 h4 h5
theorem spn_retO {i : Nat} (hi : e[i]? = some (.own ds)) (k : P ds) : SPN K R (tRet (tVar i)) e r P := fun G0 M0 H0 σ G M H D s v w q => by
  obtain ⟨l, vs, h1, h2, h3, h4, h5, h6⟩ := v.own i ds hi
  exact ⟨.ref l, h1, q l vs ds G M H k s w h2 h3 h5 h6⟩
theorem spn_if {b : Bool} (h : EvT K R t e r b) (k1 : b = true → SPN K R tu e r P) (k2 : b = false → SPN K R tw e r P) : SPN K R (tIfS t tu tw) e r P := fun G0 M0 H0 σ G M H D s v w q =>
  h H0 σ G M H v w _ fun b' r' G' M' H' ⟨e1, e2⟩ s' w' => by
    subst e1 e2
    cases b' with
    | true =>
      show tu D σ H'
      exact k1 rfl G0 M0 H0 σ G' M' H' D (s.trans s') (v.step s') w' q
    | false =>
      show tw D σ H'
      exact k2 rfl G0 M0 H0 σ G' M' H' D (s.trans s') (v.step s') w' q
/-- an if that returns, then the rest -/
theorem spn_when {b : Bool} (h : EvT K R t e r b) (k1 : b = true → SPN K R tu e r P) (k2 : b = false → SPN K R tz e r P) : SPN K R (tSeq (tIfS t tu tNext) tz) e r P := fun G0 M0 H0 σ G M H D s v w q =>
  h H0 σ G M H v w _ fun b' r' G' M' H' ⟨e1, e2⟩ s' w' => by
    subst e1 e2
    cases b' with
    | true =>
      show tu { D with nx := tz D } σ H'
      exact k1 rfl G0 M0 H0 σ G' M' H' _ (s.trans s') (v.step s') w' q
    | false =>
      show tz D σ H'
      exact k2 rfl G0 M0 H0 σ G' M' H' D (s.trans s') (v.step s') w' q
/-- through a part that may return too -/
theorem spn_seq {E : XK} {N : SE → ρ → Prop} (h : SP K R E tu e r ⟨N, fun _ _ => False, fun _ _ => False, fun _ _ => False, fun _ _ => False⟩) (k : ∀ e r', N e r' → r' = r ∧ SPN K R tz e r P) : SPN K R (tSeq tu tz) e r P := fun G0 M0 H0 σ G M H D s v w q =>
  h G0 M0 H0 σ G M H _ s v w ⟨fun e' r' σ' G' M' H' n s' v' w' => by
    obtain ⟨e1, k1⟩ := k e' r' n
    subst e1
    exact k1 G0 M0 H0 σ' G' M' H' D s' v' w' q, fun _ _ _ _ _ _ z => z.elim, fun _ _ _ _ _ _ z => z.elim, fun _ _ _ _ _ _ z => z.elim, fun _ _ _ _ _ z => z.elim⟩
end

/-! ### defs that change the state, or raise -/
section
variable {P : Program} {w : World} {K : PySem.W.Frag} {mg : Str → Option Value} {base : Heap}
theorem passX {X : Cx} {E : XK} (tk : Takes X (fun cls d _ H => E cls d H)) : Passes (L2.CX X.prog X.w) X E := passes_call tk fun _ _ _ _ h => h
theorem ok_obj {x qual : Str} {st : Stmt} {f : Addr} {fd : FuncData} {N ps : List Str} {k : Nat} {ρ : Type} {R : ρ → Hp → Hp → Prop} {α : Type} {args : α → List PyData} {pre : α → ρ → Prop} {post : α → ρ → PyData → ρ → Prop} {exc : α → ρ → Value → ρ → Prop}
    (F : Fun K x qual st f fd) (S : FnScope N ps (defScope st)) (len : ∀ a, (args a).length = ps.length)
    (body : ∀ (cdv : Value) (A : Around) (outer : List Env) (s : Shared) (H : Hp) (E : XK), Room k (A.deeper (PyProof.Rows.envOfC qual (defScope st) s.heap.objs.size f cdv)) →
      ∃ t, PSs (cxOf (L2.CX P w) P w K mg base N qual (defScope st) f cdv A outer s H E) (defBody st) t ∧ ∀ a r, pre a r → SP K R E t (startE (args a) (N.length - ps.length)) r ⟨fun _ r' => post a r .none r', fun d r' => post a r d r', fun _ _ => False, fun _ _ => False, fun c r' => exc a r c r'⟩) :
    FnOk P w K mg base (L2.CX P w) (k + 1) f fd ps (spX K R args pre post exc) := by
  refine F.okX S (fun vs H Q E h => ?_) (fun cdv A outer s H vs Q E hr h => ?_)
  · obtain ⟨G, M, a, r, p, hv, hp, _⟩ := h
    rw [hv.length]
    exact len a
  · obtain ⟨t, ht, hb⟩ := body cdv A outer s H E hr
    refine ⟨t, ht, ?_⟩
    obtain ⟨G, M, a, r, wf, hv, hp, q, qe⟩ := h
    have hs : L2.start N vs = vs.map some ++ List.replicate (N.length - ps.length) none := by unfold L2.start; rw [hv.length, len a]
    rw [hs]
    exact hb a r hp G M H _ G M H _ (Stp.refl _ _ _) (env_start hv) wf ⟨fun e r' σ G' M' H' hp' s' v' w' => q .non .none r' G' M' H' hp' s' w' .non, fun d r' v G' M' H' hp' s' w' hx => q v d r' G' M' H' hp' s' w' hx, fun _ _ _ _ _ _ z => z.elim, fun _ _ _ _ _ _ z => z.elim, fun c r' G' M' H' hp' s' w' => qe c r' G' M' H' hp' s' w'⟩
/-- a def whose own objects are forgotten at its end -/
theorem ok_pureR {x qual : Str} {st : Stmt} {f : Addr} {fd : FuncData} {N ps : List Str} {k : Nat} {ρ : Type} {R : ρ → Hp → Hp → Prop} {α : Type} {args : α → List PyData} {pre : α → Prop} {res : α → PyData → Prop} (F : Fun K x qual st f fd) (S : FnScope N ps (defScope st))
    (len : ∀ a, (args a).length = ps.length) (r0 : Hp → ρ) (h0 : ∀ G M, R (r0 M) G M)
    (body : ∀ (cdv : Value) (A : Around) (outer : List Env) (s : Shared) (H : Hp) (E : XK), Room k (A.deeper (PyProof.Rows.envOfC qual (defScope st) s.heap.objs.size f cdv)) →
      ∃ t, PSs (cxOf CX0 P w K mg base N qual (defScope st) f cdv A outer s H E).nox (defBody st) t ∧ ∀ (M0 : Hp) a, pre a → SP K R E0 t (startE (args a) (N.length - ps.length)) (r0 M0) ⟨fun _ r' => res a .none ∧ ∀ G M, R r' G M → Same M0 M, fun d r' => res a d ∧ ∀ G M, R r' G M → Same M0 M, fun _ _ => False, fun _ _ => False, fun _ _ => False⟩) :
    FnOk P w K mg base CX0 (k + 1) f fd ps (spD K args pre res) := by
  refine F.ok S (fun vs H Q E h => ?_) (fun cdv A outer s H vs Q E hr h => ?_)
  · obtain ⟨G, M, a, p, hv, hp, _⟩ := h
    rw [hv.length]
    exact len a
  · obtain ⟨t, ht, hb⟩ := body cdv A outer s H E hr
    refine ⟨t, ht, ?_⟩
    obtain ⟨G, M, a, p, hv, hp, q⟩ := h
    have hs : L2.start N vs = vs.map some ++ List.replicate (N.length - ps.length) none := by unfold L2.start; rw [hv.length, len a]
    rw [hs]
    have fin : ∀ {G' M' H' : Hp}, Stp G M H G' M' H' → Same G' H' → Same M' H' → (∀ b, M' b ≠ none → G' b = none) → Same M M' → Al G M H G' H' := fun s1 g1 m1 d1 sm =>
      ⟨⟨s1.gg, s1.th, s1.fr, s1.ng, fun _ _ m => m⟩, g1, sm.trans m1, fun b hb => d1 b (by
        cases z : M b with
        | none => exact absurd z hb
        | some o => exact some_ne (sm b o z))⟩
    refine hb M a hp G M H _ G M H _ (Stp.refl _ _ _) (env_start hv) ⟨p.1, p.2.1, p.2.2, h0 G M⟩ ⟨?_, ?_, fun _ _ _ _ _ _ z => z.elim, fun _ _ _ _ _ _ z => z.elim, fun _ _ _ _ _ z => z.elim⟩
    · intro e r σ G' M' H' hp' s' v' w'
      exact q .non .none G' H' hp'.1 (fin s' w'.gh w'.mh w'.dj (hp'.2 _ _ w'.res)) .non
    · intro d r v G' M' H' hp' s' w' hx
      exact q v d G' H' hp'.1 (fin s' w'.gh w'.mh w'.dj (hp'.2 _ _ w'.res)) hx
/-- a pure def that returns a new list -/
theorem ok_new {x qual : Str} {st : Stmt} {f : Addr} {fd : FuncData} {N ps : List Str} {k : Nat} {α : Type} {args : α → List PyData} {pre : α → Prop} {res : α → List PyData} (F : Fun K x qual st f fd) (S : FnScope N ps (defScope st))
    (len : ∀ a, (args a).length = ps.length)
    (body : ∀ (cdv : Value) (A : Around) (outer : List Env) (s : Shared) (H : Hp) (E : XK), Room k (A.deeper (PyProof.Rows.envOfC qual (defScope st) s.heap.objs.size f cdv)) →
      ∃ t, PSs (cxOf CX0 P w K mg base N qual (defScope st) f cdv A outer s H E).nox (defBody st) t ∧ ∀ (M0 : Hp) a, pre a → SPN K (RM M0) t (startE (args a) (N.length - ps.length)) () (fun ds => ds = res a)) :
    FnOk P w K mg base CX0 (k + 1) f fd ps (spN K args pre res) := by
  refine F.ok S (fun vs H Q E h => ?_) (fun cdv A outer s H vs Q E hr h => ?_)
  · obtain ⟨G, M, a, p, hv, hp, _⟩ := h
    rw [hv.length]
    exact len a
  · obtain ⟨t, ht, hb⟩ := body cdv A outer s H E hr
    refine ⟨t, ht, ?_⟩
    obtain ⟨G, M, a, p, hv, hp, q⟩ := h
    have hs : L2.start N vs = vs.map some ++ List.replicate (N.length - ps.length) none := by unfold L2.start; rw [hv.length, len a]
    rw [hs]
    refine hb M a hp G M H _ G M H _ (Stp.refl _ _ _) (env_start hv) ⟨p.1, p.2.1, p.2.2, rfl⟩ fun l ws ds G' M' H' e1 s' w' h1 h2 h3 h4 => ?_
    have e2 : M' = M := w'.res
    subst e1 e2
    exact q l ws G' H' ⟨s', w'.gh, w'.mh, w'.dj⟩ h1 h2 h3 h4
theorem ok_pureX {x qual : Str} {st : Stmt} {f : Addr} {fd : FuncData} {N ps : List Str} {k : Nat} {α : Type} {args : α → List PyData} {pre : α → Prop} {res : α → PyData → Prop} {exc : α → Value → Prop}
    (F : Fun K x qual st f fd) (S : FnScope N ps (defScope st)) (len : ∀ a, (args a).length = ps.length)
    (body : ∀ (cdv : Value) (A : Around) (outer : List Env) (s : Shared) (H : Hp) (E : XK), Room k (A.deeper (PyProof.Rows.envOfC qual (defScope st) s.heap.objs.size f cdv)) →
      ∃ t, PSs (cxOf (L2.CX P w) P w K mg base N qual (defScope st) f cdv A outer s H E) (defBody st) t ∧ ∀ (M0 : Hp) a, pre a → SP K (RM M0) E t (startE (args a) (N.length - ps.length)) () ⟨fun _ _ => res a .none, fun d _ => res a d, fun _ _ => False, fun _ _ => False, fun c _ => exc a c⟩) :
    FnOk P w K mg base (L2.CX P w) (k + 1) f fd ps (spPX K args pre res exc) := by
  refine F.okX S (fun vs H Q E h => ?_) (fun cdv A outer s H vs Q E hr h => ?_)
  · obtain ⟨G, M, a, p, hv, hp, _⟩ := h
    rw [hv.length]
    exact len a
  · obtain ⟨t, ht, hb⟩ := body cdv A outer s H E hr
    refine ⟨t, ht, ?_⟩
    obtain ⟨G, M, a, p, hv, hp, q, qe⟩ := h
    have hs : L2.start N vs = vs.map some ++ List.replicate (N.length - ps.length) none := by unfold L2.start; rw [hv.length, len a]
    rw [hs]
    refine hb M a hp G M H _ G M H _ (Stp.refl _ _ _) (env_start hv) ⟨p.1, p.2.1, p.2.2, rfl⟩ ⟨?_, ?_, fun _ _ _ _ _ _ z => z.elim, fun _ _ _ _ _ _ z => z.elim, ?_⟩
    · intro e r σ G' M' H' hp' s' v' w'
      have e1 : M' = M := w'.res
      subst e1
      exact q .non .none G' H' hp' ⟨s', w'.gh, w'.mh, w'.dj⟩ .non
    · intro d r v G' M' H' hp' s' w' hx
      have e1 : M' = M := w'.res
      subst e1
      exact q v d G' H' hp' ⟨s', w'.gh, w'.mh, w'.dj⟩ hx
    · intro c r G' M' H' hp' s' w'
      have e1 : M' = M := w'.res
      subst e1
      exact qe c G' H' hp' ⟨s', w'.gh, w'.mh, w'.dj⟩
/-- raise C(..) -/
theorem sp_raise {ρ : Type} {R : ρ → Hp → Hp → Prop} {r : ρ} {e : SE} {Po : Post ρ} {E : XK} {C : Value} (k : Po.ex C r) : SP K R E (fun _ σ H => (fun σ H (Q : XK) => Q C none H) σ H fun cls d H' => (fun cls d (_ : St) H => E cls d H) cls d σ H') e r Po := fun G0 M0 H0 σ G M H D s v w q => q.ex C r G M H k s w
structure InitAt (K : PySem.W.Frag) (C : Addr) (qual : Str) (st : Stmt) (ps : List Str) where
  a : Addr
  fd : FuncData
  F : Fun K "__init__" qual st a fd
  b : Binds K fd ps []
  m : Mk K C a
end
end Fw

/-! A keeper: its fields, what holds of it. -/
namespace Fw
open PySem L2
structure KS where
  term : Int := 0
  row : List Ent := []
  leads : Bool := false
  settled : Int := 0
  ahead : List Int := []
  held : List Int := []
structure KC where
  dx : Addr
  rw : V
  al : Addr
  hl : Addr
def kf (t : Int) (rw : V) (ld : Bool) (s : Int) (al hl : Addr) : List (Str × V) := [("term", .int t), ("row", rw), ("leads", .bl ld), ("settled", .int s), ("ahead", .ref al), ("held", .ref hl)]
section
theorem ne_tr : (("term" : Str) == "row") = false := by decide +kernel
theorem n_rt : ¬ ("row" : Str) = "term" := by decide +kernel
theorem n_lt : ¬ ("leads" : Str) = "term" := by decide +kernel
theorem n_lr : ¬ ("leads" : Str) = "row" := by decide +kernel
theorem n_st : ¬ ("settled" : Str) = "term" := by decide +kernel
theorem n_sr : ¬ ("settled" : Str) = "row" := by decide +kernel
theorem n_sl : ¬ ("settled" : Str) = "leads" := by decide +kernel
theorem n_at : ¬ ("ahead" : Str) = "term" := by decide +kernel
theorem n_ar : ¬ ("ahead" : Str) = "row" := by decide +kernel
theorem n_al : ¬ ("ahead" : Str) = "leads" := by decide +kernel
theorem n_as : ¬ ("ahead" : Str) = "settled" := by decide +kernel
theorem n_ht : ¬ ("held" : Str) = "term" := by decide +kernel
theorem n_hr : ¬ ("held" : Str) = "row" := by decide +kernel
theorem n_hl : ¬ ("held" : Str) = "leads" := by decide +kernel
theorem n_hs : ¬ ("held" : Str) = "settled" := by decide +kernel
theorem n_ha : ¬ ("held" : Str) = "ahead" := by decide +kernel
variable {t : Int} {rw_ : V} {ld : Bool} {s : Int} {al hl : Addr}
theorem look_cons (f g : Str) (v : V) (r : List (Str × V)) : List.lookup f ((g, v) :: r) = if f = g then some v else List.lookup f r := by
  by_cases h : f = g
  · subst h; rw [if_pos rfl]; simp [List.lookup]
  · rw [if_neg h]
    have : (f == g) = false := by simpa using h
    simp [List.lookup, this]
theorem kf_term : (kf t rw_ ld s al hl).lookup ("term" : Str) = some (.int t) := by unfold kf; rw [look_cons, if_pos rfl]
theorem kf_row : (kf t rw_ ld s al hl).lookup ("row" : Str) = some rw_ := by unfold kf; rw [look_cons, if_neg n_rt, look_cons, if_pos rfl]
theorem kf_leads : (kf t rw_ ld s al hl).lookup ("leads" : Str) = some (.bl ld) := by unfold kf; rw [look_cons, if_neg n_lt, look_cons, if_neg n_lr, look_cons, if_pos rfl]
theorem kf_settled : (kf t rw_ ld s al hl).lookup ("settled" : Str) = some (.int s) := by unfold kf; rw [look_cons, if_neg n_st, look_cons, if_neg n_sr, look_cons, if_neg n_sl, look_cons, if_pos rfl]
theorem kf_ahead : (kf t rw_ ld s al hl).lookup ("ahead" : Str) = some (.ref al) := by unfold kf; rw [look_cons, if_neg n_at, look_cons, if_neg n_ar, look_cons, if_neg n_al, look_cons, if_neg n_as, look_cons, if_pos rfl]
theorem kf_held : (kf t rw_ ld s al hl).lookup ("held" : Str) = some (.ref hl) := by unfold kf; rw [look_cons, if_neg n_ht, look_cons, if_neg n_hr, look_cons, if_neg n_hl, look_cons, if_neg n_hs, look_cons, if_neg n_ha, look_cons, if_pos rfl]
theorem put_cons (f g : Str) (v w : V) (r : List (Str × V)) : putF f v ((g, w) :: r) = if g = f then (g, v) :: r else (g, w) :: putF f v r := by
  show (if g = f then (g, v) :: r else (g, w) :: putF f v r) = _
  rfl
theorem kf_pterm (x : Int) : putF "term" (.int x) (kf t rw_ ld s al hl) = kf x rw_ ld s al hl := by unfold kf; rw [put_cons, if_pos rfl]
theorem kf_prow (x : V) : putF "row" x (kf t rw_ ld s al hl) = kf t x ld s al hl := by unfold kf; rw [put_cons, if_neg (Ne.symm n_rt), put_cons, if_pos rfl]
theorem kf_pleads (x : Bool) : putF "leads" (.bl x) (kf t rw_ ld s al hl) = kf t rw_ x s al hl := by unfold kf; rw [put_cons, if_neg (Ne.symm n_lt), put_cons, if_neg (Ne.symm n_lr), put_cons, if_pos rfl]
theorem kf_psettled (x : Int) : putF "settled" (.int x) (kf t rw_ ld s al hl) = kf t rw_ ld x al hl := by unfold kf; rw [put_cons, if_neg (Ne.symm n_st), put_cons, if_neg (Ne.symm n_sr), put_cons, if_neg (Ne.symm n_sl), put_cons, if_pos rfl]
theorem kf_pahead (x : Addr) : putF "ahead" (.ref x) (kf t rw_ ld s al hl) = kf t rw_ ld s x hl := by unfold kf; rw [put_cons, if_neg (Ne.symm n_at), put_cons, if_neg (Ne.symm n_ar), put_cons, if_neg (Ne.symm n_al), put_cons, if_neg (Ne.symm n_as), put_cons, if_pos rfl]
theorem kf_pheld (x : Addr) : putF "held" (.ref x) (kf t rw_ ld s al hl) = kf t rw_ ld s al x := by unfold kf; rw [put_cons, if_neg (Ne.symm n_ht), put_cons, if_neg (Ne.symm n_hr), put_cons, if_neg (Ne.symm n_hl), put_cons, if_neg (Ne.symm n_hs), put_cons, if_neg (Ne.symm n_ha), put_cons, if_pos rfl]
theorem kf_len : (kf t rw_ ld s al hl).length < 1000 := by show 6 < 1000; decide
theorem kf_no {m : Str} (h1 : ¬ m = "term") (h2 : ¬ m = "row") (h3 : ¬ m = "leads") (h4 : ¬ m = "settled") (h5 : ¬ m = "ahead") (h6 : ¬ m = "held") : (kf t rw_ ld s al hl).lookup m = none := by
  unfold kf; rw [look_cons, if_neg h1, look_cons, if_neg h2, look_cons, if_neg h3, look_cons, if_neg h4, look_cons, if_neg h5, look_cons, if_neg h6]; rfl
theorem kf_hear : (kf t rw_ ld s al hl).lookup ("hear" : Str) = none := kf_no (by decide +kernel) (by decide +kernel) (by decide +kernel) (by decide +kernel) (by decide +kernel) (by decide +kernel)
theorem kf_asked : (kf t rw_ ld s al hl).lookup ("asked" : Str) = none := kf_no (by decide +kernel) (by decide +kernel) (by decide +kernel) (by decide +kernel) (by decide +kernel) (by decide +kernel)
theorem kf_begin : (kf t rw_ ld s al hl).lookup ("begin" : Str) = none := kf_no (by decide +kernel) (by decide +kernel) (by decide +kernel) (by decide +kernel) (by decide +kernel) (by decide +kernel)
theorem kf_all (v1 v2 v3 v4 v5 v6 : V) : putF "held" v6 (putF "ahead" v5 (putF "settled" v4 (putF "leads" v3 (putF "row" v2 (putF "term" v1 []))))) = ([("term", v1), ("row", v2), ("leads", v3), ("settled", v4), ("ahead", v5), ("held", v6)] : List (Str × V)) := by
  have e1 : putF "term" v1 [] = [(("term" : Str), v1)] := rfl
  have e2 : putF "row" v2 [(("term" : Str), v1)] = [(("term" : Str), v1), ("row", v2)] := by rw [put_cons, if_neg (Ne.symm n_rt)]; rfl
  have e3 : putF "leads" v3 [(("term" : Str), v1), ("row", v2)] = [(("term" : Str), v1), ("row", v2), ("leads", v3)] := by rw [put_cons, if_neg (Ne.symm n_lt), put_cons, if_neg (Ne.symm n_lr)]; rfl
  have e4 : putF "settled" v4 [(("term" : Str), v1), ("row", v2), ("leads", v3)] = [(("term" : Str), v1), ("row", v2), ("leads", v3), ("settled", v4)] := by rw [put_cons, if_neg (Ne.symm n_st), put_cons, if_neg (Ne.symm n_sr), put_cons, if_neg (Ne.symm n_sl)]; rfl
  have e5 : putF "ahead" v5 [(("term" : Str), v1), ("row", v2), ("leads", v3), ("settled", v4)] = [(("term" : Str), v1), ("row", v2), ("leads", v3), ("settled", v4), ("ahead", v5)] := by rw [put_cons, if_neg (Ne.symm n_at), put_cons, if_neg (Ne.symm n_ar), put_cons, if_neg (Ne.symm n_al), put_cons, if_neg (Ne.symm n_as)]; rfl
  rw [e1, e2, e3, e4, e5, put_cons, if_neg (Ne.symm n_ht), put_cons, if_neg (Ne.symm n_hr), put_cons, if_neg (Ne.symm n_hl), put_cons, if_neg (Ne.symm n_hs), put_cons, if_neg (Ne.symm n_ha)]; rfl
end
/-- a keeper k at a -/
structure KAt (C : Addr) (r : MF) (a : Addr) (c : KC) (k : KS) : Prop where
  ob : r.m a = some (.ins C c.dx (kf k.term c.rw k.leads k.settled c.al c.hl))
  row : r.f c.rw (rowD k.row)
  al : r.m c.al = some (.lst (k.ahead.map .int))
  hl : r.m c.hl = some (.lst (k.held.map .int))
  ne : c.al ≠ c.hl
def KS.hear (k : KS) (t : Int) : KS := if k.term < t then { k with term := t, leads := false } else k
def KS.begin_ (k : KS) (n : Nat) : KS := { k with leads := true, ahead := List.replicate n (k.row.length : Int), held := List.replicate n 0 }
/-- all but a is as it was -/
structure Fr1 (a : Addr) (r r' : MF) : Prop where
  m : ∀ b, b ≠ a → r'.m b = r.m b
  f : ∀ v d, r.f v d → r'.f v d
section
variable {C a : Addr} {r r' : MF} {c : KC} {k : KS}
theorem KAt.ne_al (h : KAt C r a c k) : c.al ≠ a := ne_of h.al h.ob (by intro z; cases z)
theorem KAt.ne_hl (h : KAt C r a c k) : c.hl ≠ a := ne_of h.hl h.ob (by intro z; cases z)
theorem KAt.upd (h : KAt C r a c k) {k' : KS} (f : Fr1 a r r') (ho : r'.m a = some (.ins C c.dx (kf k'.term c.rw k'.leads k'.settled c.al c.hl))) (e1 : k'.row = k.row) (e2 : k'.ahead = k.ahead) (e3 : k'.held = k.held) : KAt C r' a c k' :=
  ⟨ho, by rw [e1]; exact f.f _ _ h.row, by rw [f.m _ h.ne_al, e2]; exact h.al, by rw [f.m _ h.ne_hl, e3]; exact h.hl, h.ne⟩
end
theorem Fr1.refl (a : Addr) (r : MF) : Fr1 a r r := ⟨fun _ _ => rfl, fun _ _ h => h⟩
theorem Fr1.trans {a : Addr} {r r1 r2 : MF} (x : Fr1 a r r1) (y : Fr1 a r1 r2) : Fr1 a r r2 := ⟨fun b h => (y.m b h).trans (x.m b h), fun v d h => y.f v d (x.f v d h)⟩
end Fw
namespace Fw
open PySem L2
theorem KAt.other {C x y : Addr} {r r' : MF} {cx cy : KC} {kx ky : KS} (h : KAt C r y cy ky) (hx : KAt C r x cx kx) (f : Fr1 x r r') (ne : y ≠ x) : KAt C r' y cy ky :=
  ⟨by rw [f.m _ ne]; exact h.ob, f.f _ _ h.row, by rw [f.m _ (ne_of h.al hx.ob (by intro z; cases z))]; exact h.al, by rw [f.m _ (ne_of h.hl hx.ob (by intro z; cases z))]; exact h.hl, h.ne⟩
theorem KAt.weak {C x : Addr} {m : Hp} {f f' : V → PyData → Prop} {c : KC} {k : KS} (h : KAt C ⟨m, f⟩ x c k) (hf : f' c.rw (rowD k.row)) : KAt C ⟨m, f'⟩ x c k := ⟨h.ob, hf, h.al, h.hl, h.ne⟩
theorem KAt.mono {C x : Addr} {r r' : MF} {c : KC} {k : KS} (h : KAt C r x c k) (hm : ∀ b o, r.m b = some o → r'.m b = some o) (hf : ∀ v d, r.f v d → r'.f v d) : KAt C r' x c k := ⟨hm _ _ h.ob, hf _ _ h.row, hm _ _ h.al, hm _ _ h.hl, h.ne⟩
theorem hear_row (k : KS) (t : Int) : (k.hear t).row = k.row := by unfold KS.hear; split <;> rfl
end Fw

namespace My
open PySem L2 Fw
local macro_rules | `(tactic| walk_at "side") => `(tactic| first | omega | decide | exact Or.inr ⟨by decide, by decide⟩ | (refine Or.inr ⟨?_, ?_⟩ <;> omega) | (refine Or.inl ⟨?_, ?_⟩ <;> omega) | exact ⟨by decide, by decide⟩ | (refine ⟨?_, ?_⟩ <;> omega) | assumption)
local macro_rules | `(tactic| walk_at "ev") => `(tactic| first
  | exact ev_var rfl | exact ev_int | exact ev_str | exact ev_bl | exact ev_non
  | (refine ev_op ?_ ?_ opI <;> walk_at "ev")
  | (refine ev_op ?_ ?_ opB <;> walk_at "ev")
  | (refine ev_op (hr := opIC ?hc) ?_ ?_ <;> first | (walk_at "ev") | (walk_at "side"))
  | (refine ev_op ?_ ?_ opEqI <;> walk_at "ev")
  | (refine ev_op ?_ ?_ opNeI <;> walk_at "ev"))

def top (i : Nat) : Stmt := PySem.Challenge.pw_logreplica_k05_a_keeper.main.body.getD i (.Pass ⟨0, 0, 0, 0⟩)
abbrev s_last_term : Stmt := top 2
abbrev s_as_new : Stmt := top 3
abbrev s_Keeper_init : Stmt := inClass (top 5) 0
abbrev s_Keeper_hear : Stmt := inClass (top 5) 1
abbrev s_Keeper_asked : Stmt := inClass (top 5) 2
abbrev s__law_cell_at : Stmt := top 7
abbrev s__law_mixed : Stmt := top 8
abbrev s__law_sign_by : Stmt := top 9
abbrev s__law_word_by : Stmt := top 10
abbrev s__law_entry_by : Stmt := top 11
abbrev s__law_row_by : Stmt := top 12
abbrev s__law_whole : Stmt := top 13
abbrev s__law_rows : Stmt := top 14
abbrev s__law_same : Stmt := top 15
abbrev s__law_end : Stmt := top 16
abbrev s__law_newer : Stmt := top 17
abbrev s__law_other : Stmt := top 18
abbrev s__law_stands : Stmt := top 19
abbrev s_law : Stmt := top 20
structure Tx (K : PySem.W.Frag) (mg : Str → Option Value) where
  c_Keeper : Addr
  cl_Keeper : Cls K c_Keeper
  mg_Keeper : mg "Keeper" = some (.ref c_Keeper)
  na_Keeper_term : NoAttr K c_Keeper "term"
  na_Keeper_row : NoAttr K c_Keeper "row"
  na_Keeper_leads : NoAttr K c_Keeper "leads"
  na_Keeper_settled : NoAttr K c_Keeper "settled"
  na_Keeper_ahead : NoAttr K c_Keeper "ahead"
  na_Keeper_held : NoAttr K c_Keeper "held"
  d_last_term : DefAt K mg "last_term" "last_term" s_last_term ["row"]
  d_as_new : DefAt K mg "as_new" "as_new" s_as_new ["row", "other"]
  d_Keeper_init : InitAt K c_Keeper "Keeper.__init__" s_Keeper_init ["self", "row"]
  d_Keeper_hear : MethAt K c_Keeper "hear" "Keeper.hear" s_Keeper_hear ["self", "term"]
  d_Keeper_asked : MethAt K c_Keeper "asked" "Keeper.asked" s_Keeper_asked ["self", "term", "row"]
  d__law_cell_at : DefAt K mg "_law_cell_at" "_law_cell_at" s__law_cell_at ["_law_script", "_law_k"]
  d__law_mixed : DefAt K mg "_law_mixed" "_law_mixed" s__law_mixed ["_law_script", "_law_k"]
  d__law_sign_by : DefAt K mg "_law_sign_by" "_law_sign_by" s__law_sign_by ["_law_number"]
  d__law_word_by : DefAt K mg "_law_word_by" "_law_word_by" s__law_word_by ["_law_number"]
  d__law_entry_by : DefAt K mg "_law_entry_by" "_law_entry_by" s__law_entry_by ["_law_number"]
  d__law_row_by : DefAt K mg "_law_row_by" "_law_row_by" s__law_row_by ["_law_script", "_law_at"]
  d__law_whole : DefAt K mg "_law_whole" "_law_whole" s__law_whole ["_law_found"]
  d__law_rows : DefAt K mg "_law_rows" "_law_rows" s__law_rows ["_law_found"]
  d__law_same : DefAt K mg "_law_same" "_law_same" s__law_same ["_law_found", "_law_due"]
  d__law_end : DefAt K mg "_law_end" "_law_end" s__law_end ["_law_row"]
  d__law_newer : DefAt K mg "_law_newer" "_law_newer" s__law_newer ["_law_row", "_law_other_here"]
  d__law_other : DefAt K mg "_law_other" "_law_other" s__law_other ["_law_row", "_law_number"]
  d__law_stands : DefAt K mg "_law_stands" "_law_stands" s__law_stands ["_law_keeper", "_law_term", "_law_row"]
  d_law : DefAt K mg "law" "law" s_law ["_law_script"]
  z_bool : mg "bool" = none
  z_int : mg "int" = none
  z_isinstance : mg "isinstance" = none
  z_len : mg "len" = none
  z_list : mg "list" = none
  z_max : mg "max" = none
  z_range : mg "range" = none
  z_str : mg "str" = none
  z_tuple : mg "tuple" = none
section
variable {P : Program} {w : World} {K : PySem.W.Frag} {mg : Str → Option Value} {base : Heap}
/-! ## last_term -/
theorem sc_last_term : FnScope ["row"] ["row"] (defScope s_last_term) := ⟨rfl, rfl, rfl, by decide +kernel, rfl, by decide +kernel, by decide +kernel⟩
abbrev sp_last_term (K : PySem.W.Frag) : Sp := spF K (fun es : List Ent => [rowD es]) rowOk (fun es => .int (lastT es))
section
variable {ρ : Type} {R : ρ → Hp → Hp → Prop} [Stab R] {e : SE} {r : ρ} {ta : TE} {E : XK}
theorem ev_last_term {es : List Ent} (h : EvD K R ta e r (rowD es)) (hp : rowOk es) : EvD K R (tCall (sp_last_term K) [] E (tCons ta tNil)) e r (.int (lastT es)) := ev_call es (ea_cons h ea_nil) hp
end
theorem ok_last_term (T : Tx K mg) : FnOk P w K mg base CX0 1 T.d_last_term.a T.d_last_term.fd ["row"] (sp_last_term K) := by
  refine ok_pure T.d_last_term.F sc_last_term (fun _ => rfl) fun cdv A outer s H E hr => ⟨_, (pss_cons (ps_if (pt_cmpR (op_eqD hr.units) (pv 0) (pe_lst pa_nil) (nomark _)) (pss_one (ps_ret pe_int)) pss_nil)
    (pss_one (ps_ret (pe_ix ix_tup (pe_ix ix_list (pv 0) (pe_un un_neg pe_int) (fun _ _ => rfl)) pe_int (fun _ _ => rfl))))), ?_⟩
  intro M0 es hp
  refine sp_when (et_test (ev_op (ev_var rfl) (ev_lst ea_nil (Nat.zero_le _)) (opEqR hp rowOk_nil))) (fun h => ?_) fun h => ?_
  · refine sp_ret ev_int ?_
    show PyData.int _ = PyData.int (lastT es)
    rw [of_decide_eq_true h]; rfl
  · obtain ⟨x, h1, h2⟩ := atI_rowLast (of_decide_eq_false h)
    refine sp_ret (ev_op (ev_op (ev_var rfl) (ev_un ev_int opNeg) (opIxL h1)) ev_int (opIxT (d := .int x.1) rfl)) ?_
    show PyData.int _ = PyData.int (lastT es)
    rw [h2]

/-! ## as_new -/
theorem sc_as_new : FnScope ["row", "other"] ["row", "other"] (defScope s_as_new) := ⟨rfl, rfl, rfl, by decide +kernel, rfl, by decide +kernel, by decide +kernel⟩
abbrev sp_as_new (K : PySem.W.Frag) : Sp := spF K (fun a : List Ent × List Ent => [rowD a.1, rowD a.2]) (fun a => rowOk a.1 ∧ rowOk a.2) (fun a => .bool (asNew a.1 a.2))
section
variable {ρ : Type} {R : ρ → Hp → Hp → Prop} [Stab R] {e : SE} {r : ρ} {ta tb : TE} {E : XK}
theorem ev_as_new {a b : List Ent} (h : EvD K R ta e r (rowD a)) (h2 : EvD K R tb e r (rowD b)) (hp : rowOk a) (hq : rowOk b) : EvD K R (tCall (sp_as_new K) [] E (tCons ta (tCons tb tNil))) e r (.bool (asNew a b)) :=
  ev_call (a, b) (ea_cons h (ea_cons h2 ea_nil)) ⟨hp, hq⟩
end
theorem ok_as_new (T : Tx K mg) : FnOk P w K mg base CX0 2 T.d_as_new.a T.d_as_new.fd ["row", "other"] (sp_as_new K) := by
  refine ok_pure T.d_as_new.F sc_as_new (fun _ => rfl) fun cdv A outer s H E hr => ⟨_, (pss_cons (ps_if (pt_cmpR op_ne (pe_call (ok_last_term T) (hr.mono (by decide)) (by rfl) T.d_last_term.g T.d_last_term.F.kp T.d_last_term.b .nil pass0 (pa_cons (pv 0) pa_nil)) (pe_call (ok_last_term T) (hr.mono (by decide)) (by rfl) T.d_last_term.g T.d_last_term.F.kp T.d_last_term.b .nil pass0 (pa_cons (pv 1) pa_nil)) (nomark _)) (pss_one (ps_ret (pe_cmpR op_gt (pe_call (ok_last_term T) (hr.mono (by decide)) (by rfl) T.d_last_term.g T.d_last_term.F.kp T.d_last_term.b .nil pass0 (pa_cons (pv 0) pa_nil)) (pe_call (ok_last_term T) (hr.mono (by decide)) (by rfl) T.d_last_term.g T.d_last_term.F.kp T.d_last_term.b .nil pass0 (pa_cons (pv 1) pa_nil)) (nomark _)))) pss_nil)
    (pss_one (ps_ret (pe_cmpR op_ge (pe_callB call_len_seq (by rfl) T.z_len (by decide +kernel) (pa_cons (pv 0) pa_nil)) (pe_callB call_len_seq (by rfl) T.z_len (by decide +kernel) (pa_cons (pv 1) pa_nil)) (nomark _))))), ?_⟩
  rintro M0 ⟨a, b⟩ ⟨hp, hq⟩
  refine sp_when (et_test (ev_op (ev_last_term (ev_var rfl) hp) (ev_last_term (ev_var rfl) hq) opNeI)) (fun h => ?_) fun h => ?_
  · refine sp_ret (ev_op (ev_last_term (ev_var rfl) hp) (ev_last_term (ev_var rfl) hq) opB) ?_
    show PyData.bool _ = PyData.bool (asNew a b)
    unfold asNew
    rw [if_pos (by simpa using h)]
  · refine sp_ret (ev_op (ev_cb (ea_cons (ev_var rfl) ea_nil) cbLen) (ev_cb (ea_cons (ev_var rfl) ea_nil) cbLen) opB) ?_
    show PyData.bool _ = PyData.bool (asNew a b)
    unfold asNew
    rw [if_neg (by simpa using h)]
    simp

/-! ## Keeper.__init__ -/
theorem sc_Keeper_init : FnScope ["self", "row"] ["self", "row"] (defScope s_Keeper_init) := ⟨rfl, rfl, rfl, by decide +kernel, rfl, by decide +kernel, by decide +kernel⟩
abbrev sp_Keeper_init (K : PySem.W.Frag) (C : Addr) : Sp := spX K (Rmf K) (fun a : Addr × List Ent => [objD a.1, rowD a.2]) (fun a r => ∃ dx, r.m a.1 = some (.ins C dx []))
  (fun a r d r' => d = .none ∧ ∃ c, KAt C r' a.1 c { row := a.2 } ∧ (∀ b o, r.m b = some o → b ≠ a.1 → r'.m b = some o) ∧ (∀ v d, r.f v d → r'.f v d) ∧ r.m c.al = none ∧ r.m c.hl = none ∧ ∀ ds, ¬ r.f c.rw (.list ds)) (fun _ _ _ _ => False)
theorem ok_Keeper_init (T : Tx K mg) : FnOk P w K mg base (L2.CX P w) 1 T.d_Keeper_init.a T.d_Keeper_init.fd ["self", "row"] (sp_Keeper_init K T.c_Keeper) := by
  refine ok_obj T.d_Keeper_init.F sc_Keeper_init (fun _ => rfl) fun cdv A outer s H E hr => ⟨_, (pss_cons (ps_fld (pv 0) pe_int rfl)
    (pss_cons (ps_fld (pv 0) (pe_callTy call_list_of (by rfl) T.z_list (by decide +kernel) (pa_cons (pv 1) pa_nil)) rfl)
    (pss_cons (ps_fld (pv 0) pe_bl rfl)
    (pss_cons (ps_fld (pv 0) pe_int rfl)
    (pss_cons (ps_fld (pv 0) (pe_lst pa_nil) rfl)
    (pss_one (ps_fld (pv 0) (pe_lst pa_nil) rfl))))))), ?_⟩
  rintro ⟨a, es⟩ r ⟨dx, h0⟩
  refine sp_seq (N := fun e' r' => e' = [.dat (objD a), .dat (rowD es)] ∧ r' = ⟨upd r.m a (.ins T.c_Keeper dx (putF "term" (.int 0) [])), addF r.f (.int 0) (.int 0)⟩) (sp_fld ev_int (ev_var rfl) h0 T.cl_Keeper T.na_Keeper_term (by show 0 < 1000; decide) fun v ⟨G, hv⟩ => by rw [hv.int_inv]; exact ⟨rfl, rfl⟩) ?_
  rintro _ _ ⟨rfl, rfl⟩
  refine sp_seq (N := fun e' r' => e' = [.dat (objD a), .dat (rowD es)] ∧ ∃ v, r' = ⟨upd r.m a (.ins T.c_Keeper dx (putF "row" v (putF "term" (.int 0) []))), addF (addF r.f (.int 0) (.int 0)) v (rowD es)⟩ ∧ ∀ ds, ¬ r.f v (.list ds))
    (sp_fldL (evf_cb (ea_cons (ev_var rfl) ea_nil) cbList) (ev_var rfl) upd_same T.cl_Keeper T.na_Keeper_row (by rw [show (putF "term" (V.int 0) []).length = 1 from rfl]; decide) fun l hl => ⟨rfl, .ref l, (by rw [upd_upd]; rfl), fun ds h => hl ds (.inl h)⟩) ?_
  rintro _ _ ⟨rfl, v, rfl, hvn⟩
  have l2 : (putF "row" v (putF "term" (V.int 0) [])).length ≤ 2 := Nat.le_trans (length_putF _ _ _) (Nat.succ_le_succ (length_putF _ _ _))
  refine sp_seq (N := fun e' r' => e' = [.dat (objD a), .dat (rowD es)] ∧ r' = ⟨upd r.m a (.ins T.c_Keeper dx (putF "leads" (.bl false) (putF "row" v (putF "term" (.int 0) [])))), addF (addF (addF r.f (.int 0) (.int 0)) v (rowD es)) (.bl false) (.bool false)⟩)
    (sp_fld ev_bl (ev_var rfl) upd_same T.cl_Keeper T.na_Keeper_leads (by omega) fun u ⟨G, hu⟩ => by rw [hu.bl_inv, upd_upd]; exact ⟨rfl, rfl⟩) ?_
  rintro _ _ ⟨rfl, rfl⟩
  have l3 : (putF "leads" (V.bl false) (putF "row" v (putF "term" (V.int 0) []))).length ≤ 3 := Nat.le_trans (length_putF _ _ _) (Nat.succ_le_succ l2)
  refine sp_seq (N := fun e' r' => e' = [.dat (objD a), .dat (rowD es)] ∧ r' = ⟨upd r.m a (.ins T.c_Keeper dx (putF "settled" (.int 0) (putF "leads" (.bl false) (putF "row" v (putF "term" (.int 0) []))))), addF (addF (addF (addF r.f (.int 0) (.int 0)) v (rowD es)) (.bl false) (.bool false)) (.int 0) (.int 0)⟩)
    (sp_fld ev_int (ev_var rfl) upd_same T.cl_Keeper T.na_Keeper_settled (by omega) fun u ⟨G, hu⟩ => by rw [hu.int_inv, upd_upd]; exact ⟨rfl, rfl⟩) ?_
  rintro _ _ ⟨rfl, rfl⟩
  have l4 : (putF "settled" (V.int 0) (putF "leads" (V.bl false) (putF "row" v (putF "term" (V.int 0) [])))).length ≤ 4 := Nat.le_trans (length_putF _ _ _) (Nat.succ_le_succ l3)
  generalize hf : addF (addF (addF (addF r.f (.int 0) (.int 0)) v (rowD es)) (.bl false) (.bool false)) (.int 0) (.int 0) = f
  have hfv : f v (rowD es) := by rw [← hf]; exact .inl (.inl (.inr ⟨rfl, rfl⟩))
  have hfo : ∀ v d, r.f v d → f v d := fun v d h => by rw [← hf]; exact .inl (.inl (.inl (.inl h)))
  generalize hg : putF "settled" (V.int 0) (putF "leads" (V.bl false) (putF "row" v (putF "term" (V.int 0) []))) = g at l4
  refine sp_seq (N := fun e' r' => e' = [.dat (objD a), .dat (rowD es)] ∧ ∃ l, (upd r.m a (.ins T.c_Keeper dx g)) l = none ∧ l ≠ a ∧ r' = ⟨upd (upd r.m l (.lst [])) a (.ins T.c_Keeper dx (putF "ahead" (.ref l) g)), f⟩)
    (sp_fldN (ns := []) (evf_lst ea_nil (Nat.zero_le _)) (ev_var rfl) upd_same T.cl_Keeper T.na_Keeper_ahead (by omega) (fun _ => ev_var rfl) fun l hl hla => ⟨rfl, l, hl, hla, by
      have : upd (upd (upd r.m a (.ins T.c_Keeper dx g)) l (.lst (([] : List Int).map .int))) a (.ins T.c_Keeper dx (putF "ahead" (.ref l) g)) = upd (upd r.m l (.lst [])) a (.ins T.c_Keeper dx (putF "ahead" (.ref l) g)) := by
        funext b
        by_cases h1 : b = a
        · rw [h1, upd_same, upd_same]
        · rw [upd_ne h1, upd_ne h1]
          by_cases h2 : b = l
          · rw [h2, upd_same, upd_same]; rfl
          · rw [upd_ne h2, upd_ne h2, upd_ne h1]
      rw [this]⟩) ?_
  rintro _ _ ⟨rfl, l, hl, hla, rfl⟩
  have l5 : (putF "ahead" (V.ref l) g).length ≤ 5 := Nat.le_trans (length_putF _ _ _) (Nat.succ_le_succ l4)
  refine sp_fldN (ns := []) (evf_lst ea_nil (Nat.zero_le _)) (ev_var rfl) upd_same T.cl_Keeper T.na_Keeper_held (by omega) (fun _ => ev_var rfl) fun q hq hqa => ?_
  have hq : (upd (upd r.m l (.lst [])) a (.ins T.c_Keeper dx (putF "ahead" (.ref l) g))) q = none := hq
  refine ⟨rfl, ⟨dx, v, l, q⟩, ⟨?_, hfv, ?_, ?_, ?_⟩, ?_, hfo, ?_, ?_, hvn⟩
  · show (upd _ a _) a = _
    rw [upd_same, ← hg, kf_all]; all_goals rfl
  · have hlq : l ≠ q := fun z => by
      rw [← z, upd_ne hla, upd_same] at hq; cases hq
    show (upd (upd (upd (upd r.m l _) a _) q _) a _) l = _
    rw [upd_ne hla, upd_ne hlq, upd_ne hla, upd_same]; all_goals rfl
  · show (upd (upd _ q _) a _) q = _
    rw [upd_ne hqa, upd_same]; all_goals rfl
  · intro z
    have z : l = q := z
    rw [← z, upd_ne hla, upd_same] at hq; cases hq
  · intro b o hb hba
    rw [upd_ne hla] at hl
    have hbl : b ≠ l := ne_of_none hb hl
    have hbq : b ≠ q := fun z => by rw [← z, upd_ne hba, upd_ne hbl, hb] at hq; cases hq
    show (upd (upd (upd (upd r.m l _) a _) q _) a _) b = some o
    rw [upd_ne hba, upd_ne hbq, upd_ne hba, upd_ne hbl]; exact hb
  · rw [upd_ne hla] at hl; exact hl
  · have hlq : q ≠ l := fun z => by
      rw [z, upd_ne hla, upd_same] at hq; cases hq
    rw [upd_ne hqa, upd_ne hlq] at hq; exact hq

/-! ## Keeper.hear -/
theorem sc_Keeper_hear : FnScope ["self", "term"] ["self", "term"] (defScope s_Keeper_hear) := ⟨rfl, rfl, rfl, by decide +kernel, rfl, by decide +kernel, by decide +kernel⟩
abbrev sp_Keeper_hear (K : PySem.W.Frag) (C : Addr) : Sp := spX K (Rmf K) (fun a : Addr × Int × KC × KS => [objD a.1, .int a.2.1]) (fun a r => KAt C r a.1 a.2.2.1 a.2.2.2)
  (fun a r d r' => d = .none ∧ KAt C r' a.1 a.2.2.1 (a.2.2.2.hear a.2.1) ∧ Fr1 a.1 r r') (fun _ _ _ _ => False)
theorem ok_Keeper_hear (T : Tx K mg) : FnOk P w K mg base (L2.CX P w) 1 T.d_Keeper_hear.a T.d_Keeper_hear.fd ["self", "term"] (sp_Keeper_hear K T.c_Keeper) := by
  refine ok_obj T.d_Keeper_hear.F sc_Keeper_hear (fun _ => rfl) fun cdv A outer s H E hr => ⟨_, (pss_one (ps_if (pt_cmpR op_gt (pv 1) (pe_fld (pv 0) rfl) (nomark _)) (pss_cons (ps_fld (pv 0) (pv 1) rfl)
    (pss_one (ps_fld (pv 0) pe_bl rfl))) pss_nil)), ?_⟩
  rintro ⟨a, t, c, k⟩ r h0
  refine sp_if (et_test (ev_op (ev_var rfl) (ev_fld (ev_var rfl) h0.ob T.cl_Keeper T.na_Keeper_term kf_term .int) opB)) (fun h => ?_) fun h => ?_
  · have hk : k.hear t = { k with term := t, leads := false } := by unfold KS.hear; rw [if_pos (of_decide_eq_true h)]
    refine sp_seq (N := fun e' r' => e' = [.dat (objD a), .dat (.int t)] ∧ r' = ⟨upd r.m a (.ins T.c_Keeper c.dx (kf t c.rw k.leads k.settled c.al c.hl)), addF r.f (.int t) (.int t)⟩)
      (sp_fld (ev_var rfl) (ev_var rfl) h0.ob T.cl_Keeper T.na_Keeper_term kf_len fun v ⟨G, hv⟩ => by rw [hv.int_inv, kf_pterm]; exact ⟨rfl, rfl⟩) ?_
    rintro _ _ ⟨rfl, rfl⟩
    refine sp_fld ev_bl (ev_var rfl) upd_same T.cl_Keeper T.na_Keeper_leads kf_len fun v ⟨G, hv⟩ => ?_
    rw [hv.bl_inv, kf_pleads, upd_upd]
    have fr : Fr1 a r ⟨upd r.m a (.ins T.c_Keeper c.dx (kf t c.rw false k.settled c.al c.hl)), addF (addF r.f (.int t) (.int t)) (.bl false) (.bool false)⟩ := ⟨fun b hb => upd_ne hb, fun v d h => .inl (.inl h)⟩
    refine ⟨rfl, ?_, fr⟩
    show KAt _ _ a c (k.hear t)
    rw [hk]
    exact h0.upd fr upd_same rfl rfl rfl
  · have hk : k.hear t = k := by unfold KS.hear; rw [if_neg (of_decide_eq_false h)]
    refine sp_next ⟨rfl, ?_, Fr1.refl _ _⟩
    show KAt _ _ a c (k.hear t)
    rw [hk]; exact h0

/-! ## Keeper.asked -/
theorem sc_Keeper_asked : FnScope ["self", "term", "row"] ["self", "term", "row"] (defScope s_Keeper_asked) := ⟨rfl, rfl, rfl, by decide +kernel, rfl, by decide +kernel, by decide +kernel⟩
abbrev sp_Keeper_asked (K : PySem.W.Frag) (C : Addr) : Sp := spX K (Rmf K) (fun a : Addr × Int × List Ent × KC × KS => [objD a.1, .int a.2.1, rowD a.2.2.1]) (fun a r => KAt C r a.1 a.2.2.2.1 a.2.2.2.2 ∧ rowOk a.2.2.1 ∧ rowOk a.2.2.2.2.row)
  (fun a r d r' => d = .bool (decide (a.2.2.2.2.term < a.2.1) && asNew a.2.2.1 a.2.2.2.2.row) ∧ KAt C r' a.1 a.2.2.2.1 (a.2.2.2.2.hear a.2.1) ∧ Fr1 a.1 r r') (fun _ _ _ _ => False)
theorem ok_Keeper_asked (T : Tx K mg) : FnOk P w K mg base (L2.CX P w) 3 T.d_Keeper_asked.a T.d_Keeper_asked.fd ["self", "term", "row"] (sp_Keeper_asked K T.c_Keeper) := by
  refine ok_obj T.d_Keeper_asked.F sc_Keeper_asked (fun _ => rfl) fun cdv A outer s H E hr => ⟨_, (pss_cons (ps_if (pt_cmpR op_le (pv 1) (pe_fld (pv 0) rfl) (nomark _)) (pss_one (ps_ret pe_bl)) pss_nil)
    (pss_cons (ps_expr (pe_meth (pv 0) T.cl_Keeper T.d_Keeper_hear.m (ok_Keeper_hear T) (hr.mono (by decide)) T.d_Keeper_hear.b .nil (passX (takes_of rfl rfl rfl rfl)) (pa_cons (pv 1) pa_nil)))
    (pss_one (ps_ret (pe_call (ok_as_new T) (hr.mono (by decide)) (by rfl) T.d_as_new.g T.d_as_new.F.kp T.d_as_new.b .nil pass0 (pa_cons (pv 2) (pa_cons (pe_fld (pv 0) rfl) pa_nil))))))), ?_⟩
  rintro ⟨a, t, es, c, k⟩ r ⟨h0, h1, h2⟩
  refine sp_when (et_test (ev_op (ev_var rfl) (ev_fld (ev_var rfl) h0.ob T.cl_Keeper T.na_Keeper_term kf_term .int) opB)) (fun h => ?_) fun h => ?_
  · have ht : t ≤ k.term := of_decide_eq_true h
    have hk : k.hear t = k := by unfold KS.hear; rw [if_neg (by omega)]
    refine sp_ret ev_bl ⟨?_, ?_, Fr1.refl _ _⟩
    · show PyData.bool false = PyData.bool (decide (k.term < t) && _)
      rw [decide_eq_false (by omega)]; rfl
    · show KAt _ _ a c (k.hear t)
      rw [hk]; exact h0
  · have ht' : ¬ t ≤ k.term := of_decide_eq_false h
    have ht : k.term < t := by omega
    refine sp_seq (N := fun e' r' => e' = [.dat (objD a), .dat (.int t), .dat (rowD es)] ∧ KAt T.c_Keeper r' a c (k.hear t) ∧ Fr1 a r r')
      (sp_drop (EvX.s (evx_meth (a, t, c, k) (ev_var rfl) (inst_of h0.ob kf_hear) (ea_cons (ev_var rfl) ea_nil) rfl h0) (fun _ _ z => z)) (fun d r' ⟨_, p1, p2⟩ => ⟨rfl, p1, p2⟩)) ?_
    rintro _ r' ⟨rfl, p1, p2⟩
    refine sp_ret (ev_as_new (a := es) (b := k.row) (ev_var rfl) (ev_fld (ev_var rfl) p1.ob T.cl_Keeper T.na_Keeper_row kf_row (.fact ?_)) h1 h2) ⟨?_, p1, p2⟩
    · have := p1.row
      have e1 : (k.hear t).row = k.row := by unfold KS.hear; split <;> rfl
      rw [← e1]; exact this
    · show PyData.bool _ = PyData.bool (decide (k.term < t) && _)
      rw [decide_eq_true ht]; rfl

/-! ## _law_cell_at -/
theorem sc__law_cell_at : FnScope ["_law_script", "_law_k"] ["_law_script", "_law_k"] (defScope s__law_cell_at) := ⟨rfl, rfl, rfl, by decide +kernel, rfl, by decide +kernel, by decide +kernel⟩
abbrev sp_cell_at (K : PySem.W.Frag) : Sp := spF K (fun a : List Int × Int => [scrD a.1, .int a.2]) (fun a => 0 ≤ a.2) (fun a => .int (cellAt a.1 a.2))
section
variable {ρ : Type} {R : ρ → Hp → Hp → Prop} [Stab R] {e : SE} {r : ρ} {ta tb : TE} {E : XK}
theorem ev_cell_at {ns : List Int} {k : Int} (h : EvD K R ta e r (scrD ns)) (h2 : EvD K R tb e r (.int k)) (hp : 0 ≤ k) : EvD K R (tCall (sp_cell_at K) [] E (tCons ta (tCons tb tNil))) e r (.int (cellAt ns k)) :=
  ev_call (ns, k) (ea_cons h (ea_cons h2 ea_nil)) hp
end
theorem ok__law_cell_at (T : Tx K mg) : FnOk P w K mg base CX0 1 T.d__law_cell_at.a T.d__law_cell_at.fd ["_law_script", "_law_k"] (sp_cell_at K) := by
  refine ok_pure T.d__law_cell_at.F sc__law_cell_at (fun _ => rfl) fun cdv A outer s H E hr => ⟨_, (pss_cons (ps_if (pt_cmpR op_lt (pv 1) (pe_callB call_len_seq (by rfl) T.z_len (by decide +kernel) (pa_cons (pv 0) pa_nil)) (nomark _)) (pss_one (ps_ret (pe_ix ix_list (pv 0) (pv 1) (fun _ _ => rfl)))) pss_nil)
    (pss_one (ps_ret pe_int))), ?_⟩
  rintro M0 ⟨ns, k⟩ hp
  refine sp_when (et_test (ev_op (ev_var rfl) (ev_cb (ea_cons (ev_var rfl) ea_nil) cbLenScr) opB)) (fun h => ?_) fun h => ?_
  · have hk : k < ns.length := of_decide_eq_true h
    refine sp_ret (ev_op (ev_var rfl) (ev_var rfl) (opIxScr (atI_cell hp hk))) ?_
    show PyData.int _ = PyData.int (cellAt ns k)
    unfold cellAt
    rw [if_pos hk]
  · have hk : ¬ k < ns.length := of_decide_eq_false h
    refine sp_ret ev_int ?_
    show PyData.int _ = PyData.int (cellAt ns k)
    unfold cellAt
    rw [if_neg hk]

/-! ## _law_mixed -/
theorem sc__law_mixed : FnScope ["_law_script", "_law_k", "_law_number"] ["_law_script", "_law_k"] (defScope s__law_mixed) := ⟨rfl, rfl, rfl, by decide +kernel, rfl, by decide +kernel, by decide +kernel⟩
abbrev sp_mixed (K : PySem.W.Frag) : Sp := spF K (fun a : List Int × Int => [scrD a.1, .int a.2]) (fun a => 0 ≤ a.2) (fun a => .int (mixed a.1 a.2))
section
variable {ρ : Type} {R : ρ → Hp → Hp → Prop} [Stab R] {e : SE} {r : ρ} {ta tb : TE} {E : XK}
theorem ev_mixed {ns : List Int} {k : Int} (h : EvD K R ta e r (scrD ns)) (h2 : EvD K R tb e r (.int k)) (hp : 0 ≤ k) : EvD K R (tCall (sp_mixed K) [] E (tCons ta (tCons tb tNil))) e r (.int (mixed ns k)) :=
  ev_call (ns, k) (ea_cons h (ea_cons h2 ea_nil)) hp
end
theorem ok__law_mixed (T : Tx K mg) : FnOk P w K mg base CX0 2 T.d__law_mixed.a T.d__law_mixed.fd ["_law_script", "_law_k"] (sp_mixed K) := by
  refine ok_pure T.d__law_mixed.F sc__law_mixed (fun _ => rfl) fun cdv A outer s H E hr => ⟨_, (pss_cons (ps_set (i := 2) sc__law_mixed.nd rfl (by first | exact Or.inl rfl | exact Or.inr rfl) (pe_op op_mod (pe_op op_mul (pe_op op_add (pe_call (ok__law_cell_at T) (hr.mono (by decide)) (by rfl) T.d__law_cell_at.g T.d__law_cell_at.F.kp T.d__law_cell_at.b .nil pass0 (pa_cons (pv 0) (pa_cons (pv 1) pa_nil))) (pe_op op_mul pe_int (pv 1))) pe_int) pe_int))
    (pss_one (ps_ret (pe_op op_mod (pe_op op_add (pe_op op_add (pe_op op_mul (pv 2) (pv 2)) (pe_op op_mul pe_int (pv 2))) (pv 1)) pe_int)))), ?_⟩
  rintro M0 ⟨ns, k⟩ hp
  have h0 : 0 ≤ (cellAt ns k + 7919 * k) * 48271 % 2147483647 := Int.emod_nonneg _ (by decide)
  have h1 : (cellAt ns k + 7919 * k) * 48271 % 2147483647 < 2147483647 := Int.emod_lt_of_pos _ (by decide)
  refine sp_asg (ev_op (ev_op (ev_op (ev_cell_at (ev_var rfl) (ev_var rfl) hp) (ev_op ev_int (ev_var rfl) (opIC (.inl ⟨by decide, by decide⟩))) opI) ev_int (opIC (.inr ⟨by decide, by decide⟩))) ev_int (opIC (by decide))) ?_
  refine sp_ret (ev_op (ev_op (ev_op (ev_op (ev_var rfl) (ev_var rfl) (opIC (.inl ⟨by omega, by omega⟩))) (ev_op ev_int (ev_var rfl) (opIC (.inl ⟨by decide, by decide⟩))) opI) (ev_var rfl) opI) ev_int (opIC (by decide))) ?_
  rfl

/-! ## _law_sign_by -/
theorem sc__law_sign_by : FnScope ["_law_number", "_law_some"] ["_law_number"] (defScope s__law_sign_by) := ⟨rfl, rfl, rfl, by decide +kernel, rfl, by decide +kernel, by decide +kernel⟩
abbrev sp_sign_by (K : PySem.W.Frag) : Sp := spF K (fun n : Int => [.int n]) (fun _ => True) (fun n => .str (signBy n))
section
variable {ρ : Type} {R : ρ → Hp → Hp → Prop} [Stab R] {e : SE} {r : ρ} {ta tb : TE} {E : XK}
theorem ev_sign_by {n : Int} (h : EvD K R ta e r (.int n)) : EvD K R (tCall (sp_sign_by K) [] E (tCons ta tNil)) e r (.str (signBy n)) := ev_call n (ea_cons h ea_nil) trivial
end
theorem ok__law_sign_by (T : Tx K mg) : FnOk P w K mg base CX0 1 T.d__law_sign_by.a T.d__law_sign_by.fd ["_law_number"] (sp_sign_by K) := by
  refine ok_pure T.d__law_sign_by.F sc__law_sign_by (fun _ => rfl) fun cdv A outer s H E hr => ⟨_, (pss_cons (ps_set (i := 1) sc__law_sign_by.nd rfl (by first | exact Or.inl rfl | exact Or.inr rfl) pe_str)
    (pss_cons (ps_set (i := 1) sc__law_sign_by.nd rfl (by first | exact Or.inl rfl | exact Or.inr rfl) (pe_op op_add_str (pv 1) pe_str))
    (pss_one (ps_ret (pe_ix ix_str (pv 1) (pe_op op_mod (pv 0) pe_int) (fun _ _ => rfl)))))), ?_⟩
  rintro M0 n -
  refine sp_asg (d := .str alphaA) ev_str ?_
  refine sp_asg (d := .str alpha) (ev_op (ev_var rfl) (ev_str (x := alphaB)) (opCatS alphaA_len)) ?_
  exact sp_ret (ev_op (ev_var rfl) (ev_op (ev_var rfl) ev_int (opIC (by decide))) (opIxS alpha_small (sign_at n))) rfl

/-! ## _law_word_by -/
theorem sc__law_word_by : FnScope ["_law_number", "_law_size", "_law_k"] ["_law_number"] (defScope s__law_word_by) := ⟨rfl, rfl, rfl, by decide +kernel, rfl, by decide +kernel, by decide +kernel⟩
abbrev sp_word_by (K : PySem.W.Frag) : Sp := spF K (fun n : Int => [.int n]) (fun _ => True) (fun n => .str (wordBy n))
section
variable {ρ : Type} {R : ρ → Hp → Hp → Prop} [Stab R] {e : SE} {r : ρ} {ta tb : TE} {E : XK}
theorem ev_word_by {n : Int} (h : EvD K R ta e r (.int n)) : EvD K R (tCall (sp_word_by K) [] E (tCons ta tNil)) e r (.str (wordBy n)) := ev_call n (ea_cons h ea_nil) trivial
end
theorem ok__law_word_by (T : Tx K mg) : FnOk P w K mg base CX0 2 T.d__law_word_by.a T.d__law_word_by.fd ["_law_number"] (sp_word_by K) := by
  refine ok_pure T.d__law_word_by.F sc__law_word_by (fun _ => rfl) fun cdv A outer s H E hr => ⟨_, (pss_cons (ps_set (i := 1) sc__law_word_by.nd rfl (by first | exact Or.inl rfl | exact Or.inr rfl) (pe_op op_mod (pv 0) pe_int))
    (pss_cons (ps_if (pt_cmpR op_eq (pe_op op_mod (pe_op op_fdiv (pv 0) pe_int) pe_int) pe_int (nomark _)) (pss_one (ps_set (i := 1) sc__law_word_by.nd rfl (by first | exact Or.inl rfl | exact Or.inr rfl) (pe_op op_add pe_int (pe_op op_mod (pe_op op_fdiv (pv 0) pe_int) pe_int)))) pss_nil)
    (pss_one (ps_ret (pe_join pe_str (pe_lc (own := [("_law_k", 2)]) (g := gName 2) (tt := tYes) rfl sc__law_word_by.nd (pi_range1 (by rfl) T.z_range (pa_cons (pv 1) pa_nil)) (blkOk_by (own := [("_law_k", 2)]) (N := ["_law_number", "_law_size", "_law_k"]) (sc := defScope s__law_word_by) (by decide +kernel)) (fun _ _ _ _ _ => pg_name (i := 2) sc__law_word_by.nd rfl (Or.inl rfl)) (fun _ _ _ _ _ => pts_nil) (fun _ _ _ _ _ => (pe_call (ok__law_sign_by T) (hr.mono (by decide)) (by rfl) T.d__law_sign_by.g T.d__law_sign_by.F.kp T.d__law_sign_by.b .nil pass0 (pa_cons (pe_op op_add (pe_op op_fdiv (pv 0) pe_int) (pe_op op_mul pe_int (pv 2))) pa_nil))))))))), ?_⟩
  rintro M0 n -
  have hz := wordSize_rng n
  refine sp_asg (ev_op (ev_var rfl) ev_int (opIC (by decide))) ?_
  refine sp_ifAsg (d := .int (wordSize n)) (et_test (ev_op (ev_op (ev_op (ev_var rfl) ev_int (opIC ⟨by decide, by decide⟩)) ev_int (opIC (by decide))) ev_int opEqI)) (fun h => ?_) (fun h => ?_) ?_
  · refine (ev_op ev_int (ev_op (ev_op (ev_var rfl) ev_int (opIC ⟨by decide, by decide⟩)) ev_int (opIC (by decide))) opI).is ?_
    unfold wordSize
    rw [if_pos (of_decide_eq_true h)]
  · unfold wordSize
    rw [if_neg (of_decide_eq_false h)]; rfl
  · refine sp_ret (ev_join (a := emptyS) (ys := wordSigns n) ev_str (EvF.ev (evf_lcR1 (n := wordSize n) (fun _ => true) (fun d => match d with | .int k => .str (signBy (n / 36 + 7 * k)) | _ => .none) (ea_cons (ev_var rfl) ea_nil) (by omega) (by omega) (fun k hk => et_yes)
      (fun k hk _ => ev_sign_by (ev_op (ev_op (ev_var rfl) ev_int (opIC ⟨by decide, by decide⟩)) (ev_op ev_int (ev_var rfl) (opIC (.inl ⟨by decide, by decide⟩))) opI)))
      |>.is ?_) (wordSigns_fit n)) rfl
    rw [lcOut_all, rgD_map]
    unfold wordSigns
    rw [List.map_map]; rfl

/-! ## _law_entry_by -/
theorem sc__law_entry_by : FnScope ["_law_number", "_law_term"] ["_law_number"] (defScope s__law_entry_by) := ⟨rfl, rfl, rfl, by decide +kernel, rfl, by decide +kernel, by decide +kernel⟩
abbrev sp_entry_by (K : PySem.W.Frag) : Sp := spF K (fun n : Int => [.int n]) (fun n => 0 ≤ n ∧ n < 2147483648) (fun n => entD (entBy n))
section
variable {ρ : Type} {R : ρ → Hp → Hp → Prop} [Stab R] {e : SE} {r : ρ} {ta tb : TE} {E : XK}
theorem ev_entry_by {n : Int} (h : EvD K R ta e r (.int n)) (hp : 0 ≤ n ∧ n < 2147483648) : EvD K R (tCall (sp_entry_by K) [] E (tCons ta tNil)) e r (entD (entBy n)) := ev_call n (ea_cons h ea_nil) hp
end
theorem ok__law_entry_by (T : Tx K mg) : FnOk P w K mg base CX0 3 T.d__law_entry_by.a T.d__law_entry_by.fd ["_law_number"] (sp_entry_by K) := by
  refine ok_pure T.d__law_entry_by.F sc__law_entry_by (fun _ => rfl) fun cdv A outer s H E hr => ⟨_, (pss_cons (ps_set (i := 1) sc__law_entry_by.nd rfl (by first | exact Or.inl rfl | exact Or.inr rfl) (pe_op op_add pe_int (pe_op op_mod (pv 0) pe_int)))
    (pss_cons (ps_if (pt_cmpR op_eq (pe_op op_mod (pe_op op_fdiv (pv 0) pe_int) pe_int) pe_int (nomark _)) (pss_one (ps_set (i := 1) sc__law_entry_by.nd rfl (by first | exact Or.inl rfl | exact Or.inr rfl) (pe_op op_add pe_int (pe_op op_pow (pv 0) pe_int)))) pss_nil)
    (pss_one (ps_ret (pe_tup (pa_cons (pv 1) (pa_cons (pe_call (ok__law_word_by T) (hr.mono (by decide)) (by rfl) T.d__law_word_by.g T.d__law_word_by.F.kp T.d__law_word_by.b .nil pass0 (pa_cons (pe_op op_fdiv (pv 0) pe_int) pa_nil)) pa_nil))))))), ?_⟩
  rintro M0 n ⟨h0, h1⟩
  refine sp_asg (ev_op ev_int (ev_op (ev_var rfl) ev_int (opIC (by decide))) opI) ?_
  refine sp_ifAsg (d := .int (entBy n).1) (et_test (ev_op (ev_op (ev_op (ev_var rfl) ev_int (opIC ⟨by decide, by decide⟩)) ev_int (opIC (by decide))) ev_int opEqI)) (fun h => ?_) (fun h => ?_) ?_
  · refine (ev_op ev_int (ev_op (ev_var rfl) ev_int (opIC ⟨by decide, by decide, by omega⟩)) opI).is ?_
    unfold entBy
    rw [if_pos (of_decide_eq_true h)]; rfl
  · unfold entBy
    rw [if_neg (of_decide_eq_false h)]; rfl
  · exact sp_ret (ev_tup (ea_cons (ev_var rfl) (ea_cons (ev_word_by (ev_op (ev_var rfl) ev_int (opIC ⟨by decide, by decide⟩))) ea_nil)) (by show 2 ≤ sizeLine; decide)) rfl

/-! ## _law_row_by -/
theorem sc__law_row_by : FnScope ["_law_script", "_law_at", "_law_number", "_law_many", "_law_k"] ["_law_script", "_law_at"] (defScope s__law_row_by) := ⟨rfl, rfl, rfl, by decide +kernel, rfl, by decide +kernel, by decide +kernel⟩
abbrev sp_row_by (K : PySem.W.Frag) : Sp := spF K (fun a : List Int × Int => [scrD a.1, .int a.2]) (fun a => 0 ≤ a.2) (fun a => rowD (rowBy a.1 a.2))
section
variable {ρ : Type} {R : ρ → Hp → Hp → Prop} [Stab R] {e : SE} {r : ρ} {ta tb : TE} {E : XK}
theorem ev_row_by {ns : List Int} {k : Int} (h : EvD K R ta e r (scrD ns)) (h2 : EvD K R tb e r (.int k)) (hp : 0 ≤ k) : EvD K R (tCall (sp_row_by K) [] E (tCons ta (tCons tb tNil))) e r (rowD (rowBy ns k)) :=
  ev_call (ns, k) (ea_cons h (ea_cons h2 ea_nil)) hp
end
theorem ok__law_row_by (T : Tx K mg) : FnOk P w K mg base CX0 4 T.d__law_row_by.a T.d__law_row_by.fd ["_law_script", "_law_at"] (sp_row_by K) := by
  refine ok_pure T.d__law_row_by.F sc__law_row_by (fun _ => rfl) fun cdv A outer s H E hr => ⟨_, (pss_cons (ps_set (i := 2) sc__law_row_by.nd rfl (by first | exact Or.inl rfl | exact Or.inr rfl) (pe_call (ok__law_mixed T) (hr.mono (by decide)) (by rfl) T.d__law_mixed.g T.d__law_mixed.F.kp T.d__law_mixed.b .nil pass0 (pa_cons (pv 0) (pa_cons (pv 1) pa_nil))))
    (pss_cons (ps_set (i := 3) sc__law_row_by.nd rfl (by first | exact Or.inl rfl | exact Or.inr rfl) (pe_op op_mod (pv 2) pe_int))
    (pss_cons (ps_if (pt_cmpR op_eq (pe_op op_mod (pe_op op_fdiv (pv 2) pe_int) pe_int) pe_int (nomark _)) (pss_one (ps_set (i := 3) sc__law_row_by.nd rfl (by first | exact Or.inl rfl | exact Or.inr rfl) (pe_op op_add (pv 3) pe_int))) pss_nil)
    (pss_one (ps_ret (pe_lc (own := [("_law_k", 4)]) (g := gName 4) (tt := tYes) rfl sc__law_row_by.nd (pi_range1 (by rfl) T.z_range (pa_cons (pv 3) pa_nil)) (blkOk_by (own := [("_law_k", 4)]) (N := ["_law_script", "_law_at", "_law_number", "_law_many", "_law_k"]) (sc := defScope s__law_row_by) (by decide +kernel)) (fun _ _ _ _ _ => pg_name (i := 4) sc__law_row_by.nd rfl (Or.inl rfl)) (fun _ _ _ _ _ => pts_nil) (fun _ _ _ _ _ => (pe_call (ok__law_entry_by T) (hr.mono (by decide)) (by rfl) T.d__law_entry_by.g T.d__law_entry_by.F.kp T.d__law_entry_by.b .nil pass0 (pa_cons (pe_call (ok__law_mixed T) (hr.mono (by decide)) (by rfl) T.d__law_mixed.g T.d__law_mixed.F.kp T.d__law_mixed.b .nil pass0 (pa_cons (pv 0) (pa_cons (pe_op op_add (pe_op op_add (pv 1) pe_int) (pe_op op_mul pe_int (pv 4))) pa_nil))) pa_nil))))))))), ?_⟩
  rintro M0 ⟨ns, a⟩ hp
  have hz := rowSize_rng (mixed ns a)
  have hm : ∀ k, 0 ≤ mixed ns k ∧ mixed ns k < 2147483648 := fun k => by have := mixed_rng ns k; omega
  have hp' : 0 ≤ a := hp
  refine sp_asg (ev_mixed (ev_var rfl) (ev_var rfl) hp) ?_
  refine sp_asg (ev_op (ev_var rfl) ev_int (opIC (by decide))) ?_
  refine sp_ifAsg (d := .int (rowSize (mixed ns a))) (et_test (ev_op (ev_op (ev_op (ev_var rfl) ev_int (opIC ⟨by decide, by decide⟩)) ev_int (opIC (by decide))) ev_int opEqI)) (fun h => ?_) (fun h => ?_) ?_
  · refine (ev_op (ev_var rfl) ev_int opI).is ?_
    unfold rowSize
    rw [if_pos (of_decide_eq_true h)]
  · unfold rowSize
    rw [if_neg (of_decide_eq_false h)]; rfl
  · refine sp_ret (EvF.ev (evf_lcR1 (n := rowSize (mixed ns a)) (fun _ => true) (fun d => match d with | .int k => entD (entBy (mixed ns (a + 2 + 3 * k))) | _ => .none) (ea_cons (ev_var rfl) ea_nil) (by omega) (by omega) (fun k hk => et_yes)
      (fun k hk _ => ev_entry_by (ev_mixed (ev_var rfl) (ev_op (ev_op (ev_var rfl) ev_int opI) (ev_op ev_int (ev_var rfl) (opIC (.inl ⟨by decide, by decide⟩))) opI) (by omega)) (hm _)))) ?_
    rw [lcOut_all, rgD_map]
    show PyData.list _ = PyData.list ((rowBy ns a).map entD)
    unfold rowBy
    rw [List.map_map]; rfl

/-! ## _law_whole -/
theorem sc__law_whole : FnScope ["_law_found"] ["_law_found"] (defScope s__law_whole) := ⟨rfl, rfl, rfl, by decide +kernel, rfl, by decide +kernel, by decide +kernel⟩
abbrev sp_whole (K : PySem.W.Frag) : Sp := spF K (fun i : Int => [.int i]) (fun _ => True) (fun _ => .bool true)
section
variable {ρ : Type} {R : ρ → Hp → Hp → Prop} [Stab R] {e : SE} {r : ρ} {ta tb : TE} {E : XK}
theorem ev_whole {i : Int} (h : EvD K R ta e r (.int i)) : EvD K R (tCall (sp_whole K) [] E (tCons ta tNil)) e r (.bool true) := ev_call i (ea_cons h ea_nil) trivial
end
theorem ok__law_whole (T : Tx K mg) : FnOk P w K mg base CX0 1 T.d__law_whole.a T.d__law_whole.fd ["_law_found"] (sp_whole K) := by
  refine ok_pure T.d__law_whole.F sc__law_whole (fun _ => rfl) fun cdv A outer s H E hr => ⟨_, (pss_one (ps_ret (pe_and (pe_callB call_isi (by rfl) T.z_isinstance (by decide +kernel) (pa_cons (pv 0) (pa_cons (pe_bltn (v := .ty "int") (u := .type "int") (by rfl) T.z_int (by decide +kernel) rfl) pa_nil))) (pe_one (pe_not (pe_callB call_isi (by rfl) T.z_isinstance (by decide +kernel) (pa_cons (pv 0) (pa_cons (pe_bltn (v := .ty "bool") (u := .type "bool") (by rfl) T.z_bool (by decide +kernel) rfl) pa_nil)))))))), ?_⟩
  rintro M0 i -
  exact sp_ret (ev_andV (isi_int (ev_var rfl)) fun _ => ev_notV (isi_intB (ev_var rfl))) rfl

/-! ## _law_rows -/
theorem sc__law_rows : FnScope ["_law_found", "_law_entry"] ["_law_found"] (defScope s__law_rows) := ⟨rfl, rfl, rfl, by decide +kernel, rfl, by decide +kernel, by decide +kernel⟩
abbrev sp_rows (K : PySem.W.Frag) : Sp := spF K (fun es : List Ent => [rowD es]) (fun _ => True) (fun _ => .bool true)
section
variable {ρ : Type} {R : ρ → Hp → Hp → Prop} [Stab R] {e : SE} {r : ρ} {ta tb : TE} {E : XK}
theorem ev_rows {es : List Ent} (h : EvD K R ta e r (rowD es)) : EvD K R (tCall (sp_rows K) [] E (tCons ta tNil)) e r (.bool true) := ev_call es (ea_cons h ea_nil) trivial
end
theorem ok__law_rows (T : Tx K mg) : FnOk P w K mg base CX0 2 T.d__law_rows.a T.d__law_rows.fd ["_law_found"] (sp_rows K) := by
  refine ok_pure T.d__law_rows.F sc__law_rows (fun _ => rfl) fun cdv A outer s H E hr => ⟨_, (pss_cons (ps_if (pt_not (pt_val (pe_callB call_isi (by rfl) T.z_isinstance (by decide +kernel) (pa_cons (pv 0) (pa_cons (pe_bltn (v := .ty "list") (u := .type "list") (by rfl) T.z_list (by decide +kernel) rfl) pa_nil))))) (pss_one (ps_ret pe_bl)) pss_nil)
    (pss_cons (ps_for PassesOwn.never rfl (pi_list (pv 0)) (pg_name (i := 1) sc__law_rows.nd rfl (by first | exact Or.inl rfl | exact Or.inr rfl)) (pss_cons (ps_if (PW.pt (pw_or (pt_not (pt_val (pe_callB call_isi (by rfl) T.z_isinstance (by decide +kernel) (pa_cons (pv 1) (pa_cons (pe_bltn (v := .ty "tuple") (u := .type "tuple") (by rfl) T.z_tuple (by decide +kernel) rfl) pa_nil))))) (pw_or1 (pt_cmpR op_ne (pe_callB call_len_seq (by rfl) T.z_len (by decide +kernel) (pa_cons (pv 1) pa_nil)) pe_int (nomark _))))) (pss_one (ps_ret pe_bl)) pss_nil)
    (pss_one (ps_if (PW.pt (pw_or (pt_not (pt_val (pe_call (ok__law_whole T) (hr.mono (by decide)) (by rfl) T.d__law_whole.g T.d__law_whole.F.kp T.d__law_whole.b .nil pass0 (pa_cons (pe_ix ix_tup (pv 1) pe_int (fun _ _ => rfl)) pa_nil)))) (pw_or1 (pt_not (pt_val (pe_callB call_isi (by rfl) T.z_isinstance (by decide +kernel) (pa_cons (pe_ix ix_tup (pv 1) pe_int (fun _ _ => rfl)) (pa_cons (pe_bltn (v := .ty "str") (u := .type "str") (by rfl) T.z_str (by decide +kernel) rfl) pa_nil)))))))) (pss_one (ps_ret pe_bl)) pss_nil))))
    (pss_one (ps_ret pe_bl)))), ?_⟩
  rintro M0 es -
  refine sp_when (b := false) (et_not (a := true) (et_B (isi_list (ds := es.map entD) (ev_var rfl)))) (fun h => nomatch h) fun _ => ?_
  refine sp_seq (N := fun e' _ => ∃ x, e' = [.dat (rowD es), x]) ?_ ?_
  · refine sp_forL (ds := es.map entD) (ev_var rfl) (fun _ e' _ => ∃ x, e' = [.dat (rowD es), x]) ⟨_, rfl⟩ ?_ (fun _ _ h => h)
    rintro k d e' _ hd ⟨x, rfl⟩
    rw [List.getElem?_map] at hd
    obtain ⟨y, _, rfl⟩ := Option.map_eq_some_iff.mp hd
    refine sp_when (b := false) ((et_or (a := false) (b := false) (et_not (a := true) (et_B (isi_tup (ds := [.int y.1, .str y.2]) (ev_var rfl)))) fun _ => et_test ((ev_op (ev_cb (ea_cons (ev_var (d := entD y) rfl) ea_nil) (cbLenT (ds := [.int y.1, .str y.2]))) ev_int opNeI).is rfl)).is rfl) (fun h => nomatch h) fun _ => ?_
    refine sp_if (b := false) ((et_or (a := false) (b := false) (et_not (a := true) (et_B (ev_whole (ev_op (ev_var (d := entD y) rfl) ev_int (opIxT (d := .int y.1) rfl))))) fun _ => et_not (a := true) (et_B (isi_str (ev_op (ev_var (d := entD y) rfl) ev_int (opIxT (d := .str y.2) rfl))))).is rfl) (fun h => nomatch h) fun _ => ?_
    exact sp_next ⟨_, rfl⟩
  · rintro e' _ ⟨x, rfl⟩
    exact sp_ret ev_bl rfl

/-! ## _law_same -/
theorem sc__law_same : FnScope ["_law_found", "_law_due"] ["_law_found", "_law_due"] (defScope s__law_same) := ⟨rfl, rfl, rfl, by decide +kernel, rfl, by decide +kernel, by decide +kernel⟩
abbrev sp_same (K : PySem.W.Frag) : Sp := spF K (fun a : List Ent × List Ent => [rowD a.1, rowD a.2]) (fun a => rowOk a.1 ∧ rowOk a.2) (fun a => .bool (decide (a.1 = a.2)))
section
variable {ρ : Type} {R : ρ → Hp → Hp → Prop} [Stab R] {e : SE} {r : ρ} {ta tb : TE} {E : XK}
theorem ev_same {a b : List Ent} (h : EvD K R ta e r (rowD a)) (h2 : EvD K R tb e r (rowD b)) (hp : rowOk a) (hq : rowOk b) : EvD K R (tCall (sp_same K) [] E (tCons ta (tCons tb tNil))) e r (.bool (decide (a = b))) :=
  ev_call (a, b) (ea_cons h (ea_cons h2 ea_nil)) ⟨hp, hq⟩
theorem ev_sameT {a b : List Ent} (h : EvD K R ta e r (rowD a)) (h2 : EvD K R tb e r (rowD b)) (hp : rowOk a) (he : a = b) : EvD K R (tCall (sp_same K) [] E (tCons ta (tCons tb tNil))) e r (.bool true) :=
  (ev_same h h2 hp (by rw [← he]; exact hp)).is (by rw [decide_eq_true he])
end
theorem ok__law_same (T : Tx K mg) : FnOk P w K mg base CX0 3 T.d__law_same.a T.d__law_same.fd ["_law_found", "_law_due"] (sp_same K) := by
  refine ok_pure T.d__law_same.F sc__law_same (fun _ => rfl) fun cdv A outer s H E hr => ⟨_, (pss_one (ps_ret (pe_and (pe_call (ok__law_rows T) (hr.mono (by decide)) (by rfl) T.d__law_rows.g T.d__law_rows.F.kp T.d__law_rows.b .nil pass0 (pa_cons (pv 0) pa_nil)) (pe_one (pe_cmpR (op_eqD hr.units) (pv 0) (pv 1) (nomark _)))))), ?_⟩
  rintro M0 ⟨a, b⟩ ⟨hp, hq⟩
  exact sp_ret (ev_andV (ev_rows (ev_var rfl)) fun _ => ev_op (ev_var rfl) (ev_var rfl) (opEqR hp hq)) rfl

/-! ## _law_end -/
theorem sc__law_end : FnScope ["_law_row"] ["_law_row"] (defScope s__law_end) := ⟨rfl, rfl, rfl, by decide +kernel, rfl, by decide +kernel, by decide +kernel⟩
abbrev sp_end (K : PySem.W.Frag) : Sp := spF K (fun es : List Ent => [rowD es]) (fun _ => True) (fun es => .int (lastT es))
section
variable {ρ : Type} {R : ρ → Hp → Hp → Prop} [Stab R] {e : SE} {r : ρ} {ta tb : TE} {E : XK}
theorem ev_end {es : List Ent} (h : EvD K R ta e r (rowD es)) : EvD K R (tCall (sp_end K) [] E (tCons ta tNil)) e r (.int (lastT es)) := ev_call es (ea_cons h ea_nil) trivial
end
theorem ok__law_end (T : Tx K mg) : FnOk P w K mg base CX0 1 T.d__law_end.a T.d__law_end.fd ["_law_row"] (sp_end K) := by
  refine ok_pure T.d__law_end.F sc__law_end (fun _ => rfl) fun cdv A outer s H E hr => ⟨_, (pss_cons (ps_if (pt_cmpR op_gt (pe_callB call_len_seq (by rfl) T.z_len (by decide +kernel) (pa_cons (pv 0) pa_nil)) pe_int (nomark _)) (pss_one (ps_ret (pe_ix ix_tup (pe_ix ix_list (pv 0) (pe_un un_neg pe_int) (fun _ _ => rfl)) pe_int (fun _ _ => rfl)))) pss_nil)
    (pss_one (ps_ret pe_int))), ?_⟩
  rintro M0 es -
  refine sp_when (et_test (ev_op (ev_cb (ea_cons (ev_var rfl) ea_nil) cbLen) ev_int opB)) (fun h => ?_) fun h => ?_
  · have hne : es ≠ [] := fun z => by rw [z] at h; cases h
    obtain ⟨x, h1, h2⟩ := atI_rowLast hne
    refine sp_ret (ev_op (ev_op (ev_var rfl) (ev_un ev_int opNeg) (opIxL h1)) ev_int (opIxT (d := .int x.1) rfl)) ?_
    show PyData.int _ = PyData.int (lastT es)
    rw [h2]
  · have he : es = [] := by
      have := of_decide_eq_false h
      rw [List.length_map] at this
      exact List.length_eq_zero_iff.mp (by omega)
    refine sp_ret ev_int ?_
    show PyData.int _ = PyData.int (lastT es)
    rw [he]; rfl

/-! ## _law_newer -/
theorem sc__law_newer : FnScope ["_law_row", "_law_other_here"] ["_law_row", "_law_other_here"] (defScope s__law_newer) := ⟨rfl, rfl, rfl, by decide +kernel, rfl, by decide +kernel, by decide +kernel⟩
abbrev sp_newer (K : PySem.W.Frag) : Sp := spF K (fun a : List Ent × List Ent => [rowD a.1, rowD a.2]) (fun _ => True) (fun a => .bool (asNew a.1 a.2))
section
variable {ρ : Type} {R : ρ → Hp → Hp → Prop} [Stab R] {e : SE} {r : ρ} {ta tb : TE} {E : XK}
theorem ev_newer {a b : List Ent} (h : EvD K R ta e r (rowD a)) (h2 : EvD K R tb e r (rowD b)) : EvD K R (tCall (sp_newer K) [] E (tCons ta (tCons tb tNil))) e r (.bool (asNew a b)) :=
  ev_call (a, b) (ea_cons h (ea_cons h2 ea_nil)) trivial
end
theorem ok__law_newer (T : Tx K mg) : FnOk P w K mg base CX0 2 T.d__law_newer.a T.d__law_newer.fd ["_law_row", "_law_other_here"] (sp_newer K) := by
  refine ok_pure T.d__law_newer.F sc__law_newer (fun _ => rfl) fun cdv A outer s H E hr => ⟨_, (pss_cons (ps_if (pt_cmpR op_eq (pe_call (ok__law_end T) (hr.mono (by decide)) (by rfl) T.d__law_end.g T.d__law_end.F.kp T.d__law_end.b .nil pass0 (pa_cons (pv 0) pa_nil)) (pe_call (ok__law_end T) (hr.mono (by decide)) (by rfl) T.d__law_end.g T.d__law_end.F.kp T.d__law_end.b .nil pass0 (pa_cons (pv 1) pa_nil)) (nomark _)) (pss_one (ps_ret (pe_cmpR op_ge (pe_callB call_len_seq (by rfl) T.z_len (by decide +kernel) (pa_cons (pv 0) pa_nil)) (pe_callB call_len_seq (by rfl) T.z_len (by decide +kernel) (pa_cons (pv 1) pa_nil)) (nomark _)))) pss_nil)
    (pss_one (ps_ret (pe_cmpR op_gt (pe_call (ok__law_end T) (hr.mono (by decide)) (by rfl) T.d__law_end.g T.d__law_end.F.kp T.d__law_end.b .nil pass0 (pa_cons (pv 0) pa_nil)) (pe_call (ok__law_end T) (hr.mono (by decide)) (by rfl) T.d__law_end.g T.d__law_end.F.kp T.d__law_end.b .nil pass0 (pa_cons (pv 1) pa_nil)) (nomark _))))), ?_⟩
  rintro M0 ⟨a, b⟩ -
  refine sp_when (et_test (ev_op (ev_end (ev_var rfl)) (ev_end (ev_var rfl)) opEqI)) (fun h => ?_) fun h => ?_
  · refine sp_ret (ev_op (ev_cb (ea_cons (ev_var rfl) ea_nil) cbLen) (ev_cb (ea_cons (ev_var rfl) ea_nil) cbLen) opB) ?_
    show PyData.bool _ = PyData.bool (asNew a b)
    unfold asNew
    rw [if_neg (by simpa using h)]
    simp
  · refine sp_ret (ev_op (ev_end (ev_var rfl)) (ev_end (ev_var rfl)) opB) ?_
    show PyData.bool _ = PyData.bool (asNew a b)
    unfold asNew
    rw [if_pos (by simpa using h)]

/-! ## _law_other -/
theorem sc__law_other : FnScope ["_law_row", "_law_number"] ["_law_row", "_law_number"] (defScope s__law_other) := ⟨rfl, rfl, rfl, by decide +kernel, rfl, by decide +kernel, by decide +kernel⟩
def moreS : Str := ("more" : String)
def farS : Str := ("far" : String)
def otherRow (es : List Ent) (n : Int) : List Ent := if n = 0 then es else if n = 1 then es.dropLast else if n = 2 then es ++ [((max 1 (lastT es), moreS) : Ent)] else if n = 3 then [] else [((10 ^ 29, farS) : Ent)]
theorem otherRow_ok {es : List Ent} (h : rowOk es) (n : Int) : rowOk (otherRow es n) := by
  unfold otherRow
  split
  · exact h
  split
  · exact rowOk_sub h fun e he => List.dropLast_subset es he
  split
  · exact rowOk_append h (rowOk_one (e := (max 1 (lastT es), moreS)) (by show PyData.strOk moreS = true; decide +kernel))
  split
  · exact rowOk_nil
  · exact rowOk_one (e := (10 ^ 29, farS)) (by show PyData.strOk farS = true; decide +kernel)
theorem otherRow_len (es : List Ent) (n : Int) : (otherRow es n).length ≤ es.length + 1 := by
  unfold otherRow
  split
  · omega
  split
  · rw [List.length_dropLast]; omega
  split
  · rw [List.length_append]; simp
  split <;> simp
theorem cut_last {α : Type} (xs : List α) : cutD xs none (some (-1)) = xs.dropLast := by
  unfold cutD
  show (xs.drop 0).take (HT.sIx xs.length xs.length (some (-1)) - 0) = xs.dropLast
  rw [List.drop_zero, List.dropLast_eq_take]
  congr 1
  show (if (-1 : Int) < 0 then ((-1 : Int) + (xs.length : Int)).toNat else min (-1 : Int).toNat xs.length) - 0 = xs.length - 1
  rw [if_pos (by decide)]
  omega
abbrev sp_other (K : PySem.W.Frag) : Sp := spN K (fun a : List Ent × Int => [rowD a.1, .int a.2]) (fun a => a.1.length ≤ 100000) (fun a => (otherRow a.1 a.2).map entD)
section
variable {ρ : Type} {R : ρ → Hp → Hp → Prop} [Stab R] {e : SE} {r : ρ} {ta tb : TE} {E : XK}
theorem ef_other {es : List Ent} {n : Int} (h : EvD K R ta e r (rowD es)) (h2 : EvD K R tb e r (.int n)) (hl : es.length ≤ 100000) : EvF K R (tCall (sp_other K) [] E (tCons ta (tCons tb tNil))) e r ((otherRow es n).map entD) := evf_call (es, n) (ea_cons h (ea_cons h2 ea_nil)) hl
end
theorem ok__law_other (T : Tx K mg) : FnOk P w K mg base CX0 2 T.d__law_other.a T.d__law_other.fd ["_law_row", "_law_number"] (sp_other K) := by
  refine ok_new T.d__law_other.F sc__law_other (fun _ => rfl) fun cdv A outer s H E hr => ⟨_, (pss_cons (ps_if (pt_cmpR op_eq (pv 1) pe_int (nomark _)) (pss_one (ps_ret (pe_callTy call_list_of (by rfl) T.z_list (by decide +kernel) (pa_cons (pv 0) pa_nil)))) pss_nil)
    (pss_cons (ps_if (pt_cmpR op_eq (pv 1) pe_int (nomark _)) (pss_one (ps_ret (pe_slice sl_list (pv 0) po_none (po_some (pe_un un_neg pe_int))))) pss_nil)
    (pss_cons (ps_if (pt_cmpR op_eq (pv 1) pe_int (nomark _)) (pss_one (ps_ret (pe_op op_cat (pv 0) (pe_lst (pa_cons (pe_tup (pa_cons (pe_callB (call_max2 rfl) (by rfl) T.z_max (by decide +kernel) (pa_cons pe_int (pa_cons (pe_call (ok__law_end T) (hr.mono (by decide)) (by rfl) T.d__law_end.g T.d__law_end.F.kp T.d__law_end.b .nil pass0 (pa_cons (pv 0) pa_nil)) pa_nil))) (pa_cons pe_str pa_nil))) pa_nil))))) pss_nil)
    (pss_cons (ps_if (pt_cmpR op_eq (pv 1) pe_int (nomark _)) (pss_one (ps_ret (pe_lst pa_nil))) pss_nil)
    (pss_one (ps_ret (pe_lst (pa_cons (pe_tup (pa_cons (pe_op op_pow pe_int pe_int) (pa_cons pe_str pa_nil))) pa_nil)))))))), ?_⟩
  rintro M0 ⟨es, n⟩ hl
  have hl : es.length ≤ 100000 := hl
  refine spn_when (et_test (ev_op (ev_var rfl) ev_int opEqI)) (fun h => ?_) fun h => ?_
  · refine spn_ret (evf_cb (ea_cons (ev_var rfl) ea_nil) cbList) ?_
    show es.map entD = (otherRow es n).map entD
    unfold otherRow
    rw [if_pos (of_decide_eq_true h)]
  have h0 : ¬ n = 0 := of_decide_eq_false h
  refine spn_when (et_test (ev_op (ev_var rfl) ev_int opEqI)) (fun h => ?_) fun h => ?_
  · refine spn_ret (evf_sl (ev_var rfl) eo_none (eo_some (ev_un ev_int opNeg))) ?_
    show cutD (es.map entD) none (some (-1)) = (otherRow es n).map entD
    unfold otherRow
    rw [if_neg h0, if_pos (of_decide_eq_true h), cut_last, List.map_dropLast]
  have h1 : ¬ n = 1 := of_decide_eq_false h
  refine spn_when (et_test (ev_op (ev_var rfl) ev_int opEqI)) (fun h => ?_) fun h => ?_
  · refine spn_ret (evf_op (ev_var rfl) (ev_lst (ea_cons (ev_tup (ea_cons (ev_cb (ea_cons ev_int (ea_cons (ev_end (ev_var rfl)) ea_nil)) cb2) (ea_cons ev_str ea_nil)) (by show 2 ≤ sizeLine; decide)) ea_nil) (by show 1 ≤ sizeLine; decide)) (opCat (by rw [List.length_map, sizeLine_eq]; show es.length + 1 ≤ _; omega))) ?_
    show es.map entD ++ [.tuple [.int (if lastT es > 1 then lastT es else 1), .str _]] = (otherRow es n).map entD
    unfold otherRow
    rw [if_neg h0, if_neg h1, if_pos (of_decide_eq_true h), List.map_append]
    have : (if lastT es > 1 then lastT es else 1) = max 1 (lastT es) := by
      split <;> omega
    rw [this]; rfl
  have h2 : ¬ n = 2 := of_decide_eq_false h
  refine spn_when (et_test (ev_op (ev_var rfl) ev_int opEqI)) (fun h => ?_) fun h => ?_
  · refine spn_ret (evf_lst ea_nil (Nat.zero_le _)) ?_
    show [] = (otherRow es n).map entD
    unfold otherRow
    rw [if_neg h0, if_neg h1, if_neg h2, if_pos (of_decide_eq_true h)]; rfl
  have h3 : ¬ n = 3 := of_decide_eq_false h
  refine spn_ret (evf_lst (ea_cons (ev_tup (ea_cons (ev_op ev_int ev_int (opIC ⟨by decide, by decide, by decide⟩)) (ea_cons ev_str ea_nil)) (by show 2 ≤ sizeLine; decide)) ea_nil) (by show 1 ≤ sizeLine; decide)) ?_
  show [.tuple [.int _, .str _]] = (otherRow es n).map entD
  unfold otherRow
  rw [if_neg h0, if_neg h1, if_neg h2, if_neg h3]; rfl

/-! ## _law_stands -/
theorem sc__law_stands : FnScope ["_law_keeper", "_law_term", "_law_row"] ["_law_keeper", "_law_term", "_law_row"] (defScope s__law_stands) := ⟨rfl, rfl, rfl, by decide +kernel, rfl, by decide +kernel, by decide +kernel⟩
abbrev sp_stands (K : PySem.W.Frag) (C : Addr) : Sp := spX K (Rmf K) (fun a : Addr × Int × List Ent × KC × KS => [objD a.1, .int a.2.1, rowD a.2.2.1])
  (fun a r => KAt C r a.1 a.2.2.2.1 a.2.2.2.2 ∧ a.2.2.2.2.term = a.2.1 ∧ a.2.2.2.2.leads = false ∧ a.2.2.2.2.settled = 0 ∧ a.2.2.2.2.row = a.2.2.1 ∧ rowOk a.2.2.1) (fun _ r d r' => d = .bool true ∧ r' = r) (fun _ _ _ _ => False)
theorem ok__law_stands (T : Tx K mg) : FnOk P w K mg base (L2.CX P w) 4 T.d__law_stands.a T.d__law_stands.fd ["_law_keeper", "_law_term", "_law_row"] (sp_stands K T.c_Keeper) := by
  refine ok_obj T.d__law_stands.F sc__law_stands (fun _ => rfl) fun cdv A outer s H E hr => ⟨_, (pss_cons (ps_if (PW.pt (pw_or (pt_not (pt_val (pe_call (ok__law_whole T) (hr.mono (by decide)) (by rfl) T.d__law_whole.g T.d__law_whole.F.kp T.d__law_whole.b .nil pass0 (pa_cons (pe_fld (pv 0) rfl) pa_nil)))) (pw_or (pt_cmpR op_ne (pe_fld (pv 0) rfl) (pv 1) (nomark _)) (pw_or1 (pt_cmpR op_notBl (pe_fld (pv 0) rfl) pe_bl (nomark _)))))) (pss_one (ps_ret pe_bl)) pss_nil)
    (pss_one (ps_ret (pe_and (pe_call (ok__law_whole T) (hr.mono (by decide)) (by rfl) T.d__law_whole.g T.d__law_whole.F.kp T.d__law_whole.b .nil pass0 (pa_cons (pe_fld (pv 0) rfl) pa_nil)) (pe_and (pe_cmpR op_eq (pe_fld (pv 0) rfl) pe_int (nomark _)) (pe_one (pe_call (ok__law_same T) (hr.mono (by decide)) (by rfl) T.d__law_same.g T.d__law_same.F.kp T.d__law_same.b .nil pass0 (pa_cons (pe_fld (pv 0) rfl) (pa_cons (pv 2) pa_nil))))))))), ?_⟩
  rintro ⟨a, t, es, c, k⟩ r ⟨h0, h1, h2, h3, h4, h5⟩
  have h1 : k.term = t := h1
  have h2 : k.leads = false := h2
  have h3 : k.settled = 0 := h3
  have h4 : k.row = es := h4
  have et : EvD K (Rmf K) (tFld K (tVar 0) "term") [.dat (objD a), .dat (.int t), .dat (rowD es)] r (.int t) := ev_fld (ev_var rfl) h0.ob T.cl_Keeper T.na_Keeper_term kf_term (by rw [h1]; exact .int)
  have el : EvD K (Rmf K) (tFld K (tVar 0) "leads") [.dat (objD a), .dat (.int t), .dat (rowD es)] r (.bool false) := ev_fld (ev_var rfl) h0.ob T.cl_Keeper T.na_Keeper_leads kf_leads (by rw [h2]; exact .bl)
  have es' : EvD K (Rmf K) (tFld K (tVar 0) "settled") [.dat (objD a), .dat (.int t), .dat (rowD es)] r (.int 0) := ev_fld (ev_var rfl) h0.ob T.cl_Keeper T.na_Keeper_settled kf_settled (by rw [h3]; exact .int)
  have er : EvD K (Rmf K) (tFld K (tVar 0) "row") [.dat (objD a), .dat (.int t), .dat (rowD es)] r (rowD es) := ev_fld (ev_var rfl) h0.ob T.cl_Keeper T.na_Keeper_row kf_row (.fact (by rw [← h4]; exact h0.row))
  refine sp_when (b := false) ((et_or (a := false) (b := false) (et_not (a := true) (et_B (ev_whole et))) fun _ => (et_or (a := false) (b := false) (et_test ((ev_op et (ev_var rfl) opNeI).is (by simp))) fun _ => et_test (ev_op el ev_bl opNotB)).is rfl).is rfl) (fun h => nomatch h) fun _ => ?_
  exact sp_ret ((ev_andV (a := true) (b := true) (ev_whole es') fun _ => (ev_andV (a := true) (b := true) ((ev_op es' ev_int opEqI).is rfl) fun _ => ev_sameT er (ev_var rfl) h5 rfl).is rfl).is rfl) ⟨rfl, rfl⟩

/-! ## law -/
theorem sc_law : FnScope ["_law_script", "_law_row", "_law_handed", "_law_keeper", "_law_aside", "_law_own", "_law_k", "_law_number", "_law_term", "_law_other_here", "_law_due", "_law_kept", "_law_told"] ["_law_script"] (defScope s_law) := ⟨rfl, rfl, rfl, by decide +kernel, rfl, by decide +kernel, by decide +kernel⟩
/-- a keeper made of a list that is lent -/
theorem es_make {T : Tx K mg} {e : SE} {r : MF} {i : Nat} {es : List Ent} {E : XK} (hi : e[i]? = some (.own (es.map entD))) : EvS K (Rmf K) (tMake T.c_Keeper (sp_Keeper_init K T.c_Keeper) [] E (tCons (tVar i) tNil)) e r
    (fun d r' => ∃ x c, d = objD x ∧ r.m x = none ∧ KAt T.c_Keeper r' x c { row := es } ∧ (∀ b o, r.m b = some o → r'.m b = some o) ∧ (∀ v d, r.f v d → r'.f v d)) := by
  have hl : i < e.length := (List.getElem?_eq_some_iff.mp hi).1
  refine evs_lend (P := fun l d r' => ∃ x c, d = objD x ∧ r.m x = none ∧ KAt T.c_Keeper r' x c { row := es } ∧ (∀ b o, r.m b = some o → r'.m b = some o) ∧ (∀ v d, r.f v d → r'.f v d) ∧ c.rw ≠ .ref l) hi (fun l => EvX.s (PE := fun _ _ => False) (evx_make (ea_cons (ev_var (d := rowD es) (List.getElem?_set_self hl)) ea_nil) fun x dx hx => ⟨(x, es), rfl, ⟨dx, upd_same⟩, ?_, fun _ _ z => z⟩) fun _ _ z => z) ?_
  · rintro d r' ⟨e1, c, h1, h2, h3, h4, h5, h6⟩
    refine ⟨e1, x, c, rfl, hx, h1, fun b o hb => ?_, fun v d h => h3 v d (.inl h), fun z => h6 (es.map entD) (.inr ⟨z, rfl⟩)⟩
    have hbx : b ≠ x := ne_of_none hb hx
    exact h2 b o (by show upd r.m x _ b = _; rw [upd_ne hbx]; exact hb) hbx
  · rintro l d r' ⟨x, c, rfl, h1, h2, h3, h4, h5⟩
    refine ⟨.obj, fun v d => r.f v d ∨ (v = c.rw ∧ d = rowD es), fun v d h => ?_, x, c, rfl, h1, ⟨h2.ob, .inr ⟨rfl, rfl⟩, h2.al, h2.hl, h2.ne⟩, h3, fun v d h => .inl h⟩
    rcases h with h | ⟨rfl, rfl⟩
    · exact .inl h
    · exact .inr ⟨h2.row, h5, es, rfl⟩
structure K5 (C : Addr) (M0 : Hp) (r : MF) (x y : Addr) (cx cy : KC) (own : Int) (es : List Ent) : Prop where
  m0 : Same M0 r.m
  x0 : M0 x = none
  y0 : M0 y = none
  hx : KAt C r x cx { term := own, row := es }
  hy : KAt C r y cy { row := [] }
  ne : y ≠ x
theorem K5.hear {C : Addr} {M0 : Hp} {r r' : MF} {x y : Addr} {cx cy : KC} {own t : Int} {es : List Ent} (h : K5 C M0 r x y cx cy own es) (f : Fr1 x r r') (hk : KAt C r' x cx (({ term := own, row := es } : KS).hear t)) : K5 C M0 r' x y cx cy (if t > own then t else own) es := by
  have e : (({ term := own, row := es } : KS).hear t) = { term := (if t > own then t else own), row := es } := by
    unfold KS.hear
    by_cases q : own < t
    · rw [if_pos q, if_pos (by show t > own; omega)]
    · rw [if_neg q, if_neg (by show ¬ t > own; omega)]
  rw [e] at hk
  exact ⟨fun b o hb => by rw [f.m b (ne_of_none hb h.x0)]; exact h.m0 b o hb, h.x0, h.y0, hk, h.hy.other h.hx f h.ne, h.ne⟩
theorem ok_law (T : Tx K mg) : FnOk P w K mg base CX0 5 T.d_law.a T.d_law.fd ["_law_script"] (spTrue K) := by
  refine ok_pureR (R := Rmf K) T.d_law.F sc_law (fun _ => rfl) (fun M => ⟨M, fun _ _ => False⟩) (fun _ _ => ⟨rfl, fun _ _ z => z.elim⟩) fun cdv A outer s H E hr => ⟨_, (pss_cons (ps_set (i := 1) sc_law.nd rfl (by first | exact Or.inl rfl | exact Or.inr rfl) (pe_call (ok__law_row_by T) (hr.mono (by decide)) (by rfl) T.d__law_row_by.g T.d__law_row_by.F.kp T.d__law_row_by.b .nil pass0 (pa_cons (pv 0) (pa_cons pe_int pa_nil))))
    (pss_cons (ps_set (i := 2) sc_law.nd rfl (by first | exact Or.inl rfl | exact Or.inr rfl) (pe_callTy call_list_of (by rfl) T.z_list (by decide +kernel) (pa_cons (pv 1) pa_nil)))
    (pss_cons (ps_set (i := 3) sc_law.nd rfl (by first | exact Or.inl rfl | exact Or.inr rfl) (pe_make T.d_Keeper_init.m (ok_Keeper_init T) (hr.mono (by decide)) (by rfl) T.mg_Keeper T.d_Keeper_init.b .nil passL (pa_cons (pv 2) pa_nil)))
    (pss_cons (ps_set (i := 4) sc_law.nd rfl (by first | exact Or.inl rfl | exact Or.inr rfl) (pe_make T.d_Keeper_init.m (ok_Keeper_init T) (hr.mono (by decide)) (by rfl) T.mg_Keeper T.d_Keeper_init.b .nil passL (pa_cons (pe_lst pa_nil) pa_nil)))
    (pss_cons (ps_expr (pe_bm PySem.F.plainAttrs_list PySem.F.slot_list_append PySem.F.type_list_append mt_append (pv 2) (pa_cons (pe_tup (pa_cons pe_int (pa_cons pe_str pa_nil))) pa_nil)))
    (pss_cons (ps_set (i := 5) sc_law.nd rfl (by first | exact Or.inl rfl | exact Or.inr rfl) pe_int)
    (pss_cons (ps_if (pt_not (pt_val (pe_call (ok__law_stands T) (hr.mono (by decide)) (by rfl) T.d__law_stands.g T.d__law_stands.F.kp T.d__law_stands.b .nil passL (pa_cons (pv 3) (pa_cons (pv 5) (pa_cons (pv 1) pa_nil)))))) (pss_one (ps_ret pe_bl)) pss_nil)
    (pss_cons (ps_for PassesOwn.never rfl (pi_range2 (by rfl) T.z_range (pa_cons pe_int (pa_cons (pe_callB call_len_seq (by rfl) T.z_len (by decide +kernel) (pa_cons (pv 0) pa_nil)) pa_nil))) (pg_name (i := 6) sc_law.nd rfl (by first | exact Or.inl rfl | exact Or.inr rfl)) (pss_cons (ps_set (i := 7) sc_law.nd rfl (by first | exact Or.inl rfl | exact Or.inr rfl) (pe_call (ok__law_mixed T) (hr.mono (by decide)) (by rfl) T.d__law_mixed.g T.d__law_mixed.F.kp T.d__law_mixed.b .nil pass0 (pa_cons (pv 0) (pa_cons (pv 6) pa_nil))))
    (pss_cons (ps_set (i := 8) sc_law.nd rfl (by first | exact Or.inl rfl | exact Or.inr rfl) (pe_op op_sub (pe_op op_mod (pe_op op_fdiv (pv 7) pe_int) pe_int) pe_int))
    (pss_cons (ps_if (pt_cmpR op_eq (pe_op op_mod (pe_op op_fdiv (pv 7) pe_int) pe_int) pe_int (nomark _)) (pss_one (ps_set (i := 8) sc_law.nd rfl (by first | exact Or.inl rfl | exact Or.inr rfl) (pe_op op_add (pv 8) (pe_op op_pow pe_int pe_int)))) pss_nil)
    (pss_cons (ps_if (pt_cmpR op_eq (pe_op op_mod (pv 7) pe_int) pe_int (nomark _)) (pss_one (ps_if (pt_cmp (pc_notN (pe_meth (pv 3) T.cl_Keeper T.d_Keeper_hear.m (ok_Keeper_hear T) (hr.mono (by decide)) T.d_Keeper_hear.b .nil passL (pa_cons (pv 8) pa_nil)))) (pss_one (ps_ret pe_bl)) pss_nil)) (pss_cons (ps_set (i := 9) sc_law.nd rfl (by first | exact Or.inl rfl | exact Or.inr rfl) (pe_call (ok__law_other T) (hr.mono (by decide)) (by rfl) T.d__law_other.g T.d__law_other.F.kp T.d__law_other.b .nil pass0 (pa_cons (pv 1) (pa_cons (pe_op op_mod (pe_op op_fdiv (pv 7) pe_int) pe_int) pa_nil))))
    (pss_cons (ps_set (i := 10) sc_law.nd rfl (by first | exact Or.inl rfl | exact Or.inr rfl) (pe_and (pe_cmpR op_gt (pv 8) (pv 5) (nomark _)) (pe_one (pe_call (ok__law_newer T) (hr.mono (by decide)) (by rfl) T.d__law_newer.g T.d__law_newer.F.kp T.d__law_newer.b .nil pass0 (pa_cons (pv 9) (pa_cons (pv 1) pa_nil))))))
    (pss_cons (ps_set (i := 11) sc_law.nd rfl (by first | exact Or.inl rfl | exact Or.inr rfl) (pe_callTy call_list_of (by rfl) T.z_list (by decide +kernel) (pa_cons (pv 9) pa_nil)))
    (pss_cons (ps_set (i := 12) sc_law.nd rfl (by first | exact Or.inl rfl | exact Or.inr rfl) (pe_meth (pv 3) T.cl_Keeper T.d_Keeper_asked.m (ok_Keeper_asked T) (hr.mono (by decide)) T.d_Keeper_asked.b .nil passL (pa_cons (pv 8) (pa_cons (pv 9) pa_nil))))
    (pss_cons (ps_if (PW.pt (pw_or (pt_not (pt_val (pe_callB call_isi (by rfl) T.z_isinstance (by decide +kernel) (pa_cons (pv 12) (pa_cons (pe_bltn (v := .ty "bool") (u := .type "bool") (by rfl) T.z_bool (by decide +kernel) rfl) pa_nil))))) (pw_or (pt_cmpR op_ne (pv 12) (pv 10) (nomark _)) (pw_or1 (pt_not (pt_val (pe_call (ok__law_same T) (hr.mono (by decide)) (by rfl) T.d__law_same.g T.d__law_same.F.kp T.d__law_same.b .nil pass0 (pa_cons (pv 9) (pa_cons (pv 11) pa_nil))))))))) (pss_one (ps_ret pe_bl)) pss_nil)
    (pss_one (ps_expr (pe_bm PySem.F.plainAttrs_list PySem.F.slot_list_append PySem.F.type_list_append mt_append (pv 9) (pa_cons (pe_tup (pa_cons pe_int (pa_cons pe_str pa_nil))) pa_nil))))))))))
    (pss_cons (ps_set (i := 5) sc_law.nd rfl (by first | exact Or.inl rfl | exact Or.inr rfl) (pe_callB (call_max2 rfl) (by rfl) T.z_max (by decide +kernel) (pa_cons (pv 5) (pa_cons (pv 8) pa_nil))))
    (pss_one (ps_if (pt_not (pt_val (pe_call (ok__law_stands T) (hr.mono (by decide)) (by rfl) T.d__law_stands.g T.d__law_stands.F.kp T.d__law_stands.b .nil passL (pa_cons (pv 3) (pa_cons (pv 5) (pa_cons (pv 1) pa_nil)))))) (pss_one (ps_ret pe_bl)) pss_nil))))))))
    (pss_one (ps_ret (pe_call (ok__law_stands T) (hr.mono (by decide)) (by rfl) T.d__law_stands.g T.d__law_stands.F.kp T.d__law_stands.b .nil passL (pa_cons (pv 4) (pa_cons pe_int (pa_cons (pe_lst pa_nil) pa_nil)))))))))))))), ?_⟩
  rintro M0 ns hn
  have hn : ns.length ≤ 63 := hn
  have ha := rowBy_ok ns 0
  have hz := rowBy_len ns 0
  refine sp_asg (ev_row_by (ev_var rfl) ev_int (by decide)) ?_
  generalize rowBy ns 0 = es at ha hz
  refine sp_asgO (evf_cb (ea_cons (ev_var (d := rowD es) rfl) ea_nil) cbList) ?_
  refine sp_asgS (es_make (i := 2) rfl) ?_
  rintro _ r1 ⟨x, cx, rfl, hx0, hx, hm1, hf1⟩
  refine sp_asgS (EvX.s (PE := fun _ _ => False) (P := fun d r' => ∃ y c, d = objD y ∧ r1.m y = none ∧ KAt T.c_Keeper r' y c { row := [] } ∧ (∀ b o, r1.m b = some o → r'.m b = some o) ∧ (∀ v d, r1.f v d → r'.f v d))
    (evx_make (ea_cons (ev_lst ea_nil (Nat.zero_le _)) ea_nil) fun y dy hy => ⟨(y, []), rfl, ⟨dy, upd_same⟩, ?_, fun _ _ z => z⟩) fun _ _ z => z) ?_
  · rintro d r' ⟨e1, c, h1, h2, h3, h4, h5, h6⟩
    refine ⟨e1, y, c, rfl, hy, h1, fun b o hb => ?_, h3⟩
    have hby : b ≠ y := ne_of_none hb hy
    exact h2 b o (by show upd r1.m y _ b = _; rw [upd_ne hby]; exact hb) hby
  rintro _ r2 ⟨y, cy, rfl, hy0, hy, hm2, hf2⟩
  have hyx : y ≠ x := fun z => by rw [z, hx.ob] at hy0; cases hy0
  have hI : K5 T.c_Keeper M0 r2 x y cx cy 0 es := by
    refine ⟨fun b o hb => hm2 b o (hm1 b o hb), hx0, ?_, hx.mono hm2 hf2, hy, hyx⟩
    cases q : M0 y with
    | none => rfl
    | some o =>
      have := hm1 y o q
      rw [hy0] at this; cases this
  refine sp_seq (N := fun e' r' => e' = [.dat (scrD ns), .dat (rowD es), .own (es.map entD ++ [entD (1, ("behind" : String))]), .dat (objD x), .dat (objD y), .hid, .hid, .hid, .hid, .hid, .hid, .hid, .hid] ∧ r' = r2)
    (sp_app (i := 2) rfl (by rw [List.length_map, sizeLine_eq]; omega) (ev_tup (ea_cons ev_int (ea_cons ev_str ea_nil)) (by show 2 ≤ sizeLine; decide)) ⟨rfl, rfl⟩) ?_
  rintro _ _ ⟨rfl, rfl⟩
  refine sp_asg ev_int ?_
  have stands : ∀ {e : SE} {r : MF} {cx cy : KC} {own : Int} {tr tt : TE}, K5 T.c_Keeper M0 r x y cx cy own es → e[3]? = some (.dat (objD x)) → EvD K (Rmf K) tt e r (.int own) → EvD K (Rmf K) tr e r (rowD es) →
      EvD K (Rmf K) (tCall (sp_stands K T.c_Keeper) [] E0 (tCons (tVar 3) (tCons tt (tCons tr tNil)))) e r (.bool true) := fun hI h3 ht hr => EvX.s (evx_call (x, _, es, _, _) (ea_cons (ev_var h3) (ea_cons ht (ea_cons hr ea_nil))) ⟨hI.hx, rfl, rfl, rfl, rfl, ha⟩) fun _ _ z => z
  refine sp_when (b := false) (et_not (a := true) (et_B (stands hI rfl (ev_var rfl) (ev_var rfl)))) (fun h => nomatch h) fun _ => ?_
  have fin : ∀ {r : MF} {own : Int}, K5 T.c_Keeper M0 r x y cx cy own es → ∀ G M, Rmf K r G M → Same M0 M := fun hI G M hM => by rw [hM.1]; exact hI.m0
  refine sp_seq (N := fun e' r' => ∃ own s2 s6 s7 s8 s9 s10 s11 s12, e' = [.dat (scrD ns), .dat (rowD es), s2, .dat (objD x), .dat (objD y), .dat (.int own), s6, s7, s8, s9, s10, s11, s12] ∧ K5 T.c_Keeper M0 r' x y cx cy own es) ?_ ?_
  · refine sp_forR2 (lo := 1) (n := (ns.length : Int)) (ea_cons ev_int (ea_cons (ev_cb (ea_cons (ev_var rfl) ea_nil) cbLenScr) ea_nil)) ⟨by decide, by decide, by omega, by omega⟩
      (fun _ e' r' => ∃ own s2 s6 s7 s8 s9 s10 s11 s12, e' = [.dat (scrD ns), .dat (rowD es), s2, .dat (objD x), .dat (objD y), .dat (.int own), s6, s7, s8, s9, s10, s11, s12] ∧ K5 T.c_Keeper M0 r' x y cx cy own es) ⟨_, _, _, _, _, _, _, _, _, rfl, hI⟩ ?_ (fun _ _ h => h)
    rintro j _ r hj ⟨own, s2, s6, s7, s8, s9, s10, s11, s12, rfl, hI⟩
    refine sp_asg (ev_mixed (ev_var rfl) (ev_var rfl) (by omega)) ?_
    generalize mixed ns (1 + (j : Int)) = n
    refine sp_asg (ev_op (ev_op (ev_op (ev_var rfl) ev_int (opIC ⟨by decide, by decide⟩)) ev_int (opIC (by decide))) ev_int opI) ?_
    refine sp_ifAsg (d := .int (if n / 28 % 9 = 1 then n / 2 % 14 - 2 + 10 ^ 25 else n / 2 % 14 - 2)) (et_test (ev_op (ev_op (ev_op (ev_var rfl) ev_int (opIC ⟨by decide, by decide⟩)) ev_int (opIC (by decide))) ev_int opEqI)) (fun h => ?_) (fun h => ?_) ?_
    · refine (ev_op (ev_var rfl) (ev_op ev_int ev_int (opIC ⟨by decide, by decide, by decide⟩)) opI).is ?_
      rw [if_pos (of_decide_eq_true h)]; rfl
    · rw [if_neg (of_decide_eq_false h)]; rfl
    generalize (if n / 28 % 9 = 1 then n / 2 % 14 - 2 + 10 ^ 25 else n / 2 % 14 - 2) = t
    refine sp_seq (N := fun e' r' => ∃ s2 s9 s10 s11 s12, e' = [.dat (scrD ns), .dat (rowD es), s2, .dat (objD x), .dat (objD y), .dat (.int own), .dat (.int (1 + (j : Int))), .dat (.int n), .dat (.int t), s9, s10, s11, s12] ∧ K5 T.c_Keeper M0 r' x y cx cy (if t > own then t else own) es) ?_ ?_
    · refine sp_if (et_test (ev_op (ev_op (ev_var rfl) ev_int (opIC (by decide))) ev_int opEqI)) (fun _ => ?_) fun _ => ?_
      · refine sp_ifS (evts_notN (PB := fun b r' => b = false ∧ K5 T.c_Keeper M0 r' x y cx cy (if t > own then t else own) es) (EvX.s (evx_meth (x, t, cx, _) (ev_var rfl) (inst_of hI.hx.ob kf_hear) (ea_cons (ev_var rfl) ea_nil) rfl hI.hx) fun _ _ z => z) ?_) ?_ ?_
        · rintro d r' ⟨rfl, h1, h2⟩
          exact ⟨rfl, hI.hear h2 h1⟩
        · rintro r' ⟨h, _⟩
          cases h
        · rintro r' ⟨_, h⟩
          exact sp_next ⟨_, _, _, _, _, rfl, h⟩
      · refine sp_asgO (ef_other (es := es) (ev_var rfl) (ev_op (ev_op (ev_var rfl) ev_int (opIC ⟨by decide, by decide⟩)) ev_int (opIC (by decide))) (by omega)) ?_
        have ho := otherRow_ok ha (n / 252 % 5)
        have hol := otherRow_len es (n / 252 % 5)
        generalize otherRow es (n / 252 % 5) = os at ho hol
        refine sp_asg (d := .bool (decide (own < t) && asNew os es)) (ev_andV (ev_op (ev_var rfl) (ev_var rfl) opB) fun _ => ev_lend (i := 9) (ds := os.map entD) rfl (fun M0 => ev_newer (a := os) (b := es) (ev_var rfl) (ev_var rfl)) .bl) ?_
        refine sp_asg (EvF.ev (evf_listO (i := 9) rfl)) ?_
        refine sp_asgS (Pe := fun d r' => d = .bool (decide (own < t) && asNew os es) ∧ K5 T.c_Keeper M0 r' x y cx cy (if t > own then t else own) es)
          (evs_lend (i := 9) (ds := os.map entD) (P := fun l d r' => d = .bool (decide (own < t) && asNew os es) ∧ KAt T.c_Keeper r' x cx (({ term := own, row := es } : KS).hear t) ∧ Fr1 x ⟨r.m, addF r.f (.ref l) (.list (os.map entD))⟩ r') rfl
            (fun l => EvX.s (evx_meth (r := (⟨r.m, addF r.f (.ref l) (.list (os.map entD))⟩ : MF)) ((x, t, os, cx, ({ term := own, row := es } : KS)) : Addr × Int × List Ent × KC × KS) (ev_var rfl) (inst_of (r := ⟨r.m, addF r.f (.ref l) (.list (os.map entD))⟩) hI.hx.ob kf_asked) (ea_cons (ev_var rfl) (ea_cons (ev_var (d := rowD os) rfl) ea_nil)) rfl (by exact ⟨KAt.mono (r' := ⟨r.m, addF r.f (.ref l) (.list (os.map entD))⟩) hI.hx (fun _ _ h => h) (fun _ _ h => .inl h), ho, ha⟩)) fun _ _ z => z) ?_) ?_
        · rintro l d r' ⟨rfl, h1, h2⟩
          have h1' : KAt T.c_Keeper ⟨r'.m, r.f⟩ x cx (({ term := own, row := es } : KS).hear t) := ⟨h1.ob, by rw [hear_row]; exact hI.hx.row, h1.al, h1.hl, h1.ne⟩
          exact ⟨.bl, r.f, fun v d h => .inl h, rfl, hI.hear (r' := ⟨r'.m, r.f⟩) ⟨h2.m, fun v d h => h⟩ h1'⟩
        rintro _ r' ⟨rfl, hI'⟩
        refine sp_when (b := false) ((et_or (a := false) (b := false) (et_not (a := true) (et_B (isi_bool (ev_var rfl)))) fun _ => (et_or (a := false) (b := false) (et_test ((ev_op (ev_var rfl) (ev_var rfl) opNeB).is (by simp))) fun _ => et_not (a := true) (et_B (ev_lend (i := 9) (ds := os.map entD) rfl (fun M0 => ev_sameT (a := os) (ev_var rfl) (ev_var rfl) ho rfl) .bl))).is rfl).is rfl) (fun h => nomatch h) fun _ => ?_
        exact sp_app (i := 9) rfl (by rw [List.length_map, sizeLine_eq]; omega) (ev_tup (ea_cons ev_int (ea_cons ev_str ea_nil)) (by show 2 ≤ sizeLine; decide)) ⟨_, _, _, _, _, rfl, hI'⟩
    · rintro _ r' ⟨s2, s9, s10, s11, s12, rfl, hI'⟩
      refine sp_asg (ev_cb (ea_cons (ev_var rfl) (ea_cons (ev_var rfl) ea_nil)) cb2) ?_
      refine sp_if (b := false) (et_not (a := true) (et_B (stands hI' rfl (ev_var rfl) (ev_var rfl)))) (fun h => nomatch h) fun _ => ?_
      exact sp_next ⟨_, _, _, _, _, _, _, _, _, rfl, hI'⟩
  · rintro _ r ⟨own, s2, s6, s7, s8, s9, s10, s11, s12, rfl, hI⟩
    refine sp_ret (EvX.s (evx_call (y, (0 : Int), ([] : List Ent), cy, { row := [] }) (ea_cons (ev_var rfl) (ea_cons ev_int (ea_cons (ev_lst ea_nil (Nat.zero_le _)) ea_nil))) ⟨hI.hy, rfl, rfl, rfl, rfl, rowOk_nil⟩) fun _ _ z => z) ⟨rfl, fin hI⟩

end
theorem all_mk {l : PySem.W.OpenLaw} {w : World} {K : PySem.W.Frag} {h : Heap} {mg : Str → Option Value} {fa : Addr} (X : K.In h) (G : h.Ns mainGlobals mg) (hfa : mg "law" = some (.ref fa))
    {c_Keeper f_last_term f_as_new f_Keeper_init f_Keeper_hear f_Keeper_asked f__law_cell_at f__law_mixed f__law_sign_by f__law_word_by f__law_entry_by f__law_row_by f__law_whole f__law_rows f__law_same f__law_end f__law_newer f__law_other f__law_stands f_law : Addr}
    {od_last_term an_last_term od_as_new an_as_new od_Keeper_init an_Keeper_init od_Keeper_hear an_Keeper_hear od_Keeper_asked an_Keeper_asked od__law_cell_at an__law_cell_at od__law_mixed an__law_mixed od__law_sign_by an__law_sign_by od__law_word_by an__law_word_by od__law_entry_by an__law_entry_by od__law_row_by an__law_row_by od__law_whole an__law_whole od__law_rows an__law_rows od__law_same an__law_same od__law_end an__law_end od__law_newer an__law_newer od__law_other an__law_other od__law_stands an__law_stands od_law an_law : Option Addr} {sl_last_term sl_as_new sl_Keeper_init sl_Keeper_hear sl_Keeper_asked sl__law_cell_at sl__law_mixed sl__law_sign_by sl__law_word_by sl__law_entry_by sl__law_row_by sl__law_whole sl__law_rows sl__law_same sl__law_end sl__law_newer sl__law_other sl__law_stands sl_law : Array (Option Value)}
    {oc_last_term kV_last_term dc_last_term pm_last_term cd_last_term ct_last_term oc_as_new kV_as_new dc_as_new pm_as_new cd_as_new ct_as_new oc_Keeper_init kV_Keeper_init dc_Keeper_init pm_Keeper_init cd_Keeper_init ct_Keeper_init oc_Keeper_hear kV_Keeper_hear dc_Keeper_hear pm_Keeper_hear cd_Keeper_hear ct_Keeper_hear oc_Keeper_asked kV_Keeper_asked dc_Keeper_asked pm_Keeper_asked cd_Keeper_asked ct_Keeper_asked oc__law_cell_at kV__law_cell_at dc__law_cell_at pm__law_cell_at cd__law_cell_at ct__law_cell_at oc__law_mixed kV__law_mixed dc__law_mixed pm__law_mixed cd__law_mixed ct__law_mixed oc__law_sign_by kV__law_sign_by dc__law_sign_by pm__law_sign_by cd__law_sign_by ct__law_sign_by oc__law_word_by kV__law_word_by dc__law_word_by pm__law_word_by cd__law_word_by ct__law_word_by oc__law_entry_by kV__law_entry_by dc__law_entry_by pm__law_entry_by cd__law_entry_by ct__law_entry_by oc__law_row_by kV__law_row_by dc__law_row_by pm__law_row_by cd__law_row_by ct__law_row_by oc__law_whole kV__law_whole dc__law_whole pm__law_whole cd__law_whole ct__law_whole oc__law_rows kV__law_rows dc__law_rows pm__law_rows cd__law_rows ct__law_rows oc__law_same kV__law_same dc__law_same pm__law_same cd__law_same ct__law_same oc__law_end kV__law_end dc__law_end pm__law_end cd__law_end ct__law_end oc__law_newer kV__law_newer dc__law_newer pm__law_newer cd__law_newer ct__law_newer oc__law_other kV__law_other dc__law_other pm__law_other cd__law_other ct__law_other oc__law_stands kV__law_stands dc__law_stands pm__law_stands cd__law_stands ct__law_stands oc_law kV_law dc_law pm_law cd_law ct_law : Value}
    (aC_Keeper : PySem.W.nsIn K mainGlobals "Keeper" = some (some (.ref c_Keeper)))
    (pg_Keeper : PySem.W.plainGet K c_Keeper Str.empty = true)
    (hd_Keeper : PySem.W.hasDictIn K c_Keeper = true)
    (po_Keeper : PySem.W.plainOver K c_Keeper = true)
    (sa_Keeper : PySem.W.findIn K (.ref c_Keeper) "__setattr__" = some (some (.builtin "object.__setattr__")))
    (mk_Keeper : PySem.W.makesIn K c_Keeper = true)
    (kc_Keeper : PySem.W.keepIn K (.ref c_Keeper) = true)
    (na_Keeper_term : PySem.W.findIn K (.ref c_Keeper) "term" = some none)
    (na_Keeper_row : PySem.W.findIn K (.ref c_Keeper) "row" = some none)
    (na_Keeper_leads : PySem.W.findIn K (.ref c_Keeper) "leads" = some none)
    (na_Keeper_settled : PySem.W.findIn K (.ref c_Keeper) "settled" = some none)
    (na_Keeper_ahead : PySem.W.findIn K (.ref c_Keeper) "ahead" = some none)
    (na_Keeper_held : PySem.W.findIn K (.ref c_Keeper) "held" = some none)
    (a_last_term : PySem.W.nsIn K mainGlobals "last_term" = some (some (.ref f_last_term)))
    (l_last_term : K.lookup f_last_term = some ⟨oc_last_term, od_last_term, .func (PySem.W.fnOf "last_term" "last_term" (defArgs s_last_term) (defBody s_last_term) (defScope s_last_term) .none kV_last_term dc_last_term pm_last_term an_last_term cd_last_term ct_last_term), sl_last_term⟩)
    (c_last_term_ : PySem.W.codeIn K cd_last_term "last_term" = true)
    (k_last_term : PySem.W.keepIn K (.ref f_last_term) = true)
    (a_as_new : PySem.W.nsIn K mainGlobals "as_new" = some (some (.ref f_as_new)))
    (l_as_new : K.lookup f_as_new = some ⟨oc_as_new, od_as_new, .func (PySem.W.fnOf "as_new" "as_new" (defArgs s_as_new) (defBody s_as_new) (defScope s_as_new) .none kV_as_new dc_as_new pm_as_new an_as_new cd_as_new ct_as_new), sl_as_new⟩)
    (c_as_new_ : PySem.W.codeIn K cd_as_new "as_new" = true)
    (k_as_new : PySem.W.keepIn K (.ref f_as_new) = true)
    (a_Keeper_init : PySem.W.findIn K (.ref c_Keeper) "__init__" = some (some (.ref f_Keeper_init)))
    (i_Keeper_init : PySem.W.isFn K (.ref f_Keeper_init) = true)
    (l_Keeper_init : K.lookup f_Keeper_init = some ⟨oc_Keeper_init, od_Keeper_init, .func (PySem.W.fnOf "__init__" "Keeper.__init__" (defArgs s_Keeper_init) (defBody s_Keeper_init) (defScope s_Keeper_init) .none kV_Keeper_init dc_Keeper_init pm_Keeper_init an_Keeper_init cd_Keeper_init ct_Keeper_init), sl_Keeper_init⟩)
    (c_Keeper_init_ : PySem.W.codeIn K cd_Keeper_init "Keeper.__init__" = true)
    (k_Keeper_init : PySem.W.keepIn K (.ref f_Keeper_init) = true)
    (a_Keeper_hear : PySem.W.findIn K (.ref c_Keeper) "hear" = some (some (.ref f_Keeper_hear)))
    (i_Keeper_hear : PySem.W.isFn K (.ref f_Keeper_hear) = true)
    (l_Keeper_hear : K.lookup f_Keeper_hear = some ⟨oc_Keeper_hear, od_Keeper_hear, .func (PySem.W.fnOf "hear" "Keeper.hear" (defArgs s_Keeper_hear) (defBody s_Keeper_hear) (defScope s_Keeper_hear) .none kV_Keeper_hear dc_Keeper_hear pm_Keeper_hear an_Keeper_hear cd_Keeper_hear ct_Keeper_hear), sl_Keeper_hear⟩)
    (c_Keeper_hear_ : PySem.W.codeIn K cd_Keeper_hear "Keeper.hear" = true)
    (k_Keeper_hear : PySem.W.keepIn K (.ref f_Keeper_hear) = true)
    (a_Keeper_asked : PySem.W.findIn K (.ref c_Keeper) "asked" = some (some (.ref f_Keeper_asked)))
    (i_Keeper_asked : PySem.W.isFn K (.ref f_Keeper_asked) = true)
    (l_Keeper_asked : K.lookup f_Keeper_asked = some ⟨oc_Keeper_asked, od_Keeper_asked, .func (PySem.W.fnOf "asked" "Keeper.asked" (defArgs s_Keeper_asked) (defBody s_Keeper_asked) (defScope s_Keeper_asked) .none kV_Keeper_asked dc_Keeper_asked pm_Keeper_asked an_Keeper_asked cd_Keeper_asked ct_Keeper_asked), sl_Keeper_asked⟩)
    (c_Keeper_asked_ : PySem.W.codeIn K cd_Keeper_asked "Keeper.asked" = true)
    (k_Keeper_asked : PySem.W.keepIn K (.ref f_Keeper_asked) = true)
    (a__law_cell_at : PySem.W.nsIn K mainGlobals "_law_cell_at" = some (some (.ref f__law_cell_at)))
    (l__law_cell_at : K.lookup f__law_cell_at = some ⟨oc__law_cell_at, od__law_cell_at, .func (PySem.W.fnOf "_law_cell_at" "_law_cell_at" (defArgs s__law_cell_at) (defBody s__law_cell_at) (defScope s__law_cell_at) .none kV__law_cell_at dc__law_cell_at pm__law_cell_at an__law_cell_at cd__law_cell_at ct__law_cell_at), sl__law_cell_at⟩)
    (c__law_cell_at_ : PySem.W.codeIn K cd__law_cell_at "_law_cell_at" = true)
    (k__law_cell_at : PySem.W.keepIn K (.ref f__law_cell_at) = true)
    (a__law_mixed : PySem.W.nsIn K mainGlobals "_law_mixed" = some (some (.ref f__law_mixed)))
    (l__law_mixed : K.lookup f__law_mixed = some ⟨oc__law_mixed, od__law_mixed, .func (PySem.W.fnOf "_law_mixed" "_law_mixed" (defArgs s__law_mixed) (defBody s__law_mixed) (defScope s__law_mixed) .none kV__law_mixed dc__law_mixed pm__law_mixed an__law_mixed cd__law_mixed ct__law_mixed), sl__law_mixed⟩)
    (c__law_mixed_ : PySem.W.codeIn K cd__law_mixed "_law_mixed" = true)
    (k__law_mixed : PySem.W.keepIn K (.ref f__law_mixed) = true)
    (a__law_sign_by : PySem.W.nsIn K mainGlobals "_law_sign_by" = some (some (.ref f__law_sign_by)))
    (l__law_sign_by : K.lookup f__law_sign_by = some ⟨oc__law_sign_by, od__law_sign_by, .func (PySem.W.fnOf "_law_sign_by" "_law_sign_by" (defArgs s__law_sign_by) (defBody s__law_sign_by) (defScope s__law_sign_by) .none kV__law_sign_by dc__law_sign_by pm__law_sign_by an__law_sign_by cd__law_sign_by ct__law_sign_by), sl__law_sign_by⟩)
    (c__law_sign_by_ : PySem.W.codeIn K cd__law_sign_by "_law_sign_by" = true)
    (k__law_sign_by : PySem.W.keepIn K (.ref f__law_sign_by) = true)
    (a__law_word_by : PySem.W.nsIn K mainGlobals "_law_word_by" = some (some (.ref f__law_word_by)))
    (l__law_word_by : K.lookup f__law_word_by = some ⟨oc__law_word_by, od__law_word_by, .func (PySem.W.fnOf "_law_word_by" "_law_word_by" (defArgs s__law_word_by) (defBody s__law_word_by) (defScope s__law_word_by) .none kV__law_word_by dc__law_word_by pm__law_word_by an__law_word_by cd__law_word_by ct__law_word_by), sl__law_word_by⟩)
    (c__law_word_by_ : PySem.W.codeIn K cd__law_word_by "_law_word_by" = true)
    (k__law_word_by : PySem.W.keepIn K (.ref f__law_word_by) = true)
    (a__law_entry_by : PySem.W.nsIn K mainGlobals "_law_entry_by" = some (some (.ref f__law_entry_by)))
    (l__law_entry_by : K.lookup f__law_entry_by = some ⟨oc__law_entry_by, od__law_entry_by, .func (PySem.W.fnOf "_law_entry_by" "_law_entry_by" (defArgs s__law_entry_by) (defBody s__law_entry_by) (defScope s__law_entry_by) .none kV__law_entry_by dc__law_entry_by pm__law_entry_by an__law_entry_by cd__law_entry_by ct__law_entry_by), sl__law_entry_by⟩)
    (c__law_entry_by_ : PySem.W.codeIn K cd__law_entry_by "_law_entry_by" = true)
    (k__law_entry_by : PySem.W.keepIn K (.ref f__law_entry_by) = true)
    (a__law_row_by : PySem.W.nsIn K mainGlobals "_law_row_by" = some (some (.ref f__law_row_by)))
    (l__law_row_by : K.lookup f__law_row_by = some ⟨oc__law_row_by, od__law_row_by, .func (PySem.W.fnOf "_law_row_by" "_law_row_by" (defArgs s__law_row_by) (defBody s__law_row_by) (defScope s__law_row_by) .none kV__law_row_by dc__law_row_by pm__law_row_by an__law_row_by cd__law_row_by ct__law_row_by), sl__law_row_by⟩)
    (c__law_row_by_ : PySem.W.codeIn K cd__law_row_by "_law_row_by" = true)
    (k__law_row_by : PySem.W.keepIn K (.ref f__law_row_by) = true)
    (a__law_whole : PySem.W.nsIn K mainGlobals "_law_whole" = some (some (.ref f__law_whole)))
    (l__law_whole : K.lookup f__law_whole = some ⟨oc__law_whole, od__law_whole, .func (PySem.W.fnOf "_law_whole" "_law_whole" (defArgs s__law_whole) (defBody s__law_whole) (defScope s__law_whole) .none kV__law_whole dc__law_whole pm__law_whole an__law_whole cd__law_whole ct__law_whole), sl__law_whole⟩)
    (c__law_whole_ : PySem.W.codeIn K cd__law_whole "_law_whole" = true)
    (k__law_whole : PySem.W.keepIn K (.ref f__law_whole) = true)
    (a__law_rows : PySem.W.nsIn K mainGlobals "_law_rows" = some (some (.ref f__law_rows)))
    (l__law_rows : K.lookup f__law_rows = some ⟨oc__law_rows, od__law_rows, .func (PySem.W.fnOf "_law_rows" "_law_rows" (defArgs s__law_rows) (defBody s__law_rows) (defScope s__law_rows) .none kV__law_rows dc__law_rows pm__law_rows an__law_rows cd__law_rows ct__law_rows), sl__law_rows⟩)
    (c__law_rows_ : PySem.W.codeIn K cd__law_rows "_law_rows" = true)
    (k__law_rows : PySem.W.keepIn K (.ref f__law_rows) = true)
    (a__law_same : PySem.W.nsIn K mainGlobals "_law_same" = some (some (.ref f__law_same)))
    (l__law_same : K.lookup f__law_same = some ⟨oc__law_same, od__law_same, .func (PySem.W.fnOf "_law_same" "_law_same" (defArgs s__law_same) (defBody s__law_same) (defScope s__law_same) .none kV__law_same dc__law_same pm__law_same an__law_same cd__law_same ct__law_same), sl__law_same⟩)
    (c__law_same_ : PySem.W.codeIn K cd__law_same "_law_same" = true)
    (k__law_same : PySem.W.keepIn K (.ref f__law_same) = true)
    (a__law_end : PySem.W.nsIn K mainGlobals "_law_end" = some (some (.ref f__law_end)))
    (l__law_end : K.lookup f__law_end = some ⟨oc__law_end, od__law_end, .func (PySem.W.fnOf "_law_end" "_law_end" (defArgs s__law_end) (defBody s__law_end) (defScope s__law_end) .none kV__law_end dc__law_end pm__law_end an__law_end cd__law_end ct__law_end), sl__law_end⟩)
    (c__law_end_ : PySem.W.codeIn K cd__law_end "_law_end" = true)
    (k__law_end : PySem.W.keepIn K (.ref f__law_end) = true)
    (a__law_newer : PySem.W.nsIn K mainGlobals "_law_newer" = some (some (.ref f__law_newer)))
    (l__law_newer : K.lookup f__law_newer = some ⟨oc__law_newer, od__law_newer, .func (PySem.W.fnOf "_law_newer" "_law_newer" (defArgs s__law_newer) (defBody s__law_newer) (defScope s__law_newer) .none kV__law_newer dc__law_newer pm__law_newer an__law_newer cd__law_newer ct__law_newer), sl__law_newer⟩)
    (c__law_newer_ : PySem.W.codeIn K cd__law_newer "_law_newer" = true)
    (k__law_newer : PySem.W.keepIn K (.ref f__law_newer) = true)
    (a__law_other : PySem.W.nsIn K mainGlobals "_law_other" = some (some (.ref f__law_other)))
    (l__law_other : K.lookup f__law_other = some ⟨oc__law_other, od__law_other, .func (PySem.W.fnOf "_law_other" "_law_other" (defArgs s__law_other) (defBody s__law_other) (defScope s__law_other) .none kV__law_other dc__law_other pm__law_other an__law_other cd__law_other ct__law_other), sl__law_other⟩)
    (c__law_other_ : PySem.W.codeIn K cd__law_other "_law_other" = true)
    (k__law_other : PySem.W.keepIn K (.ref f__law_other) = true)
    (a__law_stands : PySem.W.nsIn K mainGlobals "_law_stands" = some (some (.ref f__law_stands)))
    (l__law_stands : K.lookup f__law_stands = some ⟨oc__law_stands, od__law_stands, .func (PySem.W.fnOf "_law_stands" "_law_stands" (defArgs s__law_stands) (defBody s__law_stands) (defScope s__law_stands) .none kV__law_stands dc__law_stands pm__law_stands an__law_stands cd__law_stands ct__law_stands), sl__law_stands⟩)
    (c__law_stands_ : PySem.W.codeIn K cd__law_stands "_law_stands" = true)
    (k__law_stands : PySem.W.keepIn K (.ref f__law_stands) = true)
    (a_law : PySem.W.nsIn K mainGlobals "law" = some (some (.ref f_law)))
    (l_law : K.lookup f_law = some ⟨oc_law, od_law, .func (PySem.W.fnOf "law" "law" (defArgs s_law) (defBody s_law) (defScope s_law) .none kV_law dc_law pm_law an_law cd_law ct_law), sl_law⟩)
    (c_law_ : PySem.W.codeIn K cd_law "law" = true)
    (k_law : PySem.W.keepIn K (.ref f_law) = true)
    (z_bool : PySem.W.nsIn K mainGlobals "bool" = some none)
    (z_int : PySem.W.nsIn K mainGlobals "int" = some none)
    (z_isinstance : PySem.W.nsIn K mainGlobals "isinstance" = some none)
    (z_len : PySem.W.nsIn K mainGlobals "len" = some none)
    (z_list : PySem.W.nsIn K mainGlobals "list" = some none)
    (z_max : PySem.W.nsIn K mainGlobals "max" = some none)
    (z_range : PySem.W.nsIn K mainGlobals "range" = some none)
    (z_str : PySem.W.nsIn K mainGlobals "str" = some none)
    (z_tuple : PySem.W.nsIn K mainGlobals "tuple" = some none) :
    ∃ fd : FuncData, (∀ (s : Shared) (v : Value), BindsTo s fd ⟨[v], []⟩ [("_law_script", v)]) ∧ ∀ base : Heap, K.In base → base.Ns mainGlobals mg → FnOk l.prog w K mg base CX0 5 fa fd ["_law_script"] (spLaw K) := by
  have e := hfa.symm.trans (PySem.W.mg_of X G a_law)
  cases e
  let T : Tx K mg := {
    c_Keeper := c_Keeper
    cl_Keeper := ⟨pg_Keeper, hd_Keeper, po_Keeper, sa_Keeper⟩
    mg_Keeper := PySem.W.mg_of X G aC_Keeper
    na_Keeper_term := na_Keeper_term
    na_Keeper_row := na_Keeper_row
    na_Keeper_leads := na_Keeper_leads
    na_Keeper_settled := na_Keeper_settled
    na_Keeper_ahead := na_Keeper_ahead
    na_Keeper_held := na_Keeper_held
    d_last_term := ⟨f_last_term, _, fun_mk (st := s_last_term) l_last_term c_last_term_ k_last_term, (fun_mk (st := s_last_term) l_last_term c_last_term_ k_last_term).binds (ps := ["row"]) (fun _ _ _ _ _ _ us hl => (match us, hl with | [_], _ => rfl)), PySem.W.mg_of X G a_last_term⟩
    d_as_new := ⟨f_as_new, _, fun_mk (st := s_as_new) l_as_new c_as_new_ k_as_new, (fun_mk (st := s_as_new) l_as_new c_as_new_ k_as_new).binds (ps := ["row", "other"]) (fun _ _ _ _ _ _ us hl => (match us, hl with | [_, _], _ => rfl)), PySem.W.mg_of X G a_as_new⟩
    d_Keeper_init := ⟨f_Keeper_init, _, fun_mk (st := s_Keeper_init) l_Keeper_init c_Keeper_init_ k_Keeper_init, (fun_mk (st := s_Keeper_init) l_Keeper_init c_Keeper_init_ k_Keeper_init).binds (ps := ["self", "row"]) (fun _ _ _ _ _ _ us hl => (match us, hl with | [_, _], _ => rfl)), ⟨mk_Keeper, a_Keeper_init, i_Keeper_init, kc_Keeper⟩⟩
    d_Keeper_hear := ⟨f_Keeper_hear, _, fun_mk (st := s_Keeper_hear) l_Keeper_hear c_Keeper_hear_ k_Keeper_hear, (fun_mk (st := s_Keeper_hear) l_Keeper_hear c_Keeper_hear_ k_Keeper_hear).binds (ps := ["self", "term"]) (fun _ _ _ _ _ _ us hl => (match us, hl with | [_, _], _ => rfl)), ⟨a_Keeper_hear, i_Keeper_hear, k_Keeper_hear⟩⟩
    d_Keeper_asked := ⟨f_Keeper_asked, _, fun_mk (st := s_Keeper_asked) l_Keeper_asked c_Keeper_asked_ k_Keeper_asked, (fun_mk (st := s_Keeper_asked) l_Keeper_asked c_Keeper_asked_ k_Keeper_asked).binds (ps := ["self", "term", "row"]) (fun _ _ _ _ _ _ us hl => (match us, hl with | [_, _, _], _ => rfl)), ⟨a_Keeper_asked, i_Keeper_asked, k_Keeper_asked⟩⟩
    d__law_cell_at := ⟨f__law_cell_at, _, fun_mk (st := s__law_cell_at) l__law_cell_at c__law_cell_at_ k__law_cell_at, (fun_mk (st := s__law_cell_at) l__law_cell_at c__law_cell_at_ k__law_cell_at).binds (ps := ["_law_script", "_law_k"]) (fun _ _ _ _ _ _ us hl => (match us, hl with | [_, _], _ => rfl)), PySem.W.mg_of X G a__law_cell_at⟩
    d__law_mixed := ⟨f__law_mixed, _, fun_mk (st := s__law_mixed) l__law_mixed c__law_mixed_ k__law_mixed, (fun_mk (st := s__law_mixed) l__law_mixed c__law_mixed_ k__law_mixed).binds (ps := ["_law_script", "_law_k"]) (fun _ _ _ _ _ _ us hl => (match us, hl with | [_, _], _ => rfl)), PySem.W.mg_of X G a__law_mixed⟩
    d__law_sign_by := ⟨f__law_sign_by, _, fun_mk (st := s__law_sign_by) l__law_sign_by c__law_sign_by_ k__law_sign_by, (fun_mk (st := s__law_sign_by) l__law_sign_by c__law_sign_by_ k__law_sign_by).binds (ps := ["_law_number"]) (fun _ _ _ _ _ _ us hl => (match us, hl with | [_], _ => rfl)), PySem.W.mg_of X G a__law_sign_by⟩
    d__law_word_by := ⟨f__law_word_by, _, fun_mk (st := s__law_word_by) l__law_word_by c__law_word_by_ k__law_word_by, (fun_mk (st := s__law_word_by) l__law_word_by c__law_word_by_ k__law_word_by).binds (ps := ["_law_number"]) (fun _ _ _ _ _ _ us hl => (match us, hl with | [_], _ => rfl)), PySem.W.mg_of X G a__law_word_by⟩
    d__law_entry_by := ⟨f__law_entry_by, _, fun_mk (st := s__law_entry_by) l__law_entry_by c__law_entry_by_ k__law_entry_by, (fun_mk (st := s__law_entry_by) l__law_entry_by c__law_entry_by_ k__law_entry_by).binds (ps := ["_law_number"]) (fun _ _ _ _ _ _ us hl => (match us, hl with | [_], _ => rfl)), PySem.W.mg_of X G a__law_entry_by⟩
    d__law_row_by := ⟨f__law_row_by, _, fun_mk (st := s__law_row_by) l__law_row_by c__law_row_by_ k__law_row_by, (fun_mk (st := s__law_row_by) l__law_row_by c__law_row_by_ k__law_row_by).binds (ps := ["_law_script", "_law_at"]) (fun _ _ _ _ _ _ us hl => (match us, hl with | [_, _], _ => rfl)), PySem.W.mg_of X G a__law_row_by⟩
    d__law_whole := ⟨f__law_whole, _, fun_mk (st := s__law_whole) l__law_whole c__law_whole_ k__law_whole, (fun_mk (st := s__law_whole) l__law_whole c__law_whole_ k__law_whole).binds (ps := ["_law_found"]) (fun _ _ _ _ _ _ us hl => (match us, hl with | [_], _ => rfl)), PySem.W.mg_of X G a__law_whole⟩
    d__law_rows := ⟨f__law_rows, _, fun_mk (st := s__law_rows) l__law_rows c__law_rows_ k__law_rows, (fun_mk (st := s__law_rows) l__law_rows c__law_rows_ k__law_rows).binds (ps := ["_law_found"]) (fun _ _ _ _ _ _ us hl => (match us, hl with | [_], _ => rfl)), PySem.W.mg_of X G a__law_rows⟩
    d__law_same := ⟨f__law_same, _, fun_mk (st := s__law_same) l__law_same c__law_same_ k__law_same, (fun_mk (st := s__law_same) l__law_same c__law_same_ k__law_same).binds (ps := ["_law_found", "_law_due"]) (fun _ _ _ _ _ _ us hl => (match us, hl with | [_, _], _ => rfl)), PySem.W.mg_of X G a__law_same⟩
    d__law_end := ⟨f__law_end, _, fun_mk (st := s__law_end) l__law_end c__law_end_ k__law_end, (fun_mk (st := s__law_end) l__law_end c__law_end_ k__law_end).binds (ps := ["_law_row"]) (fun _ _ _ _ _ _ us hl => (match us, hl with | [_], _ => rfl)), PySem.W.mg_of X G a__law_end⟩
    d__law_newer := ⟨f__law_newer, _, fun_mk (st := s__law_newer) l__law_newer c__law_newer_ k__law_newer, (fun_mk (st := s__law_newer) l__law_newer c__law_newer_ k__law_newer).binds (ps := ["_law_row", "_law_other_here"]) (fun _ _ _ _ _ _ us hl => (match us, hl with | [_, _], _ => rfl)), PySem.W.mg_of X G a__law_newer⟩
    d__law_other := ⟨f__law_other, _, fun_mk (st := s__law_other) l__law_other c__law_other_ k__law_other, (fun_mk (st := s__law_other) l__law_other c__law_other_ k__law_other).binds (ps := ["_law_row", "_law_number"]) (fun _ _ _ _ _ _ us hl => (match us, hl with | [_, _], _ => rfl)), PySem.W.mg_of X G a__law_other⟩
    d__law_stands := ⟨f__law_stands, _, fun_mk (st := s__law_stands) l__law_stands c__law_stands_ k__law_stands, (fun_mk (st := s__law_stands) l__law_stands c__law_stands_ k__law_stands).binds (ps := ["_law_keeper", "_law_term", "_law_row"]) (fun _ _ _ _ _ _ us hl => (match us, hl with | [_, _, _], _ => rfl)), PySem.W.mg_of X G a__law_stands⟩
    d_law := ⟨fa, _, fun_mk (st := s_law) l_law c_law_ k_law, (fun_mk (st := s_law) l_law c_law_ k_law).binds (ps := ["_law_script"]) (fun _ _ _ _ _ _ us hl => (match us, hl with | [_], _ => rfl)), PySem.W.mg_of X G a_law⟩
    z_bool := PySem.W.mg_none_of X G z_bool
    z_int := PySem.W.mg_none_of X G z_int
    z_isinstance := PySem.W.mg_none_of X G z_isinstance
    z_len := PySem.W.mg_none_of X G z_len
    z_list := PySem.W.mg_none_of X G z_list
    z_max := PySem.W.mg_none_of X G z_max
    z_range := PySem.W.mg_none_of X G z_range
    z_str := PySem.W.mg_none_of X G z_str
    z_tuple := PySem.W.mg_none_of X G z_tuple }
  exact ⟨T.d_law.fd, fun s v => .of_eq rfl, fun base _ _ => spLaw_of (ok_law T)⟩
theorem walk {l : PySem.W.OpenLaw} {q : Program} {loose : List Str} {XP : (Str → Option Value) → Heap → Prop} {YP : World → Heap → Prop} {d : DefRec} {K : Params → PySem.W.Frag} (hn : l.most = some 63) (hdf : d.params.defaults = [])
    (hY : ∀ (w : World) (h : Heap), YP w h → (K w.params).In h)
    (F : ∀ (w : World) (mg : Str → Option Value) (fa : Addr) (h : Heap), (K w.params).In h → h.Ns mainGlobals mg → mg d.name = some (.ref fa) →
      ∃ fd : FuncData, (∀ (s : Shared) (u : Value), BindsTo s fd ⟨[u], []⟩ [("_law_script", u)]) ∧ ∀ base : Heap, (K w.params).In base → base.Ns mainGlobals mg → FnOk l.prog w (K w.params) mg base CX0 5 fa fd ["_law_script"] (spLaw (K w.params))) :
    PySem.W.WalkO q loose XP YP l.row.toRowW d [] (fun f vs => PySem.call f vs) :=
  L2.walk_of (n := 63) (k := 5) (x := "_law_script") (CX := fun _ => CX0) (sp := fun w => spLaw (K w.params)) hn (by decide) hdf ⟨rfl, by decide, by decide⟩ hY F (fun _ _ a ns hl _ hS => ⟨a, ns, rfl, hS, hl, fun _ => rfl⟩) fun _ _ _ _ _ z => z
end My
open PySem PySem.W PyProof.Rows in
set_option maxRecDepth 100000 in
set_option maxHeartbeats 0 in
theorem PySem.Challenge.cw_logreplica_k05_a_keeper_holds : PySem.Challenge.rw_logreplica_k05_a_keeper.Holds := by
  w_on; o_law; k_head; (case hw => w_witness2)
  k_fill
  refine My.walk (l := PySem.Challenge.rw_logreplica_k05_a_keeper) rfl rfl (fun w h Y => PySem.W.kIn_of Y) ?F
  case F =>
    intro w mg fa h KX G hmg
    refine' My.all_mk KX G hmg ?aC_Keeper ?pg_Keeper ?hd_Keeper ?po_Keeper ?sa_Keeper ?mk_Keeper ?kc_Keeper ?na_Keeper_term ?na_Keeper_row ?na_Keeper_leads ?na_Keeper_settled ?na_Keeper_ahead ?na_Keeper_held ?a_last_term ?l_last_term ?c_last_term_ ?k_last_term ?a_as_new ?l_as_new ?c_as_new_ ?k_as_new ?a_Keeper_init ?i_Keeper_init ?l_Keeper_init ?c_Keeper_init_ ?k_Keeper_init ?a_Keeper_hear ?i_Keeper_hear ?l_Keeper_hear ?c_Keeper_hear_ ?k_Keeper_hear ?a_Keeper_asked ?i_Keeper_asked ?l_Keeper_asked ?c_Keeper_asked_ ?k_Keeper_asked ?a__law_cell_at ?l__law_cell_at ?c__law_cell_at_ ?k__law_cell_at ?a__law_mixed ?l__law_mixed ?c__law_mixed_ ?k__law_mixed ?a__law_sign_by ?l__law_sign_by ?c__law_sign_by_ ?k__law_sign_by ?a__law_word_by ?l__law_word_by ?c__law_word_by_ ?k__law_word_by ?a__law_entry_by ?l__law_entry_by ?c__law_entry_by_ ?k__law_entry_by ?a__law_row_by ?l__law_row_by ?c__law_row_by_ ?k__law_row_by ?a__law_whole ?l__law_whole ?c__law_whole_ ?k__law_whole ?a__law_rows ?l__law_rows ?c__law_rows_ ?k__law_rows ?a__law_same ?l__law_same ?c__law_same_ ?k__law_same ?a__law_end ?l__law_end ?c__law_end_ ?k__law_end ?a__law_newer ?l__law_newer ?c__law_newer_ ?k__law_newer ?a__law_other ?l__law_other ?c__law_other_ ?k__law_other ?a__law_stands ?l__law_stands ?c__law_stands_ ?k__law_stands ?a_law ?l_law ?c_law_ ?k_law ?z_bool ?z_int ?z_isinstance ?z_len ?z_list ?z_max ?z_range ?z_str ?z_tuple
    (case aC_Keeper => k_is)
    (case pg_Keeper => k_is)
    (case hd_Keeper => k_is)
    (case po_Keeper => k_is)
    (case sa_Keeper => k_is)
    (case mk_Keeper => k_is)
    (case kc_Keeper => k_is)
    (case na_Keeper_term => k_is)
    (case na_Keeper_row => k_is)
    (case na_Keeper_leads => k_is)
    (case na_Keeper_settled => k_is)
    (case na_Keeper_ahead => k_is)
    (case na_Keeper_held => k_is)
    (case a_last_term => k_is)
    (case l_last_term => k_is)
    (case c_last_term_ => k_is)
    (case k_last_term => k_is)
    (case a_as_new => k_is)
    (case l_as_new => k_is)
    (case c_as_new_ => k_is)
    (case k_as_new => k_is)
    (case a_Keeper_init => k_is)
    (case i_Keeper_init => k_is)
    (case l_Keeper_init => k_is)
    (case c_Keeper_init_ => k_is)
    (case k_Keeper_init => k_is)
    (case a_Keeper_hear => k_is)
    (case i_Keeper_hear => k_is)
    (case l_Keeper_hear => k_is)
    (case c_Keeper_hear_ => k_is)
    (case k_Keeper_hear => k_is)
    (case a_Keeper_asked => k_is)
    (case i_Keeper_asked => k_is)
    (case l_Keeper_asked => k_is)
    (case c_Keeper_asked_ => k_is)
    (case k_Keeper_asked => k_is)
    (case a__law_cell_at => k_is)
    (case l__law_cell_at => k_is)
    (case c__law_cell_at_ => k_is)
    (case k__law_cell_at => k_is)
    (case a__law_mixed => k_is)
    (case l__law_mixed => k_is)
    (case c__law_mixed_ => k_is)
    (case k__law_mixed => k_is)
    (case a__law_sign_by => k_is)
    (case l__law_sign_by => k_is)
    (case c__law_sign_by_ => k_is)
    (case k__law_sign_by => k_is)
    (case a__law_word_by => k_is)
    (case l__law_word_by => k_is)
    (case c__law_word_by_ => k_is)
    (case k__law_word_by => k_is)
    (case a__law_entry_by => k_is)
    (case l__law_entry_by => k_is)
    (case c__law_entry_by_ => k_is)
    (case k__law_entry_by => k_is)
    (case a__law_row_by => k_is)
    (case l__law_row_by => k_is)
    (case c__law_row_by_ => k_is)
    (case k__law_row_by => k_is)
    (case a__law_whole => k_is)
    (case l__law_whole => k_is)
    (case c__law_whole_ => k_is)
    (case k__law_whole => k_is)
    (case a__law_rows => k_is)
    (case l__law_rows => k_is)
    (case c__law_rows_ => k_is)
    (case k__law_rows => k_is)
    (case a__law_same => k_is)
    (case l__law_same => k_is)
    (case c__law_same_ => k_is)
    (case k__law_same => k_is)
    (case a__law_end => k_is)
    (case l__law_end => k_is)
    (case c__law_end_ => k_is)
    (case k__law_end => k_is)
    (case a__law_newer => k_is)
    (case l__law_newer => k_is)
    (case c__law_newer_ => k_is)
    (case k__law_newer => k_is)
    (case a__law_other => k_is)
    (case l__law_other => k_is)
    (case c__law_other_ => k_is)
    (case k__law_other => k_is)
    (case a__law_stands => k_is)
    (case l__law_stands => k_is)
    (case c__law_stands_ => k_is)
    (case k__law_stands => k_is)
    (case a_law => k_is)
    (case l_law => k_is)
    (case c_law_ => k_is)
    (case k_law => k_is)
    (case z_bool => k_is)
    (case z_int => k_is)
    (case z_isinstance => k_is)
    (case z_len => k_is)
    (case z_list => k_is)
    (case z_max => k_is)
    (case z_range => k_is)
    (case z_str => k_is)
    (case z_tuple => k_is)
#print axioms PySem.Challenge.cw_logreplica_k05_a_keeper_holds


