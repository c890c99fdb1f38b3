import PyProof.Rows.All
import Wide.All
import OpenK.AllK
import Wide.FinOn
import HandS.ForMost
import HandS.ForExc
import HandS.IsInst
import HandS.Conv
import HandS.Style
import HandS.TryMany
import HandS.ExcIs
import HandS.More
import PySem.Challenge.RW_logreplica_k06_standing
set_option Elab.async false
set_option linter.all false
set_option maxRecDepth 100000
set_option maxHeartbeats 4000000
/-! A layer over the readings: values as data, a world of things that stay (G), a world of things that change (M), the heap (H). -/
namespace Fw
open PySem L2

/-- the script; an object by its place -/
abbrev scrD (ns : List Int) : PyData := .dict [(.list (ns.map PyData.int), .none)]
abbrev objD (a : Addr) : PyData := .dict [(.int (a : Int), .bool true)]

mutual
inductive Rp (K : PySem.W.Frag) (G : Hp) : V → PyData → Prop
  | non : Rp K G .non .none
  | bl (b : Bool) : Rp K G (.bl b) (.bool b)
  | int (i : Int) : Rp K G (.int i) (.int i)
  | str (x : Str) : Rp K G (.str x) (.str x)
  | lst {a : Addr} {xs : List V} {ds : List PyData} : G a = some (.lst xs) → RpAll K G xs ds → Rp K G (.ref a) (.list ds)
  | tup {a : Addr} {xs : List V} {ds : List PyData} : G a = some (.tup xs) → RpAll K G xs ds → Rp K G (.ref a) (.tuple ds)
  | scr {a : Addr} {ns : List Int} : SqL K G a (ns.map V.int) → Rp K G (.ref a) (.dict [(.list (ns.map PyData.int), .none)])
  | obj {a : Addr} : Rp K G (.ref a) (.dict [(.int (a : Int), .bool true)])
inductive RpAll (K : PySem.W.Frag) (G : Hp) : List V → List PyData → Prop
  | nil : RpAll K G [] []
  | cons {v : V} {vs : List V} {d : PyData} {ds : List PyData} : Rp K G v d → RpAll K G vs ds → RpAll K G (v :: vs) (d :: ds)
end

section
variable {K : PySem.W.Frag} {G G' : Hp}
theorem Rp.non_inv {v : V} (h : Rp K G v .none) : v = .non := by cases h; rfl
theorem Rp.bl_inv {v : V} {b : Bool} (h : Rp K G v (.bool b)) : v = .bl b := by cases h; rfl
theorem Rp.int_inv {v : V} {i : Int} (h : Rp K G v (.int i)) : v = .int i := by cases h; rfl
theorem Rp.str_inv {v : V} {x : Str} (h : Rp K G v (.str x)) : v = .str x := by cases h; rfl
theorem Rp.lst_inv {v : V} {ds : List PyData} (h : Rp K G v (.list ds)) : ∃ a xs, v = .ref a ∧ G a = some (.lst xs) ∧ RpAll K G xs ds := by
  cases h with
  | lst h1 h2 => exact ⟨_, _, rfl, h1, h2⟩
theorem Rp.tup_inv {v : V} {ds : List PyData} (h : Rp K G v (.tuple ds)) : ∃ a xs, v = .ref a ∧ G a = some (.tup xs) ∧ RpAll K G xs ds := by
  cases h with
  | tup h1 h2 => exact ⟨_, _, rfl, h1, h2⟩
theorem map_int_inj : ∀ {a b : List Int}, a.map PyData.int = b.map PyData.int → a = b
  | [], [], _ => rfl
  | [], _ :: _, h => by simp at h
  | _ :: _, [], h => by simp at h
  | x :: r, y :: t, h => by
    rw [List.map_cons, List.map_cons] at h
    injection h with h1 h2
    injection h1 with h1
    rw [h1, map_int_inj h2]
theorem Rp.dict_inv {v : V} {kvs : List (PyData × PyData)} (h : Rp K G v (.dict kvs)) :
    (∃ (a : Addr) (ns : List Int), v = .ref a ∧ kvs = [(.list (ns.map PyData.int), .none)] ∧ SqL K G a (ns.map V.int)) ∨ (∃ a : Addr, v = .ref a ∧ kvs = [(.int (a : Int), .bool true)]) := by
  cases h with
  | scr h1 => exact .inl ⟨_, _, rfl, rfl, h1⟩
  | obj => exact .inr ⟨_, rfl, rfl⟩
theorem Rp.scr_inv {v : V} {ns : List Int} (h : Rp K G v (scrD ns)) : ∃ a, v = .ref a ∧ SqL K G a (ns.map V.int) := by
  rcases h.dict_inv with ⟨a, ms, rfl, e, hs⟩ | ⟨a, rfl, e⟩
  · injection e with e _
    injection e with e _
    injection e with e
    rw [map_int_inj e]
    exact ⟨a, rfl, hs⟩
  · injection e with e _
    injection e with e _
    cases e
theorem Rp.obj_inv {v : V} {a : Addr} (h : Rp K G v (objD a)) : v = .ref a := by
  rcases h.dict_inv with ⟨b, ms, rfl, e, hs⟩ | ⟨b, rfl, e⟩
  · injection e with e _
    injection e with e _
    cases e
  · injection e with e _
    injection e with e _
    injection e with e
    have : a = b := Int.ofNat.inj e
    rw [this]
theorem RpAll.nil_inv {vs : List V} (h : RpAll K G vs []) : vs = [] := by cases h; rfl
theorem RpAll.cons_inv {vs : List V} {d : PyData} {ds : List PyData} (h : RpAll K G vs (d :: ds)) : ∃ v ws, vs = v :: ws ∧ Rp K G v d ∧ RpAll K G ws ds := by
  cases h with
  | cons h1 h2 => exact ⟨_, _, rfl, h1, h2⟩
mutual
theorem Rp.mono (s : Same G G') : ∀ {v : V} {d : PyData}, Rp K G v d → Rp K G' v d
  | _, _, .non => .non
  | _, _, .bl b => .bl b
  | _, _, .int i => .int i
  | _, _, .str x => .str x
  | _, _, .lst h1 h2 => .lst (s _ _ h1) (RpAll.mono s h2)
  | _, _, .tup h1 h2 => .tup (s _ _ h1) (RpAll.mono s h2)
  | _, _, .scr h => .scr (s.seq h)
  | _, _, .obj => .obj
theorem RpAll.mono (s : Same G G') : ∀ {vs : List V} {ds : List PyData}, RpAll K G vs ds → RpAll K G' vs ds
  | _, _, .nil => .nil
  | _, _, .cons h1 h2 => .cons (Rp.mono s h1) (RpAll.mono s h2)
end
theorem RpAll.length : ∀ {ds : List PyData} {vs : List V}, RpAll K G vs ds → vs.length = ds.length
  | [], _, h => by rw [h.nil_inv]; rfl
  | d :: ds, _, h => by
    obtain ⟨v, ws, rfl, _, h2⟩ := h.cons_inv
    rw [List.length_cons, List.length_cons, h2.length]
theorem RpAll.get : ∀ {ds : List PyData} {vs : List V} {i : Nat} {d : PyData}, RpAll K G vs ds → ds[i]? = some d → ∃ v, vs[i]? = some v ∧ Rp K G v d
  | [], _, i, d, h, e => by simp at e
  | x :: ds, _, 0, d, h, e => by
    obtain ⟨v, ws, rfl, h1, _⟩ := h.cons_inv
    have : x = d := by simpa using e
    subst this
    exact ⟨v, rfl, h1⟩
  | x :: ds, _, i + 1, d, h, e => by
    obtain ⟨v, ws, rfl, _, h2⟩ := h.cons_inv
    obtain ⟨w, e1, e2⟩ := h2.get (i := i) (d := d) (by simpa using e)
    exact ⟨w, by simpa using e1, e2⟩
theorem RpAll.of_get : ∀ {ds : List PyData} {vs : List V} {i : Nat} {v : V}, RpAll K G vs ds → vs[i]? = some v → ∃ d, ds[i]? = some d ∧ Rp K G v d := by
  intro ds vs i v h e
  have hl := h.length
  have hi : i < ds.length := by
    rw [← hl]
    exact (List.getElem?_eq_some_iff.mp e).1
  obtain ⟨w, e1, e2⟩ := h.get (List.getElem?_eq_getElem hi)
  rw [e] at e1
  cases e1
  exact ⟨_, List.getElem?_eq_getElem hi, e2⟩
theorem RpAll.append : ∀ {ds es : List PyData} {vs ws : List V}, RpAll K G vs ds → RpAll K G ws es → RpAll K G (vs ++ ws) (ds ++ es)
  | [], es, _, ws, h, g => by rw [h.nil_inv]; exact g
  | d :: ds, es, _, ws, h, g => by
    obtain ⟨v, us, rfl, h1, h2⟩ := h.cons_inv
    exact .cons h1 (h2.append g)
theorem RpAll.one {v : V} {d : PyData} (h : Rp K G v d) : RpAll K G [v] [d] := .cons h .nil
theorem RpAll.take : ∀ {ds : List PyData} {vs : List V} (n : Nat), RpAll K G vs ds → RpAll K G (vs.take n) (ds.take n)
  | _, _, 0, _ => .nil
  | [], _, n + 1, h => by rw [h.nil_inv]; exact .nil
  | d :: ds, _, n + 1, h => by
    obtain ⟨v, us, rfl, h1, h2⟩ := h.cons_inv
    exact .cons h1 (h2.take n)
theorem RpAll.drop : ∀ {ds : List PyData} {vs : List V} (n : Nat), RpAll K G vs ds → RpAll K G (vs.drop n) (ds.drop n)
  | _, _, 0, h => h
  | [], _, n + 1, h => by rw [h.nil_inv]; exact .nil
  | d :: ds, _, n + 1, h => by
    obtain ⟨v, us, rfl, h1, h2⟩ := h.cons_inv
    exact h2.drop n
theorem RpAll.set {v : V} {d : PyData} (r : Rp K G v d) : ∀ {ds : List PyData} {vs : List V} (i : Nat), RpAll K G vs ds → RpAll K G (vs.set i v) (ds.set i d)
  | [], _, i, h => by rw [h.nil_inv]; exact .nil
  | x :: ds, _, 0, h => by
    obtain ⟨w, us, rfl, h1, h2⟩ := h.cons_inv
    exact .cons r h2
  | x :: ds, _, i + 1, h => by
    obtain ⟨w, us, rfl, h1, h2⟩ := h.cons_inv
    exact .cons h1 (h2.set r i)
theorem RpAll.rep {ds : List PyData} {vs : List V} (h : RpAll K G vs ds) : ∀ n : Nat, RpAll K G (List.replicate n vs).flatten (List.replicate n ds).flatten
  | 0 => .nil
  | n + 1 => by
    rw [List.replicate_succ, List.replicate_succ, List.flatten_cons, List.flatten_cons]
    exact h.append (h.rep n)
theorem RpAll.ints : ∀ {ns : List Int} {vs : List V}, RpAll K G vs (ns.map PyData.int) → vs = ns.map V.int
  | [], _, h => h.nil_inv
  | n :: ns, _, h => by
    obtain ⟨v, us, rfl, h1, h2⟩ := h.cons_inv
    rw [h1.int_inv, h2.ints]; rfl
theorem RpAll.of_ints : ∀ (ns : List Int), RpAll K G (ns.map V.int) (ns.map PyData.int)
  | [] => .nil
  | n :: ns => .cons (.int n) (RpAll.of_ints ns)
theorem RpAll.strs : ∀ {ns : List Str} {vs : List V}, RpAll K G vs (ns.map PyData.str) → vs = ns.map V.str
  | [], _, h => h.nil_inv
  | n :: ns, _, h => by
    obtain ⟨v, us, rfl, h1, h2⟩ := h.cons_inv
    rw [h1.str_inv, h2.strs]; rfl
end

/-! ### no dict within; to the layer's own reading of data -/
mutual
def plainD : PyData → Bool
  | .none => true
  | .bool _ => true
  | .int _ => true
  | .str _ => true
  | .list xs => plainAll xs
  | .tuple xs => plainAll xs
  | .dict _ => false
def plainAll : List PyData → Bool
  | [] => true
  | d :: ds => plainD d && plainAll ds
end
mutual
theorem Rp.dp {K : PySem.W.Frag} {G H : Hp} (s : Same G H) : ∀ (d : PyData) (v : V), plainD d = true → Rp K G v d → Dp K H v d
  | .none, _, _, h => by rw [h.non_inv]; exact .non
  | .bool b, _, _, h => by rw [h.bl_inv]; exact .bl b
  | .int i, _, _, h => by rw [h.int_inv]; exact .int i
  | .str x, _, _, h => by rw [h.str_inv]; exact .str x
  | .list ds, _, p, h => by
    obtain ⟨a, xs, rfl, h1, h2⟩ := h.lst_inv
    exact .lst (SqL.of (s _ _ h1)) (RpAll.dp s ds xs (by unfold plainD at p; exact p) h2)
  | .tuple ds, _, p, h => by
    obtain ⟨a, xs, rfl, h1, h2⟩ := h.tup_inv
    exact .tup (SqT.of (s _ _ h1)) (RpAll.dp s ds xs (by unfold plainD at p; exact p) h2)
  | .dict _, _, p, _ => by unfold plainD at p; cases p
theorem RpAll.dp {K : PySem.W.Frag} {G H : Hp} (s : Same G H) : ∀ (ds : List PyData) (vs : List V), plainAll ds = true → RpAll K G vs ds → DpAll K H vs ds
  | [], _, _, h => by rw [h.nil_inv]; exact .nil
  | d :: ds, _, p, h => by
    obtain ⟨v, us, rfl, h1, h2⟩ := h.cons_inv
    unfold plainAll at p
    have p' := Bool.and_eq_true_iff.mp p
    exact .cons (Rp.dp s d v p'.1 h1) (RpAll.dp s ds us p'.2 h2)
end

/-! ### steps -/
structure Stp (G M H G' M' H' : Hp) : Prop where
  gg : Same G G'
  th : ∀ b, H b ≠ none → H' b ≠ none
  fr : ∀ b o, H b = some o → M b = none → H' b = some o
  ng : ∀ b, H b ≠ none → G b = none → G' b = none
  nm : ∀ b, H b ≠ none → M b = none → M' b = none
structure Wf {ρ : Type} (R : ρ → Hp → Hp → Prop) (G M H : Hp) (r : ρ) : Prop where
  gh : Same G H
  mh : Same M H
  dj : ∀ b, M b ≠ none → G b = none
  res : R r G M
class Stab {ρ : Type} (R : ρ → Hp → Hp → Prop) : Prop where
  out : ∀ (r : ρ) (G G' M : Hp), Same G G' → (∀ b, M b ≠ none → G' b = none) → R r G M → R r G' M

theorem some_ne {o : HO} {x : Option HO} (h : x = some o) : x ≠ none := fun e => by rw [h] at e; cases e
theorem Stp.refl (G M H : Hp) : Stp G M H G M H := ⟨Same.refl _, fun _ h => h, fun _ _ h _ => h, fun _ _ h => h, fun _ _ h => h⟩
theorem Stp.trans {G M H G1 M1 H1 G2 M2 H2 : Hp} (a : Stp G M H G1 M1 H1) (b : Stp G1 M1 H1 G2 M2 H2) : Stp G M H G2 M2 H2 where
  gg := a.gg.trans b.gg
  th := fun x h => b.th x (a.th x h)
  fr := fun x o h m => b.fr x o (a.fr x o h m) (a.nm x (some_ne h) m)
  ng := fun x h g => b.ng x (a.th x h) (a.ng x h g)
  nm := fun x h m => b.nm x (a.th x h) (a.nm x h m)
theorem Stp.rebase {G0 M0 H0 G M H : Hp} (s : Stp G0 M0 H0 G M H) : Stp G M0 H0 G M H := ⟨Same.refl _, s.th, s.fr, fun _ _ g => g, s.nm⟩
theorem Stp.unbase {G0 M0 H0 G M H G2 M2 H2 : Hp} (s : Stp G0 M0 H0 G M H) (t : Stp G M0 H0 G2 M2 H2) : Stp G0 M0 H0 G2 M2 H2 := ⟨s.gg.trans t.gg, t.th, t.fr, fun b h g => t.ng b h (s.ng b h g), t.nm⟩
section
variable {ρ : Type} {R : ρ → Hp → Hp → Prop} {G M H G' M' H' : Hp} {r : ρ}
theorem same_new {p : Addr} {o : HO} (h : H p = none) : Same H (upd H p o) := fun b u e => by rw [upd_ne (ne_of_none e h)]; exact e
theorem same_upd {p : Addr} {o : HO} (s : Same G H) (h : G p = none) : Same G (upd H p o) := fun b u e => by rw [upd_ne (ne_of_none e h)]; exact s b u e
theorem same_both {p : Addr} {o : HO} (s : Same G H) : Same (upd G p o) (upd H p o) := fun b u e => by
  by_cases hb : b = p
  · subst hb; rw [upd_same] at e ⊢; exact e
  · rw [upd_ne hb] at e ⊢; exact s b u e
theorem Wf.gn (w : Wf R G M H r) {p : Addr} (h : H p = none) : G p = none := w.gh.free h
theorem Wf.mn (w : Wf R G M H r) {p : Addr} (h : H p = none) : M p = none := w.mh.free h
theorem Wf.alloc [Stab R] (w : Wf R G M H r) {p : Addr} (h : H p = none) (o : HO) : Wf R (upd G p o) M (upd H p o) r := by
  have hd : ∀ b, M b ≠ none → upd G p o b = none := fun b hb => by
    have : b ≠ p := fun e => hb (by rw [e]; exact w.mn h)
    rw [upd_ne this]; exact w.dj b hb
  exact ⟨same_both w.gh, same_upd w.mh (w.mn h), hd, Stab.out r G _ M (same_new (w.gn h)) hd w.res⟩
theorem Stp.alloc (hg : G p = none) (h : H p = none) (o : HO) : Stp G M H (upd G p o) M (upd H p o) where
  gg := same_new hg
  th := fun b hb => by
    by_cases e : b = p
    · rw [e, upd_same]; exact fun z => nomatch z
    · rw [upd_ne e]; exact hb
  fr := fun b u e _ => by rw [upd_ne (ne_of_none e h)]; exact e
  ng := fun b hb g => by
    have : b ≠ p := fun e => hb (by rw [e]; exact h)
    rw [upd_ne this]; exact g
  nm := fun _ _ m => m
/-- a hidden thing is laid or changed -/
theorem Wf.hid (w : Wf R G M H r) {p : Addr} (g : G p = none) (m : M p = none) (o : HO) : Wf R G M (upd H p o) r := ⟨same_upd w.gh g, same_upd w.mh m, w.dj, w.res⟩
theorem Stp.hid (s : Stp G M H G' M' H') {p : Addr} (h : H p = none) (o : HO) : Stp G M H G' M' (upd H' p o) where
  gg := s.gg
  th := fun b hb => by
    by_cases e : b = p
    · rw [e, upd_same]; exact fun z => nomatch z
    · rw [upd_ne e]; exact s.th b hb
  fr := fun b u e m => by rw [upd_ne (ne_of_none e h)]; exact s.fr b u e m
  ng := s.ng
  nm := s.nm
/-- a hidden thing comes to stay as it is -/
theorem Wf.freeze [Stab R] (w : Wf R G M H r) {p : Addr} {o : HO} (h : H p = some o) (g : G p = none) (m : M p = none) : Wf R (upd G p o) M H r := by
  have hd : ∀ b, M b ≠ none → upd G p o b = none := fun b hb => by
    have : b ≠ p := fun e => hb (by rw [e]; exact m)
    rw [upd_ne this]; exact w.dj b hb
  refine ⟨fun b u e => ?_, w.mh, hd, Stab.out r G _ M (same_new g) hd w.res⟩
  by_cases hb : b = p
  · subst hb; rw [upd_same] at e; rw [h]; exact e
  · rw [upd_ne hb] at e; exact w.gh b u e
theorem Stp.freeze (s : Stp G M H G' M' H') {p : Addr} {o : HO} (h : H p = none) (g : G' p = none) : Stp G M H (upd G' p o) M' H' where
  gg := s.gg.trans (same_new g)
  th := s.th
  fr := s.fr
  ng := fun b hb gb => by
    have : b ≠ p := fun e => hb (by rw [e]; exact h)
    rw [upd_ne this]; exact s.ng b hb gb
  nm := s.nm
end

/-! ### what the slots hold -/
inductive Sk where
  | hid
  | dat (d : PyData)
  | own (ds : List PyData)
abbrev SE := List Sk
structure EnvO (K : PySem.W.Frag) (B G M H : Hp) (σ : St) (e : SE) : Prop where
  len : σ.length = e.length
  dat : ∀ (i : Nat) d, e[i]? = some (.dat d) → ∃ v, σ[i]? = some (some v) ∧ Rp K G v d
  own : ∀ (i : Nat) ds, e[i]? = some (.own ds) → ∃ l vs, σ[i]? = some (some (.ref l)) ∧ B l = none ∧ G l = none ∧ M l = none ∧ H l = some (.lst vs) ∧ RpAll K G vs ds
  sep : ∀ (i j : Nat) ds es l, e[i]? = some (.own ds) → e[j]? = some (.own es) → σ[i]? = some (some (.ref l)) → σ[j]? = some (some (.ref l)) → i = j
section
variable {K : PySem.W.Frag} {B G M H G' M' H' : Hp} {σ : St} {e : SE}
theorem EnvO.step (v : EnvO K B G M H σ e) (s : Stp G M H G' M' H') : EnvO K B G' M' H' σ e where
  len := v.len
  dat := fun i d h => by
    obtain ⟨x, h1, h2⟩ := v.dat i d h
    exact ⟨x, h1, h2.mono s.gg⟩
  own := fun i ds h => by
    obtain ⟨l, vs, h1, h2, h3, h4, h5, h6⟩ := v.own i ds h
    exact ⟨l, vs, h1, h2, s.ng l (some_ne h5) h3, s.nm l (some_ne h5) h4, s.fr l _ h5 h4, h6.mono s.gg⟩
  sep := v.sep
theorem getElem?_set_ne' {α : Type} {l : List α} {i j : Nat} {x : α} (h : i ≠ j) : (l.set i x)[j]? = l[j]? := List.getElem?_set_ne h
theorem set_cases {α : Type} {l : List α} {i j : Nat} {x y : α} (h : (l.set i x)[j]? = some y) : (i = j ∧ y = x ∧ j < l.length) ∨ (i ≠ j ∧ l[j]? = some y) := by
  by_cases hij : i = j
  · subst hij
    by_cases hl : i < l.length
    · rw [List.getElem?_set_self hl] at h
      cases h
      exact .inl ⟨rfl, rfl, hl⟩
    · rw [List.getElem?_eq_none (by rw [List.length_set]; omega)] at h
      cases h
  · rw [List.getElem?_set_ne hij] at h
    exact .inr ⟨hij, h⟩
/-- a slot takes a datum -/
theorem EnvO.setD (v : EnvO K B G M H σ e) {i : Nat} {x : V} {d : PyData} (h : Rp K G x d) : EnvO K B G M H (σ.set i (some x)) (e.set i (.dat d)) where
  len := by rw [List.length_set, List.length_set, v.len]
  dat := fun j d' hj => by
    rcases set_cases hj with ⟨rfl, e1, hl⟩ | ⟨hne, hj⟩
    · injection e1 with e1
      subst e1
      exact ⟨x, List.getElem?_set_self (by rw [v.len]; exact hl), h⟩
    · obtain ⟨w, h1, h2⟩ := v.dat j d' hj
      exact ⟨w, by rw [List.getElem?_set_ne hne]; exact h1, h2⟩
  own := fun j ds hj => by
    rcases set_cases hj with ⟨_, e1, _⟩ | ⟨hne, hj⟩
    · cases e1
    · obtain ⟨l, vs, h1, h2⟩ := v.own j ds hj
      exact ⟨l, vs, by rw [List.getElem?_set_ne hne]; exact h1, h2⟩
  sep := fun j k ds es l hj hk h1 h2 => by
    rcases set_cases hj with ⟨_, e1, _⟩ | ⟨hne, hj⟩
    · cases e1
    rcases set_cases hk with ⟨_, e1, _⟩ | ⟨hne2, hk⟩
    · cases e1
    rw [List.getElem?_set_ne hne] at h1
    rw [List.getElem?_set_ne hne2] at h2
    exact v.sep j k ds es l hj hk h1 h2
theorem EnvO.setH (v : EnvO K B G M H σ e) {i : Nat} {x : Option V} : EnvO K B G M H (σ.set i x) (e.set i .hid) where
  len := by rw [List.length_set, List.length_set, v.len]
  dat := fun j d' hj => by
    rcases set_cases hj with ⟨_, e1, hl⟩ | ⟨hne, hj⟩
    · cases e1
    · obtain ⟨w, h1, h2⟩ := v.dat j d' hj
      exact ⟨w, by rw [List.getElem?_set_ne hne]; exact h1, h2⟩
  own := fun j ds hj => by
    rcases set_cases hj with ⟨_, e1, _⟩ | ⟨hne, hj⟩
    · cases e1
    · obtain ⟨l, vs, h1, h2⟩ := v.own j ds hj
      exact ⟨l, vs, by rw [List.getElem?_set_ne hne]; exact h1, h2⟩
  sep := fun j k ds es l hj hk h1 h2 => by
    rcases set_cases hj with ⟨_, e1, _⟩ | ⟨hne, hj⟩
    · cases e1
    rcases set_cases hk with ⟨_, e1, _⟩ | ⟨hne2, hk⟩
    · cases e1
    rw [List.getElem?_set_ne hne] at h1
    rw [List.getElem?_set_ne hne2] at h2
    exact v.sep j k ds es l hj hk h1 h2
/-- a slot takes a new list of its own -/
theorem EnvO.setO (v : EnvO K B G M H σ e) {i : Nat} {l : Addr} {vs : List V} {ds : List PyData} (hB : B l = none) (hG : G l = none) (hM : M l = none) (hH : H l = some (.lst vs)) (h : RpAll K G vs ds)
    (new : ∀ (j : Nat) es, e[j]? = some (.own es) → σ[j]? ≠ some (some (.ref l))) : EnvO K B G M H (σ.set i (some (.ref l))) (e.set i (.own ds)) where
  len := by rw [List.length_set, List.length_set, v.len]
  dat := fun j d' hj => by
    rcases set_cases hj with ⟨_, e1, hl⟩ | ⟨hne, hj⟩
    · cases e1
    · obtain ⟨w, h1, h2⟩ := v.dat j d' hj
      exact ⟨w, by rw [List.getElem?_set_ne hne]; exact h1, h2⟩
  own := fun j es hj => by
    rcases set_cases hj with ⟨rfl, e1, hl⟩ | ⟨hne, hj⟩
    · injection e1 with e1
      subst e1
      exact ⟨l, vs, List.getElem?_set_self (by rw [v.len]; exact hl), hB, hG, hM, hH, h⟩
    · obtain ⟨l', vs', h1, h2⟩ := v.own j es hj
      exact ⟨l', vs', by rw [List.getElem?_set_ne hne]; exact h1, h2⟩
  sep := fun j k es fs a hj hk h1 h2 => by
    rcases set_cases hj with ⟨e1, _, hl⟩ | ⟨hne, hj⟩
    · rcases set_cases hk with ⟨e2, _, _⟩ | ⟨hne2, hk⟩
      · rw [← e1, ← e2]
      · subst e1
        rw [List.getElem?_set_self (by rw [v.len]; exact hl)] at h1
        rw [List.getElem?_set_ne hne2] at h2
        cases h1
        exact absurd h2 (new k _ hk)
    · rw [List.getElem?_set_ne hne] at h1
      rcases set_cases hk with ⟨e2, _, hl⟩ | ⟨hne2, hk⟩
      · subst e2
        rw [List.getElem?_set_self (by rw [v.len]; exact hl)] at h2
        cases h2
        exact absurd h1 (new j _ hj)
      · rw [List.getElem?_set_ne hne2] at h2
        exact v.sep j k es fs a hj hk h1 h2
/-- the own list of a slot is changed -/
theorem EnvO.mutO (v : EnvO K B G M H σ e) {i : Nat} {l : Addr} {vs' : List V} {ds ds' : List PyData} (hi : e[i]? = some (.own ds)) (hl : σ[i]? = some (some (.ref l))) (h : RpAll K G vs' ds') :
    EnvO K B G M (upd H l (.lst vs')) σ (e.set i (.own ds')) where
  len := by rw [List.length_set, v.len]
  dat := fun j d' hj => by
    rcases set_cases hj with ⟨_, e1, _⟩ | ⟨hne, hj⟩
    · cases e1
    · exact v.dat j d' hj
  own := fun j es hj => by
    rcases set_cases hj with ⟨rfl, e1, _⟩ | ⟨hne, hj⟩
    · injection e1 with e1
      subst e1
      obtain ⟨l', ws, h1, h2, h3, h4, h5, h6⟩ := v.own i ds hi
      rw [hl] at h1
      cases h1
      exact ⟨l, vs', hl, h2, h3, h4, upd_same, h⟩
    · obtain ⟨l', ws, h1, h2, h3, h4, h5, h6⟩ := v.own j es hj
      have : l' ≠ l := fun q => hne (v.sep i j ds es l hi hj hl (by rw [← q]; exact h1))
      exact ⟨l', ws, h1, h2, h3, h4, by rw [upd_ne this]; exact h5, h6⟩
  sep := fun j k es fs a hj hk h1 h2 => by
    have own_of : ∀ (j : Nat) es, (e.set i (.own ds'))[j]? = some (.own es) → ∃ es', e[j]? = some (.own es') := fun j es hj => by
      rcases set_cases hj with ⟨q, _, _⟩ | ⟨_, hj⟩
      · exact ⟨ds, by rw [← q]; exact hi⟩
      · exact ⟨es, hj⟩
    obtain ⟨es', hj'⟩ := own_of j es hj
    obtain ⟨fs', hk'⟩ := own_of k fs hk
    exact v.sep j k _ _ a hj' hk' h1 h2
/-- the own list of a slot comes to stay: it is a datum from now on -/
theorem EnvO.frz (v : EnvO K B G M H σ e) {i : Nat} {ds : List PyData} (hi : e[i]? = some (.own ds)) : ∃ l vs, σ[i]? = some (some (.ref l)) ∧ B l = none ∧ G l = none ∧ M l = none ∧ H l = some (.lst vs) ∧
    EnvO K B (upd G l (.lst vs)) M H σ (e.set i (.dat (.list ds))) := by
  obtain ⟨l, vs, h1, h2, h3, h4, h5, h6⟩ := v.own i ds hi
  have sm : Same G (upd G l (.lst vs)) := same_new h3
  refine ⟨l, vs, h1, h2, h3, h4, h5, by rw [List.length_set, v.len], fun j d hj => ?_, fun j es hj => ?_, fun j k es fs a hj hk g1 g2 => ?_⟩
  · rcases set_cases hj with ⟨rfl, e1, _⟩ | ⟨hne, hj⟩
    · injection e1 with e1
      subst e1
      exact ⟨.ref l, h1, .lst upd_same (h6.mono sm)⟩
    · obtain ⟨w, g1, g2⟩ := v.dat j d hj
      exact ⟨w, g1, g2.mono sm⟩
  · rcases set_cases hj with ⟨_, e1, _⟩ | ⟨hne, hj⟩
    · cases e1
    · obtain ⟨l', ws, g1, g2, g3, g4, g5, g6⟩ := v.own j es hj
      have : l' ≠ l := fun q => hne (v.sep i j ds es l hi hj h1 (by rw [← q]; exact g1))
      exact ⟨l', ws, g1, g2, by rw [upd_ne this]; exact g3, g4, g5, g6.mono sm⟩
  · rcases set_cases hj with ⟨_, e1, _⟩ | ⟨hne, hj⟩
    · cases e1
    rcases set_cases hk with ⟨_, e1, _⟩ | ⟨hne2, hk⟩
    · cases e1
    exact v.sep j k es fs a hj hk g1 g2
end
end Fw

namespace Fw
open PySem L2

/-! ### expressions -/
section
variable (K : PySem.W.Frag) {ρ : Type} (R : ρ → Hp → Hp → Prop)
/-- te gives data as P says, the state goes with it -/
def EvS (te : TE) (e : SE) (r : ρ) (P : PyData → ρ → Prop) : Prop := ∀ (B : Hp) (σ : St) (G M H : Hp), EnvO K B G M H σ e → Wf R G M H r → ∀ Q : VK,
  (∀ v d r' G' M' H', P d r' → Stp G M H G' M' H' → Wf R G' M' H' r' → Rp K G' v d → Q v H') → te σ H Q
def EvTS (tt : TT) (e : SE) (r : ρ) (P : Bool → ρ → Prop) : Prop := ∀ (B : Hp) (σ : St) (G M H : Hp), EnvO K B G M H σ e → Wf R G M H r → ∀ Q : Bool → Hp → Prop,
  (∀ b r' G' M' H', P b r' → Stp G M H G' M' H' → Wf R G' M' H' r' → Q b H') → tt σ H Q
abbrev EvD (te : TE) (e : SE) (r : ρ) (d : PyData) : Prop := EvS K R te e r (fun d' r' => d' = d ∧ r' = r)
abbrev EvT (tt : TT) (e : SE) (r : ρ) (b : Bool) : Prop := EvTS K R tt e r (fun b' r' => b' = b ∧ r' = r)
/-- a new list -/
def EvF (te : TE) (e : SE) (r : ρ) (ds : List PyData) : Prop := ∀ (B : Hp) (σ : St) (G M H : Hp), EnvO K B G M H σ e → Wf R G M H r → ∀ Q : VK,
  (∀ l vs G' M' H', Stp G M H G' M' H' → Wf R G' M' H' r → H l = none → G' l = none → M' l = none → H' l = some (.lst vs) → RpAll K G' vs ds → Q (.ref l) H') → te σ H Q
def EvA (ta : TA) (e : SE) (r : ρ) (ds : List PyData) : Prop := ∀ (B : Hp) (σ : St) (G M H : Hp), EnvO K B G M H σ e → Wf R G M H r → ∀ Q : List V → Hp → Prop,
  (∀ vs G' M' H', Stp G M H G' M' H' → Wf R G' M' H' r → RpAll K G' vs ds → Q vs H') → ta σ H Q
def EvO (to : TO) (e : SE) (r : ρ) (o : Option Int) : Prop := ∀ (B : Hp) (σ : St) (G M H : Hp), EnvO K B G M H σ e → Wf R G M H r → ∀ Q : Option Int → Hp → Prop,
  (∀ G' M' H', Stp G M H G' M' H' → Wf R G' M' H' r → Q o H') → to σ H Q
end
/-- by values: a pure step (no change of M) -/
structure Al (G M H G' H' : Hp) : Prop where
  st : Stp G M H G' M H'
  gh : Same G' H'
  mh : Same M H'
  dj : ∀ b, M b ≠ none → G' b = none
def Pre (G M H : Hp) : Prop := Same G H ∧ Same M H ∧ ∀ b, M b ≠ none → G b = none
def OpD (K : PySem.W.Frag) (r2 : R2) (d1 d2 d3 : PyData) : Prop := ∀ x y G M H, Pre G M H → Rp K G x d1 → Rp K G y d2 → ∀ Q : VK, (∀ z G' H', Al G M H G' H' → Rp K G' z d3 → Q z H') → r2 x y H Q
def OpF (K : PySem.W.Frag) (r2 : R2) (d1 d2 : PyData) (ds : List PyData) : Prop := ∀ x y G M H, Pre G M H → Rp K G x d1 → Rp K G y d2 → ∀ Q : VK,
  (∀ l vs H', (∀ b o, H b = some o → H' b = some o) → H l = none → H' l = some (.lst vs) → RpAll K G vs ds → Q (.ref l) H') → r2 x y H Q
def UnD (K : PySem.W.Frag) (r : V → Hp → VK → Prop) (d1 d3 : PyData) : Prop := ∀ x G M H, Pre G M H → Rp K G x d1 → ∀ Q : VK, (∀ z, Rp K G z d3 → Q z H) → r x H Q
/-- a call of a builtin -/
def CbD (K : PySem.W.Frag) (r : List V → Hp → VK → Prop) (ds : List PyData) (d3 : PyData) : Prop := ∀ vs G M H, Pre G M H → RpAll K G vs ds → ∀ Q : VK, (∀ z, Rp K G z d3 → Q z H) → r vs H Q
def CbF (K : PySem.W.Frag) (r : List V → Hp → VK → Prop) (ds : List PyData) (es : List PyData) : Prop := ∀ vs G M H, Pre G M H → RpAll K G vs ds → ∀ Q : VK,
  (∀ l ws H', (∀ b o, H b = some o → H' b = some o) → H l = none → H' l = some (.lst ws) → RpAll K G ws es → Q (.ref l) H') → r vs H Q

section
variable {K : PySem.W.Frag} {ρ : Type} {R : ρ → Hp → Hp → Prop} {e : SE} {r : ρ} {ta tb te tc : TE} {t u : TT} {d d1 d2 d3 : PyData} {ds es : List PyData} {G M H G' H' : Hp}
theorem Wf.pre (w : Wf R G M H r) : Pre G M H := ⟨w.gh, w.mh, w.dj⟩
theorem Al.refl (p : Pre G M H) : Al G M H G H := ⟨Stp.refl _ _ _, p.1, p.2.1, p.2.2⟩
theorem Wf.al [Stab R] (w : Wf R G M H r) (a : Al G M H G' H') : Wf R G' M H' r := ⟨a.gh, a.mh, a.dj, Stab.out r G G' M a.st.gg a.dj w.res⟩
theorem Al.new (p : Pre G M H) {q : Addr} (h : H q = none) (o : HO) : Al G M H (upd G q o) (upd H q o) := by
  obtain ⟨p1, p2, p3⟩ := p
  refine ⟨Stp.alloc (p1.free h) h o, same_both p1, same_upd p2 (p2.free h), fun b hb => ?_⟩
  have : b ≠ q := fun e => hb (by rw [e]; exact p2.free h)
  rw [upd_ne this]; exact p3 b hb
theorem Al.trans {G'' H'' : Hp} (a : Al G M H G' H') (b : Al G' M H' G'' H'') : Al G M H G'' H'' := ⟨a.st.trans b.st, b.gh, b.mh, b.dj⟩
theorem Al.pre (a : Al G M H G' H') : Pre G' M H' := ⟨a.gh, a.mh, a.dj⟩

/-- from a new list to a datum -/
theorem EvF.ev [Stab R] (h : EvF K R te e r ds) : EvD K R te e r (.list ds) := fun B σ G M H v w Q q =>
  h B σ G M H v w Q fun l vs G' M' H' s w' h1 h2 h3 h4 h5 => q (.ref l) (.list ds) r _ M' H' ⟨rfl, rfl⟩ (s.freeze h1 h2) (w'.freeze h4 h2 h3) (.lst upd_same (h5.mono (same_new h2)))
theorem EvS.imp {P P' : PyData → ρ → Prop} (h : EvS K R te e r P) (hp : ∀ d r', P d r' → P' d r') : EvS K R te e r P' := fun B σ G M H v w Q q =>
  h B σ G M H v w Q fun x d r' G' M' H' p => q x d r' G' M' H' (hp d r' p)
theorem EvS.of (h : EvD K R te e r d) {P : PyData → ρ → Prop} (hp : P d r) : EvS K R te e r P := h.imp fun d' r' ⟨e1, e2⟩ => by rw [e1, e2]; exact hp
theorem EvTS.imp {P P' : Bool → ρ → Prop} (h : EvTS K R t e r P) (hp : ∀ d r', P d r' → P' d r') : EvTS K R t e r P' := fun B σ G M H v w Q q =>
  h B σ G M H v w Q fun b r' G' M' H' p => q b r' G' M' H' (hp b r' p)
theorem EvT.is {b b' : Bool} (h : EvT K R t e r b) (eq : b = b') : EvT K R t e r b' := eq ▸ h
theorem EvD.is {d d' : PyData} (h : EvD K R te e r d) (eq : d = d') : EvD K R te e r d' := eq ▸ h
/-- one after the other -/
theorem ev_seq2 {ta tb : TE} {P1 : PyData → ρ → Prop} {P2 : PyData → PyData → ρ → Prop} (ha : EvS K R ta e r P1) (hb : ∀ d1 r1, P1 d1 r1 → EvS K R tb e r1 (P2 d1)) (B : Hp) (σ : St) (G M H : Hp) (v : EnvO K B G M H σ e) (w : Wf R G M H r)
    (Q : V → V → Hp → Prop) (q : ∀ x y d1 d2 r2 G' M' H', P2 d1 d2 r2 → Stp G M H G' M' H' → Wf R G' M' H' r2 → Rp K G' x d1 → Rp K G' y d2 → Q x y H') : ta σ H fun x H1 => tb σ H1 fun y H2 => Q x y H2 :=
  ha B σ G M H v w _ fun x d1 r1 G1 M1 H1 p1 s1 w1 h1 => hb d1 r1 p1 B σ G1 M1 H1 (v.step s1) w1 _ fun y d2 r2 G2 M2 H2 p2 s2 w2 h2 => q x y d1 d2 r2 G2 M2 H2 p2 (s1.trans s2) w2 (h1.mono s2.gg) h2

theorem ev_var {i : Nat} (h : e[i]? = some (.dat d)) : EvD K R (tVar i) e r d := fun B σ G M H v w Q q => by
  obtain ⟨x, h1, h2⟩ := v.dat i d h
  exact ⟨x, h1, q x d r G M H ⟨rfl, rfl⟩ (Stp.refl _ _ _) w h2⟩
theorem ev_c {v : V} (h : ∀ G, Rp K G v d) : EvD K R (tC v) e r d := fun B σ G M H _ w Q q => q v d r G M H ⟨rfl, rfl⟩ (Stp.refl _ _ _) w (h G)
theorem ev_int {i : Int} : EvD K R (tC (.int i)) e r (.int i) := ev_c fun _ => .int i
theorem ev_str {x : Str} : EvD K R (tC (.str x)) e r (.str x) := ev_c fun _ => .str x
theorem ev_bl {b : Bool} : EvD K R (tC (.bl b)) e r (.bool b) := ev_c fun _ => .bl b
theorem ev_non : EvD K R (tC .non) e r .none := ev_c fun _ => .non
theorem evs_op [Stab R] {r2 : R2} {P1 : PyData → ρ → Prop} {P2 : PyData → PyData → ρ → Prop} {P3 : PyData → ρ → Prop} (ha : EvS K R ta e r P1) (hb : ∀ d1 r1, P1 d1 r1 → EvS K R tb e r1 (P2 d1))
    (hr : ∀ d1 d2 r', P2 d1 d2 r' → ∃ d3, OpD K r2 d1 d2 d3 ∧ P3 d3 r') : EvS K R (tOp r2 ta tb) e r P3 := fun B σ G M H v w Q q =>
  ev_seq2 ha hb B σ G M H v w _ fun x y d1 d2 r' G' M' H' p s w' h1 h2 => by
    obtain ⟨d3, o, p3⟩ := hr d1 d2 r' p
    exact o x y G' M' H' w'.pre h1 h2 Q fun z G3 H3 a h3 => q z d3 r' G3 M' H3 p3 (s.trans a.st) (w'.al a) h3
theorem ev_op [Stab R] {r2 : R2} (ha : EvD K R ta e r d1) (hb : EvD K R tb e r d2) (hr : OpD K r2 d1 d2 d3) : EvD K R (tOp r2 ta tb) e r d3 :=
  evs_op (P2 := fun x y r' => x = d1 ∧ y = d2 ∧ r' = r) ha (fun _ _ ⟨e1, e2⟩ => by rw [e1, e2]; exact hb.imp fun _ _ ⟨e3, e4⟩ => ⟨rfl, e3, e4⟩) fun _ _ _ ⟨e1, e2, e3⟩ => by rw [e1, e2, e3]; exact ⟨d3, hr, rfl, rfl⟩
theorem evf_op [Stab R] {r2 : R2} (ha : EvD K R ta e r d1) (hb : EvD K R tb e r d2) (hr : OpF K r2 d1 d2 ds) : EvF K R (tOp r2 ta tb) e r ds := fun B σ G M H v w Q q =>
  ev_seq2 (P2 := fun x y r' => x = d1 ∧ y = d2 ∧ r' = r) ha (fun _ _ ⟨e1, e2⟩ => by rw [e1, e2]; exact hb.imp fun _ _ ⟨e3, e4⟩ => ⟨rfl, e3, e4⟩) B σ G M H v w _ fun x y _ _ r' G' M' H' ⟨e1, e2, e3⟩ s w' h1 h2 => by
    subst e1 e2 e3
    refine hr x y G' M' H' w'.pre h1 h2 Q fun l vs H3 k hl h3 hd => ?_
    have hg := w'.gn hl
    have hm := w'.mn hl
    have h0 : H l = none := by
      cases z : H l with
      | none => rfl
      | some o => exact absurd hl (s.th l (some_ne z))
    refine q l vs G' M' H3 ⟨s.gg, fun b hb => ?_, fun b o hb m => k _ _ (s.fr b o hb m), s.ng, s.nm⟩ ⟨w'.gh.trans k, w'.mh.trans k, w'.dj, w'.res⟩ h0 hg hm h3 hd
    cases z : H' b with
    | none => exact absurd z (s.th b hb)
    | some o => exact some_ne (k b o z)
theorem ev_un {r1 : V → Hp → VK → Prop} (ha : EvD K R ta e r d1) (hr : UnD K r1 d1 d3) : EvD K R (tUn r1 ta) e r d3 := fun B σ G M H v w Q q =>
  ha B σ G M H v w _ fun x d r' G' M' H' ⟨e1, e2⟩ s w' h => by
    subst e1 e2
    exact hr x G' M' H' w'.pre h Q fun z hz => q z d3 r' G' M' H' ⟨rfl, rfl⟩ s w' hz

/-! ### operators by values -/
theorem op_of {r2 : R2} {g : V} {x y : V} (hx : ∀ G, Rp K G x d1) (hy : ∀ G, Rp K G y d2) (ix : ∀ G v, Rp K G v d1 → v = x) (iy : ∀ G v, Rp K G v d2 → v = y) (hz : ∀ G, Rp K G g d3) (h : ∀ H (Q : VK), Q g H → r2 x y H Q) : OpD K r2 d1 d2 d3 :=
  fun a b G M H p h1 h2 Q q => by
    rw [ix G a h1, iy G b h2]
    exact h H Q (q g G H (Al.refl p) (hz G))
section
variable {i j : Int} {a b : Str} {p q : Bool}
theorem opI {g : Int → Int → Int} : OpD K (rI0 fun i j => .int (g i j)) (.int i) (.int j) (.int (g i j)) :=
  op_of (fun _ => .int i) (fun _ => .int j) (fun _ _ h => h.int_inv) (fun _ _ h => h.int_inv) (fun _ => .int _) fun H Q q => ⟨i, j, rfl, rfl, q⟩
theorem opIC {C : Int → Int → Prop} {g : Int → Int → Int} (c : C i j) : OpD K (rI C fun i j => .int (g i j)) (.int i) (.int j) (.int (g i j)) :=
  op_of (fun _ => .int i) (fun _ => .int j) (fun _ _ h => h.int_inv) (fun _ _ h => h.int_inv) (fun _ => .int _) fun H Q q => ⟨i, j, rfl, rfl, c, q⟩
theorem opB {g : Int → Int → Bool} : OpD K (rI0 fun i j => .bl (g i j)) (.int i) (.int j) (.bool (g i j)) :=
  op_of (fun _ => .int i) (fun _ => .int j) (fun _ _ h => h.int_inv) (fun _ _ h => h.int_inv) (fun _ => .bl _) fun H Q q => ⟨i, j, rfl, rfl, q⟩
theorem opEqI : OpD K rEq (.int i) (.int j) (.bool (decide (i = j))) :=
  op_of (g := .bl (decide (i = j))) (fun _ => .int i) (fun _ => .int j) (fun _ _ h => h.int_inv) (fun _ _ h => h.int_inv) (fun _ => .bl _) fun H Q q => ⟨rfl, by rw [show decide (V.int i = V.int j) = decide (i = j) from by rw [dec_int]; by_cases h : i = j <;> simp [h]]; exact q⟩
theorem opNeI : OpD K rNe (.int i) (.int j) (.bool (!decide (i = j))) :=
  op_of (g := .bl (!decide (i = j))) (fun _ => .int i) (fun _ => .int j) (fun _ _ h => h.int_inv) (fun _ _ h => h.int_inv) (fun _ => .bl _) fun H Q q => ⟨rfl, by rw [show decide (V.int i = V.int j) = decide (i = j) from by rw [dec_int]; by_cases h : i = j <;> simp [h]]; exact q⟩
theorem opEqS : OpD K rEq (.str a) (.str b) (.bool (decide (a = b))) :=
  op_of (g := .bl (decide (a = b))) (fun _ => .str a) (fun _ => .str b) (fun _ _ h => h.str_inv) (fun _ _ h => h.str_inv) (fun _ => .bl _) fun H Q q => ⟨rfl, by rw [show decide (V.str a = V.str b) = decide (a = b) from by by_cases h : a = b <;> simp [h]]; exact q⟩
theorem opEqB : OpD K rEq (.bool p) (.bool q) (.bool (decide (p = q))) :=
  op_of (g := .bl (decide (p = q))) (fun _ => .bl p) (fun _ => .bl q) (fun _ _ h => h.bl_inv) (fun _ _ h => h.bl_inv) (fun _ => .bl _) fun H Q z => ⟨rfl, by rw [show decide (V.bl p = V.bl q) = decide (p = q) from by by_cases h : p = q <;> simp [h]]; exact z⟩
theorem opNeB : OpD K rNe (.bool p) (.bool q) (.bool (!decide (p = q))) :=
  op_of (g := .bl (!decide (p = q))) (fun _ => .bl p) (fun _ => .bl q) (fun _ _ h => h.bl_inv) (fun _ _ h => h.bl_inv) (fun _ => .bl _) fun H Q z => ⟨rfl, by rw [show decide (V.bl p = V.bl q) = decide (p = q) from by by_cases h : p = q <;> simp [h]]; exact z⟩
theorem opIsB : OpD K rIsB (.bool p) (.bool q) (.bool (decide (p = q))) :=
  op_of (fun _ => .bl p) (fun _ => .bl q) (fun _ _ h => h.bl_inv) (fun _ _ h => h.bl_inv) (fun _ => .bl _) fun H Q z => ⟨p, q, rfl, rfl, z⟩
theorem opNotB : OpD K rNotB (.bool p) (.bool q) (.bool (!decide (p = q))) :=
  op_of (fun _ => .bl p) (fun _ => .bl q) (fun _ _ h => h.bl_inv) (fun _ _ h => h.bl_inv) (fun _ => .bl _) fun H Q z => ⟨p, q, rfl, rfl, z⟩
theorem opCatS (h : a.length + b.length ≤ sizeLine) : OpD K (fun x y H Q => ∃ i j, x = .str i ∧ y = .str j ∧ i.length + j.length ≤ sizeLine ∧ Q (.str (i ++ j)) H) (.str a) (.str b) (.str (a ++ b)) :=
  op_of (fun _ => .str a) (fun _ => .str b) (fun _ _ h => h.str_inv) (fun _ _ h => h.str_inv) (fun _ => .str _) fun H Q z => ⟨a, b, rfl, rfl, h, z⟩
end
theorem opEqD (p1 : plainD d1 = true) (p2 : plainD d2 = true) (s1 : SeqAt.shaped d1 = true) (s2 : SeqAt.shaped d2 = true) : OpD K (rEqD K) d1 d2 (.bool (PyData.eqv d1 d2)) :=
  fun x y G M H p h1 h2 Q q => ⟨d1, d2, Rp.dp p.1 d1 x p1 h1, Rp.dp p.1 d2 y p2 h2, s1, s2, q _ G H (Al.refl p) (.bl _)⟩
theorem opNeD (p1 : plainD d1 = true) (p2 : plainD d2 = true) (s1 : SeqAt.shaped d1 = true) (s2 : SeqAt.shaped d2 = true) : OpD K (rNeD K) d1 d2 (.bool (!PyData.eqv d1 d2)) :=
  fun x y G M H p h1 h2 Q q => ⟨d1, d2, Rp.dp p.1 d1 x p1 h1, Rp.dp p.1 d2 y p2 h2, s1, s2, q _ G H (Al.refl p) (.bl _)⟩
theorem opCat (h : ds.length + es.length ≤ sizeLine) : OpF K rCat (.list ds) (.list es) (ds ++ es) := fun x y G M H p h1 h2 Q q => by
  obtain ⟨a, xs, rfl, g1, r1⟩ := h1.lst_inv
  obtain ⟨b, ys, rfl, g2, r2⟩ := h2.lst_inv
  exact ⟨a, b, xs, ys, rfl, rfl, p.1 _ _ g1, p.1 _ _ g2, by rw [r1.length, r2.length]; exact h, fun l hl => q l _ _ (same_new hl) hl upd_same (r1.append r2)⟩
theorem opRep {k : Int} (h1 : -(2 ^ 63) ≤ k) (h2 : k < 2 ^ 63) (h : ds.length * k.toNat ≤ sizeLine) : OpF K rRep (.list ds) (.int k) (List.replicate k.toNat ds).flatten := fun x y G M H p g1 g2 Q q => by
  obtain ⟨a, xs, rfl, g1, r1⟩ := g1.lst_inv
  rw [g2.int_inv]
  exact ⟨a, k, xs, rfl, rfl, p.1 _ _ g1, h1, h2, by rw [r1.length]; exact h, fun l hl => q l _ _ (same_new hl) hl upd_same (r1.rep _)⟩
theorem ixN_len {n m : Nat} {i : Int} (h : n = m) : ixN n i = ixN m i := by rw [h]
theorem RpAll.atI {G : Hp} {vs : List V} {i : Int} (h : RpAll K G vs ds) (ha : L2.atI ds i = some d) : ∃ v, L2.atI vs i = some v ∧ Rp K G v d := by
  unfold L2.atI at ha ⊢
  rw [h.length]
  cases z : ixN ds.length i with
  | none => rw [z] at ha; cases ha
  | some j =>
    rw [z] at ha
    exact h.get (i := j) ha
theorem opIxL {i : Int} (h : L2.atI ds i = some d) : OpD K (rIxL K) (.list ds) (.int i) d := fun x y G M H p h1 h2 Q q => by
  obtain ⟨a, xs, rfl, g1, r1⟩ := h1.lst_inv
  rw [h2.int_inv]
  obtain ⟨v, e1, e2⟩ := r1.atI h
  exact ⟨a, xs, i, v, rfl, rfl, SqL.of (p.1 _ _ g1), e1, q v G H (Al.refl p) e2⟩
theorem opIxT {i : Int} (h : L2.atI ds i = some d) : OpD K (rIxT K) (.tuple ds) (.int i) d := fun x y G M H p h1 h2 Q q => by
  obtain ⟨a, xs, rfl, g1, r1⟩ := h1.tup_inv
  rw [h2.int_inv]
  obtain ⟨v, e1, e2⟩ := r1.atI h
  exact ⟨a, xs, i, v, rfl, rfl, SqT.of (p.1 _ _ g1), e1, q v G H (Al.refl p) e2⟩
theorem opIxScr {i n : Int} {ns : List Int} (h : L2.atI ns i = some n) : OpD K (rIxL K) (scrD ns) (.int i) (.int n) := fun x y G M H p h1 h2 Q q => by
  obtain ⟨a, rfl, g1⟩ := h1.scr_inv
  rw [h2.int_inv]
  refine ⟨a, ns.map V.int, i, .int n, rfl, rfl, p.1.seq g1, ?_, q _ G H (Al.refl p) (.int n)⟩
  unfold L2.atI at h ⊢
  rw [List.length_map]
  cases z : ixN ns.length i with
  | none => rw [z] at h; cases h
  | some j =>
    rw [z] at h
    show (ns.map V.int)[j]? = some (V.int n)
    rw [List.getElem?_map, show ns[j]? = some n from h]; rfl
theorem opIxS {i : Int} {w : Str} {c : Nat} (hl : w.length ≤ sizeLine) (h : L2.atI w.cps.toList i = some c) : OpD K rIxS (.str w) (.int i) (.str ⟨#[c]⟩) := fun x y G M H p h1 h2 Q q => by
  rw [h1.str_inv, h2.int_inv]
  exact ⟨w, i, c, rfl, rfl, hl, h, q _ G H (Al.refl p) (.str _)⟩
theorem opNeg {i : Int} : UnD K (rU fun i => .int (-i)) (.int i) (.int (-i)) := fun x G M H p h Q q => by
  rw [h.int_inv]
  exact ⟨i, rfl, q _ (.int _)⟩

/-! ### arguments, displays -/
theorem ea_nil : EvA K R tNil e r [] := fun B σ G M H v w Q q => q [] G M H (Stp.refl _ _ _) w .nil
theorem ea_cons {tr : TA} (h : EvD K R te e r d) (hr : EvA K R tr e r ds) : EvA K R (tCons te tr) e r (d :: ds) := fun B σ G M H v w Q q =>
  h B σ G M H v w _ fun x d' r' G1 M1 H1 ⟨e1, e2⟩ s1 w1 h1 => by
    subst e1 e2
    exact hr B σ G1 M1 H1 (v.step s1) w1 _ fun xs G2 M2 H2 s2 w2 h2 => q (x :: xs) G2 M2 H2 (s1.trans s2) w2 (.cons (h1.mono s2.gg) h2)
theorem free_back {G M H G' M' H' : Hp} (s : Stp G M H G' M' H') {l : Addr} (h : H' l = none) : H l = none := by
  cases z : H l with
  | none => rfl
  | some o => exact absurd h (s.th l (some_ne z))
theorem evf_lst {ta : TA} (h : EvA K R ta e r ds) (hl : ds.length ≤ sizeLine) : EvF K R (tLst ta) e r ds := fun B σ G M H v w Q q =>
  h B σ G M H v w _ fun vs G1 M1 H1 s w1 h1 => ⟨by rw [h1.length]; exact hl, fun p hp => q p vs G1 M1 _ (s.hid (free_back s hp) _) (w1.hid (w1.gn hp) (w1.mn hp) _) (free_back s hp) (w1.gn hp) (w1.mn hp) upd_same h1⟩
theorem ev_lst [Stab R] {ta : TA} (h : EvA K R ta e r ds) (hl : ds.length ≤ sizeLine) : EvD K R (tLst ta) e r (.list ds) := (evf_lst h hl).ev
theorem ev_tup [Stab R] {ta : TA} (h : EvA K R ta e r ds) (hl : ds.length ≤ sizeLine) : EvD K R (tTup ta) e r (.tuple ds) := fun B σ G M H v w Q q =>
  h B σ G M H v w _ fun vs G1 M1 H1 s w1 h1 => ⟨by rw [h1.length]; exact hl, fun p hp => q (.ref p) _ r (upd G1 p (.tup vs)) M1 _ ⟨rfl, rfl⟩ (s.trans (Stp.alloc (w1.gn hp) hp _)) (w1.alloc hp _) (.tup upd_same (h1.mono (same_new (w1.gn hp))))⟩

/-! ### slices -/
theorem eo_none : EvO K R tNoPart e r none := fun B σ G M H v w Q q => q G M H (Stp.refl _ _ _) w
theorem eo_some {i : Int} (h : EvD K R te e r (.int i)) : EvO K R (tPart te) e r (some i) := fun B σ G M H v w Q q =>
  h B σ G M H v w _ fun x d r' G' M' H' ⟨e1, e2⟩ s w' hx => by
    subst e1 e2
    exact ⟨i, hx.int_inv, q G' M' H' s w'⟩
def cutD {α : Type} (xs : List α) (lo hi : Option Int) : List α := (xs.drop (HT.sIx xs.length 0 lo)).take (HT.sIx xs.length xs.length hi - HT.sIx xs.length 0 lo)
theorem evf_sl [Stab R] {tl th : TO} {lo hi : Option Int} (h : EvD K R te e r (.list ds)) (h1 : EvO K R tl e r lo) (h2 : EvO K R th e r hi) : EvF K R (tSl (rSlL K) te tl th) e r (cutD ds lo hi) := fun B σ G M H v w Q q =>
  h B σ G M H v w _ fun x d r' G1 M1 H1 ⟨e1, e2⟩ s1 w1 hx => by
    subst e1 e2
    refine h1 B σ G1 M1 H1 (v.step s1) w1 _ fun G2 M2 H2 s2 w2 => h2 B σ G2 M2 H2 ((v.step s1).step s2) w2 _ fun G3 M3 H3 s3 w3 => ?_
    obtain ⟨a, xs, rfl, g1, rr⟩ := hx.lst_inv
    have s13 := s2.trans s3
    have rr3 := rr.mono s13.gg
    refine ⟨a, xs, rfl, SqL.of (w3.gh _ _ (s13.gg _ _ g1)), fun p hp => ?_⟩
    have s := s1.trans s13
    refine q p _ G3 M3 _ (s.hid (free_back s hp) _) (w3.hid (w3.gn hp) (w3.mn hp) _) (free_back s hp) (w3.gn hp) (w3.mn hp) upd_same ?_
    unfold cutD cutV
    rw [rr.length]
    exact (rr3.drop _).take _

/-! ### builtins -/
theorem ev_cb {f : List V → Hp → VK → Prop} {ta : TA} (h : EvA K R ta e r ds) (hr : CbD K f ds d3) : EvD K R (tCB f ta) e r d3 := fun B σ G M H v w Q q =>
  h B σ G M H v w _ fun vs G' M' H' s w' hv => hr vs G' M' H' w'.pre hv Q fun z hz => q z d3 r G' M' H' ⟨rfl, rfl⟩ s w' hz
theorem evf_cb {f : List V → Hp → VK → Prop} {ta : TA} (h : EvA K R ta e r ds) (hr : CbF K f ds es) : EvF K R (tCB f ta) e r es := fun B σ G M H v w Q q =>
  h B σ G M H v w _ fun vs G' M' H' s w' hv => hr vs G' M' H' w'.pre hv Q fun l ws H3 k hl h3 hd => by
    refine q l ws G' M' H3 ⟨s.gg, fun b hb => ?_, fun b o hb m => k _ _ (s.fr b o hb m), s.ng, s.nm⟩ ⟨w'.gh.trans k, w'.mh.trans k, w'.dj, w'.res⟩ (free_back s hl) (w'.gn hl) (w'.mn hl) h3 hd
    cases z : H' b with
    | none => exact absurd z (s.th b hb)
    | some o => exact some_ne (k b o z)
def rLenS (K : PySem.W.Frag) : List V → Hp → VK → Prop := fun xs H Q => ∃ p ys, xs = [.ref p] ∧ (SqL K H p ys ∨ SqT K H p ys) ∧ Q (.int ys.length) H
theorem cbLen : CbD K (rLenS K) [.list ds] (.int (ds.length : Int)) := fun vs G M H p h Q q => by
  obtain ⟨v, ws, rfl, h1, h2⟩ := h.cons_inv
  rw [h2.nil_inv]
  obtain ⟨a, xs, rfl, g1, rr⟩ := h1.lst_inv
  refine ⟨a, xs, rfl, .inl (SqL.of (p.1 _ _ g1)), ?_⟩
  rw [rr.length]
  exact q _ (.int _)
theorem cbLenT : CbD K (rLenS K) [.tuple ds] (.int (ds.length : Int)) := fun vs G M H p h Q q => by
  obtain ⟨v, ws, rfl, h1, h2⟩ := h.cons_inv
  rw [h2.nil_inv]
  obtain ⟨a, xs, rfl, g1, rr⟩ := h1.tup_inv
  refine ⟨a, xs, rfl, .inr (SqT.of (p.1 _ _ g1)), ?_⟩
  rw [rr.length]
  exact q _ (.int _)
theorem cbLenScr {ns : List Int} : CbD K (rLenS K) [scrD ns] (.int (ns.length : Int)) := fun vs G M H p h Q q => by
  obtain ⟨v, ws, rfl, h1, h2⟩ := h.cons_inv
  rw [h2.nil_inv]
  obtain ⟨a, rfl, g1⟩ := h1.scr_inv
  refine ⟨a, _, rfl, .inl (p.1.seq g1), ?_⟩
  rw [List.length_map]
  exact q _ (.int _)
def rListS (K : PySem.W.Frag) : List V → Hp → VK → Prop := fun xs H Q => ∃ p ys, xs = [.ref p] ∧ (SqL K H p ys ∨ SqT K H p ys) ∧ ∀ l, H l = none → Q (.ref l) (upd H l (.lst ys))
theorem cbList : CbF K (rListS K) [.list ds] ds := fun vs G M H p h Q q => by
  obtain ⟨v, ws, rfl, h1, h2⟩ := h.cons_inv
  rw [h2.nil_inv]
  obtain ⟨a, xs, rfl, g1, rr⟩ := h1.lst_inv
  exact ⟨a, xs, rfl, .inl (SqL.of (p.1 _ _ g1)), fun l hl => q l xs _ (same_new hl) hl upd_same rr⟩
theorem cb2 {f : Int → Int → Int} {i j : Int} : CbD K (fun xs H Q => ∃ i j, xs = [.int i, .int j] ∧ Q (.int (f i j)) H) [.int i, .int j] (.int (f i j)) := fun vs G M H p h Q q => by
  obtain ⟨v, ws, rfl, h1, h2⟩ := h.cons_inv
  obtain ⟨v2, ws2, rfl, h3, h4⟩ := h2.cons_inv
  rw [h4.nil_inv, h1.int_inv, h3.int_inv]
  exact ⟨i, j, rfl, q _ (.int _)⟩
theorem cb1 {f : Int → Int} {i : Int} : CbD K (fun xs H Q => ∃ i, xs = [.int i] ∧ Q (.int (f i)) H) [.int i] (.int (f i)) := fun vs G M H p h Q q => by
  obtain ⟨v, ws, rfl, h1, h2⟩ := h.cons_inv
  rw [h2.nil_inv, h1.int_inv]
  exact ⟨i, rfl, q _ (.int _)⟩
theorem cbIntB {b : Bool} : CbD K (fun xs H Q => (∃ i, xs = [.int i] ∧ Q (.int i) H) ∨ ∃ k, xs = [.bl k] ∧ Q (.int (if k then 1 else 0)) H) [.bool b] (.int (if b then 1 else 0)) := fun vs G M H p h Q q => by
  obtain ⟨v, ws, rfl, h1, h2⟩ := h.cons_inv
  rw [h2.nil_inv, h1.bl_inv]
  exact .inr ⟨b, rfl, q _ (.int _)⟩

/-! ### isinstance -/
def tyD : PyData → String
  | .none => "NoneType"
  | .bool _ => "bool"
  | .int _ => "int"
  | .str _ => "str"
  | .list _ => "list"
  | .tuple _ => "tuple"
  | .dict _ => "dict"
theorem tyx_of {K : PySem.W.Frag} {G H : Hp} (s : Same G H) {v : V} {d : PyData} (h : Rp K G v d) (hd : ∀ kvs, d ≠ .dict kvs) : TyX K H v (.type (tyD d)) := by
  cases d with
  | none => rw [h.non_inv]; exact .base .non
  | bool b => rw [h.bl_inv]; exact .base (.bl b)
  | int i => rw [h.int_inv]; exact .base (.int i)
  | str x => rw [h.str_inv]; exact .base (.str x)
  | list ds =>
    obtain ⟨a, xs, rfl, g1, rr⟩ := h.lst_inv
    exact .base (.lst (s _ _ g1))
  | tuple ds =>
    obtain ⟨a, xs, rfl, g1, rr⟩ := h.tup_inv
    exact .base (.tup (s _ _ g1))
  | dict kvs => exact absurd rfl (hd kvs)
/-- isinstance(e, a built-in class) -/
theorem ev_isi {T ty : String} {b : Bool} (h : EvD K R te e r d) (ht : tyD d = ty) (hd : ty ≠ "dict") (hk : kitB ty T = some b) : EvD K R (tCB (rIsi K) (tCons te (tCons (tC (.ty T)) tNil))) e r (.bool b) := fun B σ G M H v w Q q =>
  h B σ G M H v w _ fun x d' r' G' M' H' ⟨e1, e2⟩ s w' hx => by
    subst e1 e2 ht
    exact ⟨x, .ty T, _, .type T, b, rfl, .ty T, tyx_of w'.gh hx (fun kvs z => hd (by rw [z]; rfl)), kit_ty hk, q _ _ r' G' M' H' ⟨rfl, rfl⟩ s w' (.bl b)⟩
section
variable {i : Int} {b : Bool} {x : Str}
theorem isi_int (h : EvD K R te e r (.int i)) : EvD K R (tCB (rIsi K) (tCons te (tCons (tC (.ty "int")) tNil))) e r (.bool true) := ev_isi (ty := "int") h rfl (by decide) (by decide +kernel)
theorem isi_intB (h : EvD K R te e r (.int i)) : EvD K R (tCB (rIsi K) (tCons te (tCons (tC (.ty "bool")) tNil))) e r (.bool false) := ev_isi (ty := "int") h rfl (by decide) (by decide +kernel)
theorem isi_bool (h : EvD K R te e r (.bool b)) : EvD K R (tCB (rIsi K) (tCons te (tCons (tC (.ty "bool")) tNil))) e r (.bool true) := ev_isi (ty := "bool") h rfl (by decide) (by decide +kernel)
theorem isi_noneB (h : EvD K R te e r .none) : EvD K R (tCB (rIsi K) (tCons te (tCons (tC (.ty "bool")) tNil))) e r (.bool false) := ev_isi (ty := "NoneType") h rfl (by decide) (by decide +kernel)
theorem isi_str (h : EvD K R te e r (.str x)) : EvD K R (tCB (rIsi K) (tCons te (tCons (tC (.ty "str")) tNil))) e r (.bool true) := ev_isi (ty := "str") h rfl (by decide) (by decide +kernel)
theorem isi_list (h : EvD K R te e r (.list ds)) : EvD K R (tCB (rIsi K) (tCons te (tCons (tC (.ty "list")) tNil))) e r (.bool true) := ev_isi (ty := "list") h rfl (by decide) (by decide +kernel)
theorem isi_tup (h : EvD K R te e r (.tuple ds)) : EvD K R (tCB (rIsi K) (tCons te (tCons (tC (.ty "tuple")) tNil))) e r (.bool true) := ev_isi (ty := "tuple") h rfl (by decide) (by decide +kernel)
end

/-! ### tests -/
theorem et_test {b : Bool} (h : EvD K R te e r (.bool b)) : EvT K R (tTest te) e r b := fun B σ G M H v w Q q =>
  h B σ G M H v w _ fun x d r' G' M' H' ⟨e1, e2⟩ s w' hx => by
    subst e1
    exact ⟨b, hx.bl_inv, q b r' G' M' H' ⟨rfl, e2⟩ s w'⟩
theorem et_B {b : Bool} (h : EvD K R te e r (.bool b)) : EvT K R (tB te) e r b := fun B σ G M H v w Q q =>
  h B σ G M H v w _ fun x d r' G' M' H' ⟨e1, e2⟩ s w' hx => by
    subst e1
    exact ⟨b, hx.bl_inv, q b r' G' M' H' ⟨rfl, e2⟩ s w'⟩
theorem et_and {a b : Bool} (h1 : EvT K R t e r a) (h2 : a = true → EvT K R u e r b) : EvT K R (tAnd t u) e r (a && b) := fun B σ G M H v w Q q =>
  h1 B σ G M H v w _ fun c r' G' M' H' ⟨e1, e2⟩ s w' => by
    subst e1 e2
    cases c with
    | true =>
      show u σ H' Q
      exact h2 rfl B σ G' M' H' (v.step s) w' Q fun c r2 G2 M2 H2 ⟨e1, e2⟩ s2 w2 => q c r2 G2 M2 H2 ⟨by rw [e1]; rfl, e2⟩ (s.trans s2) w2
    | false =>
      show Q false H'
      exact q false _ G' M' H' ⟨rfl, rfl⟩ s w'
theorem et_or {a b : Bool} (h1 : EvT K R t e r a) (h2 : a = false → EvT K R u e r b) : EvT K R (tOr t u) e r (a || b) := fun B σ G M H v w Q q =>
  h1 B σ G M H v w _ fun c r' G' M' H' ⟨e1, e2⟩ s w' => by
    subst e1 e2
    cases c with
    | true =>
      show Q true H'
      exact q true _ G' M' H' ⟨rfl, rfl⟩ s w'
    | false =>
      show u σ H' Q
      exact h2 rfl B σ G' M' H' (v.step s) w' Q fun c r2 G2 M2 H2 ⟨e1, e2⟩ s2 w2 => q c r2 G2 M2 H2 ⟨by rw [e1]; rfl, e2⟩ (s.trans s2) w2
theorem et_not {a : Bool} (h1 : EvT K R t e r a) : EvT K R (tNot t) e r (!a) := fun B σ G M H v w Q q =>
  h1 B σ G M H v w _ fun c r' G' M' H' ⟨e1, e2⟩ s w' => q (!c) r' G' M' H' ⟨by rw [e1], e2⟩ s w'
theorem et_yes : EvT K R tYes e r true := fun B σ G M H v w Q q => q true r G M H ⟨rfl, rfl⟩ (Stp.refl _ _ _) w
theorem ev_andV {a b : Bool} (h1 : EvD K R ta e r (.bool a)) (h2 : a = true → EvD K R tb e r (.bool b)) : EvD K R (tAndV ta tb) e r (.bool (a && b)) := fun B σ G M H v w Q q =>
  h1 B σ G M H v w _ fun x d r' G' M' H' ⟨e1, e2⟩ s w' hx => by
    subst e1 e2
    refine ⟨a, hx.bl_inv, ?_⟩
    cases a with
    | true =>
      show tb σ H' Q
      exact h2 rfl B σ G' M' H' (v.step s) w' Q fun y d r2 G2 M2 H2 ⟨e1, e2⟩ s2 w2 hy => q y d r2 G2 M2 H2 ⟨e1, e2⟩ (s.trans s2) w2 hy
    | false =>
      show Q (.bl false) H'
      exact q _ _ _ G' M' H' ⟨rfl, rfl⟩ s w' (.bl _)
theorem ev_orV {a b : Bool} (h1 : EvD K R ta e r (.bool a)) (h2 : a = false → EvD K R tb e r (.bool b)) : EvD K R (tOrV ta tb) e r (.bool (a || b)) := fun B σ G M H v w Q q =>
  h1 B σ G M H v w _ fun x d r' G' M' H' ⟨e1, e2⟩ s w' hx => by
    subst e1 e2
    refine ⟨a, hx.bl_inv, ?_⟩
    cases a with
    | true =>
      show Q (.bl true) H'
      exact q _ _ _ G' M' H' ⟨rfl, rfl⟩ s w' (.bl _)
    | false =>
      show tb σ H' Q
      exact h2 rfl B σ G' M' H' (v.step s) w' Q fun y d r2 G2 M2 H2 ⟨e1, e2⟩ s2 w2 hy => q y d r2 G2 M2 H2 ⟨e1, e2⟩ (s.trans s2) w2 hy
theorem ev_notV {a : Bool} (h1 : EvD K R ta e r (.bool a)) : EvD K R (tNotV ta) e r (.bool (!a)) := fun B σ G M H v w Q q =>
  h1 B σ G M H v w _ fun x d r' G' M' H' ⟨e1, e2⟩ s w' hx => by
    subst e1 e2
    exact ⟨a, hx.bl_inv, q _ _ _ G' M' H' ⟨rfl, rfl⟩ s w' (.bl _)⟩
theorem ev_if {b : Bool} (h : EvT K R t e r b) (h1 : b = true → EvD K R ta e r d) (h2 : b = false → EvD K R tb e r d) : EvD K R (tIf t ta tb) e r d := fun B σ G M H v w Q q =>
  h B σ G M H v w _ fun c r' G' M' H' ⟨e1, e2⟩ s w' => by
    subst e1 e2
    cases c with
    | true =>
      show ta σ H' Q
      exact h1 rfl B σ G' M' H' (v.step s) w' Q fun y d r2 G2 M2 H2 p s2 w2 hy => q y d r2 G2 M2 H2 p (s.trans s2) w2 hy
    | false =>
      show tb σ H' Q
      exact h2 rfl B σ G' M' H' (v.step s) w' Q fun y d r2 G2 M2 H2 p s2 w2 hy => q y d r2 G2 M2 H2 p (s.trans s2) w2 hy
/-- is None, of a datum -/
def isNoneD : PyData → Bool
  | .none => true
  | _ => false
theorem isNone_of {G : Hp} {x : V} : ∀ {d : PyData}, Rp K G x d → decide (x = V.non) = isNoneD d
  | .none, hx => by rw [hx.non_inv]; rfl
  | .bool b, hx => by rw [hx.bl_inv]; rfl
  | .int i, hx => by rw [hx.int_inv]; rfl
  | .str x, hx => by rw [hx.str_inv]; rfl
  | .list ds, hx => by obtain ⟨a, xs, rfl, _⟩ := hx.lst_inv; rfl
  | .tuple ds, hx => by obtain ⟨a, xs, rfl, _⟩ := hx.tup_inv; rfl
  | .dict ds, hx => by rcases hx.dict_inv with ⟨a, ns, rfl, _⟩ | ⟨a, rfl, _⟩ <;> rfl
theorem ev_isN (h : EvD K R te e r d) : EvD K R (tIsN te) e r (.bool (isNoneD d)) := fun B σ G M H v w Q q =>
  h B σ G M H v w _ fun x d' r' G' M' H' ⟨e1, e2⟩ s w' hx => by
    subst e1 e2
    show Q (.bl (decide (x = V.non))) H'
    rw [isNone_of hx]
    exact q _ _ _ G' M' H' ⟨rfl, rfl⟩ s w' (.bl _)
theorem ev_notN (h : EvD K R te e r d) : EvD K R (tNotN te) e r (.bool (!isNoneD d)) := fun B σ G M H v w Q q =>
  h B σ G M H v w _ fun x d' r' G' M' H' ⟨e1, e2⟩ s w' hx => by
    subst e1 e2
    show Q (.bl (!decide (x = V.non))) H'
    rw [isNone_of hx]
    exact q _ _ _ G' M' H' ⟨rfl, rfl⟩ s w' (.bl _)

/-! ### calls of pure defs -/
/-- a pure def: what the arguments are, what comes -/
def spD (K : PySem.W.Frag) {α : Type} (args : α → List PyData) (pre : α → Prop) (res : α → PyData → Prop) : Sp := fun vs H Q _ => ∃ G M a, Pre G M H ∧ RpAll K G vs (args a) ∧ pre a ∧
  ∀ v d G' H', res a d → Al G M H G' H' → Rp K G' v d → Q v H'
theorem evs_call [Stab R] {α : Type} {args : α → List PyData} {pre : α → Prop} {res : α → PyData → Prop} {E : XK} {ta : TA} (a : α) (h : EvA K R ta e r (args a)) (hp : pre a) : EvS K R (tCall (spD K args pre res) [] E ta) e r (fun d r' => res a d ∧ r' = r) := fun B σ G M H v w Q q =>
  h B σ G M H v w _ fun vs G' M' H' s w' hv => ⟨G', M', a, w'.pre, by rw [List.append_nil]; exact hv, hp, fun x d G2 H2 p a hx => q x d r G2 M' H2 ⟨p, rfl⟩ (s.trans a.st) (w'.al a) hx⟩
/-- one value -/
abbrev spF (K : PySem.W.Frag) {α : Type} (args : α → List PyData) (pre : α → Prop) (f : α → PyData) : Sp := spD K args pre fun a d => d = f a
theorem ev_call [Stab R] {α : Type} {args : α → List PyData} {pre : α → Prop} {f : α → PyData} {E : XK} {ta : TA} (a : α) (h : EvA K R ta e r (args a)) (hp : pre a) : EvD K R (tCall (spF K args pre f) [] E ta) e r (f a) := evs_call a h hp
end
end Fw

namespace Fw
open PySem L2

/-! ### statements -/
structure Post (ρ : Type) where
  nx : SE → ρ → Prop
  rt : PyData → ρ → Prop
  bk : SE → ρ → Prop := fun _ _ => False
  ct : SE → ρ → Prop := fun _ _ => False
  ex : Value → ρ → Prop := fun _ _ => False
  fr : List PyData → ρ → Prop := fun _ _ => False
section
variable (K : PySem.W.Frag) {ρ : Type} (R : ρ → Hp → Hp → Prop) (E : XK)
/-- the ends are met: seen from the entry (G0, M0, H0) -/
structure EndsOk (G0 M0 H0 : Hp) (D : Ends) (P : Post ρ) : Prop where
  nx : ∀ e r σ G M H, P.nx e r → Stp G0 M0 H0 G M H → EnvO K H0 G M H σ e → Wf R G M H r → D.nx σ H
  rt : ∀ d r v G M H, P.rt d r → Stp G0 M0 H0 G M H → Wf R G M H r → Rp K G v d → D.rt v H
  bk : ∀ e r σ G M H, P.bk e r → Stp G0 M0 H0 G M H → EnvO K H0 G M H σ e → Wf R G M H r → D.bk σ H
  ct : ∀ e r σ G M H, P.ct e r → Stp G0 M0 H0 G M H → EnvO K H0 G M H σ e → Wf R G M H r → D.ct σ H
  ex : ∀ c r G M H, P.ex c r → Stp G0 M0 H0 G M H → Wf R G M H r → E c none H
  fr : ∀ ds r l ws G M H, P.fr ds r → Stp G0 M0 H0 G M H → Wf R G M H r → H0 l = none → G l = none → M l = none → H l = some (.lst ws) → RpAll K G ws ds → D.rt (.ref l) H
def SP (ts : TS) (e : SE) (r : ρ) (P : Post ρ) : Prop := ∀ (G0 M0 H0 : Hp) (σ : St) (G M H : Hp) (D : Ends), Stp G0 M0 H0 G M H → EnvO K H0 G M H σ e → Wf R G M H r → EndsOk K R E G0 M0 H0 D P → ts D σ H
end
section
variable {K : PySem.W.Frag} {ρ : Type} {R : ρ → Hp → Hp → Prop} {e : SE} {r : ρ} {ta tb te tc : TE} {t : TT} {tu tw tz : TS} {d : PyData} {ds es : List PyData} {P : Post ρ} {E : XK}
theorem sp_next (h : P.nx e r) : SP K R E tNext e r P := fun G0 M0 H0 σ G M H D s v w k => k.nx e r σ G M H h s v w
theorem sp_brk (h : P.bk e r) : SP K R E tBreak e r P := fun G0 M0 H0 σ G M H D s v w k => k.bk e r σ G M H h s v w
theorem sp_cont (h : P.ct e r) : SP K R E tCont e r P := fun G0 M0 H0 σ G M H D s v w k => k.ct e r σ G M H h s v w
/-- an end that comes behind another statement -/
theorem EndsOk.behind {G0 M0 H0 : Hp} {D : Ends} {N : SE → ρ → Prop} (k : EndsOk K R E G0 M0 H0 D P) (h : ∀ e r, N e r → SP K R E tz e r P) : EndsOk K R E G0 M0 H0 { D with nx := tz D } { P with nx := N } :=
  ⟨fun e r σ G M H n s v w => h e r n G0 M0 H0 σ G M H D s v w k, k.rt, k.bk, k.ct, k.ex, k.fr⟩
theorem sp_seq {N : SE → ρ → Prop} (h : SP K R E tu e r { P with nx := N }) (k : ∀ e r, N e r → SP K R E tz e r P) : SP K R E (tSeq tu tz) e r P := fun G0 M0 H0 σ G M H D s v w q =>
  h G0 M0 H0 σ G M H _ s v w (q.behind k)
/-- x = e -/
theorem sp_asgS {i : Nat} {Pe : PyData → ρ → Prop} (h : EvS K R te e r Pe) (k : ∀ d r', Pe d r' → SP K R E tz (e.set i (.dat d)) r' P) : SP K R E (tSeq (tAsg te (gName i)) tz) e r P := fun G0 M0 H0 σ G M H D s v w q =>
  h H0 σ G M H v w _ fun x d r' G' M' H' p s' w' hx => k d r' p G0 M0 H0 _ G' M' H' D (s.trans s') ((v.step s').setD hx) w' q
theorem sp_asg {i : Nat} (h : EvD K R te e r d) (k : SP K R E tz (e.set i (.dat d)) r P) : SP K R E (tSeq (tAsg te (gName i)) tz) e r P := sp_asgS h fun _ _ ⟨e1, e2⟩ => by rw [e1, e2]; exact k
theorem sp_asgN {i : Nat} {Pe : PyData → ρ → Prop} (h : EvS K R te e r Pe) (k : ∀ d r', Pe d r' → P.nx (e.set i (.dat d)) r') : SP K R E (tAsg te (gName i)) e r P := fun G0 M0 H0 σ G M H D s v w q =>
  h H0 σ G M H v w _ fun x d r' G' M' H' p s' w' hx => q.nx _ r' _ G' M' H' (k d r' p) (s.trans s') ((v.step s').setD hx) w'
theorem sp_asg1 {i : Nat} (h : EvD K R te e r d) (k : P.nx (e.set i (.dat d)) r) : SP K R E (tAsg te (gName i)) e r P := sp_asgN h fun _ _ ⟨e1, e2⟩ => by rw [e1, e2]; exact k
theorem own_new {B G M H : Hp} {σ : St} {l : Addr} (v : EnvO K B G M H σ e) (h : H l = none) : ∀ (j : Nat) es, e[j]? = some (.own es) → σ[j]? ≠ some (some (.ref l)) := fun j es hj q => by
  obtain ⟨l', vs, h1, h2, h3, h4, h5, h6⟩ := v.own j es hj
  rw [q] at h1
  cases h1
  rw [h] at h5
  cases h5
theorem born {G0 M0 H0 G M H : Hp} (s : Stp G0 M0 H0 G M H) {l : Addr} (h : H l = none) : H0 l = none := free_back s h
/-- x = a new list, kept as one's own -/
theorem sp_asgO {i : Nat} (h : EvF K R te e r ds) (k : SP K R E tz (e.set i (.own ds)) r P) : SP K R E (tSeq (tAsg te (gName i)) tz) e r P := fun G0 M0 H0 σ G M H D s v w q =>
  h H0 σ G M H v w _ fun l vs G' M' H' s' w' h1 h2 h3 h4 h5 => k G0 M0 H0 _ G' M' H' D (s.trans s') ((v.step s').setO (born s h1) h2 h3 h4 h5 fun j es hj => own_new v h1 j es hj) w' q
theorem sp_asgO1 {i : Nat} (h : EvF K R te e r ds) (k : P.nx (e.set i (.own ds)) r) : SP K R E (tAsg te (gName i)) e r P := fun G0 M0 H0 σ G M H D s v w q =>
  h H0 σ G M H v w _ fun l vs G' M' H' s' w' h1 h2 h3 h4 h5 => q.nx _ r _ G' M' H' k (s.trans s') ((v.step s').setO (born s h1) h2 h3 h4 h5 fun j es hj => own_new v h1 j es hj) w'
/-- an own list is from now on a datum -/
theorem sp_frz [Stab R] {i : Nat} (hi : e[i]? = some (.own ds)) (k : SP K R E tu (e.set i (.dat (.list ds))) r P) : SP K R E tu e r P := fun G0 M0 H0 σ G M H D s v w q => by
  obtain ⟨l, vs, h1, h2, h3, h4, h5, v'⟩ := v.frz hi
  exact k G0 M0 H0 σ _ M H D (s.freeze h2 h3) v' (w.freeze h5 h3 h4) q
/-- x.append(e), x one's own -/
theorem sp_appS {i : Nat} {Pe : PyData → ρ → Prop} (hi : e[i]? = some (.own ds)) (hz : ds.length < sizeLine) (h : EvS K R te e r Pe) (k : ∀ d r', Pe d r' → P.nx (e.set i (.own (ds ++ [d]))) r') :
    SP K R E (tDrop (tBM K "list" rAppend (tVar i) (tCons te tNil))) e r P := fun G0 M0 H0 σ G M H D s v w q => by
  obtain ⟨l, vs, h1, h2, h3, h4, h5, h6⟩ := v.own i ds hi
  refine ⟨.ref l, h1, .inl ⟨rfl, vs, SqL.of h5⟩, h H0 σ G M H v w _ fun x d r' G' M' H' p s' w' hx => ?_⟩
  have hl := s'.fr l _ h5 h4
  refine ⟨l, vs, x, rfl, rfl, hl, by rw [h6.length]; exact hz, ?_⟩
  have v2 := (v.step s').mutO (vs' := vs ++ [x]) (ds' := ds ++ [d]) hi h1 ((h6.mono s'.gg).append (.one hx))
  exact q.nx _ r' σ G' M' _ (k d r' p) ((s.trans s').hid h2 _) v2 (w'.hid (s'.ng l (some_ne h5) h3) (s'.nm l (some_ne h5) h4) _)
theorem sp_app {i : Nat} (hi : e[i]? = some (.own ds)) (hz : ds.length < sizeLine) (h : EvD K R te e r d) (k : P.nx (e.set i (.own (ds ++ [d]))) r) :
    SP K R E (tDrop (tBM K "list" rAppend (tVar i) (tCons te tNil))) e r P := sp_appS hi hz h fun _ _ ⟨e1, e2⟩ => by rw [e1, e2]; exact k
/-- x[j] = e, x one's own -/
theorem sp_setL {i : Nat} {j : Int} {n : Nat} (hi : e[i]? = some (.own ds)) (h : EvD K R te e r d) (hj : EvD K R tb e r (.int j)) (hn : ixN ds.length j = some n) (k : P.nx (e.set i (.own (ds.set n d))) r) :
    SP K R E (tAsg te (gSub (tVar i) tb rSetL)) e r P := fun G0 M0 H0 σ G M H D s v w q =>
  h H0 σ G M H v w _ fun x d' r' G1 M1 H1 ⟨e1, e2⟩ s1 w1 hx => by
    subst e1 e2
    have v1 := v.step s1
    obtain ⟨l, vs, h1, h2, h3, h4, h5, h6⟩ := v1.own i ds hi
    refine ⟨.ref l, h1, hj H0 σ G1 M1 H1 v1 w1 _ fun y d2 r2 G2 M2 H2 ⟨e1, e2⟩ s2 w2 hy => ?_⟩
    subst e1 e2
    have hl := s2.fr l _ h5 h4
    have h62 := h6.mono s2.gg
    refine ⟨l, vs, j, n, rfl, hy.int_inv, hl, by rw [h6.length]; exact hn, ?_⟩
    have v2 := (v1.step s2).mutO (vs' := vs.set n x) (ds' := ds.set n d') hi h1 (h62.set (hx.mono s2.gg) n)
    exact q.nx _ _ σ G2 M2 _ k ((s.trans (s1.trans s2)).hid h2 _) v2 (w2.hid (s2.ng l (some_ne h5) h3) (s2.nm l (some_ne h5) h4) _)
theorem sp_drop {Pe : PyData → ρ → Prop} (h : EvS K R te e r Pe) (k : ∀ d r', Pe d r' → P.nx e r') : SP K R E (tDrop te) e r P := fun G0 M0 H0 σ G M H D s v w q =>
  h H0 σ G M H v w _ fun x d r' G' M' H' p s' w' hx => q.nx e r' σ G' M' H' (k d r' p) (s.trans s') (v.step s') w'
theorem sp_retS {Pe : PyData → ρ → Prop} (h : EvS K R te e r Pe) (k : ∀ d r', Pe d r' → P.rt d r') : SP K R E (tRet te) e r P := fun G0 M0 H0 σ G M H D s v w q =>
  h H0 σ G M H v w _ fun x d r' G' M' H' p s' w' hx => q.rt d r' x G' M' H' (k d r' p) (s.trans s') w' hx
/-- return a new list -/
theorem sp_retF (h : EvF K R te e r ds) (k : P.fr ds r) : SP K R E (tRet te) e r P := fun G0 M0 H0 σ G M H D s v w q =>
  h H0 σ G M H v w _ fun l vs G' M' H' s' w' h1 h2 h3 h4 h5 => q.fr ds r l vs G' M' H' k (s.trans s') w' (born s h1) h2 h3 h4 h5
theorem sp_retO {i : Nat} (hi : e[i]? = some (.own ds)) (k : P.fr ds r) : SP K R E (tRet (tVar i)) e r P := fun G0 M0 H0 σ G M H D s v w q => by
  obtain ⟨l, vs, h1, h2, h3, h4, h5, h6⟩ := v.own i ds hi
  exact ⟨.ref l, h1, q.fr ds r l vs G M H k s w h2 h3 h4 h5 h6⟩
theorem sp_ret (h : EvD K R te e r d) (k : P.rt d r) : SP K R E (tRet te) e r P := sp_retS h fun _ _ ⟨e1, e2⟩ => by rw [e1, e2]; exact k
theorem sp_ifS {Pb : Bool → ρ → Prop} (h : EvTS K R t e r Pb) (k1 : ∀ r', Pb true r' → SP K R E tu e r' P) (k2 : ∀ r', Pb false r' → SP K R E tw e r' P) : SP K R E (tIfS t tu tw) e r P := fun G0 M0 H0 σ G M H D s v w q =>
  h H0 σ G M H v w _ fun b r' G' M' H' p s' w' => by
    cases b with
    | true =>
      show tu D σ H'
      exact k1 r' p G0 M0 H0 σ G' M' H' D (s.trans s') (v.step s') w' q
    | false =>
      show tw D σ H'
      exact k2 r' p G0 M0 H0 σ G' M' H' D (s.trans s') (v.step s') w' q
theorem sp_if {b : Bool} (h : EvT K R t e r b) (k1 : b = true → SP K R E tu e r P) (k2 : b = false → SP K R E tw e r P) : SP K R E (tIfS t tu tw) e r P :=
  sp_ifS h (fun r' ⟨e1, e2⟩ => by rw [e2]; exact k1 e1.symm) (fun r' ⟨e1, e2⟩ => by rw [e2]; exact k2 e1.symm)
/-- an if without else, then the rest -/
theorem sp_when {b : Bool} (h : EvT K R t e r b) (k1 : b = true → SP K R E tu e r { P with nx := fun e' r' => SP K R E tz e' r' P }) (k2 : b = false → SP K R E tz e r P) : SP K R E (tSeq (tIfS t tu tNext) tz) e r P :=
  sp_seq (N := fun e' r' => SP K R E tz e' r' P) (sp_if h k1 fun hb => sp_next (k2 hb)) fun _ _ h => h
theorem sp_whenS {Pb : Bool → ρ → Prop} (h : EvTS K R t e r Pb) (k1 : ∀ r', Pb true r' → SP K R E tu e r' { P with nx := fun e' r' => SP K R E tz e' r' P }) (k2 : ∀ r', Pb false r' → SP K R E tz e r' P) : SP K R E (tSeq (tIfS t tu tNext) tz) e r P :=
  sp_seq (N := fun e' r' => SP K R E tz e' r' P) (sp_ifS h k1 fun r' hb => sp_next (k2 r' hb)) fun _ _ h => h
/-- if c: x = e, told by the value x has behind it -/
theorem sp_ifAsg {b : Bool} {i : Nat} (h : EvT K R t e r b) (h1 : b = true → EvD K R te e r d) (h2 : b = false → e.set i (.dat d) = e) (k : SP K R E tz (e.set i (.dat d)) r P) : SP K R E (tSeq (tIfS t (tAsg te (gName i)) tNext) tz) e r P :=
  sp_when h (fun hb => sp_asg1 (h1 hb) k) fun hb => by
    have g := k
    rw [h2 hb] at g
    exact g
theorem sp_imp {P' : Post ρ} (h : SP K R E tu e r P) (h1 : ∀ e r, P.nx e r → P'.nx e r) (h2 : ∀ d r, P.rt d r → P'.rt d r) (h3 : ∀ e r, P.bk e r → P'.bk e r := by intro _ _ h; exact h) (h4 : ∀ e r, P.ct e r → P'.ct e r := by intro _ _ h; exact h) (h5 : ∀ c r, P.ex c r → P'.ex c r := by intro _ _ h; exact h) (h6 : ∀ c r, P.fr c r → P'.fr c r := by intro _ _ h; exact h) : SP K R E tu e r P' := fun G0 M0 H0 σ G M H D s v w q =>
  h G0 M0 H0 σ G M H D s v w ⟨fun e r σ G M H n => q.nx e r σ G M H (h1 e r n), fun d r x G M H n => q.rt d r x G M H (h2 d r n), fun e r σ G M H n => q.bk e r σ G M H (h3 e r n), fun e r σ G M H n => q.ct e r σ G M H (h4 e r n), fun c r G M H n => q.ex c r G M H (h5 c r n), fun ds r l ws G M H n => q.fr ds r l ws G M H (h6 ds r n)⟩

/-! ### loops -/
theorem EndsOk.rebase {G0 M0 H0 G M H : Hp} {D : Ends} (s : Stp G0 M0 H0 G M H) (k : EndsOk K R E G0 M0 H0 D P) : EndsOk K R E G M0 H0 D P :=
  ⟨fun e r σ G M H h t => k.nx e r σ G M H h (s.unbase t), fun d r v G M H h t => k.rt d r v G M H h (s.unbase t), fun e r σ G M H h t => k.bk e r σ G M H h (s.unbase t), fun e r σ G M H h t => k.ct e r σ G M H h (s.unbase t), fun c r G M H h t => k.ex c r G M H h (s.unbase t), fun ds r l ws G M H h t => k.fr ds r l ws G M H h (s.unbase t)⟩
theorem sp_forL {i : Nat} {tl : TE} (h : EvD K R tl e r (.list ds)) (I : Nat → SE → ρ → Prop) (h0 : I 0 e r)
    (hs : ∀ k d e' r', ds[k]? = some d → I k e' r' → SP K R E tu (e'.set i (.dat d)) r' ⟨I (k + 1), P.rt, P.nx, I (k + 1), P.ex, P.fr⟩) (hd : ∀ e' r', I ds.length e' r' → P.nx e' r') : SP K R E (tFor (iList K tl) (gName i) tu) e r P := fun G0 M0 H0 σ G M H D s v w q =>
  h H0 σ G M H v w _ fun x d r' G' M' H' ⟨e1, e2⟩ s' w' hx => by
    subst e1 e2
    obtain ⟨a, xs, rfl, ha, rr⟩ := hx.lst_inv
    have s0 := s.trans s'
    refine ⟨a, rfl, ⟨xs, SqL.of (w'.gh _ _ ha)⟩, for_list (K := K) (a := a) (xs := xs) (fun k σ1 H1 => ∃ e1 r1 G1 M1, I k e1 r1 ∧ Stp G' M0 H0 G1 M1 H1 ∧ EnvO K H0 G1 M1 H1 σ1 e1 ∧ Wf R G1 M1 H1 r1)
      ⟨e, _, G', M', h0, s0.rebase, v.step s', w'⟩ (fun k σ1 H1 _ ⟨e1, r1, G1, M1, _, s1, _, w1⟩ => SqL.of (w1.gh _ _ (s1.gg _ _ ha))) ?_ ?_⟩
    · rintro k y σ1 H1 hy ⟨e1, r1, G1, M1, p, s1, v1, w1⟩
      obtain ⟨d, hd', ry⟩ := rr.of_get hy
      exact hs k d e1 r1 hd' p G' M0 H0 _ G1 M1 H1 _ s1 (v1.setD (ry.mono s1.gg)) w1
        ⟨fun e2 r2 σ2 G2 M2 H2 p2 s2 v2 w2 => ⟨e2, r2, G2, M2, p2, s2, v2, w2⟩, fun d r x G M H n t => q.rt d r x G M H n (s0.unbase t), fun e r σ G M H n t => q.nx e r σ G M H n (s0.unbase t), fun e2 r2 σ2 G2 M2 H2 p2 s2 v2 w2 => ⟨e2, r2, G2, M2, p2, s2, v2, w2⟩, fun c r G M H n t => q.ex c r G M H n (s0.unbase t), fun ds r l ws G M H n t => q.fr ds r l ws G M H n (s0.unbase t)⟩
    · rintro σ1 H1 ⟨e1, r1, G1, M1, p, s1, v1, w1⟩
      rw [rr.length] at p
      exact q.nx e1 r1 σ1 G1 M1 H1 (hd e1 r1 p) (s0.unbase s1) v1 w1
theorem sp_forR {i : Nat} {lo n : Int} {wi : TI} (h : ∀ (B : Hp) (σ : St) (G M H : Hp), EnvO K B G M H σ e → Wf R G M H r → ∀ Q : It → Hp → Prop, (∀ G' M' H', Stp G M H G' M' H' → Wf R G' M' H' r → Q (Itr lo (n - lo).toNat) H') → wi σ H Q)
    (I : Nat → SE → ρ → Prop) (h0 : I 0 e r)
    (hs : ∀ (k : Nat) e' r', lo + (k : Int) < n → I k e' r' → SP K R E tu (e'.set i (.dat (.int (lo + (k : Int))))) r' ⟨I (k + 1), P.rt, P.nx, I (k + 1), P.ex, P.fr⟩) (hd : ∀ e' r', I (n - lo).toNat e' r' → P.nx e' r') : SP K R E (tFor wi (gName i) tu) e r P := fun G0 M0 H0 σ G M H D s v w q =>
  h H0 σ G M H v w _ fun G' M' H' s' w' => by
    have s0 := s.trans s'
    refine for_range (lo := lo) (n := (n - lo).toNat) (fun k σ1 H1 => ∃ e1 r1 G1 M1, I k e1 r1 ∧ Stp G0 M0 H0 G1 M1 H1 ∧ EnvO K H0 G1 M1 H1 σ1 e1 ∧ Wf R G1 M1 H1 r1)
      ⟨e, r, G', M', h0, s0, v.step s', w'⟩ ?_ ?_
    · rintro k σ1 H1 hk ⟨e1, r1, G1, M1, p, s1, v1, w1⟩
      exact hs k e1 r1 (by omega) p G0 M0 H0 _ G1 M1 H1 _ s1 (v1.setD (.int _)) w1
        ⟨fun e2 r2 σ2 G2 M2 H2 p2 s2 v2 w2 => ⟨e2, r2, G2, M2, p2, s2, v2, w2⟩, q.rt, q.nx, fun e2 r2 σ2 G2 M2 H2 p2 s2 v2 w2 => ⟨e2, r2, G2, M2, p2, s2, v2, w2⟩, q.ex, q.fr⟩
    · rintro σ1 H1 ⟨e1, r1, G1, M1, p, s1, v1, w1⟩
      exact q.nx e1 r1 σ1 G1 M1 H1 (hd e1 r1 p) s1 v1 w1
theorem it_r1 {ta : TA} {n : Int} (h : EvA K R ta e r [.int n]) (h1 : -(2 ^ 62) ≤ n) (h2 : n < 2 ^ 62) (B : Hp) (σ : St) (G M H : Hp) (v : EnvO K B G M H σ e) (w : Wf R G M H r) (Q : It → Hp → Prop)
    (q : ∀ G' M' H', Stp G M H G' M' H' → Wf R G' M' H' r → Q (Itr 0 (n - 0).toNat) H') : iRng1 ta σ H Q :=
  h B σ G M H v w _ fun vs G' M' H' s w' hv => by
    obtain ⟨x, ws, rfl, g1, g2⟩ := hv.cons_inv
    rw [g2.nil_inv, g1.int_inv]
    refine ⟨n, rfl, h1, h2, ?_⟩
    have z := q G' M' H' s w'
    rw [Int.sub_zero] at z
    exact z
theorem it_r2 {ta : TA} {lo n : Int} (h : EvA K R ta e r [.int lo, .int n]) (h1 : -(2 ^ 62) ≤ lo ∧ lo < 2 ^ 62 ∧ -(2 ^ 62) ≤ n ∧ n < 2 ^ 62) (B : Hp) (σ : St) (G M H : Hp) (v : EnvO K B G M H σ e) (w : Wf R G M H r) (Q : It → Hp → Prop)
    (q : ∀ G' M' H', Stp G M H G' M' H' → Wf R G' M' H' r → Q (Itr lo (n - lo).toNat) H') : iRng2 ta σ H Q :=
  h B σ G M H v w _ fun vs G' M' H' s w' hv => by
    obtain ⟨x, ws, rfl, g1, g2⟩ := hv.cons_inv
    obtain ⟨y, us, rfl, g3, g4⟩ := g2.cons_inv
    rw [g4.nil_inv, g1.int_inv, g3.int_inv]
    exact ⟨lo, n, rfl, h1, q G' M' H' s w'⟩
/-- for k in range(n) -/
theorem sp_forR1 {i : Nat} {ta : TA} {n : Int} (h : EvA K R ta e r [.int n]) (h1 : -(2 ^ 62) ≤ n ∧ n < 2 ^ 62) (I : Nat → SE → ρ → Prop) (h0 : I 0 e r)
    (hs : ∀ (k : Nat) e' r', (k : Int) < n → I k e' r' → SP K R E tu (e'.set i (.dat (.int (k : Int)))) r' ⟨I (k + 1), P.rt, P.nx, I (k + 1), P.ex, P.fr⟩) (hd : ∀ e' r', I n.toNat e' r' → P.nx e' r') : SP K R E (tFor (iRng1 ta) (gName i) tu) e r P :=
  sp_forR (lo := 0) (it_r1 h h1.1 h1.2) I h0 (fun k e' r' hk p => by
    have z := hs k e' r' (by omega) p
    rw [← Int.zero_add (k : Int)] at z
    exact z) (by rw [Int.sub_zero]; exact hd)
/-- for k in range(lo, n) -/
theorem sp_forR2 {i : Nat} {ta : TA} {lo n : Int} (h : EvA K R ta e r [.int lo, .int n]) (h1 : -(2 ^ 62) ≤ lo ∧ lo < 2 ^ 62 ∧ -(2 ^ 62) ≤ n ∧ n < 2 ^ 62) (I : Nat → SE → ρ → Prop) (h0 : I 0 e r)
    (hs : ∀ (k : Nat) e' r', lo + (k : Int) < n → I k e' r' → SP K R E tu (e'.set i (.dat (.int (lo + (k : Int))))) r' ⟨I (k + 1), P.rt, P.nx, I (k + 1), P.ex, P.fr⟩) (hd : ∀ e' r', I (n - lo).toNat e' r' → P.nx e' r') : SP K R E (tFor (iRng2 ta) (gName i) tu) e r P :=
  sp_forR (it_r2 h h1) I h0 hs hd
/-- a loop, then the rest -/
theorem sp_while (I : Nat → SE → ρ → Prop) (m0 : Nat) (h0 : I m0 e r)
    (hs : ∀ m e' r', I m e' r' → ∃ b, EvT K R t e' r' b ∧ (b = true → SP K R E tu e' r' ⟨fun e2 r2 => ∃ m', m' < m ∧ I m' e2 r2, P.rt, P.nx, fun e2 r2 => ∃ m', m' < m ∧ I m' e2 r2, P.ex, P.fr⟩) ∧ (b = false → P.nx e' r')) : SP K R E (tWhile t tu) e r P := fun G0 M0 H0 σ G M H D s v w q => by
  refine ⟨fun m σ1 H1 => ∃ e1 r1 G1 M1, I m e1 r1 ∧ Stp G0 M0 H0 G1 M1 H1 ∧ EnvO K H0 G1 M1 H1 σ1 e1 ∧ Wf R G1 M1 H1 r1, ⟨m0, e, r, G, M, h0, s, v, w⟩, ?_⟩
  rintro m σ1 H1 ⟨e1, r1, G1, M1, p, s1, v1, w1⟩
  obtain ⟨b, hb, h1, h2⟩ := hs m e1 r1 p
  refine hb H0 σ1 G1 M1 H1 v1 w1 _ fun b' r' G2 M2 H2 ⟨e3, e4⟩ s2 w2 => ?_
  subst e3 e4
  cases b' with
  | true =>
    refine ⟨fun σ3 H3 => ∃ e3 r3 G3 M3, (∃ m', m' < m ∧ I m' e3 r3) ∧ Stp G0 M0 H0 G3 M3 H3 ∧ EnvO K H0 G3 M3 H3 σ3 e3 ∧ Wf R G3 M3 H3 r3, fun σ3 H3 ⟨e3, r3, G3, M3, ⟨m', l, p'⟩, s3, v3, w3⟩ => ⟨m', l, e3, r3, G3, M3, p', s3, v3, w3⟩, ?_⟩
    exact h1 rfl G0 M0 H0 σ1 G2 M2 H2 _ (s1.trans s2) (v1.step s2) w2
      ⟨fun e3 r3 σ3 G3 M3 H3 p3 s3 v3 w3 => ⟨e3, r3, G3, M3, p3, s3, v3, w3⟩, q.rt, q.nx, fun e3 r3 σ3 G3 M3 H3 p3 s3 v3 w3 => ⟨e3, r3, G3, M3, p3, s3, v3, w3⟩, q.ex, q.fr⟩
  | false => exact q.nx e1 _ σ1 G2 M2 H2 (h2 rfl) (s1.trans s2) (v1.step s2) w2

/-! ### comprehensions -/
/-- the state of a comprehension: the new list at D so far -/
def Cs (K : PySem.W.Frag) {ρ : Type} (R : ρ → Hp → Hp → Prop) (G M H : Hp) (r : ρ) (D : Addr) (ds : List PyData) (H' : Hp) : Prop :=
  ∃ G' M' vs, Stp G M H G' M' H' ∧ Wf R G' M' H' r ∧ H D = none ∧ G' D = none ∧ M' D = none ∧ H' D = some (.lst vs) ∧ RpAll K G' vs ds
theorem cs_turn {B G M H H' : Hp} {σ2 : St} {e2 : SE} {D : Addr} {b : Bool} {Pn : Hp → Prop} (c : Cs K R G M H r D ds H') (hl : ds.length < sizeLine) (v : ∀ G' M' H', Stp G M H G' M' H' → EnvO K B G' M' H' σ2 e2)
    (ht : EvT K R t e2 r b) (he : b = true → EvD K R te e2 r d) (h1 : b = true → ∀ H', Cs K R G M H r D (ds ++ [d]) H' → Pn H') (h2 : b = false → ∀ H', Cs K R G M H r D ds H' → Pn H') :
    t σ2 H' fun b H3 => if b = true then te σ2 H3 fun y H4 => ∃ acc, H4 D = some (.lst acc) ∧ acc.length < sizeLine ∧ Pn (upd H4 D (.lst (acc ++ [y]))) else Pn H3 := by
  obtain ⟨G', M', vs, s, w, h0, g0, m0, hD, hv⟩ := c
  refine ht B σ2 G' M' H' (v _ _ _ s) w _ fun b' r' G2 M2 H2 ⟨e1, e2'⟩ s2 w2 => ?_
  subst e1 e2'
  have hD2 := s2.fr D _ hD m0
  have gD2 := s2.ng D (some_ne hD) g0
  have mD2 := s2.nm D (some_ne hD) m0
  have s02 := s.trans s2
  cases b' with
  | true =>
    show te σ2 H2 _
    refine he rfl B σ2 G2 M2 H2 (v _ _ _ s02) w2 _ fun y d' r'' G3 M3 H3 ⟨e1, e2'⟩ s3 w3 hy => ?_
    subst e1 e2'
    have hD3 := s3.fr D _ hD2 mD2
    have gD3 := s3.ng D (some_ne hD2) gD2
    have mD3 := s3.nm D (some_ne hD2) mD2
    refine ⟨vs, hD3, by rw [hv.length]; exact hl, h1 rfl _ ⟨G3, M3, vs ++ [y], (s02.trans s3).hid h0 _, w3.hid gD3 mD3 _, h0, gD3, mD3, upd_same, ?_⟩⟩
    exact (hv.mono (s2.gg.trans s3.gg)).append (.one hy)
  | false =>
    show Pn H2
    exact h2 rfl _ ⟨G2, M2, vs, s02, w2, h0, gD2, mD2, hD2, hv.mono s2.gg⟩
def lcOut (p : PyData → Bool) (f : PyData → PyData) (its : List PyData) : List PyData := (its.filter p).map f
theorem lcOut_succ {p : PyData → Bool} {f : PyData → PyData} {its : List PyData} {i : Nat} (h : its[i]? = some d) : lcOut p f (its.take (i + 1)) = if p d = true then lcOut p f (its.take i) ++ [f d] else lcOut p f (its.take i) := by
  unfold lcOut
  rw [List.take_add_one, h, List.filter_append, List.map_append]
  by_cases hp : p d = true
  · rw [if_pos hp]
    simp [hp]
  · rw [if_neg hp]
    simp [hp]
theorem lcOut_len {p : PyData → Bool} {f : PyData → PyData} (its : List PyData) (i : Nat) : (lcOut p f (its.take i)).length ≤ its.length := by
  unfold lcOut
  rw [List.length_map]
  refine Nat.le_trans (List.length_filter_le _ _) ?_
  rw [List.length_take]
  omega
theorem wipe_back {σ : St} {j : Nat} {x : V} : wipe ((wipe σ [j]).set j (some x)) [j] = wipe σ [j] := by
  show ((σ.set j none).set j (some x)).set j none = σ.set j none
  rw [List.set_set, List.set_set]
theorem wipe_set {σ : St} {j : Nat} {x : V} : (wipe σ [j]).set j (some x) = σ.set j (some x) := by
  show (σ.set j none).set j (some x) = σ.set j (some x)
  rw [List.set_set]
/-- [f(x) for x in xs if p(x)] -/
theorem evf_lcL {its : List PyData} {tl : TE} {j : Nat} (p : PyData → Bool) (f : PyData → PyData) (h : EvD K R tl e r (.list its)) (hz : its.length < sizeLine)
    (ht : ∀ d, d ∈ its → EvT K R t (e.set j (.dat d)) r (p d)) (he : ∀ d, d ∈ its → p d = true → EvD K R te (e.set j (.dat d)) r (f d)) :
    EvF K R (tLc (iList K tl) (gName j) t te [j]) e r (lcOut p f its) := fun B σ G M H v w Q q =>
  h B σ G M H v w _ fun x d r' G1 M1 H1 ⟨e1, e2⟩ s1 w1 hx => by
    subst e1 e2
    obtain ⟨a, xs, rfl, ha, rr⟩ := hx.lst_inv
    refine ⟨a, rfl, ⟨xs, SqL.of (w1.gh _ _ ha)⟩, fun D hD => ?_⟩
    refine lc_list (K := K) (a := a) (xs := xs) (fun i H' => Cs K R G1 M1 H1 r' D (lcOut p f (its.take i)) H') ⟨G1, M1, [], (Stp.refl _ _ _).hid hD _, w1.hid (w1.gn hD) (w1.mn hD) _, hD, w1.gn hD, w1.mn hD, upd_same, .nil⟩ ?_ ?_ ?_
    · rintro i H' _ ⟨G', M', vs, s', w', _⟩
      exact SqL.of (w'.gh _ _ (s'.gg _ _ ha))
    · intro i y H' hy c
      obtain ⟨d, hd, ry⟩ := rr.of_get hy
      have hm : d ∈ its := List.mem_of_getElem? hd
      show wipe ((wipe σ [j]).set j (some y)) [j] = wipe σ [j] ∧ _
      rw [wipe_back, wipe_set]
      refine ⟨rfl, ?_⟩
      refine cs_turn (B := B) (e2 := e.set j (.dat d)) (d := f d) (b := p d) c (Nat.lt_of_le_of_lt (lcOut_len its i) hz) (fun G' M' H' s => ((v.step s1).step s).setD (ry.mono s.gg)) (ht d hm) (he d hm) ?_ ?_
      · intro hp H'' c'
        rw [lcOut_succ hd, if_pos hp]
        exact c'
      · intro hp H'' c'
        rw [lcOut_succ hd, if_neg (by rw [hp]; decide)]
        exact c'
    · rintro H' ⟨G', M', vs, s', w', h0, g0, m0, hD', hv⟩
      rw [rr.length, List.take_length] at hv
      exact q D vs G' M' H' (s1.trans s') w' (free_back s1 h0) g0 m0 hD' hv
def rgD (n : Nat) : List PyData := (List.range n).map fun (k : Nat) => PyData.int (k : Int)
theorem rgD_len (n : Nat) : (rgD n).length = n := by unfold rgD; rw [List.length_map, List.length_range]
theorem rgD_get {n i : Nat} (h : i < n) : (rgD n)[i]? = some (.int (i : Int)) := by unfold rgD; rw [List.getElem?_map, List.getElem?_range h]; rfl
/-- [f(k) for k in range(n) if p(k)] -/
theorem evf_lcR1 {ta : TA} {j : Nat} {n : Int} (p : PyData → Bool) (f : PyData → PyData) (h : EvA K R ta e r [.int n]) (h1 : -(2 ^ 62) ≤ n) (hz : n < 16777216)
    (ht : ∀ k : Nat, (k : Int) < n → EvT K R t (e.set j (.dat (.int (k : Int)))) r (p (.int k))) (he : ∀ k : Nat, (k : Int) < n → p (.int k) = true → EvD K R te (e.set j (.dat (.int (k : Int)))) r (f (.int k))) :
    EvF K R (tLc (iRng1 ta) (gName j) t te [j]) e r (lcOut p f (rgD n.toNat)) := fun B σ G M H v w Q q =>
  it_r1 h h1 (by omega) B σ G M H v w _ fun G1 M1 H1 s1 w1 D hD => by
    have en : (n - 0).toNat = n.toNat := by rw [Int.sub_zero]
    rw [en]
    refine lc_range (lo := 0) (n := n.toNat) (fun i H' => Cs K R G1 M1 H1 r D (lcOut p f ((rgD n.toNat).take i)) H') ⟨G1, M1, [], (Stp.refl _ _ _).hid hD _, w1.hid (w1.gn hD) (w1.mn hD) _, hD, w1.gn hD, w1.mn hD, upd_same, .nil⟩ ?_ ?_
    · intro i H' hi c
      have hk : (i : Int) < n := by omega
      have hd := rgD_get hi
      rw [Int.zero_add]
      show wipe ((wipe σ [j]).set j (some (.int (i : Int)))) [j] = wipe σ [j] ∧ _
      rw [wipe_back, wipe_set]
      refine ⟨rfl, ?_⟩
      refine cs_turn (B := B) (e2 := e.set j (.dat (.int (i : Int)))) (d := f (.int i)) (b := p (.int i)) c (Nat.lt_of_le_of_lt (lcOut_len _ i) (by rw [rgD_len, sizeLine_eq]; omega)) (fun G' M' H' s => ((v.step s1).step s).setD (.int _)) (ht i hk) (he i hk) ?_ ?_
      · intro hp H'' c'
        rw [lcOut_succ hd, if_pos hp]
        exact c'
      · intro hp H'' c'
        rw [lcOut_succ hd, if_neg (by rw [hp]; decide)]
        exact c'
    · rintro H' ⟨G', M', vs, s', w', h0, g0, m0, hD', hv⟩
      rw [List.take_of_length_le (by rw [rgD_len]; exact Nat.le_refl _)] at hv
      exact q D vs G' M' H' (s1.trans s') w' (free_back s1 h0) g0 m0 hD' hv
/-- list(range(n)) -/
theorem evf_listRg {n : Int} (h : EvD K R te e r (.int n)) (h0 : 0 ≤ n) (h1 : n ≤ 16777216) : EvF K R (tLstRg (tRg1 te)) e r (rgD n.toNat) := fun B σ G M H v w Q q =>
  h B σ G M H v w _ fun x d r' G1 M1 H1 ⟨e1, e2⟩ s1 w1 hx => by
    subst e1 e2
    refine ⟨n, hx.int_inv, .of_le (Int.le_refl _) h1 (by decide) h0, fun p hp => ?_⟩
    refine q p _ G1 M1 _ (s1.hid (free_back s1 hp) _) (w1.hid (w1.gn hp) (w1.mn hp) _) (free_back s1 hp) (w1.gn hp) (w1.mn hp) upd_same ?_
    have : rgV 0 n = ((List.range n.toNat).map fun (k : Nat) => (k : Int)).map V.int := by
      unfold rgV
      rw [Int.sub_zero, List.map_map]
      refine List.map_congr_left fun k _ => ?_
      show V.int (0 + (k : Int)) = V.int k
      rw [Int.zero_add]
    rw [this]
    have e : rgD n.toNat = ((List.range n.toNat).map fun (k : Nat) => (k : Int)).map PyData.int := by unfold rgD; rw [List.map_map]; rfl
    rw [e]
    exact RpAll.of_ints _
/-- sep.join(xs) -/
theorem ev_join {to : TE} {a : Str} {ys : List Str} (ho : EvD K R to e r (.str a)) (h : EvD K R te e r (.list (ys.map PyData.str))) (hz : (ys.map (·.length)).sum + ys.length * a.length ≤ 16777216) :
    EvD K R (tM1 (fun x xs H Q => ∃ a p, ∃ ys : List Str, x = .str a ∧ xs = [.ref p] ∧ (SqL K H p (ys.map V.str) ∨ SqT K H p (ys.map V.str)) ∧ (ys.map (·.length)).sum + ys.length * a.length ≤ 16777216 ∧ Q (.str (Txt.join a ys)) H) to te) e r (.str (Txt.join a ys)) := fun B σ G M H v w Q q =>
  ho B σ G M H v w _ fun x d r' G1 M1 H1 ⟨e1, e2⟩ s1 w1 hx => by
    subst e1 e2
    refine ⟨⟨a, hx.str_inv⟩, h B σ G1 M1 H1 (v.step s1) w1 _ fun y d r' G2 M2 H2 ⟨e1, e2⟩ s2 w2 hy => ?_⟩
    subst e1 e2
    obtain ⟨p, xs, rfl, hp, rr⟩ := hy.lst_inv
    refine ⟨a, p, ys, hx.str_inv, rfl, .inl (SqL.of (w2.gh _ _ ?_)), hz, q _ _ _ G2 M2 H2 ⟨rfl, rfl⟩ (s1.trans s2) w2 (.str _)⟩
    rw [← rr.strs]
    exact hp
end

/-! ### a pure def -/
/-- M stays as it is -/
def RM (M0 : Hp) : Unit → Hp → Hp → Prop := fun _ _ M => M = M0
instance {M0 : Hp} : Stab (RM M0) := ⟨fun _ _ _ _ _ _ h => h⟩
def startE (ds : List PyData) (n : Nat) : SE := ds.map Sk.dat ++ List.replicate n Sk.hid
section
variable {P : Program} {w : World} {K : PySem.W.Frag} {mg : Str → Option Value} {base : Heap}
theorem env_start {B G M H : Hp} {vs : List V} {ds : List PyData} {n : Nat} (h : RpAll K G vs ds) : EnvO K B G M H (vs.map some ++ List.replicate n none) (startE ds n) := by
  have own : ∀ (i : Nat) es, (startE ds n)[i]? ≠ some (.own es) := fun i es q => by
    unfold startE at q
    rcases List.mem_append.mp (List.mem_of_getElem? q) with m | m
    · obtain ⟨d, _, e⟩ := List.mem_map.mp m
      cases e
    · cases (List.mem_replicate.mp m).2
  refine ⟨by unfold startE; simp [h.length], fun i d q => ?_, fun i es q => absurd q (own i es), fun i j es fs l q => absurd q (own i es)⟩
  unfold startE at q
  by_cases hi : i < (ds.map Sk.dat).length
  · rw [List.getElem?_append_left hi, List.getElem?_map] at q
    cases z : ds[i]? with
    | none => rw [z] at q; cases q
    | some d' =>
      rw [z] at q
      have q : some (Sk.dat d') = some (Sk.dat d) := q
      injection q with q
      injection q with q
      subst q
      obtain ⟨v, e1, e2⟩ := h.get z
      have hv : i < (vs.map some).length := by rw [List.length_map, h.length]; simpa using hi
      exact ⟨v, by rw [List.getElem?_append_left hv, List.getElem?_map, e1]; rfl, e2⟩
  · rw [List.getElem?_append_right (by omega)] at q
    cases (List.mem_replicate.mp (List.mem_of_getElem? q)).2
/-- a pure def keeps its promise -/
theorem ok_pure {x qual : Str} {st : Stmt} {f : Addr} {fd : FuncData} {N ps : List Str} {k : Nat} {α : Type} {args : α → List PyData} {pre : α → Prop} {res : α → PyData → Prop} (F : Fun K x qual st f fd) (S : FnScope N ps (defScope st))
    (len : ∀ a, (args a).length = ps.length)
    (body : ∀ (cdv : Value) (A : Around) (outer : List Env) (s : Shared) (H : Hp) (E : XK), Room k (A.deeper (PyProof.Rows.envOfC qual (defScope st) s.heap.objs.size f cdv)) →
      ∃ t, PSs (cxOf CX0 P w K mg base N qual (defScope st) f cdv A outer s H E).nox (defBody st) t ∧ ∀ (M0 : Hp) a, pre a → SP K (RM M0) E0 t (startE (args a) (N.length - ps.length)) () ⟨fun _ _ => res a .none, fun d _ => res a d, fun _ _ => False, fun _ _ => False, fun _ _ => False, fun _ _ => False⟩) :
    FnOk P w K mg base CX0 (k + 1) f fd ps (spD K args pre res) := by
  refine F.ok S (fun vs H Q E h => ?_) (fun cdv A outer s H vs Q E hr h => ?_)
  · obtain ⟨G, M, a, p, hv, hp, _⟩ := h
    rw [hv.length]
    exact len a
  · obtain ⟨t, ht, hb⟩ := body cdv A outer s H E hr
    refine ⟨t, ht, ?_⟩
    obtain ⟨G, M, a, p, hv, hp, q⟩ := h
    have hs : L2.start N vs = vs.map some ++ List.replicate (N.length - ps.length) none := by unfold L2.start; rw [hv.length, len a]
    rw [hs]
    refine hb M a hp G M H _ G M H _ (Stp.refl _ _ _) (env_start hv) ⟨p.1, p.2.1, p.2.2, rfl⟩ ⟨?_, ?_, fun _ _ _ _ _ _ z => z.elim, fun _ _ _ _ _ _ z => z.elim, fun _ _ _ _ _ z => z.elim, fun _ _ _ _ _ _ _ z => z.elim⟩
    · intro e r σ G' M' H' hp' s' v' w'
      have e1 : M' = M := w'.res
      subst e1
      exact q .non .none G' H' hp' ⟨s', w'.gh, w'.mh, w'.dj⟩ .non
    · intro d r v G' M' H' hp' s' w' hx
      have e1 : M' = M := w'.res
      subst e1
      exact q v d G' H' hp' ⟨s', w'.gh, w'.mh, w'.dj⟩ hx
/-- where a def stands -/
structure DefAt (K : PySem.W.Frag) (mg : Str → Option Value) (x qual : Str) (st : Stmt) (ps : List Str) where
  a : Addr
  fd : FuncData
  F : Fun K x qual st a fd
  b : Binds K fd ps []
  g : mg x = some (.ref a)
/-- where a method stands -/
structure MethAt (K : PySem.W.Frag) (C : Addr) (m qual : Str) (st : Stmt) (ps : List Str) where
  a : Addr
  fd : FuncData
  F : Fun K m qual st a fd
  b : Binds K fd ps []
  m : Meth K C m a
/-- the law's own promise -/
def spLaw (K : PySem.W.Frag) : Sp := fun vs H Q _ => ∃ (a : Addr) (ns : List Int), vs = [.ref a] ∧ SqL K H a (ns.map V.int) ∧ ns.length ≤ 63 ∧ ∀ H', Q (.bl true) H'
abbrev spTrue (K : PySem.W.Frag) : Sp := spF K (fun ns : List Int => [scrD ns]) (fun ns => ns.length ≤ 63) (fun _ => .bool true)
theorem spLaw_of {f : Addr} {fd : FuncData} {k : Nat} {ps : List Str} (F : FnOk P w K mg base CX0 k f fd ps (spTrue K)) : FnOk P w K mg base CX0 k f fd ps (spLaw K) :=
  F.imp fun vs H Q E ⟨a, ns, e, hs, hl, q⟩ => by
    subst e
    refine ⟨H, fun _ => none, ns, ⟨Same.refl _, (fun b o h => by cases h), (fun b h => absurd rfl h)⟩, .one (.scr hs), hl, fun v d G' H' hd _ hx => ?_⟩
    subst hd
    rw [hx.bl_inv]
    exact q H'
end
end Fw

/-! Rows of entries as data, words, numbers drawn: plain Lean. -/
namespace Fw
open PySem L2
open PySem.PyData (strOk)
abbrev Ent := Int × Str
def entD (e : Ent) : PyData := .tuple [.int e.1, .str e.2]
def rowD (es : List Ent) : PyData := .list (es.map entD)
def wOk (x : Str) : Prop := strOk x = true ∧ x.length ≤ 129
def rowOk (es : List Ent) : Prop := ∀ e ∈ es, strOk e.2 = true
theorem rowOk_nil : rowOk [] := fun _ h => nomatch h
theorem rowOk_append {a b : List Ent} (h : rowOk a) (g : rowOk b) : rowOk (a ++ b) := fun e he => (List.mem_append.mp he).elim (h e) (g e)
theorem rowOk_sub {a b : List Ent} (h : rowOk b) (s : ∀ e ∈ a, e ∈ b) : rowOk a := fun e he => h e (s e he)
theorem rowOk_one {e : Ent} (h : strOk e.2 = true) : rowOk [e] := fun x hx => by rw [List.mem_singleton.mp hx]; exact h
theorem plain_rows : ∀ es : List Ent, plainAll (es.map entD) = true
  | [] => rfl
  | e :: es => by
    show (plainD (entD e) && plainAll (es.map entD)) = true
    rw [plain_rows es]; rfl
theorem plain_row (es : List Ent) : plainD (rowD es) = true := plain_rows es
theorem canLay_rows : ∀ es : List Ent, rowOk es → PyData.canLayAll0 (es.map entD) = true
  | [], _ => rfl
  | e :: es, h => by
    show (PyData.canLay0 (entD e) && PyData.canLayAll0 (es.map entD)) = true
    rw [canLay_rows es fun x hx => h x (List.mem_cons_of_mem _ hx)]
    have : strOk e.2 = true := h e List.mem_cons_self
    show (true && (strOk e.2 && true) && true) = true
    rw [this]; rfl
theorem depth_rows : ∀ es : List Ent, PyData.depthAll (es.map entD) ≤ 1
  | [] => Nat.zero_le _
  | e :: es => by
    show max (PyData.depth (entD e)) (PyData.depthAll (es.map entD)) ≤ 1
    have h1 := depth_rows es
    have h2 : PyData.depth (entD e) = 1 := rfl
    rw [h2]
    omega
theorem shaped_row {es : List Ent} (h : rowOk es) : SeqAt.shaped (rowD es) = true := by
  unfold SeqAt.shaped
  rw [Bool.and_eq_true]
  refine ⟨canLay_rows es h, decide_eq_true ?_⟩
  show PyData.depthAll (es.map entD) + 1 ≤ 64
  have := depth_rows es
  omega
theorem eqv_ent (a b : Ent) : PyData.eqv (entD a) (entD b) = decide (a = b) := by
  obtain ⟨i, x⟩ := a
  obtain ⟨j, y⟩ := b
  show (i == j && (x == y && true)) = _
  by_cases h1 : i = j
  · subst h1
    by_cases h2 : x = y
    · subst h2; simp
    · simp [h2]
  · simp [h1]
theorem eqv_rows : ∀ a b : List Ent, PyData.eqvAll (a.map entD) (b.map entD) = decide (a = b)
  | [], [] => rfl
  | [], _ :: _ => rfl
  | _ :: _, [] => rfl
  | x :: a, y :: b => by
    show (PyData.eqv (entD x) (entD y) && PyData.eqvAll (a.map entD) (b.map entD)) = _
    rw [eqv_ent, eqv_rows a b]
    by_cases h1 : x = y
    · subst h1
      by_cases h2 : a = b
      · subst h2; simp
      · simp [h2]
    · simp [h1]
theorem eqv_row (a b : List Ent) : PyData.eqv (rowD a) (rowD b) = decide (a = b) := eqv_rows a b
theorem rowD_nil : PyData.list [] = rowD [] := rfl
section
variable {K : PySem.W.Frag}
theorem opEqR {a b : List Ent} (h1 : rowOk a) (h2 : rowOk b) : OpD K (rEqD K) (rowD a) (rowD b) (.bool (decide (a = b))) := by
  rw [← eqv_row]
  exact opEqD (plain_row a) (plain_row b) (shaped_row h1) (shaped_row h2)
theorem opNeR {a b : List Ent} (h1 : rowOk a) (h2 : rowOk b) : OpD K (rNeD K) (rowD a) (rowD b) (.bool (!decide (a = b))) := by
  rw [← eqv_row]
  exact opNeD (plain_row a) (plain_row b) (shaped_row h1) (shaped_row h2)
end
/-- the last term -/
def lastT (es : List Ent) : Int := match es.getLast? with
  | none => 0
  | some e => e.1
def asNew (a b : List Ent) : Bool := if lastT a ≠ lastT b then decide (lastT b < lastT a) else decide (b.length ≤ a.length)
theorem lastT_nil : lastT [] = 0 := rfl
theorem lastT_snoc (es : List Ent) (e : Ent) : lastT (es ++ [e]) = e.1 := by unfold lastT; rw [List.getLast?_concat]
theorem atI_row {es : List Ent} {i : Nat} {e : Ent} (h : es[i]? = some e) : L2.atI (es.map entD) (i : Int) = some (entD e) := atI_nat (by rw [List.getElem?_map, h]; rfl)
theorem atI_rowLast {es : List Ent} (h : es ≠ []) : ∃ e, L2.atI (es.map entD) (-1) = some (entD e) ∧ lastT es = e.1 := by
  obtain ⟨e, he⟩ : ∃ e, es.getLast? = some e := by
    cases q : es.getLast? with
    | none => exact absurd (List.getLast?_eq_none_iff.mp q) h
    | some e => exact ⟨e, rfl⟩
  obtain ⟨ys, rfl⟩ := List.getLast?_eq_some_iff.mp he
  exact ⟨e, by rw [List.map_append]; exact atI_last _ _, lastT_snoc ys e⟩

/-! ### numbers -/
def cellAt (ns : List Int) (k : Int) : Int := if k < ns.length then ns.getD k.toNat 0 else 0
def mixed (ns : List Int) (k : Int) : Int :=
  ((cellAt ns k + 7919 * k) * 48271 % 2147483647 * ((cellAt ns k + 7919 * k) * 48271 % 2147483647) + 7 * ((cellAt ns k + 7919 * k) * 48271 % 2147483647) + k) % 2147483629
theorem mixed_rng (ns : List Int) (k : Int) : 0 ≤ mixed ns k ∧ mixed ns k < 2147483629 := ⟨Int.emod_nonneg _ (by decide), Int.emod_lt_of_pos _ (by decide)⟩
theorem atI_cell {ns : List Int} {k : Int} (h0 : 0 ≤ k) (h : k < ns.length) : L2.atI ns k = some (ns.getD k.toNat 0) := by
  have e : k = (k.toNat : Int) := by omega
  have hl : k.toNat < ns.length := by omega
  have := atI_nat (xs := ns) (j := k.toNat) (v := ns.getD k.toNat 0) (by rw [List.getD_eq_getElem?_getD, List.getElem?_eq_getElem hl]; rfl)
  rw [← e] at this
  exact this
/-! ### words -/
def alphaA : Str := (" !\"#$&'()*+,-./0123456789:;<=>?@ABCDEFGHIJKLMNOPQRSTUVWXYZ[\\]^_`" : String)
def alphaB : Str := ("abcdefghijklmnopqrstuvwxyz{|}~" : String)
def alpha : Str := alphaA ++ alphaB
theorem alpha_len : alpha.cps.toList.length = 94 := by decide +kernel
theorem alpha_small : alpha.length ≤ sizeLine := by rw [sizeLine_eq]; decide +kernel
theorem alphaA_len : alphaA.length + alphaB.length ≤ sizeLine := by rw [sizeLine_eq]; decide +kernel
theorem alpha_all : alpha.cps.toList.all (fun c => decide (c < 0x110000)) = true := by decide +kernel
def signBy (n : Int) : Str := ⟨#[alpha.cps.toList.getD (n % 94).toNat 0]⟩
theorem sign_at (n : Int) : L2.atI alpha.cps.toList (n % 94) = some (alpha.cps.toList.getD (n % 94).toNat 0) := by
  have h0 : 0 ≤ n % 94 := Int.emod_nonneg _ (by decide)
  have h1 : n % 94 < 94 := Int.emod_lt_of_pos _ (by decide)
  have e : n % 94 = ((n % 94).toNat : Int) := by omega
  have hl : (n % 94).toNat < alpha.cps.toList.length := by rw [alpha_len]; omega
  have := atI_nat (xs := alpha.cps.toList) (j := (n % 94).toNat) (v := alpha.cps.toList.getD (n % 94).toNat 0) (by rw [List.getD_eq_getElem?_getD, List.getElem?_eq_getElem hl]; rfl)
  rw [← e] at this
  exact this
theorem signBy_len (n : Int) : (signBy n).length = 1 := rfl
theorem signBy_ok (n : Int) : strOk (signBy n) = true := by
  have h1 : n % 94 < 94 := Int.emod_lt_of_pos _ (by decide)
  have h0 : 0 ≤ n % 94 := Int.emod_nonneg _ (by decide)
  have hl : (n % 94).toNat < alpha.cps.toList.length := by rw [alpha_len]; omega
  have hm : alpha.cps.toList.getD (n % 94).toNat 0 ∈ alpha.cps.toList := by
    rw [List.getD_eq_getElem?_getD, List.getElem?_eq_getElem hl]
    exact List.getElem_mem hl
  have := List.all_eq_true.mp alpha_all _ hm
  unfold strOk signBy
  simp only [List.all_toArray, List.all_cons, List.all_nil, Bool.and_true]
  exact this
theorem strOk_append {a b : Str} (h1 : strOk a = true) (h2 : strOk b = true) : strOk (a ++ b) = true := by
  show (a.cps ++ b.cps).all _ = true
  rw [Array.all_append]
  rw [show a.cps.all _ = true from h1, show b.cps.all _ = true from h2]
  rfl
theorem len_append (a b : Str) : (a ++ b).length = a.length + b.length := by
  show (a.cps ++ b.cps).size = _
  rw [Array.size_append]; rfl
theorem join_ok : ∀ ys : List Str, (∀ y ∈ ys, strOk y = true ∧ y.length = 1) → strOk (Str.join Str.empty ys) = true ∧ (Str.join Str.empty ys).length = ys.length
  | [], _ => ⟨by decide +kernel, rfl⟩
  | [x], h => h x List.mem_cons_self
  | x :: y :: r, h => by
    obtain ⟨h1, h2⟩ := join_ok (y :: r) fun z hz => h z (List.mem_cons_of_mem _ hz)
    obtain ⟨h3, h4⟩ := h x List.mem_cons_self
    have he : strOk Str.empty = true := by decide +kernel
    refine ⟨strOk_append (strOk_append h3 he) h1, ?_⟩
    show ((x ++ Str.empty) ++ Str.join Str.empty (y :: r)).length = _
    rw [len_append, len_append, h2, h4]
    show 1 + 0 + (y :: r).length = (x :: y :: r).length
    rw [List.length_cons (a := x)]
    omega
def wordSize (n : Int) : Int := if n / 4 % 9 = 1 then 10 + n / 36 % 120 else n % 4
theorem wordSize_rng (n : Int) : 0 ≤ wordSize n ∧ wordSize n ≤ 129 := by
  unfold wordSize
  split <;> omega
def wordSigns (n : Int) : List Str := (List.range (wordSize n).toNat).map fun (k : Nat) => signBy (n / 36 + 7 * (k : Int))
def emptyS : Str := ("" : String)
theorem emptyS_eq : emptyS = Str.empty := by decide +kernel
def wordBy (n : Int) : Str := Txt.join emptyS (wordSigns n)
theorem wordSigns_ok (n : Int) : ∀ y ∈ wordSigns n, strOk y = true ∧ y.length = 1 := fun y hy => by
  obtain ⟨k, _, rfl⟩ := List.mem_map.mp hy
  exact ⟨signBy_ok _, signBy_len _⟩
theorem wordSigns_len (n : Int) : (wordSigns n).length ≤ 129 := by
  unfold wordSigns
  rw [List.length_map, List.length_range]
  have := wordSize_rng n
  omega
theorem wordBy_ok (n : Int) : wOk (wordBy n) := by
  unfold wordBy wOk
  rw [emptyS_eq, TL.join_eq]
  obtain ⟨h1, h2⟩ := join_ok _ (wordSigns_ok n)
  exact ⟨h1, by rw [h2]; exact wordSigns_len n⟩
theorem wordSigns_fit (n : Int) : ((wordSigns n).map (·.length)).sum + (wordSigns n).length * emptyS.length ≤ 16777216 := by
  have h : ∀ ys : List Str, (∀ y ∈ ys, strOk y = true ∧ y.length = 1) → (ys.map (·.length)).sum = ys.length := fun ys => by
    induction ys with
    | nil => intro _; rfl
    | cons y r ih =>
      intro hy
      rw [List.map_cons, List.sum_cons, ih fun z hz => hy z (List.mem_cons_of_mem _ hz), (hy y List.mem_cons_self).2, List.length_cons]
      omega
  rw [h _ (wordSigns_ok n)]
  have := wordSigns_len n
  have e : emptyS.length = 0 := by rw [emptyS_eq]; rfl
  rw [e]
  omega
def entBy (n : Int) : Ent := (if n / 4 % 6 = 1 then 1 + n ^ 3 else 1 + n % 4, wordBy (n / 24))
theorem entBy_ok (n : Int) : strOk (entBy n).2 = true := (wordBy_ok _).1
def rowSize (n : Int) : Int := if n / 6 % 4 = 1 then n % 6 + 60 else n % 6
theorem rowSize_rng (n : Int) : 0 ≤ rowSize n ∧ rowSize n ≤ 65 := by
  unfold rowSize
  split <;> omega
def rowBy (ns : List Int) (at_ : Int) : List Ent := (List.range (rowSize (mixed ns at_)).toNat).map fun (k : Nat) => entBy (mixed ns (at_ + 2 + 3 * (k : Int)))
theorem rowBy_ok (ns : List Int) (a : Int) : rowOk (rowBy ns a) := fun e he => by
  obtain ⟨k, _, rfl⟩ := List.mem_map.mp he
  exact entBy_ok _
theorem rowBy_len (ns : List Int) (a : Int) : (rowBy ns a).length ≤ 65 := by
  unfold rowBy
  rw [List.length_map, List.length_range]
  have := rowSize_rng (mixed ns a)
  omega
theorem lcOut_all {f : PyData → PyData} (its : List PyData) : lcOut (fun _ => true) f its = its.map f := by
  unfold lcOut
  rw [List.filter_eq_self.mpr fun _ _ => rfl]
theorem rgD_map (n : Nat) (f : PyData → PyData) : (rgD n).map f = (List.range n).map fun (k : Nat) => f (.int (k : Int)) := by unfold rgD; rw [List.map_map]; rfl
end Fw
namespace Fw
open PySem L2
/-- whether the entry ahead of a place is there, and of a term -/
def agreesB (es : List Ent) (k t : Int) : Bool := if k = 0 then true else match es[(k - 1).toNat]? with
  | some e => decide (e.1 = t)
  | none => false
theorem agreesB_at {es : List Ent} {k t : Int} {e : Ent} (h0 : 0 < k) (h : es[(k - 1).toNat]? = some e) : agreesB es k t = decide (e.1 = t) := by
  unfold agreesB
  rw [if_neg (by omega), h]
theorem agreesB_out {es : List Ent} {k t : Int} (h0 : 0 < k) (h : (es.length : Int) < k) : agreesB es k t = false := by
  unfold agreesB
  rw [if_neg (by omega), List.getElem?_eq_none (by omega)]
theorem row_get {es : List Ent} {k : Int} (h0 : 0 < k) (h : k ≤ es.length) : ∃ e, es[(k - 1).toNat]? = some e ∧ L2.atI (es.map entD) (k - 1) = some (entD e) := by
  have hl : (k - 1).toNat < es.length := by omega
  refine ⟨es[(k - 1).toNat], List.getElem?_eq_getElem hl, ?_⟩
  have := atI_row (List.getElem?_eq_getElem hl)
  have e : ((k - 1).toNat : Int) = k - 1 := by omega
  rw [e] at this
  exact this
end Fw
namespace Fw
open PySem L2
/-! ### what more than half hold -/
def cnt (hs : List Int) (n : Int) : Nat := (hs.filter fun h => decide (n ≤ h)).length
def settledUp (es : List Ent) (t : Int) (hs : List Int) : Nat → Int
  | 0 => 0
  | n + 1 => if (hs.length : Int) < 2 * (cnt hs ((n : Int) + 1) : Int) ∧ (es[n]?.map (·.1)) = some t then (n : Int) + 1 else settledUp es t hs n
def settledBy (es : List Ent) (t : Int) (hs : List Int) : Int := settledUp es t hs es.length
def geD (n : Int) : PyData → Bool
  | .int h => decide (n ≤ h)
  | _ => false
theorem cnt_out (hs : List Int) (n : Int) : (lcOut (geD n) (fun d => d) (hs.map PyData.int)).length = cnt hs n := by
  unfold lcOut cnt
  rw [List.length_map, List.filter_map, List.length_map]; rfl
theorem cnt_nil (n : Int) : cnt [] n = 0 := rfl
theorem cnt_snoc (hs : List Int) (h n : Int) : cnt (hs ++ [h]) n = if n ≤ h then cnt hs n + 1 else cnt hs n := by
  unfold cnt
  rw [List.filter_append, List.length_append]
  by_cases q : n ≤ h
  · rw [if_pos q]; simp [q]
  · rw [if_neg q]; simp [q]
theorem cnt_le (hs : List Int) (n : Int) : cnt hs n ≤ hs.length := List.length_filter_le _ _
theorem settledUp_rng (es : List Ent) (t : Int) (hs : List Int) : ∀ n : Nat, 0 ≤ settledUp es t hs n ∧ settledUp es t hs n ≤ n
  | 0 => ⟨Int.le_refl _, Int.le_refl _⟩
  | n + 1 => by
    have := settledUp_rng es t hs n
    unfold settledUp
    split <;> omega
end Fw
namespace Fw
open PySem L2
def heldOne (ns : List Int) (size : Int) (k : Nat) : Int := if mixed ns (4 + 3 * (k : Int)) / 70 % 11 = 1 then 10 ^ 20 else mixed ns (4 + 3 * (k : Int)) % (size + 3)
def heldBy (ns : List Int) (size : Int) (n : Nat) : List Int := (List.range n).map (heldOne ns size)
theorem heldBy_succ (ns : List Int) (size : Int) (n : Nat) : heldBy ns size (n + 1) = heldBy ns size n ++ [heldOne ns size n] := by
  unfold heldBy
  rw [List.range_succ, List.map_append]; rfl
theorem heldBy_len (ns : List Int) (size : Int) (n : Nat) : (heldBy ns size n).length = n := by unfold heldBy; rw [List.length_map, List.length_range]
theorem plain_ints : ∀ hs : List Int, plainAll (hs.map PyData.int) = true
  | [] => rfl
  | e :: es => plain_ints es
theorem shaped_ints (hs : List Int) : SeqAt.shaped (.list (hs.map PyData.int)) = true := by
  unfold SeqAt.shaped
  have h1 : ∀ hs : List Int, PyData.canLayAll0 (hs.map PyData.int) = true := fun hs => by
    induction hs with
    | nil => rfl
    | cons h t ih => exact ih
  have h2 : ∀ hs : List Int, PyData.depthAll (hs.map PyData.int) = 0 := fun hs => by
    induction hs with
    | nil => rfl
    | cons h t ih =>
      show max 0 (PyData.depthAll (t.map PyData.int)) = 0
      rw [ih]; rfl
  rw [Bool.and_eq_true]
  refine ⟨h1 hs, decide_eq_true ?_⟩
  show PyData.depthAll (hs.map PyData.int) + 1 ≤ 64
  rw [h2]
  decide
theorem eqv_ints : ∀ a b : List Int, PyData.eqvAll (a.map PyData.int) (b.map PyData.int) = decide (a = b)
  | [], [] => rfl
  | [], _ :: _ => rfl
  | _ :: _, [] => rfl
  | x :: a, y :: b => by
    show ((x == y) && PyData.eqvAll (a.map PyData.int) (b.map PyData.int)) = _
    rw [eqv_ints a b]
    by_cases h1 : x = y
    · subst h1
      by_cases h2 : a = b
      · subst h2; simp
      · simp [h2]
    · simp [h1]
theorem opEqIs {K : PySem.W.Frag} {a b : List Int} : OpD K (rEqD K) (.list (a.map .int)) (.list (b.map .int)) (.bool (decide (a = b))) := by
  rw [← eqv_ints]
  exact opEqD (plain_ints a) (plain_ints b) (shaped_ints a) (shaped_ints b)
theorem opNeIs {K : PySem.W.Frag} {a b : List Int} : OpD K (rNeD K) (.list (a.map .int)) (.list (b.map .int)) (.bool (!decide (a = b))) := by
  rw [← eqv_ints]
  exact opNeD (plain_ints a) (plain_ints b) (shaped_ints a) (shaped_ints b)
end Fw

/-! Objects: a state is M itself and what is known of G; calls of defs that change it or raise. -/
namespace Fw
open PySem L2

structure MF where
  m : Hp
  f : V → PyData → Prop
def Rmf (K : PySem.W.Frag) : MF → Hp → Hp → Prop := fun r G M => M = r.m ∧ ∀ v d, r.f v d → Rp K G v d
instance {K : PySem.W.Frag} : Stab (Rmf K) := ⟨fun _ _ _ _ s _ h => ⟨h.1, fun v d q => (h.2 v d q).mono s⟩⟩
def VF (K : PySem.W.Frag) (r : MF) (v : V) (d : PyData) : Prop := ∀ G M, Rmf K r G M → Rp K G v d
section
variable {K : PySem.W.Frag} {r : MF}
theorem VF.int {i : Int} : VF K r (.int i) (.int i) := fun _ _ _ => .int i
theorem VF.bl {b : Bool} : VF K r (.bl b) (.bool b) := fun _ _ _ => .bl b
theorem VF.obj {a : Addr} : VF K r (.ref a) (objD a) := fun _ _ _ => .obj
theorem VF.fact {v : V} {d : PyData} (h : r.f v d) : VF K r v d := fun _ _ q => q.2 v d h
end
def addF (f : V → PyData → Prop) (v : V) (d : PyData) : V → PyData → Prop := fun w e => f w e ∨ (w = v ∧ e = d)
section
variable {K : PySem.W.Frag} {r : MF} {e : SE} {ta tb te tv : TE} {d : PyData} {ds : List PyData} {a C dx l : Addr} {fs : List (Str × V)} {f : Str} {v : V} {xs : List V}
theorem Wf.at {G M H : Hp} (w : Wf (Rmf K) G M H r) {o : HO} (h : r.m a = some o) : H a = some o := w.mh a o (by rw [w.res.1]; exact h)
theorem ev_fld (h : EvD K (Rmf K) ta e r (objD a)) (hm : r.m a = some (.ins C dx fs)) (c : Cls K C) (n : NoAttr K C f) (hl : fs.lookup f = some v) (hv : VF K r v d) : EvD K (Rmf K) (tFld K ta f) e r d := fun B σ G M H ve w Q q =>
  h B σ G M H ve w _ fun x d' r' G' M' H' ⟨e1, e2⟩ s w' hx => by
    subst e1 e2
    exact ⟨a, C, dx, fs, v, hx.obj_inv, w'.at hm, c, n, hl, q v d _ G' M' H' ⟨rfl, rfl⟩ s w' (hv _ _ w'.res)⟩
theorem inst_of {p : Addr} {m : Str} (h : r.m p = some (.ins C dx fs)) (l : fs.lookup m = none) : ∀ G M, Rmf K r G M → ∃ dx fs, M p = some (.ins C dx fs) ∧ fs.lookup m = none := fun G M hM => ⟨dx, fs, by rw [hM.1]; exact h, l⟩
/-- a thing of M changes -/
theorem Stp.mutM {G M H : Hp} (hm : ∃ o, M a = some o) (mh : Same M H) (o' : HO) : Stp G M H G (upd M a o') (upd H a o') where
  gg := Same.refl _
  th := fun b hb => by
    by_cases e : b = a
    · rw [e, upd_same]; exact fun z => nomatch z
    · rw [upd_ne e]; exact hb
  fr := fun b u e m => by
    have : b ≠ a := fun z => by rw [z] at m; obtain ⟨o, h⟩ := hm; rw [m] at h; cases h
    rw [upd_ne this]; exact e
  ng := fun _ _ g => g
  nm := fun b _ m => by
    have : b ≠ a := fun z => by rw [z] at m; obtain ⟨o, h⟩ := hm; rw [m] at h; cases h
    rw [upd_ne this]; exact m
theorem Wf.mutM {G M H : Hp} (w : Wf (Rmf K) G M H r) {o : HO} (hm : r.m a = some o) (o' : HO) {f' : V → PyData → Prop} (hf : ∀ v d, f' v d → Rp K G v d) : Wf (Rmf K) G (upd M a o') (upd H a o') ⟨upd r.m a o', f'⟩ := by
  have hM : M = r.m := w.res.1
  subst hM
  refine ⟨same_upd w.gh (w.dj a (some_ne hm)), same_both w.mh, fun b hb => ?_, rfl, hf⟩
  by_cases e : b = a
  · rw [e]; exact w.dj a (some_ne hm)
  · rw [upd_ne e] at hb; exact w.dj b hb
/-- a new thing comes to M -/
theorem Stp.newM {G M H : Hp} (h : H a = none) (o' : HO) : Stp G M H G (upd M a o') (upd H a o') where
  gg := Same.refl _
  th := fun b hb => by
    by_cases e : b = a
    · rw [e, upd_same]; exact fun z => nomatch z
    · rw [upd_ne e]; exact hb
  fr := fun b u e m => by rw [upd_ne (ne_of_none e h)]; exact e
  ng := fun _ _ g => g
  nm := fun b hb m => by
    have : b ≠ a := fun z => hb (by rw [z]; exact h)
    rw [upd_ne this]; exact m
theorem Wf.newM {G M H : Hp} (w : Wf (Rmf K) G M H r) (h : H a = none) (o' : HO) : Wf (Rmf K) G (upd M a o') (upd H a o') ⟨upd r.m a o', r.f⟩ := by
  have hM : M = r.m := w.res.1
  subst hM
  refine ⟨same_upd w.gh (w.gn h), same_both w.mh, fun b hb => ?_, rfl, w.res.2⟩
  by_cases e : b = a
  · rw [e]; exact w.gn h
  · rw [upd_ne e] at hb; exact w.dj b hb
/-- a hidden new list comes to M -/
theorem Wf.toM {G M H : Hp} (w : Wf (Rmf K) G M H r) {o : HO} (h : H a = some o) (g : G a = none) : Wf (Rmf K) G (upd M a o) H ⟨upd r.m a o, r.f⟩ := by
  have hM : M = r.m := w.res.1
  subst hM
  refine ⟨w.gh, fun b u e => ?_, fun b hb => ?_, rfl, w.res.2⟩
  · by_cases q : b = a
    · rw [q, upd_same] at e; rw [q, h]; exact e
    · rw [upd_ne q] at e; exact w.mh b u e
  · by_cases q : b = a
    · rw [q]; exact g
    · rw [upd_ne q] at hb; exact w.dj b hb
theorem Stp.toM {G M H G' M' H' : Hp} (s : Stp G M H G' M' H') (h : H a = none) (o : HO) : Stp G M H G' (upd M' a o) H' :=
  ⟨s.gg, s.th, s.fr, s.ng, fun b hb m => by
    have : b ≠ a := fun z => hb (by rw [z]; exact h)
    rw [upd_ne this]; exact s.nm b hb m⟩
/-- o.f = e -/
theorem sp_fld {P : Post MF} {E : XK} (h : EvD K (Rmf K) tv e r d) (ha : EvD K (Rmf K) ta e r (objD a)) (hm : r.m a = some (.ins C dx fs)) (c : Cls K C) (n : NoAttr K C f) (hl : fs.length < 1000)
    (k : ∀ v, (∃ G, Rp K G v d) → P.nx e ⟨upd r.m a (.ins C dx (putF f v fs)), addF r.f v d⟩) : SP K (Rmf K) E (sFld K ta tv f) e r P := fun G0 M0 H0 σ G M H D s ve w q =>
  h H0 σ G M H ve w _ fun v d' r' G1 M1 H1 ⟨e1, e2⟩ s1 w1 hv => by
    subst e1 e2
    refine ha H0 σ G1 M1 H1 (ve.step s1) w1 _ fun x d2 r2 G2 M2 H2 ⟨e1, e2⟩ s2 w2 hx => ?_
    subst e1 e2
    refine ⟨a, C, dx, fs, hx.obj_inv, w2.at hm, c, n, hl, ?_⟩
    have hM : M2 = r2.m := w2.res.1
    have st : Stp G2 M2 H2 G2 (upd M2 a (.ins C dx (putF f v fs))) (upd H2 a (.ins C dx (putF f v fs))) := Stp.mutM ⟨_, by rw [hM]; exact hm⟩ w2.mh _
    have s3 := (s1.trans s2).trans st
    refine q.nx e _ σ G2 _ _ (k v ⟨_, hv⟩) (s.trans s3) (ve.step s3) (w2.mutM hm _ fun v' d' hf => ?_)
    rcases hf with hf | ⟨e1, e2⟩
    · exact w2.res.2 v' d' hf
    · rw [e1, e2]; exact hv.mono s2.gg
/-- o.f = a new list that stays -/
theorem sp_fldL {P : Post MF} {E : XK} (h : EvF K (Rmf K) tv e r ds) (ha : EvD K (Rmf K) ta e r (objD a)) (hm : r.m a = some (.ins C dx fs)) (c : Cls K C) (n : NoAttr K C f) (hl : fs.length < 1000)
    (k : ∀ l, (∀ es, ¬ r.f (.ref l) (.list es)) → P.nx e ⟨upd r.m a (.ins C dx (putF f (.ref l) fs)), addF r.f (.ref l) (.list ds)⟩) : SP K (Rmf K) E (sFld K ta tv f) e r P := fun G0 M0 H0 σ G M H D s ve w q =>
  h H0 σ G M H ve w _ fun l vs G1 M1 H1 s1 w1 h1 h2 h3 h4 h5 => by
    have s1' := s1.freeze (o := .lst vs) h1 h2
    have w1' := w1.freeze h4 h2 h3
    refine ha H0 σ _ M1 H1 (ve.step s1') w1' _ fun x d2 r2 G2 M2 H2 ⟨e1, e2⟩ s2 w2 hx => ?_
    subst e1 e2
    refine ⟨a, C, dx, fs, hx.obj_inv, w2.at hm, c, n, hl, ?_⟩
    have hM : M2 = r2.m := w2.res.1
    have st : Stp G2 M2 H2 G2 (upd M2 a (.ins C dx (putF f (.ref l) fs))) (upd H2 a (.ins C dx (putF f (.ref l) fs))) := Stp.mutM ⟨_, by rw [hM]; exact hm⟩ w2.mh _
    have s3 := (s1'.trans s2).trans st
    refine q.nx e _ σ G2 _ _ (k l fun es hf => ?_) (s.trans s3) (ve.step s3) (w2.mutM hm _ fun v' d' hf => ?_)
    · obtain ⟨b, xs, e1, e2, _⟩ := (w.res.2 _ _ hf).lst_inv
      cases e1
      rw [w.gn h1] at e2
      cases e2
    · rcases hf with hf | ⟨e1, e2⟩
      · exact w2.res.2 v' d' hf
      · rw [e1, e2]; exact (Rp.lst upd_same (h5.mono (same_new h2))).mono s2.gg
/-- o.f = a new list of ints -/
theorem sp_fldN {P : Post MF} {E : XK} {ns : List Int} (h : EvF K (Rmf K) tv e r (ns.map .int)) (ha : EvD K (Rmf K) ta e r (objD a)) (hm : r.m a = some (.ins C dx fs)) (c : Cls K C) (n : NoAttr K C f) (hl : fs.length < 1000)
    (ha' : ∀ m', EvD K (Rmf K) ta e ⟨m', r.f⟩ (objD a))
    (k : ∀ l, r.m l = none → l ≠ a → P.nx e ⟨upd (upd r.m l (.lst (ns.map .int))) a (.ins C dx (putF f (.ref l) fs)), r.f⟩) : SP K (Rmf K) E (sFld K ta tv f) e r P := fun G0 M0 H0 σ G M H D s ve w q =>
  h H0 σ G M H ve w _ fun l vs G1 M1 H1 s1 w1 h1 h2 h3 h4 h5 => by
    have hM1 : M1 = r.m := w1.res.1
    have hla : l ≠ a := fun z => by rw [hM1, z, hm] at h3; cases h3
    have wl := w1.toM h4 h2
    have sl := s1.toM h1 (.lst vs)
    have hn := h5.ints
    subst hn
    refine ha' _ H0 σ G1 _ H1 (ve.step sl) wl _ fun x d2 r2 G2 M2 H2 ⟨e1, e2⟩ s2 w2 hx => ?_
    subst e1 e2
    have hm' : (upd r.m l (.lst (ns.map .int))) a = some (.ins C dx fs) := by rw [upd_ne hla.symm]; exact hm
    refine ⟨a, C, dx, fs, hx.obj_inv, w2.at hm', c, n, hl, ?_⟩
    have hM : M2 = upd r.m l (.lst (ns.map .int)) := w2.res.1
    have st : Stp G2 M2 H2 G2 (upd M2 a (.ins C dx (putF f (.ref l) fs))) (upd H2 a (.ins C dx (putF f (.ref l) fs))) := Stp.mutM ⟨_, by rw [hM]; exact hm'⟩ w2.mh _
    have s3 := (sl.trans s2).trans st
    exact q.nx e _ σ G2 _ _ (k l (by rw [← hM1]; exact h3) hla) (s.trans s3) (ve.step s3) (w2.mutM hm' _ w2.res.2)
/-- o.f[j] = e, an int -/
theorem sp_setF {P : Post MF} {E : XK} {i j : Int} {n : Nat} (h : EvD K (Rmf K) te e r (.int i)) (ho : EvD K (Rmf K) ta e r (objD l)) (hj : EvD K (Rmf K) tb e r (.int j)) (hm : r.m l = some (.lst xs)) (hn : ixN xs.length j = some n)
    (k : P.nx e ⟨upd r.m l (.lst (xs.set n (.int i))), r.f⟩) : SP K (Rmf K) E (tAsg te (gSub ta tb rSetL)) e r P := fun G0 M0 H0 σ G M H D s ve w q =>
  h H0 σ G M H ve w _ fun v d' r' G1 M1 H1 ⟨e1, e2⟩ s1 w1 hv => by
    subst e1 e2
    refine ho H0 σ G1 M1 H1 (ve.step s1) w1 _ fun x d2 r2 G2 M2 H2 ⟨e1, e2⟩ s2 w2 hx => ?_
    subst e1 e2
    refine hj H0 σ G2 M2 H2 ((ve.step s1).step s2) w2 _ fun y d3 r3 G3 M3 H3 ⟨e1, e2⟩ s3 w3 hy => ?_
    subst e1 e2
    rw [hv.int_inv]
    refine ⟨l, xs, j, n, hx.obj_inv, hy.int_inv, w3.at hm, hn, ?_⟩
    have hM : M3 = r3.m := w3.res.1
    have st : Stp G3 M3 H3 G3 (upd M3 l (.lst (xs.set n (.int i)))) (upd H3 l (.lst (xs.set n (.int i)))) := Stp.mutM ⟨_, by rw [hM]; exact hm⟩ w3.mh _
    have s4 := ((s1.trans s2).trans s3).trans st
    exact q.nx e _ σ G3 _ _ k (s.trans s4) (ve.step s4) (w3.mutM hm _ w3.res.2)
/-- o.f[j] -/
theorem ev_ixM {j : Int} (h : EvD K (Rmf K) ta e r (objD l)) (hb : EvD K (Rmf K) tb e r (.int j)) (hm : r.m l = some (.lst xs)) (ha : L2.atI xs j = some v) (hv : VF K r v d) : EvD K (Rmf K) (tOp (rIxL K) ta tb) e r d := fun B σ G M H ve w Q q =>
  h B σ G M H ve w _ fun x d' r' G1 M1 H1 ⟨e1, e2⟩ s1 w1 hx => by
    subst e1 e2
    refine hb B σ G1 M1 H1 (ve.step s1) w1 _ fun y d2 r2 G2 M2 H2 ⟨e1, e2⟩ s2 w2 hy => ?_
    subst e1 e2
    exact ⟨l, xs, j, v, hx.obj_inv, hy.int_inv, SqL.of (w2.at hm), ha, q v d _ G2 M2 H2 ⟨rfl, rfl⟩ (s1.trans s2) w2 (hv _ _ w2.res)⟩
/-- list(o.f) -/
theorem evf_listM {ns : List Int} (h : EvD K (Rmf K) ta e r (objD l)) (hm : r.m l = some (.lst (ns.map .int))) : EvF K (Rmf K) (tCB (rListS K) (tCons ta tNil)) e r (ns.map .int) := fun B σ G M H ve w Q q =>
  h B σ G M H ve w _ fun x d' r' G1 M1 H1 ⟨e1, e2⟩ s1 w1 hx => by
    subst e1 e2
    refine ⟨l, ns.map .int, by rw [hx.obj_inv], .inl (SqL.of (w1.at hm)), fun p hp => ?_⟩
    exact q p _ G1 M1 _ (s1.hid (free_back s1 hp) _) (w1.hid (w1.gn hp) (w1.mn hp) _) (free_back s1 hp) (w1.gn hp) (w1.mn hp) upd_same (RpAll.of_ints ns)
end

/-- o.f = e, where e changes the state -/
theorem sp_fldS {K : PySem.W.Frag} {r : MF} {e : SE} {ta tv : TE} {a C : Addr} {f : Str} {P : Post MF} {E : XK} {Pv : PyData → MF → Prop} (h : EvS K (Rmf K) tv e r Pv) (c : Cls K C) (n : NoAttr K C f)
    (k : ∀ d r', Pv d r' → EvD K (Rmf K) ta e r' (objD a) ∧ ∃ dx fs, r'.m a = some (.ins C dx fs) ∧ fs.length < 1000 ∧ ∀ v, (∃ G, Rp K G v d) → P.nx e ⟨upd r'.m a (.ins C dx (putF f v fs)), addF r'.f v d⟩) : SP K (Rmf K) E (sFld K ta tv f) e r P := fun G0 M0 H0 σ G M H D s ve w q =>
  h H0 σ G M H ve w _ fun v d r' G1 M1 H1 p s1 w1 hv => by
    obtain ⟨ha, dx, fs, hm, hl, k'⟩ := k d r' p
    refine ha H0 σ G1 M1 H1 (ve.step s1) w1 _ fun x d2 r2 G2 M2 H2 ⟨e1, e2⟩ s2 w2 hx => ?_
    subst e1 e2
    refine ⟨a, C, dx, fs, hx.obj_inv, w2.at hm, c, n, hl, ?_⟩
    have hM : M2 = r2.m := w2.res.1
    have st : Stp G2 M2 H2 G2 (upd M2 a (.ins C dx (putF f v fs))) (upd H2 a (.ins C dx (putF f v fs))) := Stp.mutM ⟨_, by rw [hM]; exact hm⟩ w2.mh _
    have s3 := (s1.trans s2).trans st
    refine q.nx e _ σ G2 _ _ (k' v ⟨_, hv⟩) (s.trans s3) (ve.step s3) (w2.mutM hm _ fun v' d' hf => ?_)
    rcases hf with hf | ⟨e1, e2⟩
    · exact w2.res.2 v' d' hf
    · rw [e1, e2]; exact hv.mono s2.gg
/-- [f(k) for k in range(n)], f changes the state -/
theorem evs_lcR1 {K : PySem.W.Frag} {ρ : Type} {R : ρ → Hp → Hp → Prop} [Stab R] {e : SE} {r : ρ} {te : TE} {ta : TA} {j : Nat} {n : Int} (I : Nat → List PyData → ρ → Prop) (h : EvA K R ta e r [.int n]) (h1 : -(2 ^ 62) ≤ n) (hz : n < 16777216) (h0 : I 0 [] r)
    (he : ∀ (k : Nat) ds r', (k : Int) < n → I k ds r' → ds.length = k → EvS K R te (e.set j (.dat (.int (k : Int)))) r' (fun d r'' => I (k + 1) (ds ++ [d]) r'')) :
    EvS K R (tLc (iRng1 ta) (gName j) tYes te [j]) e r (fun d r' => ∃ ds, d = .list ds ∧ I n.toNat ds r') := fun B σ G M H v w Q q =>
  it_r1 h h1 (by omega) B σ G M H v w _ fun G1 M1 H1 s1 w1 D hD => by
    have en : (n - 0).toNat = n.toNat := by rw [Int.sub_zero]
    rw [en]
    refine lc_range (lo := 0) (n := n.toNat) (te := te) (g := gName j) (tt := tYes) (vs := [j]) (σ := σ) (fun i H' => ∃ ds r', I i ds r' ∧ ds.length = i ∧ Cs K R G1 M1 H1 r' D ds H') ⟨[], r, h0, rfl, G1, M1, [], (Stp.refl _ _ _).hid hD _, w1.hid (w1.gn hD) (w1.mn hD) _, hD, w1.gn hD, w1.mn hD, upd_same, .nil⟩ ?_ ?_
    · rintro i H' hi ⟨ds, r', p, hl, G', M', vs, s', w', g0, g1, g2, g3, g4⟩
      have hk : (i : Int) < n := by omega
      rw [Int.zero_add]
      refine And.intro wipe_back ?_
      show (if true = true then te ((wipe σ [j]).set j (some (.int (i : Int)))) H' (fun y H4 => ∃ acc, H4 D = some (.lst acc) ∧ acc.length < sizeLine ∧ ∃ ds r', I (i + 1) ds r' ∧ ds.length = i + 1 ∧ Cs K R G1 M1 H1 r' D ds (upd H4 D (.lst (acc ++ [y]))))
        else ∃ ds r', I (i + 1) ds r' ∧ ds.length = i + 1 ∧ Cs K R G1 M1 H1 r' D ds H')
      rw [if_pos rfl, wipe_set]
      refine he i ds r' hk p hl B (σ.set j (some (.int (i : Int)))) G' M' H' (EnvO.setD (e := e) ((v.step s1).step s') (.int _)) w' _ fun y d r'' G3 M3 H3 p3 s3 w3 hy => ?_
      have k1 := s3.fr D _ g3 g2
      have k2 := s3.ng D (some_ne g3) g1
      have k3 := s3.nm D (some_ne g3) g2
      exact ⟨vs, k1, by rw [g4.length, hl, sizeLine_eq]; omega, ds ++ [d], r'', p3, by rw [List.length_append, hl]; rfl, G3, M3, vs ++ [y], (s'.trans s3).hid g0 _, w3.hid k2 k3 _, g0, k2, k3, upd_same, (g4.mono s3.gg).append (.one hy)⟩
    · rintro H' ⟨ds, r', p, hl, G', M', vs, s', w', g0, g1, g2, g3, g4⟩
      exact q (.ref D) (.list ds) r' (upd G' D (.lst vs)) M' H' ⟨ds, rfl, p⟩ ((s1.trans s').freeze (free_back s1 g0) g1) (w'.freeze g3 g1 g2) (.lst upd_same (g4.mono (same_new g1)))

/-! ### own lists that are lent -/
def ScD (K : PySem.W.Frag) (d : PyData) : Prop := ∀ G G' v, Rp K G v d → Rp K G' v d
theorem ScD.bl {K : PySem.W.Frag} {b : Bool} : ScD K (.bool b) := fun _ _ _ h => by rw [h.bl_inv]; exact .bl b
theorem ScD.int {K : PySem.W.Frag} {b : Int} : ScD K (.int b) := fun _ _ _ h => by rw [h.int_inv]; exact .int b
theorem ScD.non {K : PySem.W.Frag} : ScD K .none := fun _ _ _ h => by rw [h.non_inv]; exact .non
theorem ScD.obj {K : PySem.W.Frag} {a : Addr} : ScD K (objD a) := fun _ _ _ h => by rw [h.obj_inv]; exact .obj
section
variable {K : PySem.W.Frag} {ρ : Type} {R : ρ → Hp → Hp → Prop} {e : SE} {r : ρ} {te : TE} {t : TT} {d : PyData} {ds : List PyData}
/-- a pure reading: an own list is lent for it -/
theorem ev_lend [Stab R] {i : Nat} (hi : e[i]? = some (.own ds)) (h : ∀ M0, EvD K (RM M0) te (e.set i (.dat (.list ds))) () d) (sc : ScD K d) : EvD K R te e r d := fun B σ G M H v w Q q => by
  obtain ⟨l, vs, h1, h2, h3, h4, h5, v'⟩ := v.frz hi
  have w0 : Wf (RM M) G M H () := ⟨w.gh, w.mh, w.dj, rfl⟩
  refine h M B σ _ M H v' (w0.freeze h5 h3 h4) Q fun x d' _ G' M' H' ⟨e1, _⟩ s' w' hx => ?_
  subst e1
  have e2 : M' = M := w'.res
  subst e2
  have sg : Same G G' := (same_new h3).trans s'.gg
  exact q x d' r G M' H' ⟨rfl, rfl⟩ ⟨Same.refl _, s'.th, s'.fr, fun _ _ g => g, fun _ _ m => m⟩ ⟨fun b o hb => w'.gh b o (sg b o hb), w'.mh, w.dj, w.res⟩ (sc _ _ _ hx)
/-- list(x), x one's own -/
theorem evf_listO {i : Nat} (hi : e[i]? = some (.own ds)) : EvF K R (tCB (rListS K) (tCons (tVar i) tNil)) e r ds := fun B σ G M H v w Q q => by
  obtain ⟨l, vs, h1, h2, h3, h4, h5, h6⟩ := v.own i ds hi
  exact ⟨.ref l, h1, l, vs, rfl, .inl (SqL.of h5), fun p hp => q p vs G M _ ((Stp.refl _ _ _).hid hp _) (w.hid (w.gn hp) (w.mn hp) _) hp (w.gn hp) (w.mn hp) upd_same h6⟩
/-- a row that does not stand at l stands without it -/
def wo (G : Hp) (l : Addr) : Hp := fun b => if b = l then none else G b
theorem wo_ne {G : Hp} {l b : Addr} (h : b ≠ l) : wo G l b = G b := by unfold wo; rw [if_neg h]
theorem wo_same {G : Hp} {l : Addr} : wo G l l = none := by unfold wo; rw [if_pos rfl]
theorem Rp.wo_row {G : Hp} {l : Addr} {vs : List V} {v : V} {es : List Ent} (h : Rp K G v (rowD es)) (hl : G l = some (.lst vs)) (hv : v ≠ .ref l) : Rp K (wo G l) v (rowD es) := by
  obtain ⟨a, xs, rfl, h1, h2⟩ := Rp.lst_inv (ds := es.map entD) h
  refine Rp.lst (ds := es.map entD) (by rw [wo_ne (fun z => hv (by rw [z]))]; exact h1) ?_
  have all : ∀ (es : List Ent) (xs : List V), RpAll K G xs (es.map entD) → RpAll K (wo G l) xs (es.map entD) := fun es => by
    induction es with
    | nil => intro xs h; rw [RpAll.nil_inv h]; exact .nil
    | cons x r ih =>
      intro xs h
      obtain ⟨u, us, rfl, g1, g2⟩ := RpAll.cons_inv (d := entD x) (ds := r.map entD) h
      refine .cons ?_ (ih us g2)
      obtain ⟨b, ys, rfl, k1, k2⟩ := Rp.tup_inv (ds := [.int x.1, .str x.2]) g1
      refine Rp.tup (ds := [.int x.1, .str x.2]) (by rw [wo_ne (ne_of k1 hl (by intro z; cases z))]; exact k1) ?_
      obtain ⟨p, ps, rfl, m1, m2⟩ := k2.cons_inv
      obtain ⟨q, qs, rfl, m3, m4⟩ := m2.cons_inv
      rw [m1.int_inv, m3.str_inv, m4.nil_inv]
      exact .cons (.int _) (.cons (.str _) .nil)
  exact all es xs h2
/-- an own list is lent to what changes the state: what is known behind it does not lean on it -/
theorem evs_lend {r : MF} {i : Nat} {P' : PyData → MF → Prop} {P : Addr → PyData → MF → Prop} (hi : e[i]? = some (.own ds)) (h : ∀ l, EvS K (Rmf K) te (e.set i (.dat (.list ds))) ⟨r.m, addF r.f (.ref l) (.list ds)⟩ (P l))
    (k : ∀ l d r', P l d r' → ScD K d ∧ ∃ f, (∀ v d, f v d → r.f v d ∨ (r'.f v d ∧ v ≠ .ref l ∧ ∃ es, d = rowD es)) ∧ P' d ⟨r'.m, f⟩) : EvS K (Rmf K) te e r P' := fun B σ G M H v w Q q => by
  obtain ⟨l, vs, h1, h2, h3, h4, h5, v'⟩ := v.frz hi
  obtain ⟨l2, vs2, h1', _, _, _, h5', h6'⟩ := v.own i ds hi
  rw [h1] at h1'
  cases h1'
  rw [h5] at h5'
  cases h5'
  have wf := w.freeze h5 h3 h4
  have w0 : Wf (Rmf K) (upd G l (.lst vs)) M H ⟨r.m, addF r.f (.ref l) (.list ds)⟩ := ⟨wf.gh, wf.mh, wf.dj, wf.res.1, fun v d hf => by
    rcases hf with hf | ⟨e1, e2⟩
    · exact wf.res.2 v d hf
    · rw [e1, e2]; exact .lst upd_same (h6'.mono (same_new h3))⟩
  refine h l B σ _ M H v' w0 Q fun x d r' G' M' H' p s' w' hx => ?_
  obtain ⟨sc, f, hf, p'⟩ := k l d r' p
  have hl' : G' l = some (.lst vs) := s'.gg _ _ upd_same
  have sg : Same G (wo G' l) := fun b o hb => by
    have : b ≠ l := ne_of_none hb h3
    rw [wo_ne this]
    exact s'.gg _ _ (by rw [upd_ne this]; exact hb)
  have sw : Same (wo G' l) G' := fun b o hb => by
    by_cases e1 : b = l
    · rw [e1, wo_same] at hb; cases hb
    · rw [wo_ne e1] at hb; exact hb
  refine q x d _ (wo G' l) M' H' p' ⟨sg, s'.th, s'.fr, fun b hb g => ?_, s'.nm⟩ ⟨sw.trans w'.gh, w'.mh, fun b hb => ?_, w'.res.1, fun v d hf' => ?_⟩ (sc _ _ _ hx)
  · by_cases e1 : b = l
    · rw [e1, wo_same]
    · rw [wo_ne e1]; exact s'.ng b hb (by rw [upd_ne e1]; exact g)
  · by_cases e1 : b = l
    · rw [e1, wo_same]
    · rw [wo_ne e1]; exact w'.dj b hb
  · rcases hf v d hf' with g | ⟨g1, g2, es, rfl⟩
    · exact (w.res.2 v d g).mono sg
    · exact (w'.res.2 v _ g1).wo_row hl' g2
end

/-! ### calls of defs that change the state, or raise -/
/-- a new list comes of it -/
def spN (K : PySem.W.Frag) {α : Type} (args : α → List PyData) (pre : α → Prop) (res : α → List PyData) : Sp := fun vs H Q _ => ∃ G M a, Pre G M H ∧ RpAll K G vs (args a) ∧ pre a ∧
  ∀ l ws G' H', Al G M H G' H' → H l = none → G' l = none → H' l = some (.lst ws) → RpAll K G' ws (res a) → Q (.ref l) H'
theorem evf_call {K : PySem.W.Frag} {ρ : Type} {R : ρ → Hp → Hp → Prop} [Stab R] {e : SE} {r : ρ} {α : Type} {args : α → List PyData} {pre : α → Prop} {res : α → List PyData} {E : XK} {ta : TA} (a : α) (h : EvA K R ta e r (args a)) (hp : pre a) : EvF K R (tCall (spN K args pre res) [] E ta) e r (res a) := fun B σ G M H v w Q q =>
  h B σ G M H v w _ fun vs G' M' H' s w' hv => ⟨G', M', a, w'.pre, by rw [List.append_nil]; exact hv, hp, fun l ws G2 H2 al h1 h2 h3 h4 => q l ws G2 M' H2 (s.trans al.st) (w'.al al) (free_back s h1) h2 (w'.mn h1) h3 h4⟩
def spX (K : PySem.W.Frag) {ρ : Type} (R : ρ → Hp → Hp → Prop) {α : Type} (args : α → List PyData) (pre : α → ρ → Prop) (post : α → ρ → PyData → ρ → Prop) (exc : α → ρ → Value → ρ → Prop) : Sp := fun vs H Q E =>
  ∃ G M a r, Wf R G M H r ∧ RpAll K G vs (args a) ∧ pre a r ∧ (∀ v d r' G' M' H', post a r d r' → Stp G M H G' M' H' → Wf R G' M' H' r' → Rp K G' v d → Q v H') ∧
    (∀ c r' G' M' H', exc a r c r' → Stp G M H G' M' H' → Wf R G' M' H' r' → E c none H')
/-- no change, but it may raise -/
def spPX (K : PySem.W.Frag) {α : Type} (args : α → List PyData) (pre : α → Prop) (res : α → PyData → Prop) (exc : α → Value → Prop) : Sp := fun vs H Q E =>
  ∃ G M a, Pre G M H ∧ RpAll K G vs (args a) ∧ pre a ∧ (∀ v d G' H', res a d → Al G M H G' H' → Rp K G' v d → Q v H') ∧ (∀ c G' H', exc a c → Al G M H G' H' → E c none H')
section
variable {K : PySem.W.Frag} {ρ : Type} {R : ρ → Hp → Hp → Prop} {e : SE} {r : ρ} {te : TE} {t : TA} {d : PyData} {ds : List PyData} {α : Type} {args : α → List PyData} {E : XK}
/-- as EvS, where te may raise -/
def EvX (K : PySem.W.Frag) {ρ : Type} (R : ρ → Hp → Hp → Prop) (E : XK) (te : TE) (e : SE) (r : ρ) (P : PyData → ρ → Prop) (PE : Value → ρ → Prop) : Prop := ∀ (B : Hp) (σ : St) (G M H : Hp), EnvO K B G M H σ e → Wf R G M H r → ∀ Q : VK,
  (∀ v d r' G' M' H', P d r' → Stp G M H G' M' H' → Wf R G' M' H' r' → Rp K G' v d → Q v H') → (∀ c r' G' M' H', PE c r' → Stp G M H G' M' H' → Wf R G' M' H' r' → E c none H') → te σ H Q
theorem EvX.s {P : PyData → ρ → Prop} {PE : Value → ρ → Prop} (h : EvX K R E te e r P PE) (n : ∀ c r', ¬ PE c r') : EvS K R te e r P := fun B σ G M H v w Q q => h B σ G M H v w Q q fun c r' _ _ _ p => (n c r' p).elim
theorem evx_call {pre : α → ρ → Prop} {post : α → ρ → PyData → ρ → Prop} {exc : α → ρ → Value → ρ → Prop} (a : α) (h : EvA K R t e r (args a)) (hp : pre a r) : EvX K R E (tCall (spX K R args pre post exc) [] E t) e r (post a r) (exc a r) := fun B σ G M H v w Q q qe =>
  h B σ G M H v w _ fun vs G' M' H' s w' hv => ⟨G', M', a, r, w', by rw [List.append_nil]; exact hv, hp, fun x d r' G2 M2 H2 p s2 w2 hx => q x d r' G2 M2 H2 p (s.trans s2) w2 hx, fun c r' G2 M2 H2 p s2 w2 => qe c r' G2 M2 H2 p (s.trans s2) w2⟩
theorem evx_callP [Stab R] {pre : α → Prop} {res : α → PyData → Prop} {exc : α → Value → Prop} (a : α) (h : EvA K R t e r (args a)) (hp : pre a) : EvX K R E (tCall (spPX K args pre res exc) [] E t) e r (fun d r' => res a d ∧ r' = r) (fun c r' => exc a c ∧ r' = r) := fun B σ G M H v w Q q qe =>
  h B σ G M H v w _ fun vs G' M' H' s w' hv => ⟨G', M', a, w'.pre, by rw [List.append_nil]; exact hv, hp, fun x d G2 H2 p a hx => q x d r G2 M' H2 ⟨p, rfl⟩ (s.trans a.st) (w'.al a) hx, fun c G2 H2 p a => qe c r G2 M' H2 ⟨p, rfl⟩ (s.trans a.st) (w'.al a)⟩
theorem evx_meth {pre : α → ρ → Prop} {post : α → ρ → PyData → ρ → Prop} {exc : α → ρ → Value → ρ → Prop} {p C : Addr} {m : Str} (a : α) (ho : EvD K R te e r (objD p)) (hi : ∀ G M, R r G M → ∃ dx fs, M p = some (.ins C dx fs) ∧ fs.lookup m = none)
    (h : EvA K R t e r ds) (hs : args a = objD p :: ds) (hp : pre a r) : EvX K R E (tMeth C m (spX K R args pre post exc) [] E te t) e r (post a r) (exc a r) := fun B σ G M H v w Q q qe =>
  ho B σ G M H v w _ fun x d' r' G1 M1 H1 ⟨e1, e2⟩ s1 w1 hx => by
    subst e1 e2
    obtain ⟨dx, fs, h1, h2⟩ := hi G1 M1 w1.res
    refine ⟨p, dx, fs, hx.obj_inv, w1.mh _ _ h1, h2, h B σ G1 M1 H1 (v.step s1) w1 _ fun vs G2 M2 H2 s2 w2 hv => ?_⟩
    exact ⟨G2, M2, a, _, w2, by rw [hs, List.append_nil]; exact .cons (hx.mono s2.gg) hv, hp, fun x d r' G3 M3 H3 p s3 w3 hx => q x d r' G3 M3 H3 p ((s1.trans s2).trans s3) w3 hx, fun c r' G3 M3 H3 p s3 w3 => qe c r' G3 M3 H3 p ((s1.trans s2).trans s3) w3⟩
theorem evts_notN {P : PyData → ρ → Prop} {PB : Bool → ρ → Prop} (h : EvS K R te e r P) (k : ∀ d r', P d r' → PB (!isNoneD d) r') : EvTS K R (tB (tNotN te)) e r PB := fun B σ G M H v w Q q =>
  h B σ G M H v w _ fun x d r' G' M' H' p s' w' hx => by
    show ∃ c, V.bl (!decide (x = V.non)) = .bl c ∧ Q c H'
    rw [isNone_of hx]
    exact ⟨_, rfl, q _ r' G' M' H' (k d r' p) s' w'⟩
theorem evts_B {P : PyData → ρ → Prop} {PB : Bool → ρ → Prop} (h : EvS K R te e r P) (k : ∀ d r', P d r' → ∃ b, d = .bool b ∧ PB b r') : EvTS K R (tB te) e r PB := fun B σ G M H v w Q q =>
  h B σ G M H v w _ fun x d r' G' M' H' p s' w' hx => by
    obtain ⟨b, e1, p2⟩ := k d r' p
    subst e1
    exact ⟨b, hx.bl_inv, q b r' G' M' H' p2 s' w'⟩
theorem evts_test {P : PyData → ρ → Prop} {PB : Bool → ρ → Prop} (h : EvS K R te e r P) (k : ∀ d r', P d r' → ∃ b, d = .bool b ∧ PB b r') : EvTS K R (tTest te) e r PB := fun B σ G M H v w Q q =>
  h B σ G M H v w _ fun x d r' G' M' H' p s' w' hx => by
    obtain ⟨b, e1, p2⟩ := k d r' p
    subst e1
    exact ⟨b, hx.bl_inv, q b r' G' M' H' p2 s' w'⟩
theorem sp_asgX {i : Nat} {tz : TS} {P : Post ρ} {Pe : PyData → ρ → Prop} {PE : Value → ρ → Prop} (h : EvX K R E te e r Pe PE) (k : ∀ d r', Pe d r' → SP K R E tz (e.set i (.dat d)) r' P) (kx : ∀ c r', PE c r' → P.ex c r') : SP K R E (tSeq (tAsg te (gName i)) tz) e r P := fun G0 M0 H0 σ G M H D s v w q =>
  h H0 σ G M H v w _ (fun x d r' G' M' H' p s' w' hx => k d r' p G0 M0 H0 _ G' M' H' D (s.trans s') ((v.step s').setD hx) w' q) fun c r' G' M' H' p s' w' => q.ex c r' G' M' H' (kx c r' p) (s.trans s') w'
theorem sp_retX {P : Post ρ} {Pe : PyData → ρ → Prop} {PE : Value → ρ → Prop} (h : EvX K R E te e r Pe PE) (k : ∀ d r', Pe d r' → P.rt d r') (kx : ∀ c r', PE c r' → P.ex c r') : SP K R E (tRet te) e r P := fun G0 M0 H0 σ G M H D s v w q =>
  h H0 σ G M H v w _ (fun x d r' G' M' H' p s' w' hx => q.rt d r' x G' M' H' (k d r' p) (s.trans s') w' hx) fun c r' G' M' H' p s' w' => q.ex c r' G' M' H' (kx c r' p) (s.trans s') w'
theorem sp_dropX {P : Post ρ} {Pe : PyData → ρ → Prop} {PE : Value → ρ → Prop} (h : EvX K R E te e r Pe PE) (k : ∀ d r', Pe d r' → P.nx e r') (kx : ∀ c r', PE c r' → P.ex c r') : SP K R E (tDrop te) e r P := fun G0 M0 H0 σ G M H D s v w q =>
  h H0 σ G M H v w _ (fun x d r' G' M' H' p s' w' hx => q.nx e r' σ G' M' H' (k d r' p) (s.trans s') (v.step s') w') fun c r' G' M' H' p s' w' => q.ex c r' G' M' H' (kx c r' p) (s.trans s') w'
/-- an attribute of what may raise -/
theorem evx_fld {K : PySem.W.Frag} {r : MF} {Pe : PyData → MF → Prop} {PE : Value → MF → Prop} {C : Addr} {f : Str} {P : PyData → MF → Prop} (h : EvX K (Rmf K) E te e r Pe PE) (c : Cls K C) (n : NoAttr K C f)
    (k : ∀ d r', Pe d r' → ∃ a dx fs v d2, d = objD a ∧ r'.m a = some (.ins C dx fs) ∧ fs.lookup f = some v ∧ VF K r' v d2 ∧ P d2 r') : EvX K (Rmf K) E (tFld K te f) e r P PE := fun B σ G M H ve w Q q qe =>
  h B σ G M H ve w _ (fun x d r' G' M' H' p s w' hx => by
    obtain ⟨a, dx, fs, v, d2, rfl, h1, h2, h3, h4⟩ := k d r' p
    exact ⟨a, C, dx, fs, v, hx.obj_inv, w'.at h1, c, n, h2, q v d2 r' G' M' H' h4 s w' (h3 _ _ w'.res)⟩) qe
/-- list(e), e may raise -/
theorem evx_listD [Stab R] {Pe P : PyData → ρ → Prop} {PE : Value → ρ → Prop} (h : EvX K R E te e r Pe PE) (k : ∀ d r', Pe d r' → ∃ ds, d = .list ds ∧ P (.list ds) r') : EvX K R E (tCB (rListS K) (tCons te tNil)) e r P PE := fun B σ G M H v w Q q qe =>
  h B σ G M H v w _ (fun x d r' G' M' H' p s w' hx => by
    obtain ⟨ds, rfl, p'⟩ := k d r' p
    obtain ⟨a, xs, rfl, h1, h2⟩ := hx.lst_inv
    refine ⟨a, xs, rfl, .inl (SqL.of (w'.gh _ _ h1)), fun l hl => ?_⟩
    exact q (.ref l) (.list ds) r' (upd G' l (.lst xs)) M' _ p' (s.trans (Stp.alloc (w'.gn hl) hl _)) (w'.alloc hl _) (.lst upd_same (h2.mono (same_new (w'.gn hl))))) qe
/-- a new object -/
theorem evx_make {K : PySem.W.Frag} {r : MF} {args : α → List PyData} {pre : α → MF → Prop} {post : α → MF → PyData → MF → Prop} {exc : α → MF → Value → MF → Prop} {C : Addr} {P : PyData → MF → Prop} {PE : Value → MF → Prop} (h : EvA K (Rmf K) t e r ds)
    (k : ∀ x dx, r.m x = none → ∃ a, args a = objD x :: ds ∧ pre a ⟨upd r.m x (.ins C dx []), r.f⟩ ∧ (∀ d r', post a ⟨upd r.m x (.ins C dx []), r.f⟩ d r' → d = .none ∧ P (objD x) r') ∧ (∀ c r', exc a ⟨upd r.m x (.ins C dx []), r.f⟩ c r' → PE c r')) :
    EvX K (Rmf K) E (tMake C (spX K (Rmf K) args pre post exc) [] E t) e r P PE := fun B σ G M H v w Q q qe =>
  h B σ G M H v w _ fun vs G1 M1 H1 s1 w1 hv x dx nx ndx ne => by
    have hM : M1 = r.m := w1.res.1
    obtain ⟨a, ea, hp, k1, k2⟩ := k x dx (by rw [← hM]; exact w1.mn nx)
    have wh : Wf (Rmf K) G1 M1 (upd H1 dx (.own x)) r := w1.hid (w1.gn ndx) (w1.mn ndx) _
    have sh : Stp G1 M1 H1 G1 M1 (upd H1 dx (.own x)) := (Stp.refl _ _ _).hid ndx _
    have nx' : (upd H1 dx (.own x)) x = none := by rw [upd_ne ne.symm]; exact nx
    have w2 := wh.newM nx' (.ins C dx [])
    have s2 : Stp G M H G1 _ _ := (s1.trans sh).trans (Stp.newM (G := G1) (M := M1) nx' (.ins C dx []))
    refine ⟨G1, _, a, _, w2, by rw [ea, List.append_nil]; exact .cons .obj hv, hp, fun u d r' G' M' H' p s' w' hu => ?_, fun c r' G' M' H' p s' w' => qe c r' G' M' H' (k2 c r' p) (s2.trans s') w'⟩
    obtain ⟨e1, e2⟩ := k1 d r' p
    subst e1
    exact ⟨hu.non_inv, q (.ref x) (objD x) r' G' M' H' e2 (s2.trans s') w' .obj⟩
end

/-! ### bodies that return a new list -/
/-- each return gives a new list, as P says -/
def SPN (K : PySem.W.Frag) {ρ : Type} (R : ρ → Hp → Hp → Prop) (ts : TS) (e : SE) (r : ρ) (P : List PyData → Prop) : Prop := ∀ (G0 M0 H0 : Hp) (σ : St) (G M H : Hp) (D : Ends), Stp G0 M0 H0 G M H → EnvO K H0 G M H σ e → Wf R G M H r →
  (∀ l ws ds G' M' H', P ds → Stp G0 M0 H0 G' M' H' → Wf R G' M' H' r → H0 l = none → G' l = none → H' l = some (.lst ws) → RpAll K G' ws ds → D.rt (.ref l) H') → ts D σ H
section
variable {K : PySem.W.Frag} {ρ : Type} {R : ρ → Hp → Hp → Prop} {e : SE} {r : ρ} {te : TE} {t : TT} {tu tw tz : TS} {d : PyData} {ds : List PyData} {P : List PyData → Prop}
theorem spn_ret (h : EvF K R te e r ds) (k : P ds) : SPN K R (tRet te) e r P := fun G0 M0 H0 σ G M H D s v w q =>
  h H0 σ G M H v w _ fun l vs G' M' H' s' w' h1 h2 h3 h4 h5 => q l vs ds G' M' H' k (s.trans s') w' (born s h1) h2 h4 h5
theorem spn_retO {i : Nat} (hi : e[i]? = some (.own ds)) (k : P ds) : SPN K R (tRet (tVar i)) e r P := fun G0 M0 H0 σ G M H D s v w q => by
  obtain ⟨l, vs, h1, h2, h3, h4, h5, h6⟩ := v.own i ds hi
  exact ⟨.ref l, h1, q l vs ds G M H k s w h2 h3 h5 h6⟩
theorem spn_if {b : Bool} (h : EvT K R t e r b) (k1 : b = true → SPN K R tu e r P) (k2 : b = false → SPN K R tw e r P) : SPN K R (tIfS t tu tw) e r P := fun G0 M0 H0 σ G M H D s v w q =>
  h H0 σ G M H v w _ fun b' r' G' M' H' ⟨e1, e2⟩ s' w' => by
    subst e1 e2
    cases b' with
    | true =>
      show tu D σ H'
      exact k1 rfl G0 M0 H0 σ G' M' H' D (s.trans s') (v.step s') w' q
    | false =>
      show tw D σ H'
      exact k2 rfl G0 M0 H0 σ G' M' H' D (s.trans s') (v.step s') w' q
/-- an if that returns, then the rest -/
theorem spn_when {b : Bool} (h : EvT K R t e r b) (k1 : b = true → SPN K R tu e r P) (k2 : b = false → SPN K R tz e r P) : SPN K R (tSeq (tIfS t tu tNext) tz) e r P := fun G0 M0 H0 σ G M H D s v w q =>
  h H0 σ G M H v w _ fun b' r' G' M' H' ⟨e1, e2⟩ s' w' => by
    subst e1 e2
    cases b' with
    | true =>
      show tu { D with nx := tz D } σ H'
      exact k1 rfl G0 M0 H0 σ G' M' H' _ (s.trans s') (v.step s') w' q
    | false =>
      show tz D σ H'
      exact k2 rfl G0 M0 H0 σ G' M' H' D (s.trans s') (v.step s') w' q
/-- through a part that may return too -/
theorem spn_seq {E : XK} {N : SE → ρ → Prop} (h : SP K R E tu e r ⟨N, fun _ _ => False, fun _ _ => False, fun _ _ => False, fun _ _ => False, fun _ _ => False⟩) (k : ∀ e r', N e r' → r' = r ∧ SPN K R tz e r P) : SPN K R (tSeq tu tz) e r P := fun G0 M0 H0 σ G M H D s v w q =>
  h G0 M0 H0 σ G M H _ s v w ⟨fun e' r' σ' G' M' H' n s' v' w' => by
    obtain ⟨e1, k1⟩ := k e' r' n
    subst e1
    exact k1 G0 M0 H0 σ' G' M' H' D s' v' w' q, fun _ _ _ _ _ _ z => z.elim, fun _ _ _ _ _ _ z => z.elim, fun _ _ _ _ _ _ z => z.elim, fun _ _ _ _ _ z => z.elim, fun _ _ _ _ _ _ _ z => z.elim⟩
end

/-! ### defs that change the state, or raise -/
section
variable {P : Program} {w : World} {K : PySem.W.Frag} {mg : Str → Option Value} {base : Heap}
theorem passX {X : Cx} {E : XK} (tk : Takes X (fun cls d _ H => E cls d H)) : Passes (L2.CX X.prog X.w) X E := passes_call tk fun _ _ _ _ h => h
theorem ok_obj {x qual : Str} {st : Stmt} {f : Addr} {fd : FuncData} {N ps : List Str} {k : Nat} {ρ : Type} {R : ρ → Hp → Hp → Prop} {α : Type} {args : α → List PyData} {pre : α → ρ → Prop} {post : α → ρ → PyData → ρ → Prop} {exc : α → ρ → Value → ρ → Prop}
    (F : Fun K x qual st f fd) (S : FnScope N ps (defScope st)) (len : ∀ a, (args a).length = ps.length)
    (body : ∀ (cdv : Value) (A : Around) (outer : List Env) (s : Shared) (H : Hp) (E : XK), Room k (A.deeper (PyProof.Rows.envOfC qual (defScope st) s.heap.objs.size f cdv)) →
      ∃ t, PSs (cxOf (L2.CX P w) P w K mg base N qual (defScope st) f cdv A outer s H E) (defBody st) t ∧ ∀ a r, pre a r → SP K R E t (startE (args a) (N.length - ps.length)) r ⟨fun _ r' => post a r .none r', fun d r' => post a r d r', fun _ _ => False, fun _ _ => False, fun c r' => exc a r c r', fun _ _ => False⟩) :
    FnOk P w K mg base (L2.CX P w) (k + 1) f fd ps (spX K R args pre post exc) := by
  refine F.okX S (fun vs H Q E h => ?_) (fun cdv A outer s H vs Q E hr h => ?_)
  · obtain ⟨G, M, a, r, p, hv, hp, _⟩ := h
    rw [hv.length]
    exact len a
  · obtain ⟨t, ht, hb⟩ := body cdv A outer s H E hr
    refine ⟨t, ht, ?_⟩
    obtain ⟨G, M, a, r, wf, hv, hp, q, qe⟩ := h
    have hs : L2.start N vs = vs.map some ++ List.replicate (N.length - ps.length) none := by unfold L2.start; rw [hv.length, len a]
    rw [hs]
    exact hb a r hp G M H _ G M H _ (Stp.refl _ _ _) (env_start hv) wf ⟨fun e r' σ G' M' H' hp' s' v' w' => q .non .none r' G' M' H' hp' s' w' .non, fun d r' v G' M' H' hp' s' w' hx => q v d r' G' M' H' hp' s' w' hx, fun _ _ _ _ _ _ z => z.elim, fun _ _ _ _ _ _ z => z.elim, fun c r' G' M' H' hp' s' w' => qe c r' G' M' H' hp' s' w', fun _ _ _ _ _ _ _ z => z.elim⟩
/-- a def whose own objects are forgotten at its end -/
theorem ok_pureR {x qual : Str} {st : Stmt} {f : Addr} {fd : FuncData} {N ps : List Str} {k : Nat} {ρ : Type} {R : ρ → Hp → Hp → Prop} {α : Type} {args : α → List PyData} {pre : α → Prop} {res : α → PyData → Prop} (F : Fun K x qual st f fd) (S : FnScope N ps (defScope st))
    (len : ∀ a, (args a).length = ps.length) (r0 : Hp → ρ) (h0 : ∀ G M, R (r0 M) G M)
    (body : ∀ (cdv : Value) (A : Around) (outer : List Env) (s : Shared) (H : Hp) (E : XK), Room k (A.deeper (PyProof.Rows.envOfC qual (defScope st) s.heap.objs.size f cdv)) →
      ∃ t, PSs (cxOf CX0 P w K mg base N qual (defScope st) f cdv A outer s H E).nox (defBody st) t ∧ ∀ (M0 : Hp) a, pre a → SP K R E0 t (startE (args a) (N.length - ps.length)) (r0 M0) ⟨fun _ r' => res a .none ∧ ∀ G M, R r' G M → Same M0 M, fun d r' => res a d ∧ ∀ G M, R r' G M → Same M0 M, fun _ _ => False, fun _ _ => False, fun _ _ => False, fun _ _ => False⟩) :
    FnOk P w K mg base CX0 (k + 1) f fd ps (spD K args pre res) := by
  refine F.ok S (fun vs H Q E h => ?_) (fun cdv A outer s H vs Q E hr h => ?_)
  · obtain ⟨G, M, a, p, hv, hp, _⟩ := h
    rw [hv.length]
    exact len a
  · obtain ⟨t, ht, hb⟩ := body cdv A outer s H E hr
    refine ⟨t, ht, ?_⟩
    obtain ⟨G, M, a, p, hv, hp, q⟩ := h
    have hs : L2.start N vs = vs.map some ++ List.replicate (N.length - ps.length) none := by unfold L2.start; rw [hv.length, len a]
    rw [hs]
    have fin : ∀ {G' M' H' : Hp}, Stp G M H G' M' H' → Same G' H' → Same M' H' → (∀ b, M' b ≠ none → G' b = none) → Same M M' → Al G M H G' H' := fun s1 g1 m1 d1 sm =>
      ⟨⟨s1.gg, s1.th, s1.fr, s1.ng, fun _ _ m => m⟩, g1, sm.trans m1, fun b hb => d1 b (by
        cases z : M b with
        | none => exact absurd z hb
        | some o => exact some_ne (sm b o z))⟩
    refine hb M a hp G M H _ G M H _ (Stp.refl _ _ _) (env_start hv) ⟨p.1, p.2.1, p.2.2, h0 G M⟩ ⟨?_, ?_, fun _ _ _ _ _ _ z => z.elim, fun _ _ _ _ _ _ z => z.elim, fun _ _ _ _ _ z => z.elim, fun _ _ _ _ _ _ _ z => z.elim⟩
    · intro e r σ G' M' H' hp' s' v' w'
      exact q .non .none G' H' hp'.1 (fin s' w'.gh w'.mh w'.dj (hp'.2 _ _ w'.res)) .non
    · intro d r v G' M' H' hp' s' w' hx
      exact q v d G' H' hp'.1 (fin s' w'.gh w'.mh w'.dj (hp'.2 _ _ w'.res)) hx
/-- a pure def that returns a new list -/
theorem ok_new {x qual : Str} {st : Stmt} {f : Addr} {fd : FuncData} {N ps : List Str} {k : Nat} {α : Type} {args : α → List PyData} {pre : α → Prop} {res : α → List PyData} (F : Fun K x qual st f fd) (S : FnScope N ps (defScope st))
    (len : ∀ a, (args a).length = ps.length)
    (body : ∀ (cdv : Value) (A : Around) (outer : List Env) (s : Shared) (H : Hp) (E : XK), Room k (A.deeper (PyProof.Rows.envOfC qual (defScope st) s.heap.objs.size f cdv)) →
      ∃ t, PSs (cxOf CX0 P w K mg base N qual (defScope st) f cdv A outer s H E).nox (defBody st) t ∧ ∀ (M0 : Hp) a, pre a → SPN K (RM M0) t (startE (args a) (N.length - ps.length)) () (fun ds => ds = res a)) :
    FnOk P w K mg base CX0 (k + 1) f fd ps (spN K args pre res) := by
  refine F.ok S (fun vs H Q E h => ?_) (fun cdv A outer s H vs Q E hr h => ?_)
  · obtain ⟨G, M, a, p, hv, hp, _⟩ := h
    rw [hv.length]
    exact len a
  · obtain ⟨t, ht, hb⟩ := body cdv A outer s H E hr
    refine ⟨t, ht, ?_⟩
    obtain ⟨G, M, a, p, hv, hp, q⟩ := h
    have hs : L2.start N vs = vs.map some ++ List.replicate (N.length - ps.length) none := by unfold L2.start; rw [hv.length, len a]
    rw [hs]
    refine hb M a hp G M H _ G M H _ (Stp.refl _ _ _) (env_start hv) ⟨p.1, p.2.1, p.2.2, rfl⟩ fun l ws ds G' M' H' e1 s' w' h1 h2 h3 h4 => ?_
    have e2 : M' = M := w'.res
    subst e1 e2
    exact q l ws G' H' ⟨s', w'.gh, w'.mh, w'.dj⟩ h1 h2 h3 h4
theorem ok_pureX {x qual : Str} {st : Stmt} {f : Addr} {fd : FuncData} {N ps : List Str} {k : Nat} {α : Type} {args : α → List PyData} {pre : α → Prop} {res : α → PyData → Prop} {exc : α → Value → Prop}
    (F : Fun K x qual st f fd) (S : FnScope N ps (defScope st)) (len : ∀ a, (args a).length = ps.length)
    (body : ∀ (cdv : Value) (A : Around) (outer : List Env) (s : Shared) (H : Hp) (E : XK), Room k (A.deeper (PyProof.Rows.envOfC qual (defScope st) s.heap.objs.size f cdv)) →
      ∃ t, PSs (cxOf (L2.CX P w) P w K mg base N qual (defScope st) f cdv A outer s H E) (defBody st) t ∧ ∀ (M0 : Hp) a, pre a → SP K (RM M0) E t (startE (args a) (N.length - ps.length)) () ⟨fun _ _ => res a .none, fun d _ => res a d, fun _ _ => False, fun _ _ => False, fun c _ => exc a c, fun _ _ => False⟩) :
    FnOk P w K mg base (L2.CX P w) (k + 1) f fd ps (spPX K args pre res exc) := by
  refine F.okX S (fun vs H Q E h => ?_) (fun cdv A outer s H vs Q E hr h => ?_)
  · obtain ⟨G, M, a, p, hv, hp, _⟩ := h
    rw [hv.length]
    exact len a
  · obtain ⟨t, ht, hb⟩ := body cdv A outer s H E hr
    refine ⟨t, ht, ?_⟩
    obtain ⟨G, M, a, p, hv, hp, q, qe⟩ := h
    have hs : L2.start N vs = vs.map some ++ List.replicate (N.length - ps.length) none := by unfold L2.start; rw [hv.length, len a]
    rw [hs]
    refine hb M a hp G M H _ G M H _ (Stp.refl _ _ _) (env_start hv) ⟨p.1, p.2.1, p.2.2, rfl⟩ ⟨?_, ?_, fun _ _ _ _ _ _ z => z.elim, fun _ _ _ _ _ _ z => z.elim, ?_, fun _ _ _ _ _ _ _ z => z.elim⟩
    · intro e r σ G' M' H' hp' s' v' w'
      have e1 : M' = M := w'.res
      subst e1
      exact q .non .none G' H' hp' ⟨s', w'.gh, w'.mh, w'.dj⟩ .non
    · intro d r v G' M' H' hp' s' w' hx
      have e1 : M' = M := w'.res
      subst e1
      exact q v d G' H' hp' ⟨s', w'.gh, w'.mh, w'.dj⟩ hx
    · intro c r G' M' H' hp' s' w'
      have e1 : M' = M := w'.res
      subst e1
      exact qe c G' H' hp' ⟨s', w'.gh, w'.mh, w'.dj⟩
/-- raise C(..) -/
theorem sp_raise {ρ : Type} {R : ρ → Hp → Hp → Prop} {r : ρ} {e : SE} {Po : Post ρ} {E : XK} {C : Value} (k : Po.ex C r) : SP K R E (fun _ σ H => (fun σ H (Q : XK) => Q C none H) σ H fun cls d H' => (fun cls d (_ : St) H => E cls d H) cls d σ H') e r Po := fun G0 M0 H0 σ G M H D s v w q => q.ex C r G M H k s w
structure InitAt (K : PySem.W.Frag) (C : Addr) (qual : Str) (st : Stmt) (ps : List Str) where
  a : Addr
  fd : FuncData
  F : Fun K "__init__" qual st a fd
  b : Binds K fd ps []
  m : Mk K C a
end
end Fw

/-! A keeper: its fields, what holds of it. -/
namespace Fw
open PySem L2
structure KS where
  term : Int := 0
  row : List Ent := []
  leads : Bool := false
  settled : Int := 0
  ahead : List Int := []
  held : List Int := []
structure KC where
  dx : Addr
  rw : V
  al : Addr
  hl : Addr
def kf (t : Int) (rw : V) (ld : Bool) (s : Int) (al hl : Addr) : List (Str × V) := [("term", .int t), ("row", rw), ("leads", .bl ld), ("settled", .int s), ("ahead", .ref al), ("held", .ref hl)]
section
theorem ne_tr : (("term" : Str) == "row") = false := by decide +kernel
theorem n_rt : ¬ ("row" : Str) = "term" := by decide +kernel
theorem n_lt : ¬ ("leads" : Str) = "term" := by decide +kernel
theorem n_lr : ¬ ("leads" : Str) = "row" := by decide +kernel
theorem n_st : ¬ ("settled" : Str) = "term" := by decide +kernel
theorem n_sr : ¬ ("settled" : Str) = "row" := by decide +kernel
theorem n_sl : ¬ ("settled" : Str) = "leads" := by decide +kernel
theorem n_at : ¬ ("ahead" : Str) = "term" := by decide +kernel
theorem n_ar : ¬ ("ahead" : Str) = "row" := by decide +kernel
theorem n_al : ¬ ("ahead" : Str) = "leads" := by decide +kernel
theorem n_as : ¬ ("ahead" : Str) = "settled" := by decide +kernel
theorem n_ht : ¬ ("held" : Str) = "term" := by decide +kernel
theorem n_hr : ¬ ("held" : Str) = "row" := by decide +kernel
theorem n_hl : ¬ ("held" : Str) = "leads" := by decide +kernel
theorem n_hs : ¬ ("held" : Str) = "settled" := by decide +kernel
theorem n_ha : ¬ ("held" : Str) = "ahead" := by decide +kernel
variable {t : Int} {rw_ : V} {ld : Bool} {s : Int} {al hl : Addr}
theorem look_cons (f g : Str) (v : V) (r : List (Str × V)) : List.lookup f ((g, v) :: r) = if f = g then some v else List.lookup f r := by
  by_cases h : f = g
  · subst h; rw [if_pos rfl]; simp [List.lookup]
  · rw [if_neg h]
    have : (f == g) = false := by simpa using h
    simp [List.lookup, this]
theorem kf_term : (kf t rw_ ld s al hl).lookup ("term" : Str) = some (.int t) := by unfold kf; rw [look_cons, if_pos rfl]
theorem kf_row : (kf t rw_ ld s al hl).lookup ("row" : Str) = some rw_ := by unfold kf; rw [look_cons, if_neg n_rt, look_cons, if_pos rfl]
theorem kf_leads : (kf t rw_ ld s al hl).lookup ("leads" : Str) = some (.bl ld) := by unfold kf; rw [look_cons, if_neg n_lt, look_cons, if_neg n_lr, look_cons, if_pos rfl]
theorem kf_settled : (kf t rw_ ld s al hl).lookup ("settled" : Str) = some (.int s) := by unfold kf; rw [look_cons, if_neg n_st, look_cons, if_neg n_sr, look_cons, if_neg n_sl, look_cons, if_pos rfl]
theorem kf_ahead : (kf t rw_ ld s al hl).lookup ("ahead" : Str) = some (.ref al) := by unfold kf; rw [look_cons, if_neg n_at, look_cons, if_neg n_ar, look_cons, if_neg n_al, look_cons, if_neg n_as, look_cons, if_pos rfl]
theorem kf_held : (kf t rw_ ld s al hl).lookup ("held" : Str) = some (.ref hl) := by unfold kf; rw [look_cons, if_neg n_ht, look_cons, if_neg n_hr, look_cons, if_neg n_hl, look_cons, if_neg n_hs, look_cons, if_neg n_ha, look_cons, if_pos rfl]
theorem put_cons (f g : Str) (v w : V) (r : List (Str × V)) : putF f v ((g, w) :: r) = if g = f then (g, v) :: r else (g, w) :: putF f v r := by
  show (if g = f then (g, v) :: r else (g, w) :: putF f v r) = _
  rfl
theorem kf_pterm (x : Int) : putF "term" (.int x) (kf t rw_ ld s al hl) = kf x rw_ ld s al hl := by unfold kf; rw [put_cons, if_pos rfl]
theorem kf_prow (x : V) : putF "row" x (kf t rw_ ld s al hl) = kf t x ld s al hl := by unfold kf; rw [put_cons, if_neg (Ne.symm n_rt), put_cons, if_pos rfl]
theorem kf_pleads (x : Bool) : putF "leads" (.bl x) (kf t rw_ ld s al hl) = kf t rw_ x s al hl := by unfold kf; rw [put_cons, if_neg (Ne.symm n_lt), put_cons, if_neg (Ne.symm n_lr), put_cons, if_pos rfl]
theorem kf_psettled (x : Int) : putF "settled" (.int x) (kf t rw_ ld s al hl) = kf t rw_ ld x al hl := by unfold kf; rw [put_cons, if_neg (Ne.symm n_st), put_cons, if_neg (Ne.symm n_sr), put_cons, if_neg (Ne.symm n_sl), put_cons, if_pos rfl]
theorem kf_pahead (x : Addr) : putF "ahead" (.ref x) (kf t rw_ ld s al hl) = kf t rw_ ld s x hl := by unfold kf; rw [put_cons, if_neg (Ne.symm n_at), put_cons, if_neg (Ne.symm n_ar), put_cons, if_neg (Ne.symm n_al), put_cons, if_neg (Ne.symm n_as), put_cons, if_pos rfl]
theorem kf_pheld (x : Addr) : putF "held" (.ref x) (kf t rw_ ld s al hl) = kf t rw_ ld s al x := by unfold kf; rw [put_cons, if_neg (Ne.symm n_ht), put_cons, if_neg (Ne.symm n_hr), put_cons, if_neg (Ne.symm n_hl), put_cons, if_neg (Ne.symm n_hs), put_cons, if_neg (Ne.symm n_ha), put_cons, if_pos rfl]
theorem kf_len : (kf t rw_ ld s al hl).length < 1000 := by show 6 < 1000; decide
theorem kf_no {m : Str} (h1 : ¬ m = "term") (h2 : ¬ m = "row") (h3 : ¬ m = "leads") (h4 : ¬ m = "settled") (h5 : ¬ m = "ahead") (h6 : ¬ m = "held") : (kf t rw_ ld s al hl).lookup m = none := by
  unfold kf; rw [look_cons, if_neg h1, look_cons, if_neg h2, look_cons, if_neg h3, look_cons, if_neg h4, look_cons, if_neg h5, look_cons, if_neg h6]; rfl
theorem kf_hear : (kf t rw_ ld s al hl).lookup ("hear" : Str) = none := kf_no (by decide +kernel) (by decide +kernel) (by decide +kernel) (by decide +kernel) (by decide +kernel) (by decide +kernel)
theorem kf_asked : (kf t rw_ ld s al hl).lookup ("asked" : Str) = none := kf_no (by decide +kernel) (by decide +kernel) (by decide +kernel) (by decide +kernel) (by decide +kernel) (by decide +kernel)
theorem kf_begin : (kf t rw_ ld s al hl).lookup ("begin" : Str) = none := kf_no (by decide +kernel) (by decide +kernel) (by decide +kernel) (by decide +kernel) (by decide +kernel) (by decide +kernel)
theorem kf_all (v1 v2 v3 v4 v5 v6 : V) : putF "held" v6 (putF "ahead" v5 (putF "settled" v4 (putF "leads" v3 (putF "row" v2 (putF "term" v1 []))))) = ([("term", v1), ("row", v2), ("leads", v3), ("settled", v4), ("ahead", v5), ("held", v6)] : List (Str × V)) := by
  have e1 : putF "term" v1 [] = [(("term" : Str), v1)] := rfl
  have e2 : putF "row" v2 [(("term" : Str), v1)] = [(("term" : Str), v1), ("row", v2)] := by rw [put_cons, if_neg (Ne.symm n_rt)]; rfl
  have e3 : putF "leads" v3 [(("term" : Str), v1), ("row", v2)] = [(("term" : Str), v1), ("row", v2), ("leads", v3)] := by rw [put_cons, if_neg (Ne.symm n_lt), put_cons, if_neg (Ne.symm n_lr)]; rfl
  have e4 : putF "settled" v4 [(("term" : Str), v1), ("row", v2), ("leads", v3)] = [(("term" : Str), v1), ("row", v2), ("leads", v3), ("settled", v4)] := by rw [put_cons, if_neg (Ne.symm n_st), put_cons, if_neg (Ne.symm n_sr), put_cons, if_neg (Ne.symm n_sl)]; rfl
  have e5 : putF "ahead" v5 [(("term" : Str), v1), ("row", v2), ("leads", v3), ("settled", v4)] = [(("term" : Str), v1), ("row", v2), ("leads", v3), ("settled", v4), ("ahead", v5)] := by rw [put_cons, if_neg (Ne.symm n_at), put_cons, if_neg (Ne.symm n_ar), put_cons, if_neg (Ne.symm n_al), put_cons, if_neg (Ne.symm n_as)]; rfl
  rw [e1, e2, e3, e4, e5, put_cons, if_neg (Ne.symm n_ht), put_cons, if_neg (Ne.symm n_hr), put_cons, if_neg (Ne.symm n_hl), put_cons, if_neg (Ne.symm n_hs), put_cons, if_neg (Ne.symm n_ha)]; rfl
end
/-- a keeper k at a -/
structure KAt (C : Addr) (r : MF) (a : Addr) (c : KC) (k : KS) : Prop where
  ob : r.m a = some (.ins C c.dx (kf k.term c.rw k.leads k.settled c.al c.hl))
  row : r.f c.rw (rowD k.row)
  al : r.m c.al = some (.lst (k.ahead.map .int))
  hl : r.m c.hl = some (.lst (k.held.map .int))
  ne : c.al ≠ c.hl
def KS.hear (k : KS) (t : Int) : KS := if k.term < t then { k with term := t, leads := false } else k
def KS.begin_ (k : KS) (n : Nat) : KS := { k with leads := true, ahead := List.replicate n (k.row.length : Int), held := List.replicate n 0 }
/-- all but a is as it was -/
structure Fr1 (a : Addr) (r r' : MF) : Prop where
  m : ∀ b, b ≠ a → r'.m b = r.m b
  f : ∀ v d, r.f v d → r'.f v d
section
variable {C a : Addr} {r r' : MF} {c : KC} {k : KS}
theorem KAt.ne_al (h : KAt C r a c k) : c.al ≠ a := ne_of h.al h.ob (by intro z; cases z)
theorem KAt.ne_hl (h : KAt C r a c k) : c.hl ≠ a := ne_of h.hl h.ob (by intro z; cases z)
theorem KAt.upd (h : KAt C r a c k) {k' : KS} (f : Fr1 a r r') (ho : r'.m a = some (.ins C c.dx (kf k'.term c.rw k'.leads k'.settled c.al c.hl))) (e1 : k'.row = k.row) (e2 : k'.ahead = k.ahead) (e3 : k'.held = k.held) : KAt C r' a c k' :=
  ⟨ho, by rw [e1]; exact f.f _ _ h.row, by rw [f.m _ h.ne_al, e2]; exact h.al, by rw [f.m _ h.ne_hl, e3]; exact h.hl, h.ne⟩
end
theorem Fr1.refl (a : Addr) (r : MF) : Fr1 a r r := ⟨fun _ _ => rfl, fun _ _ h => h⟩
theorem Fr1.trans {a : Addr} {r r1 r2 : MF} (x : Fr1 a r r1) (y : Fr1 a r1 r2) : Fr1 a r r2 := ⟨fun b h => (y.m b h).trans (x.m b h), fun v d h => y.f v d (x.f v d h)⟩
end Fw
namespace Fw
open PySem L2
theorem KAt.other {C x y : Addr} {r r' : MF} {cx cy : KC} {kx ky : KS} (h : KAt C r y cy ky) (hx : KAt C r x cx kx) (f : Fr1 x r r') (ne : y ≠ x) : KAt C r' y cy ky :=
  ⟨by rw [f.m _ ne]; exact h.ob, f.f _ _ h.row, by rw [f.m _ (ne_of h.al hx.ob (by intro z; cases z))]; exact h.al, by rw [f.m _ (ne_of h.hl hx.ob (by intro z; cases z))]; exact h.hl, h.ne⟩
theorem KAt.weak {C x : Addr} {m : Hp} {f f' : V → PyData → Prop} {c : KC} {k : KS} (h : KAt C ⟨m, f⟩ x c k) (hf : f' c.rw (rowD k.row)) : KAt C ⟨m, f'⟩ x c k := ⟨h.ob, hf, h.al, h.hl, h.ne⟩
theorem KAt.mono {C x : Addr} {r r' : MF} {c : KC} {k : KS} (h : KAt C r x c k) (hm : ∀ b o, r.m b = some o → r'.m b = some o) (hf : ∀ v d, r.f v d → r'.f v d) : KAt C r' x c k := ⟨hm _ _ h.ob, hf _ _ h.row, hm _ _ h.al, hm _ _ h.hl, h.ne⟩
theorem hear_row (k : KS) (t : Int) : (k.hear t).row = k.row := by unfold KS.hear; split <;> rfl
end Fw

/-! The room as a model: what each deed does, in plain Lean. -/
namespace Fw
open PySem L2
def updS (st : Nat → KS) (i : Nat) (k : KS) : Nat → KS := fun j => if j = i then k else st j
theorem updS_same {st : Nat → KS} {i : Nat} {k : KS} : updS st i k i = k := by unfold updS; rw [if_pos rfl]
theorem updS_ne {st : Nat → KS} {i j : Nat} {k : KS} (h : j ≠ i) : updS st i k j = st j := by unfold updS; rw [if_neg h]
theorem updS_upd {st : Nat → KS} {i : Nat} {k k' : KS} : updS (updS st i k) i k' = updS st i k' := by funext j; unfold updS; split <;> rfl
theorem updS_self {st : Nat → KS} {i : Nat} : updS st i (st i) = st := by
  funext j
  unfold updS
  split
  · rename_i h; rw [h]
  · rfl
structure RSt where
  p : Addr
  n : Nat
  st : Nat → KS
def RSt.up (s : RSt) (i : Nat) (k : KS) : RSt := { s with st := updS s.st i k }
/-- asking for voices: one after the other -/
def askAll (st : Nat → KS) (k : Nat) : List Int → Int → (Nat → KS) × Int
  | [], v => (st, v)
  | o :: os, v => askAll (updS st o.toNat ((st o.toNat).hear (st k).term)) k os (if decide ((st o.toNat).term < (st k).term) && asNew (st k).row (st o.toNat).row then v + 1 else v)
def stand1 (st : Nat → KS) (k : Nat) : Nat → KS := updS st k ((st k).hear ((st k).term + 1))
def standSt (n : Nat) (st : Nat → KS) (k : Nat) (os : List Int) : Nat → KS :=
  if (n : Int) < 2 * (askAll (stand1 st k) k os 1).2 then updS (askAll (stand1 st k) k os 1).1 k (((askAll (stand1 st k) k os 1).1 k).begin_ n) else (askAll (stand1 st k) k os 1).1
def RSt.stand (s : RSt) (k : Nat) (os : List Int) : RSt := { s with st := standSt s.n s.st k os }
def RSt.write (s : RSt) (k : Nat) (w : Str) : RSt := s.up k { s.st k with row := (s.st k).row ++ [((s.st k).term, w)] }
/-- a row filled from a place -/
def fillD : List Ent → List Ent → Option Nat
  | _, [] => none
  | [], _ :: _ => some 0
  | x :: r, y :: s => if x.1 = y.1 then (fillD r s).map (· + 1) else some 0
def fillR (es : List Ent) (at_ : Nat) (some_ : List Ent) : List Ent := match fillD (es.drop at_) some_ with
  | none => es
  | some k => es.take (at_ + k) ++ some_.drop k
def KS.part (k : KS) (at_ many : Int) : List Ent := (k.row.drop at_.toNat).take many.toNat
def KS.aheadAt (k : KS) (o : Nat) : Int := k.ahead.getD o 0
def handOwn (k : KS) (o : Nat) (many : Int) : KS :=
  { k with ahead := k.ahead.set o (k.aheadAt o + ((k.part (k.aheadAt o) many).length : Int)), held := k.held.set o (k.aheadAt o + ((k.part (k.aheadAt o) many).length : Int)) }
def handOne (k one : KS) (o : Nat) (many : Int) : KS :=
  { one with row := fillR one.row (k.aheadAt o).toNat (k.part (k.aheadAt o) many), settled := (let x := (let y := k.aheadAt o + ((k.part (k.aheadAt o) many).length : Int); if y < k.settled then y else k.settled); if x > one.settled then x else one.settled) }
def handTold (st : Nat → KS) (k o : Nat) : Bool := !decide ((st k).term < (st o).term) && agreesB (st o).row ((st k).aheadAt o) (lastT ((st k).row.take ((st k).aheadAt o).toNat))
def handSt (st : Nat → KS) (k o : Nat) (many : Int) : Nat → KS :=
  if (st k).term < (st o).term then updS st k ((st k).hear (st o).term)
  else if agreesB (st o).row ((st k).aheadAt o) (lastT ((st k).row.take ((st k).aheadAt o).toNat)) then
    updS (updS st o (handOne (st k) ((st o).hear (st k).term) o many)) k (handOwn (st k) o many)
  else updS (updS st o ((st o).hear (st k).term)) k { st k with ahead := (st k).ahead.set o ((st k).aheadAt o - 1) }
def RSt.hand (s : RSt) (k o : Nat) (many : Int) : RSt := { s with st := handSt s.st k o many }
def KS.settleN (k : KS) (i : Nat) : Int := (let x := settledBy k.row k.term (k.held.set i (k.row.length : Int)); if x > k.settled then x else k.settled)
def RSt.settle (s : RSt) (k : Nat) : RSt := s.up k { s.st k with settled := (s.st k).settleN k }
def RSt.rest (s : RSt) (k : Nat) : RSt := s.up k { s.st k with leads := false, settled := 0 }
/-- what every reachable keeper is like -/
structure KGood (n : Nat) (k : KS) : Prop where
  ok : rowOk k.row
  small : k.row.length ≤ 50000
  s0 : 0 ≤ k.settled
  al : k.leads = true → k.ahead.length = n
  hl : k.leads = true → k.held.length = n
  a0 : ∀ i, 0 ≤ k.aheadAt i
  a1 : k.leads = true → ∀ i, k.aheadAt i ≤ k.row.length
def Good (s : RSt) : Prop := s.n ≤ 9 ∧ ∀ i, i < s.n → KGood s.n (s.st i)
end Fw

/-! The room in the heap. -/
namespace Fw
open PySem L2
def rf (L : Addr) : List (Str × V) := [("keepers", .ref L)]
theorem rf_keepers {L : Addr} : (rf L).lookup ("keepers" : Str) = some (.ref L) := by unfold rf; rw [look_cons, if_pos rfl]
theorem rf_no {L : Addr} {m : Str} (h : ¬ m = "keepers") : (rf L).lookup m = none := by unfold rf; rw [look_cons, if_neg h]; rfl
def updC (c : Nat → KC) (i : Nat) (x : KC) : Nat → KC := fun j => if j = i then x else c j
theorem updC_same {c : Nat → KC} {i : Nat} {x : KC} : updC c i x i = x := by unfold updC; rw [if_pos rfl]
theorem updC_ne {c : Nat → KC} {i j : Nat} {x : KC} (h : j ≠ i) : updC c i x j = c j := by unfold updC; rw [if_neg h]
structure RoomAt (CR CK : Addr) (s : RSt) (L : Addr) (a : Nat → Addr) (c : Nat → KC) (r : MF) : Prop where
  ob : ∃ dp, r.m s.p = some (.ins CR dp (rf L))
  ks : r.f (.ref L) (.list ((List.range s.n).map fun i => objD (a i)))
  at_ : ∀ i, i < s.n → KAt CK r (a i) (c i) (s.st i)
  sep : ∀ i j, i < s.n → j < s.n → i ≠ j → a i ≠ a j ∧ (c i).al ≠ (c j).al ∧ (c i).hl ≠ (c j).hl ∧ (c i).al ≠ (c j).hl
section
variable {CR CK : Addr} {s : RSt} {L : Addr} {a : Nat → Addr} {c : Nat → KC} {r r' : MF}
theorem RoomAt.ne_p (h : RoomAt CR CK s L a c r) {i : Nat} (hi : i < s.n) : s.p ≠ a i := by
  obtain ⟨dp, h1⟩ := h.ob
  refine ne_of h1 (h.at_ i hi).ob fun z => ?_
  injection z with _ _ z
  have := congrArg List.length z
  exact absurd (show (1 : Nat) = 6 from this) (by decide)
theorem RoomAt.at_ks (h : RoomAt CR CK s L a c r) {k : Int} (h0 : 0 ≤ k) (h1 : k < s.n) : L2.atI ((List.range s.n).map fun i => objD (a i)) k = some (objD (a k.toNat)) := by
  have e : k = (k.toNat : Int) := by omega
  have := atI_nat (xs := (List.range s.n).map fun i => objD (a i)) (j := k.toNat) (v := objD (a k.toNat)) (by rw [List.getElem?_map, List.getElem?_range (by omega)]; rfl)
  rw [← e] at this
  exact this
/-- one keeper is put -/
theorem RoomAt.put (h : RoomAt CR CK s L a c r) {i : Nat} (hi : i < s.n) {c' : KC} {k' : KS} (hk : KAt CK r' (a i) c' k') (fm : ∀ b o, r.m b = some o → b ≠ a i → b ≠ (c i).al → b ≠ (c i).hl → r'.m b = some o) (ff : ∀ v d, r.f v d → r'.f v d)
    (hal : c'.al = (c i).al ∨ r.m c'.al = none) (hhl : c'.hl = (c i).hl ∨ r.m c'.hl = none) : RoomAt CR CK (s.up i k') L a (updC c i c') r' := by
  have nal : ∀ j, j < s.n → j ≠ i → c'.al ≠ (c j).al ∧ c'.al ≠ (c j).hl := fun j hj ne => by
    obtain ⟨_, q1, q2, q3⟩ := h.sep i j hi hj ne.symm
    rcases hal with z | z
    · rw [z]; exact ⟨q1, q3⟩
    · exact ⟨(fun e => by rw [e, (h.at_ j hj).al] at z; cases z), (fun e => by rw [e, (h.at_ j hj).hl] at z; cases z)⟩
  have nhl : ∀ j, j < s.n → j ≠ i → c'.hl ≠ (c j).al ∧ c'.hl ≠ (c j).hl := fun j hj ne => by
    obtain ⟨_, q1, q2, q3⟩ := h.sep i j hi hj ne.symm
    obtain ⟨_, _, _, q4⟩ := h.sep j i hj hi ne
    rcases hhl with z | z
    · rw [z]; exact ⟨q4.symm, q2⟩
    · exact ⟨(fun e => by rw [e, (h.at_ j hj).al] at z; cases z), (fun e => by rw [e, (h.at_ j hj).hl] at z; cases z)⟩
  have lst_ne : ∀ {b l : Addr} {C dx : Addr} {fs : List (Str × V)} {xs : List V}, r.m b = some (.ins C dx fs) → r.m l = some (.lst xs) → b ≠ l := fun h1 h2 => ne_of h1 h2 (by intro z; cases z)
  refine ⟨?_, ff _ _ h.ks, fun j hj => ?_, fun j k hj hk' ne => ?_⟩
  · obtain ⟨dp, h1⟩ := h.ob
    exact ⟨dp, fm _ _ h1 (h.ne_p hi) (lst_ne h1 (h.at_ i hi).al) (lst_ne h1 (h.at_ i hi).hl)⟩
  · by_cases e : j = i
    · subst e
      show KAt CK r' (a j) (updC c j c' j) (updS s.st j k' j)
      rw [updC_same, updS_same]; exact hk
    · show KAt CK r' (a j) (updC c i c' j) (updS s.st i k' j)
      rw [updC_ne e, updS_ne e]
      have hj' : j < s.n := hj
      have K := h.at_ j hj'
      have Ki := h.at_ i hi
      obtain ⟨q0, q1, q2, q3⟩ := h.sep j i hj' hi e
      obtain ⟨_, _, _, q4⟩ := h.sep i j hi hj' (Ne.symm e)
      exact ⟨fm _ _ K.ob q0 (lst_ne K.ob Ki.al) (lst_ne K.ob Ki.hl), ff _ _ K.row, fm _ _ K.al (lst_ne Ki.ob K.al).symm q1 q3, fm _ _ K.hl (lst_ne Ki.ob K.hl).symm q4.symm q2, K.ne⟩
  · have hj' : j < s.n := hj
    have hk2 : k < s.n := hk'
    obtain ⟨q0, q1, q2, q3⟩ := h.sep j k hj' hk2 ne
    by_cases e1 : j = i
    · subst e1
      rw [updC_same, updC_ne ne.symm]
      exact ⟨q0, (nal k hk2 ne.symm).1, (nhl k hk2 ne.symm).2, (nal k hk2 ne.symm).2⟩
    · rw [updC_ne e1]
      by_cases e2 : k = i
      · subst e2
        rw [updC_same]
        exact ⟨q0, (nal j hj' e1).1.symm, (nhl j hj' e1).2.symm, (nhl j hj' e1).1.symm⟩
      · rw [updC_ne e2]
        exact ⟨q0, q1, q2, q3⟩
theorem RoomAt.put1 (h : RoomAt CR CK s L a c r) {i : Nat} (hi : i < s.n) {k' : KS} (hk : KAt CK r' (a i) (c i) k') (f : Fr1 (a i) r r') : RoomAt CR CK (s.up i k') L a (updC c i (c i)) r' :=
  h.put hi hk (fun b o hb ne _ _ => by rw [f.m b ne]; exact hb) f.f (.inl rfl) (.inl rfl)
end
/-- the resource: no room yet, or a room -/
def RO (K : PySem.W.Frag) (CR CK : Addr) : Option RSt → Hp → Hp → Prop
  | none, _, M => ∀ b, M b = none
  | some s, G, M => ∃ L a c r, Rmf K r G M ∧ RoomAt CR CK s L a c r
instance {K : PySem.W.Frag} {CR CK : Addr} : Stab (RO K CR CK) := ⟨fun r G G' M s d h => by
  cases r with
  | none => exact h
  | some s' =>
    obtain ⟨L, a, c, r, h1, h2⟩ := h
    exact ⟨L, a, c, r, Stab.out r G G' M s d h1, h2⟩⟩
theorem RO.inst {K : PySem.W.Frag} {CR CK : Addr} {s : RSt} {m : Str} (h : ¬ m = "keepers") : ∀ G M, RO K CR CK (some s) G M → ∃ dx fs, M s.p = some (.ins CR dx fs) ∧ fs.lookup m = none := fun G M ⟨L, a, c, r, h1, h2⟩ => by
  obtain ⟨dp, h3⟩ := h2.ob
  exact ⟨dp, rf L, by rw [h1.1]; exact h3, rf_no h⟩
/-- from the objects to the resource -/
theorem spX_room {K : PySem.W.Frag} {CR CK : Addr} {α : Type} {args : α → List PyData} {pre : α → Option RSt → Prop} {post : α → Option RSt → PyData → Option RSt → Prop} {exc : α → Option RSt → Value → Option RSt → Prop} {z : α → RSt}
    (hz : ∀ a r, pre a r → r = some (z a)) {vs : List V} {H : Hp} {Q : VK} {E : XK} (h : spX K (RO K CR CK) args pre post exc vs H Q E) :
    spX K (Rmf K) (fun x : α × Addr × (Nat → Addr) × (Nat → KC) => args x.1) (fun x r => pre x.1 (some (z x.1)) ∧ RoomAt CR CK (z x.1) x.2.1 x.2.2.1 x.2.2.2 r)
      (fun x _ d r' => ∃ s' L' a' c', post x.1 (some (z x.1)) d (some s') ∧ RoomAt CR CK s' L' a' c' r') (fun x _ e r' => ∃ s' L' a' c', exc x.1 (some (z x.1)) e (some s') ∧ RoomAt CR CK s' L' a' c' r') vs H Q E := by
  obtain ⟨G, M, x, r, wf, hv, hp, q, qe⟩ := h
  have e := hz _ _ hp
  subst e
  obtain ⟨L, a, c, r0, h1, h2⟩ := wf.res
  refine ⟨G, M, (x, L, a, c), r0, ⟨wf.gh, wf.mh, wf.dj, h1⟩, hv, ⟨hp, h2⟩, ?_, ?_⟩
  · rintro v d r' G' M' H' ⟨s', L', a', c', p', h'⟩ st' w'
    intro hx
    exact q v d (some s') G' M' H' p' st' ⟨w'.gh, w'.mh, w'.dj, L', a', c', r', w'.res, h'⟩ hx
  · rintro e r' G' M' H' ⟨s', L', a', c', p', h'⟩ st' w'
    exact qe e (some s') G' M' H' p' st' ⟨w'.gh, w'.mh, w'.dj, L', a', c', r', w'.res, h'⟩
section
variable {P : Program} {w : World} {K : PySem.W.Frag} {mg : Str → Option Value} {base : Heap}
theorem ok_room {CR CK : Addr} {x qual : Str} {st : Stmt} {f : Addr} {fd : FuncData} {N ps : List Str} {k : Nat} {α : Type} {args : α → List PyData} {pre : α → Option RSt → Prop} {post : α → Option RSt → PyData → Option RSt → Prop} {exc : α → Option RSt → Value → Option RSt → Prop} (z : α → RSt)
    (hz : ∀ a r, pre a r → r = some (z a)) (F : Fun K x qual st f fd) (S : FnScope N ps (defScope st)) (len : ∀ a, (args a).length = ps.length)
    (body : ∀ (cdv : Value) (A : Around) (outer : List Env) (s : Shared) (H : Hp) (E : XK), Room k (A.deeper (PyProof.Rows.envOfC qual (defScope st) s.heap.objs.size f cdv)) →
      ∃ t, PSs (cxOf (L2.CX P w) P w K mg base N qual (defScope st) f cdv A outer s H E) (defBody st) t ∧ ∀ a L b c r, pre a (some (z a)) → RoomAt CR CK (z a) L b c r → SP K (Rmf K) E t (startE (args a) (N.length - ps.length)) r
        ⟨fun _ r' => ∃ s' L' a' c', post a (some (z a)) .none (some s') ∧ RoomAt CR CK s' L' a' c' r', fun d r' => ∃ s' L' a' c', post a (some (z a)) d (some s') ∧ RoomAt CR CK s' L' a' c' r', fun _ _ => False, fun _ _ => False, fun e r' => ∃ s' L' a' c', exc a (some (z a)) e (some s') ∧ RoomAt CR CK s' L' a' c' r', fun _ _ => False⟩) :
    FnOk P w K mg base (L2.CX P w) (k + 1) f fd ps (spX K (RO K CR CK) args pre post exc) := by
  refine FnOk.imp (ok_obj (R := Rmf K) (α := α × Addr × (Nat → Addr) × (Nat → KC)) (args := fun x => args x.1) (pre := fun x r => pre x.1 (some (z x.1)) ∧ RoomAt CR CK (z x.1) x.2.1 x.2.2.1 x.2.2.2 r)
    (post := fun x _ d r' => ∃ s' L' a' c', post x.1 (some (z x.1)) d (some s') ∧ RoomAt CR CK s' L' a' c' r') (exc := fun x _ e r' => ∃ s' L' a' c', exc x.1 (some (z x.1)) e (some s') ∧ RoomAt CR CK s' L' a' c' r') F S (fun a => len a.1) ?_) fun vs H Q E h => spX_room hz h
  intro cdv A outer s H E hr
  obtain ⟨t, h1, h2⟩ := body cdv A outer s H E hr
  exact ⟨t, h1, fun a r hp => h2 a.1 a.2.1 a.2.2.1 a.2.2.2 r hp.1 hp.2⟩
end
theorem cut_to {α : Type} (xs : List α) {k : Int} (h : 0 ≤ k) : cutD xs none (some k) = xs.take k.toNat := by
  unfold cutD
  show (xs.drop 0).take ((if k < 0 then (k + (xs.length : Int)).toNat else min k.toNat xs.length) - 0) = _
  rw [if_neg (by omega), List.drop_zero, Nat.sub_zero]
  rcases Nat.le_total k.toNat xs.length with h1 | h1
  · rw [Nat.min_eq_left h1]
  · rw [Nat.min_eq_right h1, List.take_length, List.take_of_length_le h1]
theorem cut_from {α : Type} (xs : List α) {k : Int} (h : 0 ≤ k) : cutD xs (some k) none = xs.drop k.toNat := by
  unfold cutD
  show (xs.drop (if k < 0 then (k + (xs.length : Int)).toNat else min k.toNat xs.length)).take (xs.length - (if k < 0 then (k + (xs.length : Int)).toNat else min k.toNat xs.length)) = _
  rw [if_neg (by omega)]
  rcases Nat.le_total k.toNat xs.length with h1 | h1
  · rw [Nat.min_eq_left h1, List.take_of_length_le (by rw [List.length_drop]; exact Nat.le_refl _)]
  · rw [Nat.min_eq_right h1, List.drop_eq_nil_of_le h1, List.drop_length]; simp
theorem cut_mid {α : Type} (xs : List α) {k m : Int} (h : 0 ≤ k) (hm : 0 ≤ m) : cutD xs (some k) (some (k + m)) = (xs.drop k.toNat).take m.toNat := by
  unfold cutD
  show (xs.drop (if k < 0 then (k + (xs.length : Int)).toNat else min k.toNat xs.length)).take ((if k + m < 0 then (k + m + (xs.length : Int)).toNat else min (k + m).toNat xs.length) - (if k < 0 then (k + (xs.length : Int)).toNat else min k.toNat xs.length)) = _
  rw [if_neg (by omega), if_neg (by omega)]
  rcases Nat.le_total k.toNat xs.length with h1 | h1
  · rw [Nat.min_eq_left h1]
    rcases Nat.le_total (k + m).toNat xs.length with h2 | h2
    · rw [Nat.min_eq_left h2]
      congr 1
      omega
    · rw [Nat.min_eq_right h2, List.take_of_length_le (by rw [List.length_drop]; exact Nat.le_refl _), List.take_of_length_le (by rw [List.length_drop]; omega)]
  · rw [Nat.min_eq_right h1, List.drop_eq_nil_of_le h1, List.drop_length]; simp
end Fw

/-! New lists from defs that change the state or raise; a def whose objects are forgotten; two resources side by side. -/
namespace Fw
open PySem L2
def spXF (K : PySem.W.Frag) {ρ : Type} (R : ρ → Hp → Hp → Prop) {α : Type} (args : α → List PyData) (pre : α → ρ → Prop) (post : α → ρ → List PyData → ρ → Prop) (exc : α → ρ → Value → ρ → Prop) : Sp := fun vs H Q E =>
  ∃ G M a r, Wf R G M H r ∧ RpAll K G vs (args a) ∧ pre a r ∧
    (∀ l ws ds r' G' M' H', post a r ds r' → Stp G M H G' M' H' → Wf R G' M' H' r' → H l = none → G' l = none → M' l = none → H' l = some (.lst ws) → RpAll K G' ws ds → Q (.ref l) H') ∧
    (∀ c r' G' M' H', exc a r c r' → Stp G M H G' M' H' → Wf R G' M' H' r' → E c none H')
def spPXF (K : PySem.W.Frag) {α : Type} (args : α → List PyData) (pre : α → Prop) (res : α → List PyData → Prop) (exc : α → Value → Prop) : Sp := fun vs H Q E =>
  ∃ G M a, Pre G M H ∧ RpAll K G vs (args a) ∧ pre a ∧ (∀ l ws ds G' H', res a ds → Al G M H G' H' → H l = none → G' l = none → H' l = some (.lst ws) → RpAll K G' ws ds → Q (.ref l) H') ∧ (∀ c G' H', exc a c → Al G M H G' H' → E c none H')
section
variable {K : PySem.W.Frag} {ρ : Type} {R : ρ → Hp → Hp → Prop} {e : SE} {r : ρ} {te : TE} {t : TT} {ds : List PyData} {α : Type} {args : α → List PyData} {E : XK}
def EvXF (K : PySem.W.Frag) {ρ : Type} (R : ρ → Hp → Hp → Prop) (E : XK) (te : TE) (e : SE) (r : ρ) (P : List PyData → ρ → Prop) (PE : Value → ρ → Prop) : Prop := ∀ (B : Hp) (σ : St) (G M H : Hp), EnvO K B G M H σ e → Wf R G M H r → ∀ Q : VK,
  (∀ l vs ds r' G' M' H', P ds r' → Stp G M H G' M' H' → Wf R G' M' H' r' → H l = none → G' l = none → M' l = none → H' l = some (.lst vs) → RpAll K G' vs ds → Q (.ref l) H') → (∀ c r' G' M' H', PE c r' → Stp G M H G' M' H' → Wf R G' M' H' r' → E c none H') → te σ H Q
theorem EvXF.f {P : List PyData → ρ → Prop} {PE : Value → ρ → Prop} (h : EvXF K R E te e r P PE) (k : ∀ ds' r', P ds' r' → ds' = ds ∧ r' = r) (n : ∀ c r', ¬ PE c r') : EvF K R te e r ds := fun B σ G M H v w Q q =>
  h B σ G M H v w Q (fun l vs ds' r' G' M' H' p s w' h1 h2 h3 h4 h5 => by
    obtain ⟨e1, e2⟩ := k ds' r' p
    subst e1 e2
    exact q l vs G' M' H' s w' h1 h2 h3 h4 h5) fun c r' _ _ _ p => (n c r' p).elim
theorem EvXF.d [Stab R] {P : List PyData → ρ → Prop} {Pd : PyData → ρ → Prop} {PE : Value → ρ → Prop} (h : EvXF K R E te e r P PE) (k : ∀ ds r', P ds r' → Pd (.list ds) r') : EvX K R E te e r Pd PE := fun B σ G M H v w Q q qe =>
  h B σ G M H v w Q (fun l vs ds r' G' M' H' p s w' h1 h2 h3 h4 h5 => q (.ref l) (.list ds) r' (upd G' l (.lst vs)) M' H' (k ds r' p) (s.freeze h1 h2) (w'.freeze h4 h2 h3) (.lst upd_same (h5.mono (same_new h2)))) qe
theorem EvF.x {P : List PyData → ρ → Prop} {PE : Value → ρ → Prop} (h : EvF K R te e r ds) (k : P ds r) : EvXF K R E te e r P PE := fun B σ G M H v w Q q qe =>
  h B σ G M H v w Q fun l vs G' M' H' s w' h1 h2 h3 h4 h5 => q l vs ds r G' M' H' k s w' h1 h2 h3 h4 h5
theorem evxf_meth {pre : α → ρ → Prop} {post : α → ρ → List PyData → ρ → Prop} {exc : α → ρ → Value → ρ → Prop} {p C : Addr} {m : Str} {ta : TA} (a : α) (ho : EvD K R te e r (objD p)) (hi : ∀ G M, R r G M → ∃ dx fs, M p = some (.ins C dx fs) ∧ fs.lookup m = none)
    (h : EvA K R ta e r ds) (hs : args a = objD p :: ds) (hp : pre a r) : EvXF K R E (tMeth C m (spXF K R args pre post exc) [] E te ta) e r (post a r) (exc a r) := fun B σ G M H v w Q q qe =>
  ho B σ G M H v w _ fun x d' r' G1 M1 H1 ⟨e1, e2⟩ s1 w1 hx => by
    subst e1 e2
    obtain ⟨dx, fs, h1, h2⟩ := hi G1 M1 w1.res
    refine ⟨p, dx, fs, hx.obj_inv, w1.mh _ _ h1, h2, h B σ G1 M1 H1 (v.step s1) w1 _ fun vs G2 M2 H2 s2 w2 hv => ?_⟩
    have s12 := s1.trans s2
    exact ⟨G2, M2, a, _, w2, by rw [hs, List.append_nil]; exact .cons (hx.mono s2.gg) hv, hp, fun l ws ds r' G3 M3 H3 p s3 w3 g1 g2 g3 g4 g5 => q l ws ds r' G3 M3 H3 p (s12.trans s3) w3 (free_back s12 g1) g2 g3 g4 g5, fun c r' G3 M3 H3 p s3 w3 => qe c r' G3 M3 H3 p (s12.trans s3) w3⟩
theorem evxf_callP [Stab R] {ta : TA} {pre : α → Prop} {res : α → List PyData → Prop} {exc : α → Value → Prop} (a : α) (h : EvA K R ta e r (args a)) (hp : pre a) : EvXF K R E (tCall (spPXF K args pre res exc) [] E ta) e r (fun ds r' => res a ds ∧ r' = r) (fun c r' => exc a c ∧ r' = r) := fun B σ G M H v w Q q qe =>
  h B σ G M H v w _ fun vs G' M' H' s w' hv => ⟨G', M', a, w'.pre, by rw [List.append_nil]; exact hv, hp, fun l ws ds G2 H2 p a g1 g2 g4 g5 => q l ws ds r G2 M' H2 ⟨p, rfl⟩ (s.trans a.st) (w'.al a) (free_back s g1) g2 (w'.mn g1) g4 g5, fun c G2 H2 p a => qe c r G2 M' H2 ⟨p, rfl⟩ (s.trans a.st) (w'.al a)⟩
theorem sp_asgXF {i : Nat} {tz : TS} {P : Post ρ} {Pe : List PyData → ρ → Prop} {PE : Value → ρ → Prop} (h : EvXF K R E te e r Pe PE) (k : ∀ ds r', Pe ds r' → SP K R E tz (e.set i (.own ds)) r' P) (kx : ∀ c r', PE c r' → P.ex c r') : SP K R E (tSeq (tAsg te (gName i)) tz) e r P := fun G0 M0 H0 σ G M H D s v w q =>
  h H0 σ G M H v w _ (fun l vs ds r' G' M' H' p s' w' h1 h2 h3 h4 h5 => k ds r' p G0 M0 H0 _ G' M' H' D (s.trans s') ((v.step s').setO (born s h1) h2 h3 h4 h5 fun j es hj => own_new v h1 j es hj) w' q) fun c r' G' M' H' p s' w' => q.ex c r' G' M' H' (kx c r' p) (s.trans s') w'
theorem sp_asgXF1 {i : Nat} {P : Post ρ} {Pe : List PyData → ρ → Prop} {PE : Value → ρ → Prop} (h : EvXF K R E te e r Pe PE) (k : ∀ ds r', Pe ds r' → P.nx (e.set i (.own ds)) r') (kx : ∀ c r', PE c r' → P.ex c r') : SP K R E (tAsg te (gName i)) e r P := fun G0 M0 H0 σ G M H D s v w q =>
  h H0 σ G M H v w _ (fun l vs ds r' G' M' H' p s' w' h1 h2 h3 h4 h5 => q.nx _ r' _ G' M' H' (k ds r' p) (s.trans s') ((v.step s').setO (born s h1) h2 h3 h4 h5 fun j es hj => own_new v h1 j es hj) w') fun c r' G' M' H' p s' w' => q.ex c r' G' M' H' (kx c r' p) (s.trans s') w'
theorem sp_retXF {P : Post ρ} {Pe : List PyData → ρ → Prop} {PE : Value → ρ → Prop} (h : EvXF K R E te e r Pe PE) (k : ∀ ds r', Pe ds r' → P.fr ds r') (kx : ∀ c r', PE c r' → P.ex c r') : SP K R E (tRet te) e r P := fun G0 M0 H0 σ G M H D s v w q =>
  h H0 σ G M H v w _ (fun l vs ds r' G' M' H' p s' w' h1 h2 h3 h4 h5 => q.fr ds r' l vs G' M' H' (k ds r' p) (s.trans s') w' (born s h1) h2 h3 h4 h5) fun c r' G' M' H' p s' w' => q.ex c r' G' M' H' (kx c r' p) (s.trans s') w'
/-- list(e), e may raise: a new list -/
theorem evxf_listD [Stab R] {Pe : PyData → ρ → Prop} {P : List PyData → ρ → Prop} {PE : Value → ρ → Prop} (h : EvX K R E te e r Pe PE) (k : ∀ d r', Pe d r' → ∃ ds, d = .list ds ∧ P ds r') : EvXF K R E (tCB (rListS K) (tCons te tNil)) e r P PE := fun B σ G M H v w Q q qe =>
  h B σ G M H v w _ (fun x d r' G' M' H' p s w' hx => by
    obtain ⟨ds, rfl, p'⟩ := k d r' p
    obtain ⟨a, xs, rfl, h1, h2⟩ := hx.lst_inv
    refine ⟨a, xs, rfl, .inl (SqL.of (w'.gh _ _ h1)), fun l hl => ?_⟩
    exact q l xs ds r' G' M' _ p' (s.hid (free_back s hl) _) (w'.hid (w'.gn hl) (w'.mn hl) _) (free_back s hl) (w'.gn hl) (w'.mn hl) upd_same h2) qe
end
section
variable {P : Program} {w : World} {K : PySem.W.Frag} {mg : Str → Option Value} {base : Heap}
theorem ok_objF {x qual : Str} {st : Stmt} {f : Addr} {fd : FuncData} {N ps : List Str} {k : Nat} {ρ : Type} {R : ρ → Hp → Hp → Prop} {α : Type} {args : α → List PyData} {pre : α → ρ → Prop} {post : α → ρ → List PyData → ρ → Prop} {exc : α → ρ → Value → ρ → Prop}
    (F : Fun K x qual st f fd) (S : FnScope N ps (defScope st)) (len : ∀ a, (args a).length = ps.length)
    (body : ∀ (cdv : Value) (A : Around) (outer : List Env) (s : Shared) (H : Hp) (E : XK), Room k (A.deeper (PyProof.Rows.envOfC qual (defScope st) s.heap.objs.size f cdv)) →
      ∃ t, PSs (cxOf (L2.CX P w) P w K mg base N qual (defScope st) f cdv A outer s H E) (defBody st) t ∧ ∀ a r, pre a r → SP K R E t (startE (args a) (N.length - ps.length)) r ⟨fun _ _ => False, fun _ _ => False, fun _ _ => False, fun _ _ => False, fun c r' => exc a r c r', fun ds r' => post a r ds r'⟩) :
    FnOk P w K mg base (L2.CX P w) (k + 1) f fd ps (spXF K R args pre post exc) := by
  refine F.okX S (fun vs H Q E h => ?_) (fun cdv A outer s H vs Q E hr h => ?_)
  · obtain ⟨G, M, a, r, p, hv, hp, _⟩ := h
    rw [hv.length]
    exact len a
  · obtain ⟨t, ht, hb⟩ := body cdv A outer s H E hr
    refine ⟨t, ht, ?_⟩
    obtain ⟨G, M, a, r, wf, hv, hp, q, qe⟩ := h
    have hs : L2.start N vs = vs.map some ++ List.replicate (N.length - ps.length) none := by unfold L2.start; rw [hv.length, len a]
    rw [hs]
    exact hb a r hp G M H _ G M H _ (Stp.refl _ _ _) (env_start hv) wf ⟨fun _ _ _ _ _ _ z => z.elim, fun _ _ _ _ _ _ z => z.elim, fun _ _ _ _ _ _ z => z.elim, fun _ _ _ _ _ _ z => z.elim, fun c r' G' M' H' hp' s' w' => qe c r' G' M' H' hp' s' w',
      fun ds r' l ws G' M' H' hp' s' w' h1 h2 h3 h4 h5 => q l ws ds r' G' M' H' hp' s' w' h1 h2 h3 h4 h5⟩
theorem ok_pureXF {x qual : Str} {st : Stmt} {f : Addr} {fd : FuncData} {N ps : List Str} {k : Nat} {α : Type} {args : α → List PyData} {pre : α → Prop} {res : α → List PyData → Prop} {exc : α → Value → Prop}
    (F : Fun K x qual st f fd) (S : FnScope N ps (defScope st)) (len : ∀ a, (args a).length = ps.length)
    (body : ∀ (cdv : Value) (A : Around) (outer : List Env) (s : Shared) (H : Hp) (E : XK), Room k (A.deeper (PyProof.Rows.envOfC qual (defScope st) s.heap.objs.size f cdv)) →
      ∃ t, PSs (cxOf (L2.CX P w) P w K mg base N qual (defScope st) f cdv A outer s H E) (defBody st) t ∧ ∀ (M0 : Hp) a, pre a → SP K (RM M0) E t (startE (args a) (N.length - ps.length)) () ⟨fun _ _ => False, fun _ _ => False, fun _ _ => False, fun _ _ => False, fun c _ => exc a c, fun ds _ => res a ds⟩) :
    FnOk P w K mg base (L2.CX P w) (k + 1) f fd ps (spPXF K args pre res exc) := by
  refine F.okX S (fun vs H Q E h => ?_) (fun cdv A outer s H vs Q E hr h => ?_)
  · obtain ⟨G, M, a, p, hv, hp, _⟩ := h
    rw [hv.length]
    exact len a
  · obtain ⟨t, ht, hb⟩ := body cdv A outer s H E hr
    refine ⟨t, ht, ?_⟩
    obtain ⟨G, M, a, p, hv, hp, q, qe⟩ := h
    have hs : L2.start N vs = vs.map some ++ List.replicate (N.length - ps.length) none := by unfold L2.start; rw [hv.length, len a]
    rw [hs]
    refine hb M a hp G M H _ G M H _ (Stp.refl _ _ _) (env_start hv) ⟨p.1, p.2.1, p.2.2, rfl⟩ ⟨fun _ _ _ _ _ _ z => z.elim, fun _ _ _ _ _ _ z => z.elim, fun _ _ _ _ _ _ z => z.elim, fun _ _ _ _ _ _ z => z.elim, ?_, ?_⟩
    · intro c r G' M' H' hp' s' w'
      have e1 : M' = M := w'.res
      subst e1
      exact qe c G' H' hp' ⟨s', w'.gh, w'.mh, w'.dj⟩
    · intro ds r l ws G' M' H' hp' s' w' h1 h2 h3 h4 h5
      have e1 : M' = M := w'.res
      subst e1
      exact q l ws ds G' H' hp' ⟨s', w'.gh, w'.mh, w'.dj⟩ h1 h2 h4 h5
theorem ok_roomF {CR CK : Addr} {x qual : Str} {st : Stmt} {f : Addr} {fd : FuncData} {N ps : List Str} {k : Nat} {α : Type} {args : α → List PyData} {pre : α → Option RSt → Prop} {post : α → Option RSt → List PyData → Option RSt → Prop} {exc : α → Option RSt → Value → Option RSt → Prop} (z : α → RSt)
    (hz : ∀ a r, pre a r → r = some (z a)) (F : Fun K x qual st f fd) (S : FnScope N ps (defScope st)) (len : ∀ a, (args a).length = ps.length)
    (body : ∀ (cdv : Value) (A : Around) (outer : List Env) (s : Shared) (H : Hp) (E : XK), Room k (A.deeper (PyProof.Rows.envOfC qual (defScope st) s.heap.objs.size f cdv)) →
      ∃ t, PSs (cxOf (L2.CX P w) P w K mg base N qual (defScope st) f cdv A outer s H E) (defBody st) t ∧ ∀ a L b c r, pre a (some (z a)) → RoomAt CR CK (z a) L b c r → SP K (Rmf K) E t (startE (args a) (N.length - ps.length)) r
        ⟨fun _ _ => False, fun _ _ => False, fun _ _ => False, fun _ _ => False, fun e r' => ∃ s' L' a' c', exc a (some (z a)) e (some s') ∧ RoomAt CR CK s' L' a' c' r', fun ds r' => ∃ s' L' a' c', post a (some (z a)) ds (some s') ∧ RoomAt CR CK s' L' a' c' r'⟩) :
    FnOk P w K mg base (L2.CX P w) (k + 1) f fd ps (spXF K (RO K CR CK) args pre post exc) := by
  refine F.okX S (fun vs H Q E h => ?_) (fun cdv A outer s H vs Q E hr h => ?_)
  · obtain ⟨G, M, a, r, p, hv, hp, _⟩ := h
    rw [hv.length]
    exact len a
  · obtain ⟨t, ht, hb⟩ := body cdv A outer s H E hr
    refine ⟨t, ht, ?_⟩
    obtain ⟨G, M, a, r, wf, hv, hp, q, qe⟩ := h
    have hs : L2.start N vs = vs.map some ++ List.replicate (N.length - ps.length) none := by unfold L2.start; rw [hv.length, len a]
    rw [hs]
    have e := hz _ _ hp
    subst e
    obtain ⟨L, a1, c1, r0, h1, h2⟩ := wf.res
    refine hb a L a1 c1 r0 hp h2 G M H _ G M H _ (Stp.refl _ _ _) (env_start hv) ⟨wf.gh, wf.mh, wf.dj, h1⟩ ⟨fun _ _ _ _ _ _ z => z.elim, fun _ _ _ _ _ _ z => z.elim, fun _ _ _ _ _ _ z => z.elim, fun _ _ _ _ _ _ z => z.elim, ?_, ?_⟩
    · rintro c r' G' M' H' ⟨s', L', a', c', p', h'⟩ s1 w'
      exact qe c (some s') G' M' H' p' s1 ⟨w'.gh, w'.mh, w'.dj, L', a', c', r', w'.res, h'⟩
    · rintro ds r' l ws G' M' H' ⟨s', L', a', c', p', h'⟩ s1 w' g1 g2 g3 g4 g5
      exact q l ws ds (some s') G' M' H' p' s1 ⟨w'.gh, w'.mh, w'.dj, L', a', c', r', w'.res, h'⟩ g1 g2 g3 g4 g5
/-- a def that makes its own objects and forgets them -/
theorem ok_forget {x qual : Str} {st : Stmt} {f : Addr} {fd : FuncData} {N ps : List Str} {k : Nat} {ρ : Type} {R : ρ → Hp → Hp → Prop} {α : Type} {args : α → List PyData} {pre : α → Prop} {res : α → PyData → Prop} (F : Fun K x qual st f fd) (S : FnScope N ps (defScope st))
    (len : ∀ a, (args a).length = ps.length) (r0 : ρ) (h0 : ∀ G, R r0 G fun _ => none)
    (body : ∀ (cdv : Value) (A : Around) (outer : List Env) (s : Shared) (H : Hp) (E : XK), Room k (A.deeper (PyProof.Rows.envOfC qual (defScope st) s.heap.objs.size f cdv)) →
      ∃ t, PSs (cxOf CX0 P w K mg base N qual (defScope st) f cdv A outer s H E).nox (defBody st) t ∧ ∀ a, pre a → SP K R E0 t (startE (args a) (N.length - ps.length)) r0 ⟨fun _ _ => res a .none, fun d _ => res a d, fun _ _ => False, fun _ _ => False, fun _ _ => False, fun _ _ => False⟩) :
    FnOk P w K mg base CX0 (k + 1) f fd ps (spD K args pre res) := by
  refine F.ok S (fun vs H Q E h => ?_) (fun cdv A outer s H vs Q E hr h => ?_)
  · obtain ⟨G, M, a, p, hv, hp, _⟩ := h
    rw [hv.length]
    exact len a
  · obtain ⟨t, ht, hb⟩ := body cdv A outer s H E hr
    refine ⟨t, ht, ?_⟩
    obtain ⟨G, M, a, p, hv, hp, q⟩ := h
    have hs : L2.start N vs = vs.map some ++ List.replicate (N.length - ps.length) none := by unfold L2.start; rw [hv.length, len a]
    rw [hs]
    have fin : ∀ {G' M' H' : Hp}, Stp G (fun _ => none) H G' M' H' → Same G' H' → Al G M H G' H' := fun s1 g1 =>
      have keep : ∀ b o, H b = some o → _ := fun b o hb => s1.fr b o hb rfl
      ⟨⟨s1.gg, s1.th, fun b o hb _ => keep b o hb, s1.ng, fun _ _ m => m⟩, g1, fun b o hb => keep b o (p.2.1 b o hb), fun b hb => by
        cases z : M b with
        | none => exact absurd z hb
        | some o => exact s1.ng b (some_ne (p.2.1 b o z)) (p.2.2 b hb)⟩
    refine hb a hp G (fun _ => none) H _ G (fun _ => none) H _ (Stp.refl _ _ _) (env_start hv) ⟨p.1, (fun b o z => by cases z), (fun b z => absurd rfl z), h0 G⟩ ⟨?_, ?_, fun _ _ _ _ _ _ z => z.elim, fun _ _ _ _ _ _ z => z.elim, fun _ _ _ _ _ z => z.elim, fun _ _ _ _ _ _ _ z => z.elim⟩
    · intro e r σ G' M' H' hp' s' v' w'
      exact q .non .none G' H' hp' (fin s' w'.gh) .non
    · intro d r v G' M' H' hp' s' w' hx
      exact q v d G' H' hp' (fin s' w'.gh) hx
end

theorem map_set_int (xs : List Int) (n : Nat) (x : Int) : (xs.map V.int).set n (.int x) = (xs.set n x).map V.int := by rw [List.map_set]
section
variable {CR CK : Addr} {s : RSt} {L : Addr} {a : Nat → Addr} {c : Nat → KC} {r : MF}
theorem RoomAt.setA (h : RoomAt CR CK s L a c r) {i : Nat} (hi : i < s.n) (n : Nat) (x : Int) :
    RoomAt CR CK (s.up i { s.st i with ahead := (s.st i).ahead.set n x }) L a (updC c i (c i)) ⟨upd r.m (c i).al (.lst (((s.st i).ahead.map V.int).set n (.int x))), r.f⟩ := by
  have k := h.at_ i hi
  refine h.put hi ⟨?_, k.row, ?_, ?_, k.ne⟩ (fun b o hb h1 h2 h3 => by show upd _ _ _ _ = _; rw [upd_ne h2]; exact hb) (fun _ _ h => h) (.inl rfl) (.inl rfl)
  · show upd _ _ _ _ = _; rw [upd_ne k.ne_al.symm]; exact k.ob
  · show upd _ _ _ _ = _; rw [upd_same, map_set_int]
  · show upd _ _ _ _ = _; rw [upd_ne k.ne.symm]; exact k.hl
theorem RoomAt.setH (h : RoomAt CR CK s L a c r) {i : Nat} (hi : i < s.n) (n : Nat) (x : Int) :
    RoomAt CR CK (s.up i { s.st i with held := (s.st i).held.set n x }) L a (updC c i (c i)) ⟨upd r.m (c i).hl (.lst (((s.st i).held.map V.int).set n (.int x))), r.f⟩ := by
  have k := h.at_ i hi
  refine h.put hi ⟨?_, k.row, ?_, ?_, k.ne⟩ (fun b o hb h1 h2 h3 => by show upd _ _ _ _ = _; rw [upd_ne h3]; exact hb) (fun _ _ h => h) (.inl rfl) (.inl rfl)
  · show upd _ _ _ _ = _; rw [upd_ne k.ne_hl.symm]; exact k.ob
  · show upd _ _ _ _ = _; rw [upd_ne k.ne]; exact k.al
  · show upd _ _ _ _ = _; rw [upd_same, map_set_int]
theorem RoomAt.setR (h : RoomAt CR CK s L a c r) {i : Nat} (hi : i < s.n) (v : V) (es : List Ent) :
    RoomAt CR CK (s.up i { s.st i with row := es }) L a (updC c i { c i with rw := v }) ⟨upd r.m (a i) (.ins CK (c i).dx (putF "row" v (kf (s.st i).term (c i).rw (s.st i).leads (s.st i).settled (c i).al (c i).hl))), addF r.f v (rowD es)⟩ := by
  have k := h.at_ i hi
  refine h.put hi ⟨?_, .inr ⟨rfl, rfl⟩, ?_, ?_, k.ne⟩ (fun b o hb h1 h2 h3 => by show upd _ _ _ _ = _; rw [upd_ne h1]; exact hb) (fun _ _ h => .inl h) (.inl rfl) (.inl rfl)
  · show upd _ _ _ _ = _; rw [upd_same, kf_prow]
  · show upd _ _ _ _ = _; rw [upd_ne k.ne_al]; exact k.al
  · show upd _ _ _ _ = _; rw [upd_ne k.ne_hl]; exact k.hl
theorem RoomAt.setS (h : RoomAt CR CK s L a c r) {i : Nat} (hi : i < s.n) (x : Int) :
    RoomAt CR CK (s.up i { s.st i with settled := x }) L a (updC c i (c i)) ⟨upd r.m (a i) (.ins CK (c i).dx (putF "settled" (.int x) (kf (s.st i).term (c i).rw (s.st i).leads (s.st i).settled (c i).al (c i).hl))), addF r.f (.int x) (.int x)⟩ := by
  have k := h.at_ i hi
  refine h.put hi ⟨?_, .inl k.row, ?_, ?_, k.ne⟩ (fun b o hb h1 h2 h3 => by show upd _ _ _ _ = _; rw [upd_ne h1]; exact hb) (fun _ _ h => .inl h) (.inl rfl) (.inl rfl)
  · show upd _ _ _ _ = _; rw [upd_same, kf_psettled]
  · show upd _ _ _ _ = _; rw [upd_ne k.ne_al]; exact k.al
  · show upd _ _ _ _ = _; rw [upd_ne k.ne_hl]; exact k.hl
end
end Fw

/-! Two resources side by side; lists that a def changes for its caller. -/
namespace Fw
open PySem L2
def un (A B : Hp) : Hp := fun b => match A b with
  | some o => some o
  | none => B b
theorem un_some {A B : Hp} {b : Addr} {o : HO} (h : A b = some o) : un A B b = some o := by unfold un; rw [h]
theorem un_none {A B : Hp} {b : Addr} (h : A b = none) : un A B b = B b := by unfold un; rw [h]
def Rs {ρ1 ρ2 : Type} (R1 : ρ1 → Hp → Hp → Prop) (R2 : ρ2 → Hp → Hp → Prop) : ρ1 × ρ2 → Hp → Hp → Prop := fun r G M => ∃ M1 M2, (∀ b, M b = un M1 M2 b) ∧ (∀ b, M1 b ≠ none → M2 b = none) ∧ R1 r.1 G M1 ∧ R2 r.2 G M2
instance {ρ1 ρ2 : Type} {R1 : ρ1 → Hp → Hp → Prop} {R2 : ρ2 → Hp → Hp → Prop} [Stab R1] [Stab R2] : Stab (Rs R1 R2) := ⟨fun r G G' M s d ⟨M1, M2, h1, h2, h3, h4⟩ =>
  ⟨M1, M2, h1, h2, Stab.out _ G G' M1 s (fun b hb => d b (by
    rw [h1]
    cases z : M1 b with
    | none => exact absurd z hb
    | some o => rw [un_some z]; exact fun q => nomatch q)) h3, Stab.out _ G G' M2 s (fun b hb => d b (by
    rw [h1]
    cases z : M1 b with
    | none => rw [un_none z]; exact hb
    | some o => rw [un_some z]; exact fun q => nomatch q)) h4⟩⟩
theorem Rs.swap {ρ1 ρ2 : Type} {R1 : ρ1 → Hp → Hp → Prop} {R2 : ρ2 → Hp → Hp → Prop} {r1 : ρ1} {r2 : ρ2} {G M : Hp} (h : Rs R1 R2 (r1, r2) G M) : Rs R2 R1 (r2, r1) G M := by
  obtain ⟨M1, M2, h1, h2, h3, h4⟩ := h
  refine ⟨M2, M1, fun b => ?_, fun b hb => ?_, h4, h3⟩
  · rw [h1]
    cases z : M1 b with
    | none =>
      rw [un_none z]
      cases y : M2 b with
      | none => rw [un_none y, z]
      | some o => rw [un_some y]
    | some o => rw [un_some z, un_none (h2 b (by rw [z]; exact fun q => nomatch q)), z]
  · cases z : M1 b with
    | none => rfl
    | some o => exact absurd (h2 b (by rw [z]; exact fun q => nomatch q)) hb
theorem Wf.swap {ρ1 ρ2 : Type} {R1 : ρ1 → Hp → Hp → Prop} {R2 : ρ2 → Hp → Hp → Prop} {r1 : ρ1} {r2 : ρ2} {G M H : Hp} (w : Wf (Rs R1 R2) G M H (r1, r2)) : Wf (Rs R2 R1) G M H (r2, r1) := ⟨w.gh, w.mh, w.dj, w.res.swap⟩
/-- R within R' -/
structure Lift {ρ ρ' : Type} (R : ρ → Hp → Hp → Prop) (R' : ρ' → Hp → Hp → Prop) (g : ρ') (r : ρ) (put : ρ → ρ') : Prop where
  eq : put r = g
  fr : ∀ G M H, Wf R' G M H g → ∃ M1, (∀ b, M b = none → M1 b = none) ∧ Wf R G M1 H r ∧ ∀ G' M1' H' r', Stp G M1 H G' M1' H' → Wf R G' M1' H' r' → ∃ M', Stp G M H G' M' H' ∧ Wf R' G' M' H' (put r') ∧ ∀ b, H b = none → M1' b = none → M' b = none
theorem Lift.id {ρ : Type} {R : ρ → Hp → Hp → Prop} {r : ρ} : Lift R R r r (fun r => r) := ⟨rfl, fun G M H w => ⟨M, fun _ h => h, w, fun G' M' H' r' s w' => ⟨M', s, w', fun _ _ h => h⟩⟩⟩
theorem Lift.trans {ρ1 ρ2 ρ3 : Type} {R1 : ρ1 → Hp → Hp → Prop} {R2 : ρ2 → Hp → Hp → Prop} {R3 : ρ3 → Hp → Hp → Prop} {r1 : ρ1} {r2 : ρ2} {r3 : ρ3} {p : ρ1 → ρ2} {q : ρ2 → ρ3} (a : Lift R1 R2 r2 r1 p) (b : Lift R2 R3 r3 r2 q) : Lift R1 R3 r3 r1 (fun r => q (p r)) :=
  ⟨by rw [a.eq, b.eq], fun G M H w => by
    obtain ⟨M1, h1, w1, k1⟩ := b.fr G M H w
    obtain ⟨M2, h2, w2, k2⟩ := a.fr G M1 H w1
    refine ⟨M2, fun b h => h2 b (h1 b h), w2, fun G' M2' H' r' s w' => ?_⟩
    obtain ⟨M1', s1, w1', e1⟩ := k2 G' M2' H' r' s w'
    obtain ⟨M', s2, w2', e2⟩ := k1 G' M1' H' _ s1 w1'
    exact ⟨M', s2, w2', fun b hb h => e2 b hb (e1 b hb h)⟩⟩
theorem Lift.left {ρ1 ρ2 : Type} {R1 : ρ1 → Hp → Hp → Prop} {R2 : ρ2 → Hp → Hp → Prop} [Stab R2] {r1 : ρ1} {r2 : ρ2} : Lift R1 (Rs R1 R2) (r1, r2) r1 (fun r => (r, r2)) := ⟨rfl, fun G M H w => by
  obtain ⟨M1, M2, h1, h2, h3, h4⟩ := w.res
  have m1 : ∀ b o, M1 b = some o → M b = some o := fun b o z => by rw [h1, un_some z]
  have n1 : ∀ b, M b = none → M1 b = none := fun b z => by
    cases y : M1 b with
    | none => rfl
    | some o => rw [m1 b o y] at z; cases z
  have x1 : ∀ b o, M2 b = some o → M1 b = none := fun b o z => by
    cases y : M1 b with
    | none => rfl
    | some o' => have := h2 b (by rw [y]; exact fun q => nomatch q); rw [this] at z; cases z
  have m2 : ∀ b o, M2 b = some o → M b = some o := fun b o z => by rw [h1, un_none (x1 b o z)]; exact z
  have n2 : ∀ b, M b = none → M2 b = none := fun b z => by
    cases y : M2 b with
    | none => rfl
    | some o => rw [m2 b o y] at z; cases z
  refine ⟨M1, n1, ⟨w.gh, fun b o z => w.mh b o (m1 b o z), fun b hb => w.dj b fun z => hb (n1 b z), h3⟩, fun G' M1' H' r' s w' => ⟨un M1' M2, ⟨s.gg, s.th, fun b o hb z => s.fr b o hb (n1 b z), s.ng, fun b hb z => ?_⟩, ⟨w'.gh, fun b o z => ?_, fun b hb => ?_, M1', M2, fun _ => rfl, fun b hb => ?_, w'.res, ?_⟩, fun b hb z => ?_⟩⟩
  · rw [un_none (s.nm b hb (n1 b z))]; exact n2 b z
  · cases y : M1' b with
    | some o' => rw [un_some y] at z; exact w'.mh b o (by rw [y]; exact z)
    | none =>
      rw [un_none y] at z
      exact s.fr b o (w.mh b o (m2 b o z)) (x1 b o z)
  · cases y : M1' b with
    | some o' => exact w'.dj b (by rw [y]; exact fun q => nomatch q)
    | none =>
      rw [un_none y] at hb
      cases z : M2 b with
      | none => exact absurd z hb
      | some o =>
        have := m2 b o z
        exact s.ng b (some_ne (w.mh b o this)) (w.dj b (some_ne this))
  · cases z : M2 b with
    | none => rfl
    | some o => exact absurd (s.nm b (some_ne (w.mh b o (m2 b o z))) (x1 b o z)) hb
  · refine Stab.out _ G G' M2 s.gg (fun b hb => ?_) h4
    cases z : M2 b with
    | none => exact absurd z hb
    | some o =>
      have := m2 b o z
      exact s.ng b (some_ne (w.mh b o this)) (w.dj b (some_ne this))
  · rw [un_none z]
    cases y : M2 b with
    | none => rfl
    | some o => rw [w.mh b o (m2 b o y)] at hb; cases hb⟩
theorem Lift.right {ρ1 ρ2 : Type} {R1 : ρ1 → Hp → Hp → Prop} {R2 : ρ2 → Hp → Hp → Prop} [Stab R1] {r1 : ρ1} {r2 : ρ2} : Lift R2 (Rs R1 R2) (r1, r2) r2 (fun r => (r1, r)) := ⟨rfl, fun G M H w => by
  obtain ⟨M1, h1, w1, k⟩ := (Lift.left (R1 := R2) (R2 := R1) (r1 := r2) (r2 := r1)).fr G M H w.swap
  refine ⟨M1, h1, w1, fun G' M1' H' r' s w' => ?_⟩
  obtain ⟨M', s', w2, e⟩ := k G' M1' H' r' s w'
  exact ⟨M', s', w2.swap, e⟩⟩
theorem EnvO.less {K : PySem.W.Frag} {B G M M1 H : Hp} {σ : St} {e : SE} (v : EnvO K B G M H σ e) (h : ∀ b, M b = none → M1 b = none) : EnvO K B G M1 H σ e :=
  ⟨v.len, v.dat, fun i ds hi => by
    obtain ⟨l, vs, h1, h2, h3, h4, h5, h6⟩ := v.own i ds hi
    exact ⟨l, vs, h1, h2, h3, h _ h4, h5, h6⟩, v.sep⟩
section
variable {K : PySem.W.Frag} {ρ ρ' : Type} {R : ρ → Hp → Hp → Prop} {R' : ρ' → Hp → Hp → Prop} {e : SE} {r : ρ} {g : ρ'} {put : ρ → ρ'} {te : TE} {t : TT} {ds : List PyData} {d0 : PyData} {E : XK}
theorem EvX.lift {P : PyData → ρ → Prop} {PE : Value → ρ → Prop} (h : EvX K R E te e r P PE) (L : Lift R R' g r put) {P' : PyData → ρ' → Prop} {PE' : Value → ρ' → Prop} (k : ∀ d r', P d r' → P' d (put r')) (kx : ∀ c r', PE c r' → PE' c (put r')) : EvX K R' E te e g P' PE' := fun B σ G M H v w Q q qe => by
  obtain ⟨M1, h1, w1, kk⟩ := L.fr G M H w
  refine h B σ G M1 H (v.less h1) w1 Q (fun x d r' G' M1' H' p s w' hx => ?_) fun c r' G' M1' H' p s w' => ?_
  · obtain ⟨M', s', w2, _⟩ := kk G' M1' H' r' s w'
    exact q x d _ G' M' H' (k d r' p) s' w2 hx
  · obtain ⟨M', s', w2, _⟩ := kk G' M1' H' r' s w'
    exact qe c _ G' M' H' (kx c r' p) s' w2
theorem EvXF.lift {P : List PyData → ρ → Prop} {PE : Value → ρ → Prop} (h : EvXF K R E te e r P PE) (L : Lift R R' g r put) {P' : List PyData → ρ' → Prop} {PE' : Value → ρ' → Prop} (k : ∀ d r', P d r' → P' d (put r')) (kx : ∀ c r', PE c r' → PE' c (put r')) : EvXF K R' E te e g P' PE' := fun B σ G M H v w Q q qe => by
  obtain ⟨M1, h1, w1, kk⟩ := L.fr G M H w
  refine h B σ G M1 H (v.less h1) w1 Q (fun l vs ds r' G' M1' H' p s w' g1 g2 g3 g4 g5 => ?_) fun c r' G' M1' H' p s w' => ?_
  · obtain ⟨M', s', w2, n⟩ := kk G' M1' H' r' s w'
    exact q l vs ds _ G' M' H' (k ds r' p) s' w2 g1 g2 (n l g1 g3) g4 g5
  · obtain ⟨M', s', w2, _⟩ := kk G' M1' H' r' s w'
    exact qe c _ G' M' H' (kx c r' p) s' w2
theorem EvS.lift {P : PyData → ρ → Prop} (h : EvS K R te e r P) (L : Lift R R' g r put) {P' : PyData → ρ' → Prop} (k : ∀ d r', P d r' → P' d (put r')) : EvS K R' te e g P' := fun B σ G M H v w Q q => by
  obtain ⟨M1, h1, w1, kk⟩ := L.fr G M H w
  refine h B σ G M1 H (v.less h1) w1 Q fun x d r' G' M1' H' p s w' hx => ?_
  obtain ⟨M', s', w2, _⟩ := kk G' M1' H' r' s w'
  exact q x d _ G' M' H' (k d r' p) s' w2 hx
theorem EvD.lift (h : EvD K R te e r d0) (L : Lift R R' g r put) : EvD K R' te e g d0 := EvS.lift h L fun d r' ⟨e1, e2⟩ => ⟨e1, by rw [e2, L.eq]⟩
theorem EvTS.lift {P : Bool → ρ → Prop} (h : EvTS K R t e r P) (L : Lift R R' g r put) {P' : Bool → ρ' → Prop} (k : ∀ d r', P d r' → P' d (put r')) : EvTS K R' t e g P' := fun B σ G M H v w Q q => by
  obtain ⟨M1, h1, w1, kk⟩ := L.fr G M H w
  refine h B σ G M1 H (v.less h1) w1 Q fun b r' G' M1' H' p s w' => ?_
  obtain ⟨M', s', w2, _⟩ := kk G' M1' H' r' s w'
  exact q b _ G' M' H' (k b r' p) s' w2
theorem EvX.of {P : PyData → ρ → Prop} {PE : Value → ρ → Prop} (h : EvS K R te e r P) : EvX K R E te e r P PE := fun B σ G M H v w Q q _ => h B σ G M H v w Q q
end
section
variable {K : PySem.W.Frag} {ρ' : Type} {R' : ρ' → Hp → Hp → Prop} {e : SE} {r : MF} {g : ρ'} {put : MF → ρ'} {ta tb te : TE} {ds : List PyData} {d : PyData} {l : Addr} {xs : List V}
/-- a new list that stays one's own, in M -/
def factsOf (f : V → PyData → Prop) (vs : List V) (ds : List PyData) : V → PyData → Prop := fun v d => f v d ∨ ∃ j : Nat, vs[j]? = some v ∧ ds[j]? = some d
theorem EvF.toM (h : EvF K (Rmf K) te e r ds) : EvS K (Rmf K) te e r (fun d r' => ∃ l vs, d = objD l ∧ r.m l = none ∧ vs.length = ds.length ∧ (∃ G, RpAll K G vs ds) ∧ r' = ⟨upd r.m l (.lst vs), factsOf r.f vs ds⟩) := fun B σ G M H v w Q q =>
  h B σ G M H v w Q fun l vs G' M' H' s w' h1 h2 h3 h4 h5 => by
    have hM : M' = r.m := w'.res.1
    have w2 := w'.toM h4 h2
    refine q (.ref l) (objD l) ⟨upd r.m l (.lst vs), factsOf r.f vs ds⟩ G' _ H' ⟨l, vs, rfl, by rw [← hM]; exact h3, h5.length, ⟨G', h5⟩, rfl⟩ (s.toM h1 (.lst vs)) ⟨w2.gh, w2.mh, w2.dj, w2.res.1, fun x y hf => ?_⟩ .obj
    rcases hf with hf | ⟨j, j1, j2⟩
    · exact w'.res.2 x y hf
    · obtain ⟨d', e1, e2⟩ := h5.of_get j1
      rw [j2] at e1
      cases e1
      exact e2
theorem ev_lenM (h : EvD K (Rmf K) ta e r (objD l)) (hm : r.m l = some (.lst xs)) : EvD K (Rmf K) (tCB (rLenS K) (tCons ta tNil)) e r (.int (xs.length : Int)) := fun B σ G M H v w Q q =>
  h B σ G M H v w _ fun x d' r' G1 M1 H1 ⟨e1, e2⟩ s1 w1 hx => by
    subst e1 e2
    exact ⟨l, xs, by rw [hx.obj_inv], .inl (SqL.of (w1.at hm)), q _ _ _ G1 M1 H1 ⟨rfl, rfl⟩ s1 w1 (.int _)⟩
/-- x[j] = e, x a list in M -/
theorem sp_setM {P : Post ρ'} {E : XK} {j : Int} {n : Nat} (L : Lift (Rmf K) R' g r put) (h : EvD K R' te e g d) (ho : EvD K R' ta e g (objD l)) (hj : EvD K R' tb e g (.int j)) (hm : r.m l = some (.lst xs)) (hn : ixN xs.length j = some n)
    (k : ∀ v, (∃ G, Rp K G v d) → P.nx e (put ⟨upd r.m l (.lst (xs.set n v)), addF r.f v d⟩)) : SP K R' E (tAsg te (gSub ta tb rSetL)) e g P := fun G0 M0 H0 σ G M H D s ve w q =>
  h H0 σ G M H ve w _ fun v d' r' G1 M1 H1 ⟨e1, e2⟩ s1 w1 hv => by
    subst e1 e2
    refine ho H0 σ G1 M1 H1 (ve.step s1) w1 _ fun x d2 r2 G2 M2 H2 ⟨e1, e2⟩ s2 w2 hx => ?_
    subst e1 e2
    refine hj H0 σ G2 M2 H2 ((ve.step s1).step s2) w2 _ fun y d3 r3 G3 M3 H3 ⟨e1, e2⟩ s3 w3 hy => ?_
    subst e1 e2
    obtain ⟨M4, n4, w4, k4⟩ := L.fr G3 M3 H3 w3
    have hM : M4 = r.m := w4.res.1
    refine ⟨l, xs, j, n, hx.obj_inv, hy.int_inv, w4.at hm, hn, ?_⟩
    have st : Stp G3 M4 H3 G3 (upd M4 l (.lst (xs.set n v))) (upd H3 l (.lst (xs.set n v))) := Stp.mutM ⟨_, by rw [hM]; exact hm⟩ w4.mh _
    have hv3 : Rp K G3 v d' := hv.mono (s2.gg.trans s3.gg)
    obtain ⟨M5, s5, w5, _⟩ := k4 _ _ _ ⟨upd r.m l (.lst (xs.set n v)), addF r.f v d'⟩ st (w4.mutM hm _ fun x y hf => by
      rcases hf with hf | ⟨e1, e2⟩
      · exact w4.res.2 x y hf
      · rw [e1, e2]; exact hv3)
    have s6 := ((s1.trans s2).trans s3).trans s5
    exact q.nx e _ σ G3 _ _ (k v ⟨_, hv3⟩) (s.trans s6) (ve.step s6) w5
/-- x.append(e), x a list in M -/
theorem sp_appM {P : Post ρ'} {E : XK} (L : Lift (Rmf K) R' g r put) (ho : EvD K R' ta e g (objD l)) (h : EvD K R' te e g d) (hm : r.m l = some (.lst xs)) (hz : xs.length < sizeLine)
    (k : ∀ v, (∃ G, Rp K G v d) → P.nx e (put ⟨upd r.m l (.lst (xs ++ [v])), addF r.f v d⟩)) : SP K R' E (tDrop (tBM K "list" rAppend ta (tCons te tNil))) e g P := fun G0 M0 H0 σ G M H D s ve w q =>
  ho H0 σ G M H ve w _ fun x d2 r2 G1 M1 H1 ⟨e1, e2⟩ s1 w1 hx => by
    subst e1 e2
    obtain ⟨M7, n7, w7, _⟩ := L.fr G1 M1 H1 w1
    rw [hx.obj_inv]
    refine ⟨.inl ⟨rfl, xs, SqL.of (w7.at hm)⟩, h H0 σ G1 M1 H1 (ve.step s1) w1 _ fun v d' r' G2 M2 H2 ⟨e1, e2⟩ s2 w2 hv => ?_⟩
    subst e1 e2
    obtain ⟨M4, n4, w4, k4⟩ := L.fr G2 M2 H2 w2
    have hM : M4 = r.m := w4.res.1
    refine ⟨l, xs, v, rfl, rfl, w4.at hm, hz, ?_⟩
    have st : Stp G2 M4 H2 G2 (upd M4 l (.lst (xs ++ [v]))) (upd H2 l (.lst (xs ++ [v]))) := Stp.mutM ⟨_, by rw [hM]; exact hm⟩ w4.mh _
    obtain ⟨M5, s5, w5, _⟩ := k4 _ _ _ ⟨upd r.m l (.lst (xs ++ [v])), addF r.f v d'⟩ st (w4.mutM hm _ fun x y hf => by
      rcases hf with hf | ⟨e1, e2⟩
      · exact w4.res.2 x y hf
      · rw [e1, e2]; exact hv)
    have s6 := (s1.trans s2).trans s5
    exact q.nx e _ σ G2 _ _ (k v ⟨_, hv⟩) (s.trans s6) (ve.step s6) w5
end
/-- Room(n) -/
theorem ev_room {K : PySem.W.Frag} {CR CK : Addr} {e : SE} {t : TA} {n : Int} {E : XK} {SpI : Sp} (hI : SpI = spX K (Rmf K) (fun a : Addr × Int => [objD a.1, .int a.2]) (fun a r => (∃ dx, r.m a.1 = some (.ins CR dx [])) ∧ 1 ≤ a.2 ∧ a.2 ≤ 9)
    (fun a r d r' => d = .none ∧ ∃ L b c, RoomAt CR CK ⟨a.1, a.2.toNat, fun _ => {}⟩ L b c r') (fun _ _ _ _ => False)) (h : ∀ r, EvA K (Rmf K) t e r [.int n]) (h1 : 1 ≤ n) (h2 : n ≤ 9) :
    EvS K (RO K CR CK) (tMake CR SpI [] E t) e none (fun d r' => ∃ p, d = objD p ∧ r' = some ⟨p, n.toNat, fun _ => {}⟩) := fun B σ G M H v w Q q => by
  subst hI
  have w0 : Wf (Rmf K) G M H ⟨M, fun _ _ => False⟩ := ⟨w.gh, w.mh, w.dj, rfl, fun _ _ z => z.elim⟩
  refine (evx_make (r := ⟨M, fun _ _ => False⟩) (P := fun d r' => ∃ p, d = objD p ∧ ∃ L b c, RoomAt CR CK ⟨p, n.toNat, fun _ => {}⟩ L b c r') (PE := fun _ _ => False) (h _) fun x dx hx => ⟨(x, n), rfl, ⟨⟨dx, upd_same⟩, h1, h2⟩, ?_, fun _ _ z => z⟩).s (fun _ _ z => z) B σ G M H v w0 Q ?_
  · rintro d r' ⟨e1, h⟩
    exact ⟨e1, x, rfl, h⟩
  · rintro y d r' G' M' H' ⟨p, rfl, L, b, c, h⟩ s w' hy
    exact q y _ (some ⟨p, n.toNat, fun _ => {}⟩) G' M' H' ⟨p, rfl, rfl⟩ s ⟨w'.gh, w'.mh, w'.dj, L, b, c, r', w'.res, h⟩ hy
end Fw

/-! What the room laws share, in plain Lean. -/
namespace Fw
open PySem L2
def rgI (n : Nat) : List Int := (List.range n).map fun (k : Nat) => (k : Int)
def osD (os : List Int) : PyData := .list (os.map .int)
def intOf : PyData → Int
  | .int i => i
  | _ => 0
theorem rgI_D (n : Nat) : (rgI n).map PyData.int = rgD n := by unfold rgI rgD; rw [List.map_map]; rfl
theorem rgI_mem {n : Nat} {k : Int} (h : k ∈ rgI n) : 0 ≤ k ∧ k < n := by
  obtain ⟨j, hj, rfl⟩ := List.mem_map.mp h
  have := List.mem_range.mp hj
  omega
theorem rgI_len (n : Nat) : (rgI n).length = n := by unfold rgI; rw [List.length_map, List.length_range]
theorem lcOut_ints (p : PyData → Bool) (g : Int → Int) (is : List Int) : lcOut p (fun d => .int (g (intOf d))) (is.map .int) = (((is.filter fun k => p (.int k)).map g)).map .int := by
  unfold lcOut
  rw [List.filter_map, List.map_map, List.map_map]
  rfl
/-- numbers drawn one after the other -/
def drawnF (x : Int × List Int) (z : Int) : Int × List Int := (x.1 / z, x.2 ++ [x.1 % z])
def drawnL (n : Int) (zs : List Int) : List Int := (zs.foldl drawnF (n, [])).2
def pw9 : List PyData := [.int 1, .int 2, .int 4, .int 8, .int 16, .int 32, .int 64, .int 128, .int 256]
theorem pw9_at {k : Int} (h0 : 0 ≤ k) (h1 : k < 9) : ∃ x, L2.atI pw9 k = some (.int x) ∧ 0 < x ∧ x < 1073741824 := by
  have : k = 0 ∨ k = 1 ∨ k = 2 ∨ k = 3 ∨ k = 4 ∨ k = 5 ∨ k = 6 ∨ k = 7 ∨ k = 8 := by omega
  rcases this with rfl | rfl | rfl | rfl | rfl | rfl | rfl | rfl | rfl
  all_goals exact ⟨_, rfl, by decide, by decide⟩
def bitD (bits : Int) (d : PyData) : Bool := match L2.atI pw9 (intOf d) with
  | some (.int x) => decide (bits / x % 2 = 1)
  | _ => false
/-- lists by place -/
def tl (n : Nat) (t : Nat → Int) : List V := (List.range n).map fun i => .int (t i)
def bl (n : Nat) (b : Nat → Bool) : List V := (List.range n).map fun i => .bl (b i)
def updN {β : Type} (f : Nat → β) (i : Nat) (x : β) : Nat → β := fun j => if j = i then x else f j
theorem updN_same {β : Type} {f : Nat → β} {i : Nat} {x : β} : updN f i x i = x := by unfold updN; rw [if_pos rfl]
theorem updN_ne {β : Type} {f : Nat → β} {i j : Nat} {x : β} (h : j ≠ i) : updN f i x j = f j := by unfold updN; rw [if_neg h]
theorem rgm_set {β γ : Type} (g : β → γ) (n i : Nat) (f : Nat → β) (x : β) : ((List.range n).map fun j => g (f j)).set i (g x) = (List.range n).map fun j => g (updN f i x j) := by
  refine List.ext_getElem? fun j => ?_
  rw [List.getElem?_set, List.getElem?_map, List.getElem?_map]
  by_cases h : i = j
  · subst h
    rw [if_pos rfl, List.length_map, List.length_range]
    by_cases hi : i < n
    · rw [if_pos hi, List.getElem?_range hi]
      show _ = some (g (updN f i x i))
      rw [updN_same]
    · rw [if_neg hi, List.getElem?_eq_none (by rw [List.length_range]; omega)]; rfl
  · rw [if_neg h]
    cases z : (List.range n)[j]? with
    | none => rfl
    | some k =>
      have hk : k = j := by
        obtain ⟨h1, h2⟩ := List.getElem?_eq_some_iff.mp z
        rw [← h2, List.getElem_range]
      show some (g (f k)) = some (g (updN f i x k))
      rw [updN_ne (by omega)]
theorem rgm_at {γ : Type} (f : Nat → γ) {n : Nat} {k : Int} (h0 : 0 ≤ k) (h1 : k < n) : L2.atI ((List.range n).map f) k = some (f k.toNat) := by
  have e : k = (k.toNat : Int) := by omega
  have := atI_nat (xs := (List.range n).map f) (j := k.toNat) (v := f k.toNat) (by rw [List.getElem?_map, List.getElem?_range (by omega)]; rfl)
  rw [← e] at this
  exact this
theorem ixN_rgm {f : Nat → V} {n : Nat} {k : Int} (h0 : 0 ≤ k) (h1 : k < n) : ixN ((List.range n).map f).length k = some k.toNat := by
  unfold ixN
  rw [List.length_map, List.length_range, if_pos h0, if_pos h1]
/-- k06's own lists -/
structure TL (lt ll : Addr) (n : Nat) (t : Nat → Int) (b : Nat → Bool) (r : MF) : Prop where
  t : r.m lt = some (.lst (tl n t))
  b : r.m ll = some (.lst (bl n b))
  ne : lt ≠ ll
theorem TL.setT {lt ll : Addr} {n : Nat} {t : Nat → Int} {b : Nat → Bool} {r : MF} (h : TL lt ll n t b r) (i : Nat) (x : Int) (f : V → PyData → Prop) : TL lt ll n (updN t i x) b ⟨upd r.m lt (.lst ((tl n t).set i (.int x))), f⟩ :=
  ⟨by show upd _ _ _ _ = _; rw [upd_same]; unfold tl; rw [rgm_set V.int], by show upd _ _ _ _ = _; rw [upd_ne h.ne.symm]; exact h.b, h.ne⟩
theorem TL.setB {lt ll : Addr} {n : Nat} {t : Nat → Int} {b : Nat → Bool} {r : MF} (h : TL lt ll n t b r) (i : Nat) (x : Bool) (f : V → PyData → Prop) : TL lt ll n t (updN b i x) ⟨upd r.m ll (.lst ((bl n b).set i (.bl x))), f⟩ :=
  ⟨by show upd _ _ _ _ = _; rw [upd_ne h.ne]; exact h.t, by show upd _ _ _ _ = _; rw [upd_same]; unfold bl; rw [rgm_set V.bl], h.ne⟩
def ask1 (k : Nat) (x : (Nat → KS) × Int) (o : Int) : (Nat → KS) × Int :=
  (updS x.1 o.toNat ((x.1 o.toNat).hear (x.1 k).term), if decide ((x.1 o.toNat).term < (x.1 k).term) && asNew (x.1 k).row (x.1 o.toNat).row then x.2 + 1 else x.2)
theorem askAll_fold (k : Nat) (os : List Int) : ∀ st v, askAll st k os v = os.foldl (ask1 k) (st, v) := by
  induction os with
  | nil => intro st v; rfl
  | cons o os ih => intro st v; exact ih _ _
theorem askAll_row (k : Nat) (os : List Int) : ∀ st v i, ((askAll st k os v).1 i).row = (st i).row := by
  induction os with
  | nil => intro st v i; rfl
  | cons o os ih =>
    intro st v i
    show ((askAll _ k os _).1 i).row = _
    rw [ih]
    unfold updS
    split
    · rename_i h; rw [hear_row, h]
    · rfl
theorem foldl_take_succ {α β : Type} (f : β → α → β) (b : β) (xs : List α) {i : Nat} {x : α} (h : xs[i]? = some x) : (xs.take (i + 1)).foldl f b = f ((xs.take i).foldl f b) x := by
  rw [List.take_add_one, h, List.foldl_append]; rfl
end Fw
namespace Fw
open PySem L2
theorem askAll_settled (k : Nat) (os : List Int) : ∀ st v i, ((askAll st k os v).1 i).settled = (st i).settled := by
  induction os with
  | nil => intro st v i; rfl
  | cons o os ih =>
    intro st v i
    show ((askAll _ k os _).1 i).settled = _
    rw [ih]
    unfold updS
    split
    · rename_i h
      unfold KS.hear
      split
      · rw [h]
      · rw [h]
    · rfl
theorem stand1_row (st : Nat → KS) (k i : Nat) : (stand1 st k i).row = (st i).row := by
  unfold stand1 updS
  split
  · rename_i h; rw [hear_row, h]
  · rfl
theorem stand1_settled (st : Nat → KS) (k i : Nat) : (stand1 st k i).settled = (st i).settled := by
  unfold stand1 updS
  split
  · rename_i h
    unfold KS.hear
    split
    · rw [h]
    · rw [h]
  · rfl
theorem standSt_row (n : Nat) (st : Nat → KS) (k : Nat) (os : List Int) (i : Nat) : (standSt n st k os i).row = (st i).row := by
  unfold standSt
  split
  · by_cases h : i = k
    · rw [h, updS_same]
      show ((askAll (stand1 st k) k os 1).1 k).row = _
      rw [askAll_row, stand1_row]
    · rw [updS_ne h, askAll_row, stand1_row]
  · rw [askAll_row, stand1_row]
theorem standSt_settled (n : Nat) (st : Nat → KS) (k : Nat) (os : List Int) (i : Nat) : (standSt n st k os i).settled = (st i).settled := by
  unfold standSt
  split
  · by_cases h : i = k
    · rw [h, updS_same]
      show ((askAll (stand1 st k) k os 1).1 k).settled = _
      rw [askAll_settled, stand1_settled]
    · rw [updS_ne h, askAll_settled, stand1_settled]
  · rw [askAll_settled, stand1_settled]
theorem flat_rep {α : Type} (n : Nat) (x : α) : (List.replicate n [x]).flatten = List.replicate n x := by
  induction n with
  | zero => rfl
  | succ n ih => rw [List.replicate_succ, List.replicate_succ, List.flatten_cons, ih]; rfl
theorem RpAll.rep_int {K : PySem.W.Frag} {G : Hp} {x : Int} : ∀ {n : Nat} {vs : List V}, RpAll K G vs (List.replicate n (.int x)) → vs = List.replicate n (.int x)
  | 0, vs, h => h.nil_inv
  | n + 1, vs, h => by
    rw [List.replicate_succ] at h
    obtain ⟨v, ws, rfl, h1, h2⟩ := h.cons_inv
    rw [h1.int_inv, rep_int h2, List.replicate_succ]
theorem RpAll.rep_bool {K : PySem.W.Frag} {G : Hp} {x : Bool} : ∀ {n : Nat} {vs : List V}, RpAll K G vs (List.replicate n (.bool x)) → vs = List.replicate n (.bl x)
  | 0, vs, h => h.nil_inv
  | n + 1, vs, h => by
    rw [List.replicate_succ] at h
    obtain ⟨v, ws, rfl, h1, h2⟩ := h.cons_inv
    rw [h1.bl_inv, rep_bool h2, List.replicate_succ]
theorem tl_rep (n : Nat) (x : Int) : tl n (fun _ => x) = List.replicate n (.int x) := by
  unfold tl
  induction n with
  | zero => rfl
  | succ n ih => rw [List.range_succ, List.map_append, ih, List.replicate_succ']; rfl
theorem bl_rep (n : Nat) (x : Bool) : bl n (fun _ => x) = List.replicate n (.bl x) := by
  unfold bl
  induction n with
  | zero => rfl
  | succ n ih => rw [List.range_succ, List.map_append, ih, List.replicate_succ']; rfl
end Fw

namespace My
open PySem L2 Fw
local macro_rules | `(tactic| walk_at "side") => `(tactic| first | omega | decide | exact Or.inr ⟨by decide, by decide⟩ | (refine Or.inr ⟨?_, ?_⟩ <;> omega) | (refine Or.inl ⟨?_, ?_⟩ <;> omega) | exact ⟨by decide, by decide⟩ | (refine ⟨?_, ?_⟩ <;> omega) | assumption)
local macro_rules | `(tactic| walk_at "ev") => `(tactic| first
  | exact ev_var rfl | exact ev_int | exact ev_str | exact ev_bl | exact ev_non
  | (refine ev_op ?_ ?_ opI <;> walk_at "ev")
  | (refine ev_op ?_ ?_ opB <;> walk_at "ev")
  | (refine ev_op (hr := opIC ?hc) ?_ ?_ <;> first | (walk_at "ev") | (walk_at "side"))
  | (refine ev_op ?_ ?_ opEqI <;> walk_at "ev")
  | (refine ev_op ?_ ?_ opNeI <;> walk_at "ev"))

def top (i : Nat) : Stmt := PySem.Challenge.pw_logreplica_k06_standing.main.body.getD i (.Pass ⟨0, 0, 0, 0⟩)
abbrev s_last_term : Stmt := top 7
abbrev s_as_new : Stmt := top 8
abbrev s_Keeper_init : Stmt := inClass (top 10) 0
abbrev s_Keeper_hear : Stmt := inClass (top 10) 1
abbrev s_Keeper_asked : Stmt := inClass (top 10) 2
abbrev s_Keeper_begin : Stmt := inClass (top 10) 3
abbrev s_Room_init : Stmt := inClass (top 13) 0
abbrev s_Room_keeper : Stmt := inClass (top 13) 1
abbrev s_Room_leader : Stmt := inClass (top 13) 2
abbrev s_Room_stand : Stmt := inClass (top 13) 3
abbrev s_Room_write : Stmt := inClass (top 13) 4
abbrev s_Room_rest : Stmt := inClass (top 13) 7
abbrev s_Room_term_of : Stmt := inClass (top 13) 8
abbrev s_Room_row_of : Stmt := inClass (top 13) 9
abbrev s_Room_leading : Stmt := inClass (top 13) 10
abbrev s_Room_settled_of : Stmt := inClass (top 13) 11
abbrev s__law_cell_at : Stmt := top 15
abbrev s__law_mixed : Stmt := top 16
abbrev s__law_drawn : Stmt := top 17
abbrev s__law_whole : Stmt := top 18
abbrev s__law_others : Stmt := top 19
abbrev s__law_stood : Stmt := top 20
abbrev s__law_stands : Stmt := top 21
abbrev s_law : Stmt := top 22
structure Tx (K : PySem.W.Frag) (mg : Str → Option Value) where
  c_RoomError : Addr
  c_NoRoom : Addr
  c_NoKeeper : Addr
  c_NotLeading : Addr
  c_Keeper : Addr
  c_Room : Addr
  mg_RoomError : mg "RoomError" = some (.ref c_RoomError)
  x_RoomError : PySem.W.excIn K c_RoomError [.type "ValueError", .type "Exception", .type "BaseException", .type "object"] "ValueError.__new__" = true
  kx_RoomError : PySem.W.keepIn K (.ref c_RoomError) = true
  bx_RoomError : PySem.W.subIn K (.ref c_RoomError) (.type "BaseException") = some true
  tx_RoomError : PySem.W.typeIn K (.ref c_RoomError) = some (.type "type")
  mg_NoRoom : mg "NoRoom" = some (.ref c_NoRoom)
  x_NoRoom : PySem.W.excIn K c_NoRoom [.type "ValueError", .type "Exception", .type "BaseException", .type "object"] "ValueError.__new__" = true
  kx_NoRoom : PySem.W.keepIn K (.ref c_NoRoom) = true
  bx_NoRoom : PySem.W.subIn K (.ref c_NoRoom) (.type "BaseException") = some true
  tx_NoRoom : PySem.W.typeIn K (.ref c_NoRoom) = some (.type "type")
  mg_NoKeeper : mg "NoKeeper" = some (.ref c_NoKeeper)
  x_NoKeeper : PySem.W.excIn K c_NoKeeper [.type "ValueError", .type "Exception", .type "BaseException", .type "object"] "ValueError.__new__" = true
  kx_NoKeeper : PySem.W.keepIn K (.ref c_NoKeeper) = true
  bx_NoKeeper : PySem.W.subIn K (.ref c_NoKeeper) (.type "BaseException") = some true
  tx_NoKeeper : PySem.W.typeIn K (.ref c_NoKeeper) = some (.type "type")
  mg_NotLeading : mg "NotLeading" = some (.ref c_NotLeading)
  x_NotLeading : PySem.W.excIn K c_NotLeading [.type "ValueError", .type "Exception", .type "BaseException", .type "object"] "ValueError.__new__" = true
  kx_NotLeading : PySem.W.keepIn K (.ref c_NotLeading) = true
  bx_NotLeading : PySem.W.subIn K (.ref c_NotLeading) (.type "BaseException") = some true
  tx_NotLeading : PySem.W.typeIn K (.ref c_NotLeading) = some (.type "type")
  cl_Keeper : Cls K c_Keeper
  mg_Keeper : mg "Keeper" = some (.ref c_Keeper)
  na_Keeper_term : NoAttr K c_Keeper "term"
  na_Keeper_row : NoAttr K c_Keeper "row"
  na_Keeper_leads : NoAttr K c_Keeper "leads"
  na_Keeper_settled : NoAttr K c_Keeper "settled"
  na_Keeper_ahead : NoAttr K c_Keeper "ahead"
  na_Keeper_held : NoAttr K c_Keeper "held"
  cl_Room : Cls K c_Room
  mg_Room : mg "Room" = some (.ref c_Room)
  na_Room_keepers : NoAttr K c_Room "keepers"
  d_last_term : DefAt K mg "last_term" "last_term" s_last_term ["row"]
  d_as_new : DefAt K mg "as_new" "as_new" s_as_new ["row", "other"]
  d_Keeper_init : InitAt K c_Keeper "Keeper.__init__" s_Keeper_init ["self", "row"]
  d_Keeper_hear : MethAt K c_Keeper "hear" "Keeper.hear" s_Keeper_hear ["self", "term"]
  d_Keeper_asked : MethAt K c_Keeper "asked" "Keeper.asked" s_Keeper_asked ["self", "term", "row"]
  d_Keeper_begin : MethAt K c_Keeper "begin" "Keeper.begin" s_Keeper_begin ["self", "count"]
  d_Room_init : InitAt K c_Room "Room.__init__" s_Room_init ["self", "count"]
  d_Room_keeper : MethAt K c_Room "keeper" "Room.keeper" s_Room_keeper ["self", "k"]
  d_Room_leader : MethAt K c_Room "leader" "Room.leader" s_Room_leader ["self", "k"]
  d_Room_stand : MethAt K c_Room "stand" "Room.stand" s_Room_stand ["self", "k", "others"]
  d_Room_write : MethAt K c_Room "write" "Room.write" s_Room_write ["self", "k", "word"]
  d_Room_rest : MethAt K c_Room "rest" "Room.rest" s_Room_rest ["self", "k"]
  d_Room_term_of : MethAt K c_Room "term_of" "Room.term_of" s_Room_term_of ["self", "k"]
  d_Room_row_of : MethAt K c_Room "row_of" "Room.row_of" s_Room_row_of ["self", "k"]
  d_Room_leading : MethAt K c_Room "leading" "Room.leading" s_Room_leading ["self", "k"]
  d_Room_settled_of : MethAt K c_Room "settled_of" "Room.settled_of" s_Room_settled_of ["self", "k"]
  d__law_cell_at : DefAt K mg "_law_cell_at" "_law_cell_at" s__law_cell_at ["_law_script", "_law_k"]
  d__law_mixed : DefAt K mg "_law_mixed" "_law_mixed" s__law_mixed ["_law_script", "_law_k"]
  d__law_drawn : DefAt K mg "_law_drawn" "_law_drawn" s__law_drawn ["_law_number", "_law_sizes"]
  d__law_whole : DefAt K mg "_law_whole" "_law_whole" s__law_whole ["_law_found"]
  d__law_others : DefAt K mg "_law_others" "_law_others" s__law_others ["_law_count", "_law_way", "_law_bits"]
  d__law_stood : DefAt K mg "_law_stood" "_law_stood" s__law_stood ["_law_terms", "_law_leads", "_law_k", "_law_others_here"]
  d__law_stands : DefAt K mg "_law_stands" "_law_stands" s__law_stands ["_law_room", "_law_terms", "_law_leads"]
  d_law : DefAt K mg "law" "law" s_law ["_law_script"]
  z_bool : mg "bool" = none
  z_int : mg "int" = none
  z_isinstance : mg "isinstance" = none
  z_len : mg "len" = none
  z_list : mg "list" = none
  z_range : mg "range" = none
  t_MOST : Tok
  v_MOST : mg "MOST" = some (.int 9 t_MOST)
section
variable {P : Program} {w : World} {K : PySem.W.Frag} {mg : Str → Option Value} {base : Heap}
/-! ## last_term -/
theorem sc_last_term : FnScope ["row"] ["row"] (defScope s_last_term) := ⟨rfl, rfl, rfl, by decide +kernel, rfl, by decide +kernel, by decide +kernel⟩
abbrev sp_last_term (K : PySem.W.Frag) : Sp := spF K (fun es : List Ent => [rowD es]) rowOk (fun es => .int (lastT es))
section
variable {ρ : Type} {R : ρ → Hp → Hp → Prop} [Stab R] {e : SE} {r : ρ} {ta : TE} {E : XK}
theorem ev_last_term {es : List Ent} (h : EvD K R ta e r (rowD es)) (hp : rowOk es) : EvD K R (tCall (sp_last_term K) [] E (tCons ta tNil)) e r (.int (lastT es)) := ev_call es (ea_cons h ea_nil) hp
end
theorem ok_last_term (T : Tx K mg) : FnOk P w K mg base CX0 1 T.d_last_term.a T.d_last_term.fd ["row"] (sp_last_term K) := by
  refine ok_pure T.d_last_term.F sc_last_term (fun _ => rfl) fun cdv A outer s H E hr => ⟨_, (pss_cons (ps_if (pt_cmpR (op_eqD hr.units) (pv 0) (pe_lst pa_nil) (nomark _)) (pss_one (ps_ret pe_int)) pss_nil)
    (pss_one (ps_ret (pe_ix ix_tup (pe_ix ix_list (pv 0) (pe_un un_neg pe_int) (fun _ _ => rfl)) pe_int (fun _ _ => rfl))))), ?_⟩
  intro M0 es hp
  refine sp_when (et_test (ev_op (ev_var rfl) (ev_lst ea_nil (Nat.zero_le _)) (opEqR hp rowOk_nil))) (fun h => ?_) fun h => ?_
  · refine sp_ret ev_int ?_
    show PyData.int _ = PyData.int (lastT es)
    rw [of_decide_eq_true h]; rfl
  · obtain ⟨x, h1, h2⟩ := atI_rowLast (of_decide_eq_false h)
    refine sp_ret (ev_op (ev_op (ev_var rfl) (ev_un ev_int opNeg) (opIxL h1)) ev_int (opIxT (d := .int x.1) rfl)) ?_
    show PyData.int _ = PyData.int (lastT es)
    rw [h2]

/-! ## as_new -/
theorem sc_as_new : FnScope ["row", "other"] ["row", "other"] (defScope s_as_new) := ⟨rfl, rfl, rfl, by decide +kernel, rfl, by decide +kernel, by decide +kernel⟩
abbrev sp_as_new (K : PySem.W.Frag) : Sp := spF K (fun a : List Ent × List Ent => [rowD a.1, rowD a.2]) (fun a => rowOk a.1 ∧ rowOk a.2) (fun a => .bool (asNew a.1 a.2))
section
variable {ρ : Type} {R : ρ → Hp → Hp → Prop} [Stab R] {e : SE} {r : ρ} {ta tb : TE} {E : XK}
theorem ev_as_new {a b : List Ent} (h : EvD K R ta e r (rowD a)) (h2 : EvD K R tb e r (rowD b)) (hp : rowOk a) (hq : rowOk b) : EvD K R (tCall (sp_as_new K) [] E (tCons ta (tCons tb tNil))) e r (.bool (asNew a b)) :=
  ev_call (a, b) (ea_cons h (ea_cons h2 ea_nil)) ⟨hp, hq⟩
end
theorem ok_as_new (T : Tx K mg) : FnOk P w K mg base CX0 2 T.d_as_new.a T.d_as_new.fd ["row", "other"] (sp_as_new K) := by
  refine ok_pure T.d_as_new.F sc_as_new (fun _ => rfl) fun cdv A outer s H E hr => ⟨_, (pss_cons (ps_if (pt_cmpR op_ne (pe_call (ok_last_term T) (hr.mono (by decide)) (by rfl) T.d_last_term.g T.d_last_term.F.kp T.d_last_term.b .nil pass0 (pa_cons (pv 0) pa_nil)) (pe_call (ok_last_term T) (hr.mono (by decide)) (by rfl) T.d_last_term.g T.d_last_term.F.kp T.d_last_term.b .nil pass0 (pa_cons (pv 1) pa_nil)) (nomark _)) (pss_one (ps_ret (pe_cmpR op_gt (pe_call (ok_last_term T) (hr.mono (by decide)) (by rfl) T.d_last_term.g T.d_last_term.F.kp T.d_last_term.b .nil pass0 (pa_cons (pv 0) pa_nil)) (pe_call (ok_last_term T) (hr.mono (by decide)) (by rfl) T.d_last_term.g T.d_last_term.F.kp T.d_last_term.b .nil pass0 (pa_cons (pv 1) pa_nil)) (nomark _)))) pss_nil)
    (pss_one (ps_ret (pe_cmpR op_ge (pe_callB call_len_seq (by rfl) T.z_len (by decide +kernel) (pa_cons (pv 0) pa_nil)) (pe_callB call_len_seq (by rfl) T.z_len (by decide +kernel) (pa_cons (pv 1) pa_nil)) (nomark _))))), ?_⟩
  rintro M0 ⟨a, b⟩ ⟨hp, hq⟩
  refine sp_when (et_test (ev_op (ev_last_term (ev_var rfl) hp) (ev_last_term (ev_var rfl) hq) opNeI)) (fun h => ?_) fun h => ?_
  · refine sp_ret (ev_op (ev_last_term (ev_var rfl) hp) (ev_last_term (ev_var rfl) hq) opB) ?_
    show PyData.bool _ = PyData.bool (asNew a b)
    unfold asNew
    rw [if_pos (by simpa using h)]
  · refine sp_ret (ev_op (ev_cb (ea_cons (ev_var rfl) ea_nil) cbLen) (ev_cb (ea_cons (ev_var rfl) ea_nil) cbLen) opB) ?_
    show PyData.bool _ = PyData.bool (asNew a b)
    unfold asNew
    rw [if_neg (by simpa using h)]
    simp

/-! ## Keeper.__init__ -/
theorem sc_Keeper_init : FnScope ["self", "row"] ["self", "row"] (defScope s_Keeper_init) := ⟨rfl, rfl, rfl, by decide +kernel, rfl, by decide +kernel, by decide +kernel⟩
abbrev sp_Keeper_init (K : PySem.W.Frag) (C : Addr) : Sp := spX K (Rmf K) (fun a : Addr × List Ent => [objD a.1, rowD a.2]) (fun a r => ∃ dx, r.m a.1 = some (.ins C dx []))
  (fun a r d r' => d = .none ∧ ∃ c, KAt C r' a.1 c { row := a.2 } ∧ (∀ b o, r.m b = some o → b ≠ a.1 → r'.m b = some o) ∧ (∀ v d, r.f v d → r'.f v d) ∧ r.m c.al = none ∧ r.m c.hl = none ∧ ∀ ds, ¬ r.f c.rw (.list ds)) (fun _ _ _ _ => False)
theorem ok_Keeper_init (T : Tx K mg) : FnOk P w K mg base (L2.CX P w) 1 T.d_Keeper_init.a T.d_Keeper_init.fd ["self", "row"] (sp_Keeper_init K T.c_Keeper) := by
  refine ok_obj T.d_Keeper_init.F sc_Keeper_init (fun _ => rfl) fun cdv A outer s H E hr => ⟨_, (pss_cons (ps_fld (pv 0) pe_int rfl)
    (pss_cons (ps_fld (pv 0) (pe_callTy call_list_of (by rfl) T.z_list (by decide +kernel) (pa_cons (pv 1) pa_nil)) rfl)
    (pss_cons (ps_fld (pv 0) pe_bl rfl)
    (pss_cons (ps_fld (pv 0) pe_int rfl)
    (pss_cons (ps_fld (pv 0) (pe_lst pa_nil) rfl)
    (pss_one (ps_fld (pv 0) (pe_lst pa_nil) rfl))))))), ?_⟩
  rintro ⟨a, es⟩ r ⟨dx, h0⟩
  refine sp_seq (N := fun e' r' => e' = [.dat (objD a), .dat (rowD es)] ∧ r' = ⟨upd r.m a (.ins T.c_Keeper dx (putF "term" (.int 0) [])), addF r.f (.int 0) (.int 0)⟩) (sp_fld ev_int (ev_var rfl) h0 T.cl_Keeper T.na_Keeper_term (by show 0 < 1000; decide) fun v ⟨G, hv⟩ => by rw [hv.int_inv]; exact ⟨rfl, rfl⟩) ?_
  rintro _ _ ⟨rfl, rfl⟩
  refine sp_seq (N := fun e' r' => e' = [.dat (objD a), .dat (rowD es)] ∧ ∃ v, r' = ⟨upd r.m a (.ins T.c_Keeper dx (putF "row" v (putF "term" (.int 0) []))), addF (addF r.f (.int 0) (.int 0)) v (rowD es)⟩ ∧ ∀ ds, ¬ r.f v (.list ds))
    (sp_fldL (evf_cb (ea_cons (ev_var rfl) ea_nil) cbList) (ev_var rfl) upd_same T.cl_Keeper T.na_Keeper_row (by rw [show (putF "term" (V.int 0) []).length = 1 from rfl]; decide) fun l hl => ⟨rfl, .ref l, (by rw [upd_upd]; rfl), fun ds h => hl ds (.inl h)⟩) ?_
  rintro _ _ ⟨rfl, v, rfl, hvn⟩
  have l2 : (putF "row" v (putF "term" (V.int 0) [])).length ≤ 2 := Nat.le_trans (length_putF _ _ _) (Nat.succ_le_succ (length_putF _ _ _))
  refine sp_seq (N := fun e' r' => e' = [.dat (objD a), .dat (rowD es)] ∧ r' = ⟨upd r.m a (.ins T.c_Keeper dx (putF "leads" (.bl false) (putF "row" v (putF "term" (.int 0) [])))), addF (addF (addF r.f (.int 0) (.int 0)) v (rowD es)) (.bl false) (.bool false)⟩)
    (sp_fld ev_bl (ev_var rfl) upd_same T.cl_Keeper T.na_Keeper_leads (by omega) fun u ⟨G, hu⟩ => by rw [hu.bl_inv, upd_upd]; exact ⟨rfl, rfl⟩) ?_
  rintro _ _ ⟨rfl, rfl⟩
  have l3 : (putF "leads" (V.bl false) (putF "row" v (putF "term" (V.int 0) []))).length ≤ 3 := Nat.le_trans (length_putF _ _ _) (Nat.succ_le_succ l2)
  refine sp_seq (N := fun e' r' => e' = [.dat (objD a), .dat (rowD es)] ∧ r' = ⟨upd r.m a (.ins T.c_Keeper dx (putF "settled" (.int 0) (putF "leads" (.bl false) (putF "row" v (putF "term" (.int 0) []))))), addF (addF (addF (addF r.f (.int 0) (.int 0)) v (rowD es)) (.bl false) (.bool false)) (.int 0) (.int 0)⟩)
    (sp_fld ev_int (ev_var rfl) upd_same T.cl_Keeper T.na_Keeper_settled (by omega) fun u ⟨G, hu⟩ => by rw [hu.int_inv, upd_upd]; exact ⟨rfl, rfl⟩) ?_
  rintro _ _ ⟨rfl, rfl⟩
  have l4 : (putF "settled" (V.int 0) (putF "leads" (V.bl false) (putF "row" v (putF "term" (V.int 0) [])))).length ≤ 4 := Nat.le_trans (length_putF _ _ _) (Nat.succ_le_succ l3)
  generalize hf : addF (addF (addF (addF r.f (.int 0) (.int 0)) v (rowD es)) (.bl false) (.bool false)) (.int 0) (.int 0) = f
  have hfv : f v (rowD es) := by rw [← hf]; exact .inl (.inl (.inr ⟨rfl, rfl⟩))
  have hfo : ∀ v d, r.f v d → f v d := fun v d h => by rw [← hf]; exact .inl (.inl (.inl (.inl h)))
  generalize hg : putF "settled" (V.int 0) (putF "leads" (V.bl false) (putF "row" v (putF "term" (V.int 0) []))) = g at l4
  refine sp_seq (N := fun e' r' => e' = [.dat (objD a), .dat (rowD es)] ∧ ∃ l, (upd r.m a (.ins T.c_Keeper dx g)) l = none ∧ l ≠ a ∧ r' = ⟨upd (upd r.m l (.lst [])) a (.ins T.c_Keeper dx (putF "ahead" (.ref l) g)), f⟩)
    (sp_fldN (ns := []) (evf_lst ea_nil (Nat.zero_le _)) (ev_var rfl) upd_same T.cl_Keeper T.na_Keeper_ahead (by omega) (fun _ => ev_var rfl) fun l hl hla => ⟨rfl, l, hl, hla, by
      have : upd (upd (upd r.m a (.ins T.c_Keeper dx g)) l (.lst (([] : List Int).map .int))) a (.ins T.c_Keeper dx (putF "ahead" (.ref l) g)) = upd (upd r.m l (.lst [])) a (.ins T.c_Keeper dx (putF "ahead" (.ref l) g)) := by
        funext b
        by_cases h1 : b = a
        · rw [h1, upd_same, upd_same]
        · rw [upd_ne h1, upd_ne h1]
          by_cases h2 : b = l
          · rw [h2, upd_same, upd_same]; rfl
          · rw [upd_ne h2, upd_ne h2, upd_ne h1]
      rw [this]⟩) ?_
  rintro _ _ ⟨rfl, l, hl, hla, rfl⟩
  have l5 : (putF "ahead" (V.ref l) g).length ≤ 5 := Nat.le_trans (length_putF _ _ _) (Nat.succ_le_succ l4)
  refine sp_fldN (ns := []) (evf_lst ea_nil (Nat.zero_le _)) (ev_var rfl) upd_same T.cl_Keeper T.na_Keeper_held (by omega) (fun _ => ev_var rfl) fun q hq hqa => ?_
  have hq : (upd (upd r.m l (.lst [])) a (.ins T.c_Keeper dx (putF "ahead" (.ref l) g))) q = none := hq
  refine ⟨rfl, ⟨dx, v, l, q⟩, ⟨?_, hfv, ?_, ?_, ?_⟩, ?_, hfo, ?_, ?_, hvn⟩
  · show (upd _ a _) a = _
    rw [upd_same, ← hg, kf_all]; all_goals rfl
  · have hlq : l ≠ q := fun z => by
      rw [← z, upd_ne hla, upd_same] at hq; cases hq
    show (upd (upd (upd (upd r.m l _) a _) q _) a _) l = _
    rw [upd_ne hla, upd_ne hlq, upd_ne hla, upd_same]; all_goals rfl
  · show (upd (upd _ q _) a _) q = _
    rw [upd_ne hqa, upd_same]; all_goals rfl
  · intro z
    have z : l = q := z
    rw [← z, upd_ne hla, upd_same] at hq; cases hq
  · intro b o hb hba
    rw [upd_ne hla] at hl
    have hbl : b ≠ l := ne_of_none hb hl
    have hbq : b ≠ q := fun z => by rw [← z, upd_ne hba, upd_ne hbl, hb] at hq; cases hq
    show (upd (upd (upd (upd r.m l _) a _) q _) a _) b = some o
    rw [upd_ne hba, upd_ne hbq, upd_ne hba, upd_ne hbl]; exact hb
  · rw [upd_ne hla] at hl; exact hl
  · have hlq : q ≠ l := fun z => by
      rw [z, upd_ne hla, upd_same] at hq; cases hq
    rw [upd_ne hqa, upd_ne hlq] at hq; exact hq

/-! ## Keeper.hear -/
theorem sc_Keeper_hear : FnScope ["self", "term"] ["self", "term"] (defScope s_Keeper_hear) := ⟨rfl, rfl, rfl, by decide +kernel, rfl, by decide +kernel, by decide +kernel⟩
abbrev sp_Keeper_hear (K : PySem.W.Frag) (C : Addr) : Sp := spX K (Rmf K) (fun a : Addr × Int × KC × KS => [objD a.1, .int a.2.1]) (fun a r => KAt C r a.1 a.2.2.1 a.2.2.2)
  (fun a r d r' => d = .none ∧ KAt C r' a.1 a.2.2.1 (a.2.2.2.hear a.2.1) ∧ Fr1 a.1 r r') (fun _ _ _ _ => False)
theorem ok_Keeper_hear (T : Tx K mg) : FnOk P w K mg base (L2.CX P w) 1 T.d_Keeper_hear.a T.d_Keeper_hear.fd ["self", "term"] (sp_Keeper_hear K T.c_Keeper) := by
  refine ok_obj T.d_Keeper_hear.F sc_Keeper_hear (fun _ => rfl) fun cdv A outer s H E hr => ⟨_, (pss_one (ps_if (pt_cmpR op_gt (pv 1) (pe_fld (pv 0) rfl) (nomark _)) (pss_cons (ps_fld (pv 0) (pv 1) rfl)
    (pss_one (ps_fld (pv 0) pe_bl rfl))) pss_nil)), ?_⟩
  rintro ⟨a, t, c, k⟩ r h0
  refine sp_if (et_test (ev_op (ev_var rfl) (ev_fld (ev_var rfl) h0.ob T.cl_Keeper T.na_Keeper_term kf_term .int) opB)) (fun h => ?_) fun h => ?_
  · have hk : k.hear t = { k with term := t, leads := false } := by unfold KS.hear; rw [if_pos (of_decide_eq_true h)]
    refine sp_seq (N := fun e' r' => e' = [.dat (objD a), .dat (.int t)] ∧ r' = ⟨upd r.m a (.ins T.c_Keeper c.dx (kf t c.rw k.leads k.settled c.al c.hl)), addF r.f (.int t) (.int t)⟩)
      (sp_fld (ev_var rfl) (ev_var rfl) h0.ob T.cl_Keeper T.na_Keeper_term kf_len fun v ⟨G, hv⟩ => by rw [hv.int_inv, kf_pterm]; exact ⟨rfl, rfl⟩) ?_
    rintro _ _ ⟨rfl, rfl⟩
    refine sp_fld ev_bl (ev_var rfl) upd_same T.cl_Keeper T.na_Keeper_leads kf_len fun v ⟨G, hv⟩ => ?_
    rw [hv.bl_inv, kf_pleads, upd_upd]
    have fr : Fr1 a r ⟨upd r.m a (.ins T.c_Keeper c.dx (kf t c.rw false k.settled c.al c.hl)), addF (addF r.f (.int t) (.int t)) (.bl false) (.bool false)⟩ := ⟨fun b hb => upd_ne hb, fun v d h => .inl (.inl h)⟩
    refine ⟨rfl, ?_, fr⟩
    show KAt _ _ a c (k.hear t)
    rw [hk]
    exact h0.upd fr upd_same rfl rfl rfl
  · have hk : k.hear t = k := by unfold KS.hear; rw [if_neg (of_decide_eq_false h)]
    refine sp_next ⟨rfl, ?_, Fr1.refl _ _⟩
    show KAt _ _ a c (k.hear t)
    rw [hk]; exact h0

/-! ## Keeper.asked -/
theorem sc_Keeper_asked : FnScope ["self", "term", "row"] ["self", "term", "row"] (defScope s_Keeper_asked) := ⟨rfl, rfl, rfl, by decide +kernel, rfl, by decide +kernel, by decide +kernel⟩
abbrev sp_Keeper_asked (K : PySem.W.Frag) (C : Addr) : Sp := spX K (Rmf K) (fun a : Addr × Int × List Ent × KC × KS => [objD a.1, .int a.2.1, rowD a.2.2.1]) (fun a r => KAt C r a.1 a.2.2.2.1 a.2.2.2.2 ∧ rowOk a.2.2.1 ∧ rowOk a.2.2.2.2.row)
  (fun a r d r' => d = .bool (decide (a.2.2.2.2.term < a.2.1) && asNew a.2.2.1 a.2.2.2.2.row) ∧ KAt C r' a.1 a.2.2.2.1 (a.2.2.2.2.hear a.2.1) ∧ Fr1 a.1 r r') (fun _ _ _ _ => False)
theorem ok_Keeper_asked (T : Tx K mg) : FnOk P w K mg base (L2.CX P w) 3 T.d_Keeper_asked.a T.d_Keeper_asked.fd ["self", "term", "row"] (sp_Keeper_asked K T.c_Keeper) := by
  refine ok_obj T.d_Keeper_asked.F sc_Keeper_asked (fun _ => rfl) fun cdv A outer s H E hr => ⟨_, (pss_cons (ps_if (pt_cmpR op_le (pv 1) (pe_fld (pv 0) rfl) (nomark _)) (pss_one (ps_ret pe_bl)) pss_nil)
    (pss_cons (ps_expr (pe_meth (pv 0) T.cl_Keeper T.d_Keeper_hear.m (ok_Keeper_hear T) (hr.mono (by decide)) T.d_Keeper_hear.b .nil (passX (takes_of rfl rfl rfl rfl)) (pa_cons (pv 1) pa_nil)))
    (pss_one (ps_ret (pe_call (ok_as_new T) (hr.mono (by decide)) (by rfl) T.d_as_new.g T.d_as_new.F.kp T.d_as_new.b .nil pass0 (pa_cons (pv 2) (pa_cons (pe_fld (pv 0) rfl) pa_nil))))))), ?_⟩
  rintro ⟨a, t, es, c, k⟩ r ⟨h0, h1, h2⟩
  refine sp_when (et_test (ev_op (ev_var rfl) (ev_fld (ev_var rfl) h0.ob T.cl_Keeper T.na_Keeper_term kf_term .int) opB)) (fun h => ?_) fun h => ?_
  · have ht : t ≤ k.term := of_decide_eq_true h
    have hk : k.hear t = k := by unfold KS.hear; rw [if_neg (by omega)]
    refine sp_ret ev_bl ⟨?_, ?_, Fr1.refl _ _⟩
    · show PyData.bool false = PyData.bool (decide (k.term < t) && _)
      rw [decide_eq_false (by omega)]; rfl
    · show KAt _ _ a c (k.hear t)
      rw [hk]; exact h0
  · have ht' : ¬ t ≤ k.term := of_decide_eq_false h
    have ht : k.term < t := by omega
    refine sp_seq (N := fun e' r' => e' = [.dat (objD a), .dat (.int t), .dat (rowD es)] ∧ KAt T.c_Keeper r' a c (k.hear t) ∧ Fr1 a r r')
      (sp_drop (EvX.s (evx_meth (a, t, c, k) (ev_var rfl) (inst_of h0.ob kf_hear) (ea_cons (ev_var rfl) ea_nil) rfl h0) (fun _ _ z => z)) (fun d r' ⟨_, p1, p2⟩ => ⟨rfl, p1, p2⟩)) ?_
    rintro _ r' ⟨rfl, p1, p2⟩
    refine sp_ret (ev_as_new (a := es) (b := k.row) (ev_var rfl) (ev_fld (ev_var rfl) p1.ob T.cl_Keeper T.na_Keeper_row kf_row (.fact ?_)) h1 h2) ⟨?_, p1, p2⟩
    · have := p1.row
      have e1 : (k.hear t).row = k.row := by unfold KS.hear; split <;> rfl
      rw [← e1]; exact this
    · show PyData.bool _ = PyData.bool (decide (k.term < t) && _)
      rw [decide_eq_true ht]; rfl

/-! ## Keeper.begin -/
theorem sc_Keeper_begin : FnScope ["self", "count"] ["self", "count"] (defScope s_Keeper_begin) := ⟨rfl, rfl, rfl, by decide +kernel, rfl, by decide +kernel, by decide +kernel⟩
theorem rep_ints (n : Nat) (x : Int) : (List.replicate n [PyData.int x]).flatten = (List.replicate n x).map PyData.int := by
  induction n with
  | zero => rfl
  | succ n ih => rw [List.replicate_succ, List.replicate_succ, List.flatten_cons, ih]; rfl
abbrev sp_Keeper_begin (K : PySem.W.Frag) (C : Addr) : Sp := spX K (Rmf K) (fun a : Addr × Int × KC × KS => [objD a.1, .int a.2.1]) (fun a r => KAt C r a.1 a.2.2.1 a.2.2.2 ∧ 0 ≤ a.2.1 ∧ a.2.1 ≤ 9)
  (fun a r d r' => d = .none ∧ ∃ c, KAt C r' a.1 c (a.2.2.2.begin_ a.2.1.toNat) ∧ (∀ b o, r.m b = some o → b ≠ a.1 → r'.m b = some o) ∧ (∀ v d, r.f v d → r'.f v d) ∧ r.m c.al = none ∧ r.m c.hl = none) (fun _ _ _ _ => False)
theorem ok_Keeper_begin (T : Tx K mg) : FnOk P w K mg base (L2.CX P w) 1 T.d_Keeper_begin.a T.d_Keeper_begin.fd ["self", "count"] (sp_Keeper_begin K T.c_Keeper) := by
  refine ok_obj T.d_Keeper_begin.F sc_Keeper_begin (fun _ => rfl) fun cdv A outer s H E hr => ⟨_, (pss_cons (ps_fld (pv 0) pe_bl rfl)
    (pss_cons (ps_fld (pv 0) (pe_op op_rep (pe_lst (pa_cons (pe_callB call_len_seq (by rfl) T.z_len (by decide +kernel) (pa_cons (pe_fld (pv 0) rfl) pa_nil)) pa_nil)) (pv 1)) rfl)
    (pss_one (ps_fld (pv 0) (pe_op op_rep (pe_lst (pa_cons pe_int pa_nil)) (pv 1)) rfl)))), ?_⟩
  rintro ⟨a, n, c, k⟩ r ⟨h0, h1, h2⟩
  have h1 : 0 ≤ n := h1
  have h2 : n ≤ 9 := h2
  refine sp_seq (N := fun e' r' => e' = [.dat (objD a), .dat (.int n)] ∧ r' = ⟨upd r.m a (.ins T.c_Keeper c.dx (kf k.term c.rw true k.settled c.al c.hl)), addF r.f (.bl true) (.bool true)⟩)
    (sp_fld ev_bl (ev_var rfl) h0.ob T.cl_Keeper T.na_Keeper_leads kf_len fun v ⟨G, hv⟩ => by rw [hv.bl_inv, kf_pleads]; exact ⟨rfl, rfl⟩) ?_
  rintro _ _ ⟨rfl, rfl⟩
  refine sp_seq (N := fun e' r' => e' = [.dat (objD a), .dat (.int n)] ∧ ∃ l, r.m l = none ∧ l ≠ a ∧ r' = ⟨upd (upd r.m l (.lst ((List.replicate n.toNat (k.row.length : Int)).map .int))) a (.ins T.c_Keeper c.dx (kf k.term c.rw true k.settled l c.hl)), addF r.f (.bl true) (.bool true)⟩)
    (sp_fldN (ns := List.replicate n.toNat (k.row.length : Int)) (by
      rw [← rep_ints]
      exact evf_op (ev_lst (ea_cons ((ev_cb (ea_cons (ev_fld (ev_var rfl) upd_same T.cl_Keeper T.na_Keeper_row kf_row (by exact VF.fact (Or.inl h0.row))) ea_nil) (cbLen (ds := k.row.map entD))).is (by rw [List.length_map])) ea_nil) (by show 1 ≤ sizeLine; decide)) (ev_var rfl) (opRep (by omega) (by omega) (by rw [sizeLine_eq]; show 1 * n.toNat ≤ _; omega)))
      (ev_var rfl) upd_same T.cl_Keeper T.na_Keeper_ahead kf_len (fun _ => ev_var rfl) fun l hl hla => ?_) ?_
  · have hl : upd r.m a (.ins T.c_Keeper c.dx (kf k.term c.rw true k.settled c.al c.hl)) l = none := hl
    rw [upd_ne hla] at hl
    refine ⟨rfl, l, hl, hla, ?_⟩
    rw [kf_pahead]
    have : ∀ o u o', upd (upd (upd r.m a o) l u) a o' = upd (upd r.m l u) a o' := fun o u o' => by
      funext b
      by_cases q1 : b = a
      · rw [q1, upd_same, upd_same]
      · rw [upd_ne q1, upd_ne q1]
        by_cases q2 : b = l
        · rw [q2, upd_same, upd_same]
        · rw [upd_ne q2, upd_ne q2, upd_ne q1]
    rw [this]
  rintro _ _ ⟨rfl, l, hl, hla, rfl⟩
  refine sp_fldN (ns := List.replicate n.toNat 0) (by
      rw [← rep_ints]
      exact evf_op (ev_lst (ea_cons ev_int ea_nil) (by show 1 ≤ sizeLine; decide)) (ev_var rfl) (opRep (by omega) (by omega) (by rw [sizeLine_eq]; show 1 * n.toNat ≤ _; omega)))
      (ev_var rfl) upd_same T.cl_Keeper T.na_Keeper_held kf_len (fun _ => ev_var rfl) fun q hq hqa => ?_
  have hq : upd (upd r.m l (.lst ((List.replicate n.toNat (k.row.length : Int)).map .int))) a (.ins T.c_Keeper c.dx (kf k.term c.rw true k.settled l c.hl)) q = none := hq
  rw [upd_ne hqa] at hq
  have hql : q ≠ l := fun z => by rw [z, upd_same] at hq; cases hq
  rw [upd_ne hql] at hq
  refine ⟨rfl, ⟨c.dx, c.rw, l, q⟩, ⟨?_, .inl h0.row, ?_, ?_, hql.symm⟩, fun b o hb hba => ?_, fun v d h => .inl h, hl, hq⟩
  · show (upd _ a _) a = _
    rw [upd_same, kf_pheld]; all_goals rfl
  · show (upd (upd (upd (upd r.m l _) a _) q _) a _) l = _
    rw [upd_ne hla, upd_ne hql.symm, upd_ne hla, upd_same]; all_goals rfl
  · show (upd (upd _ q _) a _) q = _
    rw [upd_ne hqa, upd_same]; all_goals rfl
  · show (upd (upd (upd (upd r.m l _) a _) q _) a _) b = some o
    rw [upd_ne hba, upd_ne (ne_of_none hb hq), upd_ne hba, upd_ne (ne_of_none hb hl)]; exact hb

/-! ## Room.__init__ -/
theorem sc_Room_init : FnScope ["self", "count", "k"] ["self", "count"] (defScope s_Room_init) := ⟨rfl, rfl, rfl, by decide +kernel, rfl, by decide +kernel, by decide +kernel⟩
structure MkR (CR CK p dx : Addr) (k : Nat) (ds : List PyData) (a : Nat → Addr) (c : Nat → KC) (r : MF) : Prop where
  ds : ds = (List.range k).map fun i => objD (a i)
  ob : r.m p = some (.ins CR dx [])
  at_ : ∀ i, i < k → KAt CK r (a i) (c i) {}
  sep : ∀ i j, i < k → j < k → i ≠ j → a i ≠ a j ∧ (c i).al ≠ (c j).al ∧ (c i).hl ≠ (c j).hl ∧ (c i).al ≠ (c j).hl
def updA (a : Nat → Addr) (i : Nat) (x : Addr) : Nat → Addr := fun j => if j = i then x else a j
theorem updA_same {a : Nat → Addr} {i : Nat} {x : Addr} : updA a i x i = x := by unfold updA; rw [if_pos rfl]
theorem updA_ne {a : Nat → Addr} {i j : Nat} {x : Addr} (h : j ≠ i) : updA a i x j = a j := by unfold updA; rw [if_neg h]
theorem MkR.more {CR CK p dx x : Addr} {k : Nat} {ds : List PyData} {a : Nat → Addr} {c : Nat → KC} {cx : KC} {r r' : MF} (h : MkR CR CK p dx k ds a c r) (hx : r.m x = none) (hk : KAt CK r' x cx {}) (fm : ∀ b o, r.m b = some o → r'.m b = some o) (ff : ∀ v d, r.f v d → r'.f v d)
    (hal : r.m cx.al = none) (hhl : r.m cx.hl = none) : MkR CR CK p dx (k + 1) (ds ++ [objD x]) (updA a k x) (updC c k cx) r' := by
  have ne : ∀ {b : Addr} {o : HO} {y : Addr}, r.m b = some o → r.m y = none → b ≠ y := fun h1 h2 z => by rw [z, h2] at h1; cases h1
  refine ⟨?_, fm _ _ h.ob, fun i hi => ?_, fun i j hi hj hij => ?_⟩
  · rw [List.range_succ, List.map_append, h.ds]
    congr 1
    · refine List.map_congr_left fun i hi => ?_
      rw [updA_ne (Nat.ne_of_lt (List.mem_range.mp hi))]
    · show [objD x] = [objD (updA a k x k)]
      rw [updA_same]
  · by_cases e : i = k
    · subst e; rw [updA_same, updC_same]; exact hk
    · rw [updA_ne e, updC_ne e]
      exact (h.at_ i (by omega)).mono fm ff
  · by_cases e1 : i = k
    · have e2 : j ≠ k := fun z => hij (e1.trans z.symm)
      have K := h.at_ j (by omega)
      subst e1
      rw [updA_same, updC_same, updA_ne e2, updC_ne e2]
      exact ⟨(ne K.ob hx).symm, (ne K.al hal).symm, (ne K.hl hhl).symm, (ne K.hl hal).symm⟩
    · have K := h.at_ i (by omega)
      rw [updA_ne e1, updC_ne e1]
      by_cases e2 : j = k
      · subst e2
        rw [updA_same, updC_same]
        exact ⟨ne K.ob hx, ne K.al hal, ne K.hl hhl, ne K.al hhl⟩
      · rw [updA_ne e2, updC_ne e2]
        exact h.sep i j (by omega) (by omega) hij
abbrev sp_Room_init (K : PySem.W.Frag) (CR CK : Addr) : Sp := spX K (Rmf K) (fun a : Addr × Int => [objD a.1, .int a.2]) (fun a r => (∃ dx, r.m a.1 = some (.ins CR dx [])) ∧ 1 ≤ a.2 ∧ a.2 ≤ 9)
  (fun a r d r' => d = .none ∧ ∃ L b c, RoomAt CR CK ⟨a.1, a.2.toNat, fun _ => {}⟩ L b c r') (fun _ _ _ _ => False)
theorem ok_Room_init (T : Tx K mg) : FnOk P w K mg base (L2.CX P w) 3 T.d_Room_init.a T.d_Room_init.fd ["self", "count"] (sp_Room_init K T.c_Room T.c_Keeper) := by
  refine ok_obj T.d_Room_init.F sc_Room_init (fun _ => rfl) fun cdv A outer s H E hr => ⟨_, (pss_cons (ps_if (PW.pt (pw_or (pt_not (pt_val (pe_callB call_isi (by rfl) T.z_isinstance (by decide +kernel) (pa_cons (pv 1) (pa_cons (pe_bltn (v := .ty "int") (u := .type "int") (by rfl) T.z_int (by decide +kernel) rfl) pa_nil))))) (pw_or (pt_val (pe_callB call_isi (by rfl) T.z_isinstance (by decide +kernel) (pa_cons (pv 1) (pa_cons (pe_bltn (v := .ty "bool") (u := .type "bool") (by rfl) T.z_bool (by decide +kernel) rfl) pa_nil)))) (pw_or (pt_cmpR op_lt (pv 1) pe_int (nomark _)) (pw_or1 (pt_cmpR op_gt (pv 1) (pe_glob (v := .int 9) rfl T.v_MOST ⟨_, rfl⟩) (nomark _))))))) (pss_one (ps_raise rfl (takes_of rfl rfl rfl rfl) (pmk_own PySem.F.excBase_ValueError T.x_NoRoom T.mg_NoRoom T.kx_NoRoom (raises_own T.bx_NoRoom T.tx_NoRoom) rfl))) pss_nil)
    (pss_one (ps_fld (pv 0) (pe_lc (own := [("k", 2)]) (g := gName 2) (tt := tYes) rfl sc_Room_init.nd (pi_range1 (by rfl) T.z_range (pa_cons (pv 1) pa_nil)) (blkOk_by (own := [("k", 2)]) (N := ["self", "count", "k"]) (sc := defScope s_Room_init) (by decide +kernel)) (fun _ _ _ _ _ => pg_name (i := 2) sc_Room_init.nd rfl (Or.inl rfl)) (fun _ _ _ _ _ => pts_nil) (fun _ _ _ _ _ => (pe_make T.d_Keeper_init.m (ok_Keeper_init T) (hr.mono (by decide)) (by rfl) T.mg_Keeper T.d_Keeper_init.b .nil passL (pa_cons (pe_lst pa_nil) pa_nil)))) rfl))), ?_⟩
  rintro ⟨p, n⟩ r ⟨⟨dx, h0⟩, h1, h2⟩
  have h1 : 1 ≤ n := h1
  have h2 : n ≤ 9 := h2
  have h0 : r.m p = some (.ins T.c_Room dx []) := h0
  refine sp_when (b := false) ((et_or (a := false) (b := false) (et_not (a := true) (et_B (isi_int (ev_var rfl)))) fun _ => (et_or (a := false) (b := false) (et_B (isi_intB (ev_var rfl))) fun _ => (et_or (a := false) (b := false)
    (et_test ((ev_op (ev_var rfl) ev_int opB).is (by rw [decide_eq_false (by omega)]))) fun _ => et_test ((ev_op (ev_var rfl) ev_int opB).is (by rw [decide_eq_false (by omega)]))).is rfl).is rfl).is rfl) (fun h => nomatch h) fun _ => ?_
  refine sp_fldS (a := p) (Pv := fun d r' => ∃ ds, d = .list ds ∧ ∃ a c, MkR T.c_Room T.c_Keeper p dx n.toNat ds a c r') (evs_lcR1 (fun k ds r' => ∃ a c, MkR T.c_Room T.c_Keeper p dx k ds a c r') (ea_cons (ev_var rfl) ea_nil) (by omega) (by omega) ⟨fun _ => p, fun _ => ⟨p, .non, p, p⟩, by rfl, h0, fun i hi => absurd hi (Nat.not_lt_zero _), fun i j hi => absurd hi (Nat.not_lt_zero _)⟩ ?_) T.cl_Room T.na_Room_keepers ?_
  · rintro k ds r' hk ⟨a, c, hI⟩ hl
    refine EvX.s (PE := fun _ _ => False) (evx_make (ea_cons (ev_lst ea_nil (Nat.zero_le _)) ea_nil) fun x dx' hx => ⟨(x, []), rfl, ⟨dx', upd_same⟩, ?_, fun _ _ z => z⟩) fun _ _ z => z
    rintro d r'' ⟨e1, cx, g1, g2, g3, g4, g5, g6⟩
    have g4 : upd r'.m x (.ins T.c_Keeper dx' []) cx.al = none := g4
    have g5 : upd r'.m x (.ins T.c_Keeper dx' []) cx.hl = none := g5
    have nal : cx.al ≠ x := fun z => by rw [z, upd_same] at g4; cases g4
    have nhl : cx.hl ≠ x := fun z => by rw [z, upd_same] at g5; cases g5
    rw [upd_ne nal] at g4
    rw [upd_ne nhl] at g5
    refine ⟨e1, _, _, hI.more hx g1 (fun b o hb => ?_) g3 g4 g5⟩
    have hbx : b ≠ x := ne_of_none hb hx
    exact g2 b o (by show upd r'.m x _ b = _; rw [upd_ne hbx]; exact hb) hbx
  · rintro d r' ⟨ds, rfl, a, c, hI⟩
    refine ⟨ev_var rfl, dx, [], hI.ob, by show 0 < 1000; decide, fun v ⟨G, hv⟩ => ?_⟩
    obtain ⟨L, vs, rfl, _, _⟩ := hv.lst_inv
    have ep : putF "keepers" (.ref L) [] = rf L := rfl
    refine ⟨rfl, L, a, c, ⟨dx, by show upd _ _ _ _ = _; rw [upd_same, ep]⟩, .inr ⟨rfl, by rw [hI.ds]⟩, fun i hi => ?_, hI.sep⟩
    have hk := hI.at_ i hi
    exact ⟨by show upd _ _ _ _ = _; rw [upd_ne (ne_of hk.ob hI.ob (by intro z; injection z with _ _ z; have := congrArg List.length z; exact absurd (show (6 : Nat) = 0 from this) (by decide)))]; exact hk.ob, .inl hk.row, by show upd _ _ _ _ = _; rw [upd_ne (ne_of hk.al hI.ob (by intro z; cases z))]; exact hk.al, by show upd _ _ _ _ = _; rw [upd_ne (ne_of hk.hl hI.ob (by intro z; cases z))]; exact hk.hl, hk.ne⟩

/-! ## Room.keeper -/
theorem sc_Room_keeper : FnScope ["self", "k"] ["self", "k"] (defScope s_Room_keeper) := ⟨rfl, rfl, rfl, by decide +kernel, rfl, by decide +kernel, by decide +kernel⟩
structure RX where
  s : RSt
  L : Addr
  a : Nat → Addr
  c : Nat → KC
abbrev sp_Room_keeper (K : PySem.W.Frag) (CR CK X : Addr) : Sp := spX K (Rmf K) (fun a : RX × Int => [objD a.1.s.p, .int a.2]) (fun a r => RoomAt CR CK a.1.s a.1.L a.1.a a.1.c r)
  (fun a r d r' => (0 ≤ a.2 ∧ a.2 < a.1.s.n) ∧ d = objD (a.1.a a.2.toNat) ∧ r' = r) (fun a r c r' => ¬ (0 ≤ a.2 ∧ a.2 < a.1.s.n) ∧ c = .ref X ∧ r' = r)
theorem ok_Room_keeper (T : Tx K mg) : FnOk P w K mg base (L2.CX P w) 1 T.d_Room_keeper.a T.d_Room_keeper.fd ["self", "k"] (sp_Room_keeper K T.c_Room T.c_Keeper T.c_NoKeeper) := by
  refine ok_obj T.d_Room_keeper.F sc_Room_keeper (fun _ => rfl) fun cdv A outer s H E hr => ⟨_, (pss_cons (ps_if (PW.pt (pw_or (pt_cmpR op_lt (pv 1) pe_int (nomark _)) (pw_or1 (pt_cmpR op_ge (pv 1) (pe_callB call_len_seq (by rfl) T.z_len (by decide +kernel) (pa_cons (pe_fld (pv 0) rfl) pa_nil)) (nomark _))))) (pss_one (ps_raise rfl (takes_of rfl rfl rfl rfl) (pmk_own PySem.F.excBase_ValueError T.x_NoKeeper T.mg_NoKeeper T.kx_NoKeeper (raises_own T.bx_NoKeeper T.tx_NoKeeper) rfl))) pss_nil)
    (pss_one (ps_ret (pe_ix ix_list (pe_fld (pv 0) rfl) (pv 1) (fun _ _ => rfl))))), ?_⟩
  rintro ⟨⟨s, L, a, c⟩, k⟩ r h0
  have h0 : RoomAt T.c_Room T.c_Keeper s L a c r := h0
  obtain ⟨dp, hob⟩ := h0.ob
  have ek : EvD K (Rmf K) (tFld K (tVar 0) ("keepers" : Str)) [.dat (objD s.p), .dat (.int k)] r (.list ((List.range s.n).map fun i => objD (a i))) := ev_fld (ev_var rfl) hob T.cl_Room T.na_Room_keepers rf_keepers (.fact h0.ks)
  refine sp_when (b := decide (k < 0) || decide ((s.n : Int) ≤ k)) (et_or (et_test (ev_op (ev_var rfl) ev_int opB)) fun _ => et_test ((ev_op (ev_var rfl) (ev_cb (ea_cons ek ea_nil) cbLen) opB).is (by rw [List.length_map, List.length_range]))) (fun h => ?_) fun h => ?_
  · rw [Bool.or_eq_true, decide_eq_true_eq, decide_eq_true_eq] at h
    exact sp_raise ⟨by show ¬ (0 ≤ k ∧ k < s.n); omega, rfl, rfl⟩
  · rw [Bool.or_eq_false_iff, decide_eq_false_iff_not, decide_eq_false_iff_not] at h
    exact sp_ret (ev_op ek (ev_var rfl) (opIxL (h0.at_ks (by omega) (by omega)))) ⟨by show 0 ≤ k ∧ k < s.n; omega, rfl, rfl⟩

/-! ## Room.leader -/
theorem sc_Room_leader : FnScope ["self", "k", "own"] ["self", "k"] (defScope s_Room_leader) := ⟨rfl, rfl, rfl, by decide +kernel, rfl, by decide +kernel, by decide +kernel⟩
abbrev sp_Room_leader (K : PySem.W.Frag) (CR CK X Y : Addr) : Sp := spX K (Rmf K) (fun a : RX × Int => [objD a.1.s.p, .int a.2]) (fun a r => RoomAt CR CK a.1.s a.1.L a.1.a a.1.c r)
  (fun a r d r' => (0 ≤ a.2 ∧ a.2 < a.1.s.n) ∧ (a.1.s.st a.2.toNat).leads = true ∧ d = objD (a.1.a a.2.toNat) ∧ r' = r)
  (fun a r c r' => ((¬ (0 ≤ a.2 ∧ a.2 < a.1.s.n) ∧ c = .ref X) ∨ ((0 ≤ a.2 ∧ a.2 < a.1.s.n) ∧ (a.1.s.st a.2.toNat).leads = false ∧ c = .ref Y)) ∧ r' = r)
theorem ok_Room_leader (T : Tx K mg) : FnOk P w K mg base (L2.CX P w) 2 T.d_Room_leader.a T.d_Room_leader.fd ["self", "k"] (sp_Room_leader K T.c_Room T.c_Keeper T.c_NoKeeper T.c_NotLeading) := by
  refine ok_obj T.d_Room_leader.F sc_Room_leader (fun _ => rfl) fun cdv A outer s H E hr => ⟨_, (pss_cons (ps_set (i := 2) sc_Room_leader.nd rfl (by first | exact Or.inl rfl | exact Or.inr rfl) (pe_meth (pv 0) T.cl_Room T.d_Room_keeper.m (ok_Room_keeper T) (hr.mono (by decide)) T.d_Room_keeper.b .nil (passX (takes_of rfl rfl rfl rfl)) (pa_cons (pv 1) pa_nil)))
    (pss_cons (ps_if (pt_not (pt_val (pe_fld (pv 2) rfl))) (pss_one (ps_raise rfl (takes_of rfl rfl rfl rfl) (pmk_own PySem.F.excBase_ValueError T.x_NotLeading T.mg_NotLeading T.kx_NotLeading (raises_own T.bx_NotLeading T.tx_NotLeading) rfl))) pss_nil)
    (pss_one (ps_ret (pv 2))))), ?_⟩
  rintro ⟨⟨s, L, a, c⟩, k⟩ r h0
  have h0 : RoomAt T.c_Room T.c_Keeper s L a c r := h0
  obtain ⟨dp, hob⟩ := h0.ob
  refine sp_asgX (evx_meth ((⟨s, L, a, c⟩, k) : RX × Int) (ev_var rfl) (inst_of hob (rf_no (by decide +kernel))) (ea_cons (ev_var rfl) ea_nil) rfl h0) ?_ (fun c' r' ⟨h1, h2, h3⟩ => ⟨.inl ⟨h1, h2⟩, h3⟩)
  rintro _ _ ⟨⟨hk0, hk1⟩, rfl, rfl⟩
  have hk0 : 0 ≤ k := hk0
  have hk1 : k < s.n := hk1
  have hk := h0.at_ k.toNat (by omega)
  refine sp_when (et_not (et_B (ev_fld (ev_var rfl) hk.ob T.cl_Keeper T.na_Keeper_leads kf_leads .bl))) (fun h => ?_) fun h => ?_
  · exact sp_raise ⟨.inr ⟨⟨hk0, hk1⟩, by simpa using h, rfl⟩, rfl⟩
  · exact sp_ret (ev_var rfl) ⟨⟨hk0, hk1⟩, by simpa using h, rfl, rfl⟩

/-! ## Room.stand -/
theorem sc_Room_stand : FnScope ["self", "k", "others", "own", "there", "other", "voices", "one"] ["self", "k", "others"] (defScope s_Room_stand) := ⟨rfl, rfl, rfl, by decide +kernel, rfl, by decide +kernel, by decide +kernel⟩
abbrev sp_Room_stand (K : PySem.W.Frag) (CR CK X : Addr) : Sp := spX K (RO K CR CK) (fun a : RSt × Int × List Int => [objD a.1.p, .int a.2.1, osD a.2.2]) (fun a r => r = some a.1 ∧ (∀ i, i < a.1.n → rowOk (a.1.st i).row) ∧ a.1.n ≤ 9 ∧ a.2.2.length ≤ 1000 ∧ ∀ o, o ∈ a.2.2 → 0 ≤ o ∧ o < a.1.n)
  (fun a r d r' => (0 ≤ a.2.1 ∧ a.2.1 < a.1.n) ∧ d = .bool ((a.1.stand a.2.1.toNat a.2.2).st a.2.1.toNat).leads ∧ r' = some (a.1.stand a.2.1.toNat a.2.2)) (fun a r c r' => ¬ (0 ≤ a.2.1 ∧ a.2.1 < a.1.n) ∧ c = .ref X ∧ r' = r)
theorem ok_Room_stand (T : Tx K mg) : FnOk P w K mg base (L2.CX P w) 4 T.d_Room_stand.a T.d_Room_stand.fd ["self", "k", "others"] (sp_Room_stand K T.c_Room T.c_Keeper T.c_NoKeeper) := by
  refine ok_room (·.1) (fun _ _ h => h.1) T.d_Room_stand.F sc_Room_stand (fun _ => rfl) fun cdv A outer s H E hr => ⟨_, (pss_cons (ps_set (i := 3) sc_Room_stand.nd rfl (by first | exact Or.inl rfl | exact Or.inr rfl) (pe_meth (pv 0) T.cl_Room T.d_Room_keeper.m (ok_Room_keeper T) (hr.mono (by decide)) T.d_Room_keeper.b .nil (passX (takes_of rfl rfl rfl rfl)) (pa_cons (pv 1) pa_nil)))
    (pss_cons (ps_setLc (i := 4) (own := [("other", 5)]) (g := gName 5) (tt := tYes) rfl sc_Room_stand.nd rfl rfl (sw_true rfl rfl rfl (by decide +kernel)) (pi_list (pv 2)) (blkOk_by (own := [("other", 5)]) (N := ["self", "k", "others", "own", "there", "other", "voices", "one"]) (sc := defScope s_Room_stand) (by decide +kernel)) (fun _ _ _ _ _ => pg_name (i := 5) sc_Room_stand.nd rfl (Or.inl rfl)) (fun _ _ _ _ _ => pts_nil) (fun _ _ _ _ _ => (pe_meth (pv 0) T.cl_Room T.d_Room_keeper.m (ok_Room_keeper T) (hr.mono (by decide)) T.d_Room_keeper.b .nil passL (pa_cons (pv 5) pa_nil))))
    (pss_cons (ps_expr (pe_meth (pv 3) T.cl_Keeper T.d_Keeper_hear.m (ok_Keeper_hear T) (hr.mono (by decide)) T.d_Keeper_hear.b .nil (passX (takes_of rfl rfl rfl rfl)) (pa_cons (pe_op op_add (pe_fld (pv 3) rfl) pe_int) pa_nil)))
    (pss_cons (ps_set (i := 6) sc_Room_stand.nd rfl (by first | exact Or.inl rfl | exact Or.inr rfl) pe_int)
    (pss_cons (ps_for (passes_of rfl) rfl (pi_list (pv 4)) (pg_name (i := 7) sc_Room_stand.nd rfl (by first | exact Or.inl rfl | exact Or.inr rfl)) (pss_one (ps_if (pt_val (pe_meth (pv 7) T.cl_Keeper T.d_Keeper_asked.m (ok_Keeper_asked T) (hr.mono (by decide)) T.d_Keeper_asked.b .nil (passX (takes_of rfl rfl rfl rfl)) (pa_cons (pe_fld (pv 3) rfl) (pa_cons (pe_fld (pv 3) rfl) pa_nil)))) (pss_one (ps_set (i := 6) sc_Room_stand.nd rfl (by first | exact Or.inl rfl | exact Or.inr rfl) (pe_op op_add (pv 6) pe_int))) pss_nil)))
    (pss_cons (ps_if (pt_cmpR op_gt (pe_op op_mul pe_int (pv 6)) (pe_callB call_len_seq (by rfl) T.z_len (by decide +kernel) (pa_cons (pe_fld (pv 0) rfl) pa_nil)) (nomark _)) (pss_one (ps_expr (pe_meth (pv 3) T.cl_Keeper T.d_Keeper_begin.m (ok_Keeper_begin T) (hr.mono (by decide)) T.d_Keeper_begin.b .nil (passX (takes_of rfl rfl rfl rfl)) (pa_cons (pe_callB call_len_seq (by rfl) T.z_len (by decide +kernel) (pa_cons (pe_fld (pv 0) rfl) pa_nil)) pa_nil)))) pss_nil)
    (pss_one (ps_ret (pe_fld (pv 3) rfl))))))))), ?_⟩
  rintro ⟨s, k, os⟩ L b c r ⟨_, hok, hn, hlen, hos⟩ h0
  have h0 : RoomAt T.c_Room T.c_Keeper s L b c r := h0
  have hok : ∀ i, i < s.n → rowOk (s.st i).row := hok
  have hn : s.n ≤ 9 := hn
  have hlen : os.length ≤ 1000 := hlen
  have hos : ∀ o, o ∈ os → 0 ≤ o ∧ o < s.n := hos
  obtain ⟨dp, hob⟩ := h0.ob
  refine sp_asgX (evx_meth ((⟨s, L, b, c⟩, k) : RX × Int) (ev_var rfl) (inst_of hob (rf_no (by decide +kernel))) (ea_cons (ev_var rfl) ea_nil) rfl h0) ?_ (fun c' r' ⟨h1, h2, h3⟩ => ⟨s, L, b, c, ⟨h1, h2, rfl⟩, by rw [h3]; exact h0⟩)
  rintro _ r ⟨h1, rfl, rfl⟩
  have h1 : 0 ≤ k ∧ k < s.n := h1
  have hi : k.toNat < s.n := by omega
  refine sp_asg (d := .list (os.map fun o => objD (b o.toNat))) ((EvF.ev (evf_lcL (its := os.map .int) (fun _ => true) (fun d => objD (b (intOf d).toNat)) (ev_var rfl) (by rw [List.length_map, sizeLine_eq]; omega) (fun d hd => et_yes) (fun d hd _ => ?_))).is ?_) ?_
  · obtain ⟨o, ho, rfl⟩ := List.mem_map.mp hd
    refine (EvX.s (evx_meth ((⟨s, L, b, c⟩, o) : RX × Int) (ev_var rfl) (inst_of hob (rf_no (by decide +kernel))) (ea_cons (ev_var rfl) ea_nil) rfl h0) (fun _ _ z => z.1 (hos o ho))).imp (fun d r' h => ⟨h.2.1, h.2.2⟩)
  · unfold lcOut
    rw [List.filter_eq_self.mpr (fun _ _ => rfl), List.map_map]; all_goals rfl
  have hk := h0.at_ k.toNat hi
  have ek : ∀ {st : Nat → KS} {c : Nat → KC} {r : MF} {e : SE}, RoomAt T.c_Room T.c_Keeper { s with st := st } L b c r → e[0]? = some (.dat (objD s.p)) → EvD K (Rmf K) (tCB (rLenS K) (tCons (tFld K (tVar 0) ("keepers" : Str)) tNil)) e r (.int s.n) := fun h he => by
    obtain ⟨dp, hob⟩ := h.ob
    exact (ev_cb (ea_cons (ev_fld (ev_var he) hob T.cl_Room T.na_Room_keepers rf_keepers (.fact h.ks)) ea_nil) cbLen).is (by rw [List.length_map, List.length_range])
  have hrow1 : ∀ i, (stand1 s.st k.toNat i).row = (s.st i).row := fun i => by
    unfold stand1 updS
    split
    · rename_i h; rw [hear_row, h]
    · rfl
  have hrowA : ∀ j i, (((os.take j).foldl (ask1 k.toNat) (stand1 s.st k.toNat, 1)).1 i).row = (s.st i).row := fun j i => by
    rw [← askAll_fold, askAll_row, hrow1]
  refine sp_seq (N := fun e' r' => e' = [.dat (objD s.p), .dat (.int k), .dat (osD os), .dat (objD (b k.toNat)), .dat (.list (os.map fun o => objD (b o.toNat))), .hid, .hid, .hid] ∧ ∃ c', RoomAt T.c_Room T.c_Keeper { s with st := stand1 s.st k.toNat } L b c' r')
    (sp_drop (EvX.s (evx_meth (b k.toNat, (s.st k.toNat).term + 1, c k.toNat, s.st k.toNat) (ev_var rfl) (inst_of hk.ob kf_hear) (ea_cons (ev_op (ev_fld (ev_var rfl) hk.ob T.cl_Keeper T.na_Keeper_term kf_term .int) ev_int opI) ea_nil) rfl hk) (fun _ _ z => z)) fun d r' ⟨_, p1, p2⟩ => ⟨rfl, _, h0.put1 hi p1 p2⟩) ?_
  rintro _ r1 ⟨rfl, c1, h1'⟩
  refine sp_asg ev_int ?_
  refine sp_seq (N := fun e' r' => ∃ c' x y, e' = [.dat (objD s.p), .dat (.int k), .dat (osD os), .dat (objD (b k.toNat)), .dat (.list (os.map fun o => objD (b o.toNat))), x, .dat (.int (askAll (stand1 s.st k.toNat) k.toNat os 1).2), y] ∧ RoomAt T.c_Room T.c_Keeper { s with st := (askAll (stand1 s.st k.toNat) k.toNat os 1).1 } L b c' r') ?_ ?_
  · refine sp_forL (ds := os.map fun o => objD (b o.toNat)) (ev_var rfl) (fun j e' r' => ∃ c' x y, e' = [.dat (objD s.p), .dat (.int k), .dat (osD os), .dat (objD (b k.toNat)), .dat (.list (os.map fun o => objD (b o.toNat))), x, .dat (.int ((os.take j).foldl (ask1 k.toNat) (stand1 s.st k.toNat, 1)).2), y] ∧ RoomAt T.c_Room T.c_Keeper { s with st := ((os.take j).foldl (ask1 k.toNat) (stand1 s.st k.toNat, 1)).1 } L b c' r')
      ⟨c1, _, _, rfl, h1'⟩ ?_ ?_
    · rintro j d _ r2 hd ⟨c2, x, y, rfl, h2⟩
      rw [List.getElem?_map] at hd
      cases ho : os[j]? with
      | none => rw [ho] at hd; cases hd
      | some o =>
        rw [ho] at hd
        have hd : some (objD (b o.toNat)) = some d := hd
        injection hd with hd
        subst hd
        have hoo := hos o (List.mem_of_getElem? ho)
        have hio : o.toNat < s.n := by omega
        have hA := foldl_take_succ (ask1 k.toNat) (stand1 s.st k.toNat, (1 : Int)) os ho
        have hR := hrowA j
        generalize hg : (os.take j).foldl (ask1 k.toNat) (stand1 s.st k.toNat, (1 : Int)) = A at hA hR h2
        have kk := h2.at_ k.toNat hi
        have ko := h2.at_ o.toNat hio
        have kk : KAt T.c_Keeper r2 (b k.toNat) (c2 k.toNat) (A.1 k.toNat) := kk
        have ko : KAt T.c_Keeper r2 (b o.toNat) (c2 o.toNat) (A.1 o.toNat) := ko
        refine sp_ifS (Pb := fun bb r' => bb = (decide ((A.1 o.toNat).term < (A.1 k.toNat).term) && asNew (A.1 k.toNat).row (A.1 o.toNat).row) ∧ KAt T.c_Keeper r' (b o.toNat) (c2 o.toNat) ((A.1 o.toNat).hear (A.1 k.toNat).term) ∧ Fr1 (b o.toNat) r2 r')
          (evts_B (EvX.s (evx_meth (b o.toNat, (A.1 k.toNat).term, (A.1 k.toNat).row, c2 o.toNat, A.1 o.toNat) (ev_var rfl) (inst_of ko.ob kf_asked) (ea_cons (ev_fld (ev_var rfl) kk.ob T.cl_Keeper T.na_Keeper_term kf_term .int) (ea_cons (ev_fld (ev_var rfl) kk.ob T.cl_Keeper T.na_Keeper_row kf_row (.fact kk.row)) ea_nil)) rfl (by exact ⟨ko, by rw [hR]; exact hok _ hi, by rw [hR]; exact hok _ hio⟩)) (fun _ _ z => z)) ?_) ?_ ?_
        · rintro d r' ⟨rfl, q1, q2⟩
          exact ⟨_, rfl, rfl, q1, q2⟩
        · rintro r' ⟨hb, q1, q2⟩
          refine sp_asg1 (ev_op (ev_var rfl) ev_int opI) ⟨updC c2 o.toNat (c2 o.toNat), x, .dat (objD (b o.toNat)), ?_, ?_⟩
          · rw [hA]
            unfold ask1
            rw [← hb, if_pos rfl]; rfl
          · rw [hA]
            exact h2.put1 hio q1 q2
        · rintro r' ⟨hb, q1, q2⟩
          refine sp_next ⟨updC c2 o.toNat (c2 o.toNat), x, .dat (objD (b o.toNat)), ?_, ?_⟩
          · rw [hA]
            unfold ask1
            rw [← hb, if_neg (by decide)]; rfl
          · rw [hA]
            exact h2.put1 hio q1 q2
    · rintro _ r2 ⟨c2, x, y, rfl, h2⟩
      rw [List.length_map, List.take_length, ← askAll_fold] at h2
      exact ⟨c2, x, y, by rw [List.length_map, List.take_length, ← askAll_fold], h2⟩
  rintro _ r2 ⟨c2, x, y, rfl, h2⟩
  have hst : standSt s.n s.st k.toNat os = if (s.n : Int) < 2 * (askAll (stand1 s.st k.toNat) k.toNat os 1).2 then updS (askAll (stand1 s.st k.toNat) k.toNat os 1).1 k.toNat (((askAll (stand1 s.st k.toNat) k.toNat os 1).1 k.toNat).begin_ s.n) else (askAll (stand1 s.st k.toNat) k.toNat os 1).1 := rfl
  generalize askAll (stand1 s.st k.toNat) k.toNat os 1 = A at hst h2
  have kk := h2.at_ k.toNat hi
  have kk : KAt T.c_Keeper r2 (b k.toNat) (c2 k.toNat) (A.1 k.toNat) := kk
  refine sp_seq (N := fun e' r' => (∃ x y, e' = [.dat (objD s.p), .dat (.int k), .dat (osD os), .dat (objD (b k.toNat)), .dat (.list (os.map fun o => objD (b o.toNat))), x, .dat (.int A.2), y]) ∧ ∃ c', RoomAt T.c_Room T.c_Keeper (s.stand k.toNat os) L b c' r') ?_ ?_
  · refine sp_if (et_test (ev_op (ev_op ev_int (ev_var rfl) (opIC (.inl ⟨by decide, by decide⟩))) (ek h2 rfl) opB)) (fun h => ?_) fun h => ?_
    · have h : (s.n : Int) < 2 * A.2 := of_decide_eq_true h
      rw [if_pos h] at hst
      refine sp_drop (EvX.s (evx_meth (b k.toNat, (s.n : Int), c2 k.toNat, A.1 k.toNat) (ev_var rfl) (inst_of kk.ob kf_begin) (ea_cons (ek h2 rfl) ea_nil) rfl (by exact ⟨kk, by show 0 ≤ (s.n : Int); omega, by show (s.n : Int) ≤ 9; omega⟩)) (fun _ _ z => z)) ?_
      rintro d r' ⟨_, c', q1, q2, q3, q4, q5⟩
      refine ⟨⟨_, _, rfl⟩, updC c2 k.toNat c', ?_⟩
      have e : s.stand k.toNat os = ({ s with st := A.1 } : RSt).up k.toNat ((A.1 k.toNat).begin_ s.n) := by unfold RSt.stand RSt.up; rw [hst]
      rw [e]
      exact h2.put hi q1 (fun b' o hb ne _ _ => q2 b' o hb ne) q3 (.inr q4) (.inr q5)
    · have h : ¬ (s.n : Int) < 2 * A.2 := of_decide_eq_false h
      rw [if_neg h] at hst
      refine sp_next ⟨⟨_, _, rfl⟩, c2, ?_⟩
      have e : s.stand k.toNat os = { s with st := A.1 } := by unfold RSt.stand; rw [hst]
      rw [e]
      exact h2
  rintro _ r3 ⟨⟨x, y, rfl⟩, c3, h3⟩
  have k3 := h3.at_ k.toNat hi
  exact sp_ret (ev_fld (ev_var rfl) k3.ob T.cl_Keeper T.na_Keeper_leads kf_leads .bl) ⟨_, L, b, c3, ⟨h1, rfl, rfl⟩, h3⟩

/-! ## Room.write -/
theorem sc_Room_write : FnScope ["self", "k", "word", "own"] ["self", "k", "word"] (defScope s_Room_write) := ⟨rfl, rfl, rfl, by decide +kernel, rfl, by decide +kernel, by decide +kernel⟩
abbrev xLead (X Y : Addr) (s : RSt) (k : Int) (c : Value) : Prop := (¬ (0 ≤ k ∧ k < s.n) ∧ c = .ref X) ∨ ((0 ≤ k ∧ k < s.n) ∧ (s.st k.toNat).leads = false ∧ c = .ref Y)
abbrev sp_Room_write (K : PySem.W.Frag) (CR CK X Y : Addr) : Sp := spX K (RO K CR CK) (fun a : RSt × Int × Str => [objD a.1.p, .int a.2.1, .str a.2.2]) (fun a r => r = some a.1 ∧ Good a.1)
  (fun a r d r' => (0 ≤ a.2.1 ∧ a.2.1 < a.1.n) ∧ (a.1.st a.2.1.toNat).leads = true ∧ d = .int ((a.1.st a.2.1.toNat).row.length : Int) ∧ r' = some (a.1.write a.2.1.toNat a.2.2)) (fun a r c r' => xLead X Y a.1 a.2.1 c ∧ r' = r)
theorem ok_Room_write (T : Tx K mg) : FnOk P w K mg base (L2.CX P w) 3 T.d_Room_write.a T.d_Room_write.fd ["self", "k", "word"] (sp_Room_write K T.c_Room T.c_Keeper T.c_NoKeeper T.c_NotLeading) := by
  refine ok_room (·.1) (fun _ _ h => h.1) T.d_Room_write.F sc_Room_write (fun _ => rfl) fun cdv A outer s H E hr => ⟨_, (pss_cons (ps_set (i := 3) sc_Room_write.nd rfl (by first | exact Or.inl rfl | exact Or.inr rfl) (pe_meth (pv 0) T.cl_Room T.d_Room_leader.m (ok_Room_leader T) (hr.mono (by decide)) T.d_Room_leader.b .nil (passX (takes_of rfl rfl rfl rfl)) (pa_cons (pv 1) pa_nil)))
    (pss_cons (ps_fld (pv 3) (pe_op op_cat (pe_fld (pv 3) rfl) (pe_lst (pa_cons (pe_tup (pa_cons (pe_fld (pv 3) rfl) (pa_cons (pv 2) pa_nil))) pa_nil))) rfl)
    (pss_one (ps_ret (pe_op op_sub (pe_callB call_len_seq (by rfl) T.z_len (by decide +kernel) (pa_cons (pe_fld (pv 3) rfl) pa_nil)) pe_int))))), ?_⟩
  rintro ⟨s, k, x⟩ L b c r ⟨_, hg⟩ h0
  have h0 : RoomAt T.c_Room T.c_Keeper s L b c r := h0
  have hg : Good s := hg
  obtain ⟨dp, hob⟩ := h0.ob
  refine sp_asgX (evx_meth ((⟨s, L, b, c⟩, k) : RX × Int) (ev_var rfl) (inst_of hob (rf_no (by decide +kernel))) (ea_cons (ev_var rfl) ea_nil) rfl h0) ?_ ?_
  · rintro _ r ⟨h1, hl, rfl, rfl⟩
    have h1 : 0 ≤ k ∧ k < s.n := h1
    have hi : k.toNat < s.n := by omega
    have hk := h0.at_ k.toNat hi
    have hs := (hg.2 k.toNat hi).small
    have er : EvD K (Rmf K) (tFld K (tVar 3) ("row" : Str)) [.dat (objD s.p), .dat (.int k), .dat (.str x), .dat (objD (b k.toNat))] r (.list ((s.st k.toNat).row.map entD)) := ev_fld (ev_var rfl) hk.ob T.cl_Keeper T.na_Keeper_row kf_row (.fact hk.row)
    refine sp_seq (N := fun e' r' => e' = [.dat (objD s.p), .dat (.int k), .dat (.str x), .dat (objD (b k.toNat))] ∧ ∃ v, r' = ⟨upd r.m (b k.toNat) (.ins T.c_Keeper (c k.toNat).dx (kf (s.st k.toNat).term v (s.st k.toNat).leads (s.st k.toNat).settled (c k.toNat).al (c k.toNat).hl)), addF r.f v (rowD ((s.st k.toNat).row ++ [((s.st k.toNat).term, x)]))⟩)
      (sp_fld (d := rowD ((s.st k.toNat).row ++ [((s.st k.toNat).term, x)])) ((EvF.ev (evf_op er (ev_lst (ea_cons (ev_tup (ea_cons (ev_fld (ev_var rfl) hk.ob T.cl_Keeper T.na_Keeper_term kf_term .int) (ea_cons (ev_var rfl) ea_nil)) (by show 2 ≤ sizeLine; decide)) ea_nil) (by show 1 ≤ sizeLine; decide)) (opCat (by rw [List.length_map, sizeLine_eq]; show _ + 1 ≤ _; omega)))).is (by unfold rowD; rw [List.map_append]; rfl))
        (ev_var rfl) hk.ob T.cl_Keeper T.na_Keeper_row kf_len fun v _ => ⟨rfl, v, by rw [kf_prow]⟩) ?_
    rintro _ _ ⟨rfl, v, rfl⟩
    have hk' : KAt T.c_Keeper ⟨upd r.m (b k.toNat) (.ins T.c_Keeper (c k.toNat).dx (kf (s.st k.toNat).term v (s.st k.toNat).leads (s.st k.toNat).settled (c k.toNat).al (c k.toNat).hl)), addF r.f v (rowD ((s.st k.toNat).row ++ [((s.st k.toNat).term, x)]))⟩ (b k.toNat) { c k.toNat with rw := v } { s.st k.toNat with row := (s.st k.toNat).row ++ [((s.st k.toNat).term, x)] } :=
      ⟨upd_same, .inr ⟨rfl, rfl⟩, by show upd _ _ _ _ = _; rw [upd_ne hk.ne_al]; exact hk.al, by show upd _ _ _ _ = _; rw [upd_ne hk.ne_hl]; exact hk.hl, hk.ne⟩
    have hput := h0.put hi hk' (fun b' o hb ne _ _ => by show upd _ _ _ _ = _; rw [upd_ne ne]; exact hb) (fun v d h => .inl h) (.inl rfl) (.inl rfl)
    refine sp_ret (d := .int ((s.st k.toNat).row.length : Int)) ((ev_op (ev_cb (ea_cons (ev_fld (ev_var rfl) hk'.ob T.cl_Keeper T.na_Keeper_row kf_row (by exact VF.fact hk'.row)) ea_nil) (cbLen (ds := ((s.st k.toNat).row ++ [((s.st k.toNat).term, x)]).map entD))) ev_int opI).is ?_) ⟨_, L, b, _, ⟨h1, hl, rfl, rfl⟩, hput⟩
    rw [List.length_map, List.length_append]
    show PyData.int (((s.st k.toNat).row.length + 1 : Nat) - 1 : Int) = _
    rw [show (((s.st k.toNat).row.length + 1 : Nat) - 1 : Int) = ((s.st k.toNat).row.length : Int) by omega]
  · rintro c' _ ⟨h1, rfl⟩
    exact ⟨s, L, b, c, ⟨h1, rfl⟩, h0⟩

/-! ## Room.rest -/
theorem sc_Room_rest : FnScope ["self", "k", "own"] ["self", "k"] (defScope s_Room_rest) := ⟨rfl, rfl, rfl, by decide +kernel, rfl, by decide +kernel, by decide +kernel⟩
abbrev sp_Room_rest (K : PySem.W.Frag) (CR CK X : Addr) : Sp := spX K (RO K CR CK) (fun a : RSt × Int => [objD a.1.p, .int a.2]) (fun a r => r = some a.1)
  (fun a r d r' => (0 ≤ a.2 ∧ a.2 < a.1.n) ∧ d = .none ∧ r' = some (a.1.rest a.2.toNat)) (fun a r c r' => ¬ (0 ≤ a.2 ∧ a.2 < a.1.n) ∧ c = .ref X ∧ r' = r)
theorem ok_Room_rest (T : Tx K mg) : FnOk P w K mg base (L2.CX P w) 2 T.d_Room_rest.a T.d_Room_rest.fd ["self", "k"] (sp_Room_rest K T.c_Room T.c_Keeper T.c_NoKeeper) := by
  refine ok_room (·.1) (fun _ _ h => h) T.d_Room_rest.F sc_Room_rest (fun _ => rfl) fun cdv A outer s H E hr => ⟨_, (pss_cons (ps_set (i := 2) sc_Room_rest.nd rfl (by first | exact Or.inl rfl | exact Or.inr rfl) (pe_meth (pv 0) T.cl_Room T.d_Room_keeper.m (ok_Room_keeper T) (hr.mono (by decide)) T.d_Room_keeper.b .nil (passX (takes_of rfl rfl rfl rfl)) (pa_cons (pv 1) pa_nil)))
    (pss_cons (ps_fld (pv 2) pe_bl rfl)
    (pss_one (ps_fld (pv 2) pe_int rfl)))), ?_⟩
  rintro ⟨s, k⟩ L b c r _ h0
  have h0 : RoomAt T.c_Room T.c_Keeper s L b c r := h0
  obtain ⟨dp, hob⟩ := h0.ob
  refine sp_asgX (evx_meth ((⟨s, L, b, c⟩, k) : RX × Int) (ev_var rfl) (inst_of hob (rf_no (by decide +kernel))) (ea_cons (ev_var rfl) ea_nil) rfl h0) ?_ ?_
  · rintro _ r ⟨h1, rfl, rfl⟩
    have h1 : 0 ≤ k ∧ k < s.n := h1
    have hi : k.toNat < s.n := by omega
    have hk := h0.at_ k.toNat hi
    refine sp_seq (N := fun e' r' => e' = [.dat (objD s.p), .dat (.int k), .dat (objD (b k.toNat))] ∧ r' = ⟨upd r.m (b k.toNat) (.ins T.c_Keeper (c k.toNat).dx (kf (s.st k.toNat).term (c k.toNat).rw false (s.st k.toNat).settled (c k.toNat).al (c k.toNat).hl)), addF r.f (.bl false) (.bool false)⟩)
      (sp_fld ev_bl (ev_var rfl) hk.ob T.cl_Keeper T.na_Keeper_leads kf_len fun v ⟨G, hv⟩ => by rw [hv.bl_inv, kf_pleads]; exact ⟨rfl, rfl⟩) ?_
    rintro _ _ ⟨rfl, rfl⟩
    refine sp_fld ev_int (ev_var rfl) upd_same T.cl_Keeper T.na_Keeper_settled kf_len fun v ⟨G, hv⟩ => ?_
    rw [hv.int_inv, kf_psettled, upd_upd]
    have fr : Fr1 (b k.toNat) r ⟨upd r.m (b k.toNat) (.ins T.c_Keeper (c k.toNat).dx (kf (s.st k.toNat).term (c k.toNat).rw false 0 (c k.toNat).al (c k.toNat).hl)), addF (addF r.f (.bl false) (.bool false)) (.int 0) (.int 0)⟩ := ⟨fun b hb => upd_ne hb, fun v d h => .inl (.inl h)⟩
    exact ⟨_, L, b, _, ⟨h1, rfl, rfl⟩, h0.put1 hi (hk.upd (k' := { s.st k.toNat with leads := false, settled := 0 }) fr upd_same rfl rfl rfl) fr⟩
  · rintro _ r ⟨h1, rfl, rfl⟩
    exact ⟨s, L, b, c, ⟨h1, rfl, rfl⟩, h0⟩

/-! ## Room.term_of -/
theorem sc_Room_term_of : FnScope ["self", "k"] ["self", "k"] (defScope s_Room_term_of) := ⟨rfl, rfl, rfl, by decide +kernel, rfl, by decide +kernel, by decide +kernel⟩
abbrev sp_Room_term_of (K : PySem.W.Frag) (CR CK X : Addr) : Sp := spX K (RO K CR CK) (fun a : RSt × Int => [objD a.1.p, .int a.2]) (fun a r => r = some a.1)
  (fun a r d r' => (0 ≤ a.2 ∧ a.2 < a.1.n) ∧ d = .int (a.1.st a.2.toNat).term ∧ r' = r) (fun a r c r' => ¬ (0 ≤ a.2 ∧ a.2 < a.1.n) ∧ c = .ref X ∧ r' = r)
theorem ok_Room_term_of (T : Tx K mg) : FnOk P w K mg base (L2.CX P w) 2 T.d_Room_term_of.a T.d_Room_term_of.fd ["self", "k"] (sp_Room_term_of K T.c_Room T.c_Keeper T.c_NoKeeper) := by
  refine ok_room (·.1) (fun _ _ h => h) T.d_Room_term_of.F sc_Room_term_of (fun _ => rfl) fun cdv A outer s H E hr => ⟨_, (pss_one (ps_ret (pe_fld (pe_meth (pv 0) T.cl_Room T.d_Room_keeper.m (ok_Room_keeper T) (hr.mono (by decide)) T.d_Room_keeper.b .nil (passX (takes_of rfl rfl rfl rfl)) (pa_cons (pv 1) pa_nil)) rfl))), ?_⟩
  rintro ⟨s, k⟩ L b c r _ h0
  have h0 : RoomAt T.c_Room T.c_Keeper s L b c r := h0
  obtain ⟨dp, hob⟩ := h0.ob
  refine sp_retX (Pe := fun d r' => (0 ≤ k ∧ k < s.n) ∧ d = .int (s.st k.toNat).term ∧ r' = r) (evx_fld (evx_meth ((⟨s, L, b, c⟩, k) : RX × Int) (ev_var rfl) (inst_of hob (rf_no (by decide +kernel))) (ea_cons (ev_var rfl) ea_nil) rfl h0) T.cl_Keeper T.na_Keeper_term ?_) ?_ ?_
  · rintro _ r ⟨h1, rfl, rfl⟩
    have h1 : 0 ≤ k ∧ k < s.n := h1
    exact ⟨_, _, _, _, _, rfl, (h0.at_ k.toNat (by omega)).ob, kf_term, .int, h1, rfl, rfl⟩
  · rintro _ r ⟨h1, rfl, rfl⟩
    exact ⟨s, L, b, c, ⟨h1, rfl, rfl⟩, h0⟩
  · rintro _ r ⟨h1, rfl, rfl⟩
    exact ⟨s, L, b, c, ⟨h1, rfl, rfl⟩, h0⟩

/-! ## Room.row_of -/
theorem sc_Room_row_of : FnScope ["self", "k"] ["self", "k"] (defScope s_Room_row_of) := ⟨rfl, rfl, rfl, by decide +kernel, rfl, by decide +kernel, by decide +kernel⟩
abbrev sp_Room_row_of (K : PySem.W.Frag) (CR CK X : Addr) : Sp := spXF K (RO K CR CK) (fun a : RSt × Int => [objD a.1.p, .int a.2]) (fun a r => r = some a.1)
  (fun a r d r' => (0 ≤ a.2 ∧ a.2 < a.1.n) ∧ d = (a.1.st a.2.toNat).row.map entD ∧ r' = r) (fun a r c r' => ¬ (0 ≤ a.2 ∧ a.2 < a.1.n) ∧ c = .ref X ∧ r' = r)
theorem ok_Room_row_of (T : Tx K mg) : FnOk P w K mg base (L2.CX P w) 2 T.d_Room_row_of.a T.d_Room_row_of.fd ["self", "k"] (sp_Room_row_of K T.c_Room T.c_Keeper T.c_NoKeeper) := by
  refine ok_roomF (·.1) (fun _ _ h => h) T.d_Room_row_of.F sc_Room_row_of (fun _ => rfl) fun cdv A outer s H E hr => ⟨_, (pss_one (ps_ret (pe_callTy call_list_of (by rfl) T.z_list (by decide +kernel) (pa_cons (pe_fld (pe_meth (pv 0) T.cl_Room T.d_Room_keeper.m (ok_Room_keeper T) (hr.mono (by decide)) T.d_Room_keeper.b .nil (passX (takes_of rfl rfl rfl rfl)) (pa_cons (pv 1) pa_nil)) rfl) pa_nil)))), ?_⟩
  rintro ⟨s, k⟩ L b c r _ h0
  have h0 : RoomAt T.c_Room T.c_Keeper s L b c r := h0
  obtain ⟨dp, hob⟩ := h0.ob
  refine sp_retXF (Pe := fun d r' => (0 ≤ k ∧ k < s.n) ∧ d = (s.st k.toNat).row.map entD ∧ r' = r) (evxf_listD (evx_fld (P := fun d r' => (0 ≤ k ∧ k < s.n) ∧ d = rowD (s.st k.toNat).row ∧ r' = r) (evx_meth ((⟨s, L, b, c⟩, k) : RX × Int) (ev_var rfl) (inst_of hob (rf_no (by decide +kernel))) (ea_cons (ev_var rfl) ea_nil) rfl h0) T.cl_Keeper T.na_Keeper_row ?_) ?_) ?_ ?_
  · rintro _ r ⟨h1, rfl, rfl⟩
    have h1 : 0 ≤ k ∧ k < s.n := h1
    exact ⟨_, _, _, _, _, rfl, (h0.at_ k.toNat (by omega)).ob, kf_row, .fact (h0.at_ k.toNat (by omega)).row, h1, rfl, rfl⟩
  · rintro _ r ⟨h1, rfl, rfl⟩
    exact ⟨_, rfl, h1, rfl, rfl⟩
  · rintro _ r ⟨h1, rfl, rfl⟩
    exact ⟨s, L, b, c, ⟨h1, rfl, rfl⟩, h0⟩
  · rintro _ r ⟨h1, rfl, rfl⟩
    exact ⟨s, L, b, c, ⟨h1, rfl, rfl⟩, h0⟩

/-! ## Room.leading -/
theorem sc_Room_leading : FnScope ["self", "k"] ["self", "k"] (defScope s_Room_leading) := ⟨rfl, rfl, rfl, by decide +kernel, rfl, by decide +kernel, by decide +kernel⟩
abbrev sp_Room_leading (K : PySem.W.Frag) (CR CK X : Addr) : Sp := spX K (RO K CR CK) (fun a : RSt × Int => [objD a.1.p, .int a.2]) (fun a r => r = some a.1)
  (fun a r d r' => (0 ≤ a.2 ∧ a.2 < a.1.n) ∧ d = .bool (a.1.st a.2.toNat).leads ∧ r' = r) (fun a r c r' => ¬ (0 ≤ a.2 ∧ a.2 < a.1.n) ∧ c = .ref X ∧ r' = r)
theorem ok_Room_leading (T : Tx K mg) : FnOk P w K mg base (L2.CX P w) 2 T.d_Room_leading.a T.d_Room_leading.fd ["self", "k"] (sp_Room_leading K T.c_Room T.c_Keeper T.c_NoKeeper) := by
  refine ok_room (·.1) (fun _ _ h => h) T.d_Room_leading.F sc_Room_leading (fun _ => rfl) fun cdv A outer s H E hr => ⟨_, (pss_one (ps_ret (pe_fld (pe_meth (pv 0) T.cl_Room T.d_Room_keeper.m (ok_Room_keeper T) (hr.mono (by decide)) T.d_Room_keeper.b .nil (passX (takes_of rfl rfl rfl rfl)) (pa_cons (pv 1) pa_nil)) rfl))), ?_⟩
  rintro ⟨s, k⟩ L b c r _ h0
  have h0 : RoomAt T.c_Room T.c_Keeper s L b c r := h0
  obtain ⟨dp, hob⟩ := h0.ob
  refine sp_retX (Pe := fun d r' => (0 ≤ k ∧ k < s.n) ∧ d = .bool (s.st k.toNat).leads ∧ r' = r) (evx_fld (evx_meth ((⟨s, L, b, c⟩, k) : RX × Int) (ev_var rfl) (inst_of hob (rf_no (by decide +kernel))) (ea_cons (ev_var rfl) ea_nil) rfl h0) T.cl_Keeper T.na_Keeper_leads ?_) ?_ ?_
  · rintro _ r ⟨h1, rfl, rfl⟩
    have h1 : 0 ≤ k ∧ k < s.n := h1
    exact ⟨_, _, _, _, _, rfl, (h0.at_ k.toNat (by omega)).ob, kf_leads, .bl, h1, rfl, rfl⟩
  · rintro _ r ⟨h1, rfl, rfl⟩
    exact ⟨s, L, b, c, ⟨h1, rfl, rfl⟩, h0⟩
  · rintro _ r ⟨h1, rfl, rfl⟩
    exact ⟨s, L, b, c, ⟨h1, rfl, rfl⟩, h0⟩

/-! ## Room.settled_of -/
theorem sc_Room_settled_of : FnScope ["self", "k", "own"] ["self", "k"] (defScope s_Room_settled_of) := ⟨rfl, rfl, rfl, by decide +kernel, rfl, by decide +kernel, by decide +kernel⟩
abbrev sp_Room_settled_of (K : PySem.W.Frag) (CR CK X : Addr) : Sp := spXF K (RO K CR CK) (fun a : RSt × Int => [objD a.1.p, .int a.2]) (fun a r => r = some a.1 ∧ ∀ i, i < a.1.n → 0 ≤ (a.1.st i).settled)
  (fun a r d r' => (0 ≤ a.2 ∧ a.2 < a.1.n) ∧ d = ((a.1.st a.2.toNat).row.take (a.1.st a.2.toNat).settled.toNat).map entD ∧ r' = r) (fun a r c r' => ¬ (0 ≤ a.2 ∧ a.2 < a.1.n) ∧ c = .ref X ∧ r' = r)
theorem ok_Room_settled_of (T : Tx K mg) : FnOk P w K mg base (L2.CX P w) 2 T.d_Room_settled_of.a T.d_Room_settled_of.fd ["self", "k"] (sp_Room_settled_of K T.c_Room T.c_Keeper T.c_NoKeeper) := by
  refine ok_roomF (·.1) (fun _ _ h => h.1) T.d_Room_settled_of.F sc_Room_settled_of (fun _ => rfl) fun cdv A outer s H E hr => ⟨_, (pss_cons (ps_set (i := 2) sc_Room_settled_of.nd rfl (by first | exact Or.inl rfl | exact Or.inr rfl) (pe_meth (pv 0) T.cl_Room T.d_Room_keeper.m (ok_Room_keeper T) (hr.mono (by decide)) T.d_Room_keeper.b .nil (passX (takes_of rfl rfl rfl rfl)) (pa_cons (pv 1) pa_nil)))
    (pss_one (ps_ret (pe_slice sl_list (pe_fld (pv 2) rfl) po_none (po_some (pe_fld (pv 2) rfl)))))), ?_⟩
  rintro ⟨s, k⟩ L b c r ⟨_, hg⟩ h0
  have h0 : RoomAt T.c_Room T.c_Keeper s L b c r := h0
  have hg : ∀ i, i < s.n → 0 ≤ (s.st i).settled := hg
  obtain ⟨dp, hob⟩ := h0.ob
  refine sp_asgX (evx_meth ((⟨s, L, b, c⟩, k) : RX × Int) (ev_var rfl) (inst_of hob (rf_no (by decide +kernel))) (ea_cons (ev_var rfl) ea_nil) rfl h0) ?_ ?_
  · rintro _ r ⟨h1, rfl, rfl⟩
    have h1 : 0 ≤ k ∧ k < s.n := h1
    have hk := h0.at_ k.toNat (by omega)
    refine sp_retF (evf_sl (ds := (s.st k.toNat).row.map entD) (ev_fld (ev_var rfl) hk.ob T.cl_Keeper T.na_Keeper_row kf_row (.fact hk.row)) eo_none (eo_some (ev_fld (ev_var rfl) hk.ob T.cl_Keeper T.na_Keeper_settled kf_settled .int))) ⟨s, L, b, c, ⟨h1, ?_, rfl⟩, h0⟩
    rw [cut_to _ (hg k.toNat (by omega)), ← List.map_take]
  · rintro _ r ⟨h1, rfl, rfl⟩
    exact ⟨s, L, b, c, ⟨h1, rfl, rfl⟩, h0⟩
section
variable {ρ' : Type} {R' : ρ' → Hp → Hp → Prop} {CR CK X : Addr} {e : SE} {g : ρ'} {put : Option RSt → ρ'} {ta tb : TE} {E : XK} {s : RSt} {k : Int}
theorem ev_term_of (L : Lift (RO K CR CK) R' g (some s) put) (h : EvD K (RO K CR CK) ta e (some s) (objD s.p)) (hk : EvD K (RO K CR CK) tb e (some s) (.int k)) (h0 : 0 ≤ k) (h1 : k < s.n) :
    EvD K R' (tMeth CR "term_of" (sp_Room_term_of K CR CK X) [] E ta (tCons tb tNil)) e g (.int (s.st k.toNat).term) :=
  EvS.lift (EvX.s (P := fun d r' => d = .int (s.st k.toNat).term ∧ r' = some s) (PE := fun _ _ => False) (EvX.lift (evx_meth (s, k) h (RO.inst (by decide +kernel)) (ea_cons hk ea_nil) rfl rfl) Lift.id (fun d r' z => ⟨z.2.1, z.2.2⟩) fun c r' z => z.1 ⟨h0, h1⟩) fun _ _ z => z) L fun d r' z => ⟨z.1, by rw [z.2, L.eq]⟩
theorem ev_leading (L : Lift (RO K CR CK) R' g (some s) put) (h : EvD K (RO K CR CK) ta e (some s) (objD s.p)) (hk : EvD K (RO K CR CK) tb e (some s) (.int k)) (h0 : 0 ≤ k) (h1 : k < s.n) :
    EvD K R' (tMeth CR "leading" (sp_Room_leading K CR CK X) [] E ta (tCons tb tNil)) e g (.bool (s.st k.toNat).leads) :=
  EvS.lift (EvX.s (P := fun d r' => d = .bool (s.st k.toNat).leads ∧ r' = some s) (PE := fun _ _ => False) (EvX.lift (evx_meth (s, k) h (RO.inst (by decide +kernel)) (ea_cons hk ea_nil) rfl rfl) Lift.id (fun d r' z => ⟨z.2.1, z.2.2⟩) fun c r' z => z.1 ⟨h0, h1⟩) fun _ _ z => z) L fun d r' z => ⟨z.1, by rw [z.2, L.eq]⟩
theorem evf_row_of (L : Lift (RO K CR CK) R' g (some s) put) (h : EvD K (RO K CR CK) ta e (some s) (objD s.p)) (hk : EvD K (RO K CR CK) tb e (some s) (.int k)) (h0 : 0 ≤ k) (h1 : k < s.n) :
    EvF K R' (tMeth CR "row_of" (sp_Room_row_of K CR CK X) [] E ta (tCons tb tNil)) e g ((s.st k.toNat).row.map entD) :=
  EvXF.f (P := fun d r' => d = (s.st k.toNat).row.map entD ∧ r' = g) (PE := fun _ _ => False) (EvXF.lift (evxf_meth (s, k) h (RO.inst (by decide +kernel)) (ea_cons hk ea_nil) rfl rfl) L (fun d r' z => ⟨z.2.1, by rw [z.2.2, L.eq]⟩) fun c r' z => z.1 ⟨h0, h1⟩) (fun _ _ z => z) fun _ _ z => z
theorem evf_settled_of (L : Lift (RO K CR CK) R' g (some s) put) (h : EvD K (RO K CR CK) ta e (some s) (objD s.p)) (hk : EvD K (RO K CR CK) tb e (some s) (.int k)) (h0 : 0 ≤ k) (h1 : k < s.n) (hs : ∀ i, i < s.n → 0 ≤ (s.st i).settled) :
    EvF K R' (tMeth CR "settled_of" (sp_Room_settled_of K CR CK X) [] E ta (tCons tb tNil)) e g (((s.st k.toNat).row.take (s.st k.toNat).settled.toNat).map entD) :=
  EvXF.f (P := fun d r' => d = ((s.st k.toNat).row.take (s.st k.toNat).settled.toNat).map entD ∧ r' = g) (PE := fun _ _ => False) (EvXF.lift (evxf_meth (s, k) h (RO.inst (by decide +kernel)) (ea_cons hk ea_nil) rfl ⟨rfl, hs⟩) L (fun d r' z => ⟨z.2.1, by rw [z.2.2, L.eq]⟩) fun c r' z => z.1 ⟨h0, h1⟩) (fun _ _ z => z) fun _ _ z => z
theorem ev_row_of [Stab R'] (L : Lift (RO K CR CK) R' g (some s) put) (h : EvD K (RO K CR CK) ta e (some s) (objD s.p)) (hk : EvD K (RO K CR CK) tb e (some s) (.int k)) (h0 : 0 ≤ k) (h1 : k < s.n) :
    EvD K R' (tMeth CR "row_of" (sp_Room_row_of K CR CK X) [] E ta (tCons tb tNil)) e g (rowD (s.st k.toNat).row) := EvF.ev (evf_row_of L h hk h0 h1)
theorem ev_settled_of [Stab R'] (L : Lift (RO K CR CK) R' g (some s) put) (h : EvD K (RO K CR CK) ta e (some s) (objD s.p)) (hk : EvD K (RO K CR CK) tb e (some s) (.int k)) (h0 : 0 ≤ k) (h1 : k < s.n) (hs : ∀ i, i < s.n → 0 ≤ (s.st i).settled) :
    EvD K R' (tMeth CR "settled_of" (sp_Room_settled_of K CR CK X) [] E ta (tCons tb tNil)) e g (rowD ((s.st k.toNat).row.take (s.st k.toNat).settled.toNat)) := EvF.ev (evf_settled_of L h hk h0 h1 hs)
end
section
variable {ρ' : Type} {R' : ρ' → Hp → Hp → Prop} {CR CK X : Addr} {e : SE} {g : ρ'} {put : Option RSt → ρ'} {ta tb tc : TE} {E : XK} {s : RSt} {k : Int}
theorem es_rest (L : Lift (RO K CR CK) R' g (some s) put) (h : EvD K (RO K CR CK) ta e (some s) (objD s.p)) (hk : EvD K (RO K CR CK) tb e (some s) (.int k)) (h0 : 0 ≤ k) (h1 : k < s.n) :
    EvS K R' (tMeth CR "rest" (sp_Room_rest K CR CK X) [] E ta (tCons tb tNil)) e g (fun d r' => d = .none ∧ r' = put (some (s.rest k.toNat))) :=
  EvS.lift (EvX.s (P := fun d r' => d = .none ∧ r' = some (s.rest k.toNat)) (PE := fun _ _ => False) (EvX.lift (evx_meth (s, k) h (RO.inst (by decide +kernel)) (ea_cons hk ea_nil) rfl rfl) Lift.id (fun d r' z => ⟨z.2.1, z.2.2⟩) fun c r' z => z.1 ⟨h0, h1⟩) fun _ _ z => z) L fun d r' z => ⟨z.1, by rw [z.2]⟩
theorem es_stand {os : List Int} (L : Lift (RO K CR CK) R' g (some s) put) (h : EvD K (RO K CR CK) ta e (some s) (objD s.p)) (hk : EvD K (RO K CR CK) tb e (some s) (.int k)) (ho : EvD K (RO K CR CK) tc e (some s) (osD os)) (h0 : 0 ≤ k) (h1 : k < s.n)
    (hp : (∀ i, i < s.n → rowOk (s.st i).row) ∧ s.n ≤ 9 ∧ os.length ≤ 1000 ∧ ∀ o, o ∈ os → 0 ≤ o ∧ o < s.n) :
    EvS K R' (tMeth CR "stand" (sp_Room_stand K CR CK X) [] E ta (tCons tb (tCons tc tNil))) e g (fun d r' => d = .bool ((s.stand k.toNat os).st k.toNat).leads ∧ r' = put (some (s.stand k.toNat os))) :=
  EvS.lift (EvX.s (P := fun d r' => d = .bool ((s.stand k.toNat os).st k.toNat).leads ∧ r' = some (s.stand k.toNat os)) (PE := fun _ _ => False) (EvX.lift (evx_meth (s, k, os) h (RO.inst (by decide +kernel)) (ea_cons hk (ea_cons ho ea_nil)) rfl ⟨rfl, hp⟩) Lift.id (fun d r' z => ⟨z.2.1, z.2.2⟩) fun c r' z => z.1 ⟨h0, h1⟩) fun _ _ z => z) L fun d r' z => ⟨z.1, by rw [z.2]⟩
end

/-! ## _law_cell_at -/
theorem sc__law_cell_at : FnScope ["_law_script", "_law_k"] ["_law_script", "_law_k"] (defScope s__law_cell_at) := ⟨rfl, rfl, rfl, by decide +kernel, rfl, by decide +kernel, by decide +kernel⟩
abbrev sp_cell_at (K : PySem.W.Frag) : Sp := spF K (fun a : List Int × Int => [scrD a.1, .int a.2]) (fun a => 0 ≤ a.2) (fun a => .int (cellAt a.1 a.2))
section
variable {ρ : Type} {R : ρ → Hp → Hp → Prop} [Stab R] {e : SE} {r : ρ} {ta tb : TE} {E : XK}
theorem ev_cell_at {ns : List Int} {k : Int} (h : EvD K R ta e r (scrD ns)) (h2 : EvD K R tb e r (.int k)) (hp : 0 ≤ k) : EvD K R (tCall (sp_cell_at K) [] E (tCons ta (tCons tb tNil))) e r (.int (cellAt ns k)) :=
  ev_call (ns, k) (ea_cons h (ea_cons h2 ea_nil)) hp
end
theorem ok__law_cell_at (T : Tx K mg) : FnOk P w K mg base CX0 1 T.d__law_cell_at.a T.d__law_cell_at.fd ["_law_script", "_law_k"] (sp_cell_at K) := by
  refine ok_pure T.d__law_cell_at.F sc__law_cell_at (fun _ => rfl) fun cdv A outer s H E hr => ⟨_, (pss_cons (ps_if (pt_cmpR op_lt (pv 1) (pe_callB call_len_seq (by rfl) T.z_len (by decide +kernel) (pa_cons (pv 0) pa_nil)) (nomark _)) (pss_one (ps_ret (pe_ix ix_list (pv 0) (pv 1) (fun _ _ => rfl)))) pss_nil)
    (pss_one (ps_ret pe_int))), ?_⟩
  rintro M0 ⟨ns, k⟩ hp
  refine sp_when (et_test (ev_op (ev_var rfl) (ev_cb (ea_cons (ev_var rfl) ea_nil) cbLenScr) opB)) (fun h => ?_) fun h => ?_
  · have hk : k < ns.length := of_decide_eq_true h
    refine sp_ret (ev_op (ev_var rfl) (ev_var rfl) (opIxScr (atI_cell hp hk))) ?_
    show PyData.int _ = PyData.int (cellAt ns k)
    unfold cellAt
    rw [if_pos hk]
  · have hk : ¬ k < ns.length := of_decide_eq_false h
    refine sp_ret ev_int ?_
    show PyData.int _ = PyData.int (cellAt ns k)
    unfold cellAt
    rw [if_neg hk]

/-! ## _law_mixed -/
theorem sc__law_mixed : FnScope ["_law_script", "_law_k", "_law_number"] ["_law_script", "_law_k"] (defScope s__law_mixed) := ⟨rfl, rfl, rfl, by decide +kernel, rfl, by decide +kernel, by decide +kernel⟩
abbrev sp_mixed (K : PySem.W.Frag) : Sp := spF K (fun a : List Int × Int => [scrD a.1, .int a.2]) (fun a => 0 ≤ a.2) (fun a => .int (mixed a.1 a.2))
section
variable {ρ : Type} {R : ρ → Hp → Hp → Prop} [Stab R] {e : SE} {r : ρ} {ta tb : TE} {E : XK}
theorem ev_mixed {ns : List Int} {k : Int} (h : EvD K R ta e r (scrD ns)) (h2 : EvD K R tb e r (.int k)) (hp : 0 ≤ k) : EvD K R (tCall (sp_mixed K) [] E (tCons ta (tCons tb tNil))) e r (.int (mixed ns k)) :=
  ev_call (ns, k) (ea_cons h (ea_cons h2 ea_nil)) hp
end
theorem ok__law_mixed (T : Tx K mg) : FnOk P w K mg base CX0 2 T.d__law_mixed.a T.d__law_mixed.fd ["_law_script", "_law_k"] (sp_mixed K) := by
  refine ok_pure T.d__law_mixed.F sc__law_mixed (fun _ => rfl) fun cdv A outer s H E hr => ⟨_, (pss_cons (ps_set (i := 2) sc__law_mixed.nd rfl (by first | exact Or.inl rfl | exact Or.inr rfl) (pe_op op_mod (pe_op op_mul (pe_op op_add (pe_call (ok__law_cell_at T) (hr.mono (by decide)) (by rfl) T.d__law_cell_at.g T.d__law_cell_at.F.kp T.d__law_cell_at.b .nil pass0 (pa_cons (pv 0) (pa_cons (pv 1) pa_nil))) (pe_op op_mul pe_int (pv 1))) pe_int) pe_int))
    (pss_one (ps_ret (pe_op op_mod (pe_op op_add (pe_op op_add (pe_op op_mul (pv 2) (pv 2)) (pe_op op_mul pe_int (pv 2))) (pv 1)) pe_int)))), ?_⟩
  rintro M0 ⟨ns, k⟩ hp
  have h0 : 0 ≤ (cellAt ns k + 7919 * k) * 48271 % 2147483647 := Int.emod_nonneg _ (by decide)
  have h1 : (cellAt ns k + 7919 * k) * 48271 % 2147483647 < 2147483647 := Int.emod_lt_of_pos _ (by decide)
  refine sp_asg (ev_op (ev_op (ev_op (ev_cell_at (ev_var rfl) (ev_var rfl) hp) (ev_op ev_int (ev_var rfl) (opIC (.inl ⟨by decide, by decide⟩))) opI) ev_int (opIC (.inr ⟨by decide, by decide⟩))) ev_int (opIC (by decide))) ?_
  refine sp_ret (ev_op (ev_op (ev_op (ev_op (ev_var rfl) (ev_var rfl) (opIC (.inl ⟨by omega, by omega⟩))) (ev_op ev_int (ev_var rfl) (opIC (.inl ⟨by decide, by decide⟩))) opI) (ev_var rfl) opI) ev_int (opIC (by decide))) ?_
  rfl

/-! ## _law_drawn -/
theorem sc__law_drawn : FnScope ["_law_number", "_law_sizes", "_law_some", "_law_size"] ["_law_number", "_law_sizes"] (defScope s__law_drawn) := ⟨rfl, rfl, rfl, by decide +kernel, rfl, by decide +kernel, by decide +kernel⟩
abbrev sp_drawn (K : PySem.W.Frag) : Sp := spF K (fun a : Int × List Int => [.int a.1, osD a.2]) (fun a => a.2.length ≤ 1000 ∧ ∀ z, z ∈ a.2 → 0 < z ∧ z < 1073741824) (fun a => osD (drawnL a.1 a.2))
section
variable {ρ : Type} {R : ρ → Hp → Hp → Prop} [Stab R] {e : SE} {r : ρ} {ta tb : TE} {E : XK}
theorem ev_drawn {n : Int} {zs : List Int} (h : EvD K R ta e r (.int n)) (h2 : EvD K R tb e r (osD zs)) (hl : zs.length ≤ 1000) (hp : ∀ z, z ∈ zs → 0 < z ∧ z < 1073741824) : EvD K R (tCall (sp_drawn K) [] E (tCons ta (tCons tb tNil))) e r (osD (drawnL n zs)) :=
  ev_call (n, zs) (ea_cons h (ea_cons h2 ea_nil)) ⟨hl, hp⟩
end
theorem ok__law_drawn (T : Tx K mg) : FnOk P w K mg base CX0 1 T.d__law_drawn.a T.d__law_drawn.fd ["_law_number", "_law_sizes"] (sp_drawn K) := by
  refine ok_pure T.d__law_drawn.F sc__law_drawn (fun _ => rfl) fun cdv A outer s H E hr => ⟨_, (pss_cons (ps_set (i := 2) sc__law_drawn.nd rfl (by first | exact Or.inl rfl | exact Or.inr rfl) (pe_lst pa_nil))
    (pss_cons (ps_for PassesOwn.never rfl (pi_list (pv 1)) (pg_name (i := 3) sc__law_drawn.nd rfl (by first | exact Or.inl rfl | exact Or.inr rfl)) (pss_cons (ps_expr (pe_bm PySem.F.plainAttrs_list PySem.F.slot_list_append PySem.F.type_list_append mt_append (pv 2) (pa_cons (pe_op op_mod (pv 0) (pv 3)) pa_nil)))
    (pss_one (ps_set (i := 0) sc__law_drawn.nd rfl (by first | exact Or.inl rfl | exact Or.inr rfl) (pe_op op_fdiv (pv 0) (pv 3))))))
    (pss_one (ps_ret (pv 2))))), ?_⟩
  rintro M0 ⟨n, zs⟩ ⟨hl, hp⟩
  have hl : zs.length ≤ 1000 := hl
  have hp : ∀ z, z ∈ zs → 0 < z ∧ z < 1073741824 := hp
  refine sp_asgO (ds := []) (evf_lst ea_nil (Nat.zero_le _)) ?_
  have hlen : ∀ k (x : Int × List Int), (((zs.take k).foldl drawnF x).2).length ≤ x.2.length + k := fun k => by
    induction k with
    | zero => intro x; exact Nat.le_refl _
    | succ k ih =>
      intro x
      cases hz : zs[k]? with
      | none =>
        rw [List.take_add_one, hz]
        show ((List.foldl drawnF x (zs.take k ++ [])).2).length ≤ _
        rw [List.append_nil]
        exact Nat.le_trans (ih x) (by omega)
      | some z =>
        rw [foldl_take_succ drawnF x zs hz]
        show (((zs.take k).foldl drawnF x).2 ++ [_]).length ≤ _
        rw [List.length_append]
        have := ih x
        show _ + 1 ≤ _
        omega
  refine sp_seq (N := fun e' _ => ∃ x y, e' = [x, .dat (osD zs), .own ((drawnL n zs).map .int), y]) ?_ ?_
  · refine sp_forL (ds := zs.map .int) (ev_var rfl) (fun k e' _ => ∃ y, e' = [.dat (.int ((zs.take k).foldl drawnF (n, [])).1), .dat (osD zs), .own (((zs.take k).foldl drawnF (n, [])).2.map .int), y]) ⟨_, rfl⟩ ?_ (fun _ _ ⟨y, h⟩ => ⟨_, y, by rw [List.length_map, List.take_length] at h; exact h⟩)
    rintro k d _ _ hd ⟨y, rfl⟩
    rw [List.getElem?_map] at hd
    cases hz : zs[k]? with
    | none => rw [hz] at hd; cases hd
    | some z =>
      rw [hz] at hd
      have hd : some (PyData.int z) = some d := hd
      injection hd with hd
      subst hd
      have hzz := hp z (List.mem_of_getElem? hz)
      have hL := hlen k (n, [])
      have hk : k < zs.length := (List.getElem?_eq_some_iff.mp hz).1
      rw [foldl_take_succ drawnF (n, []) zs hz]
      generalize (zs.take k).foldl drawnF (n, []) = x at hL
      have hL : x.2.length ≤ 0 + k := hL
      refine sp_seq (N := fun e' _ => e' = [.dat (.int x.1), .dat (osD zs), .own (x.2.map .int ++ [.int (x.1 % z)]), .dat (.int z)])
        (sp_app (i := 2) rfl (by rw [List.length_map, sizeLine_eq]; omega) (ev_op (ev_var rfl) (ev_var rfl) (opIC hzz.1)) rfl) ?_
      rintro _ _ rfl
      exact sp_asg1 (ev_op (ev_var rfl) (ev_var rfl) (opIC ⟨hzz.1, hzz.2⟩)) ⟨_, by unfold drawnF; rw [List.map_append]; rfl⟩
  · rintro _ _ ⟨x, y, rfl⟩
    exact sp_frz (i := 2) rfl (sp_ret (ev_var rfl) rfl)

/-! ## _law_whole -/
theorem sc__law_whole : FnScope ["_law_found"] ["_law_found"] (defScope s__law_whole) := ⟨rfl, rfl, rfl, by decide +kernel, rfl, by decide +kernel, by decide +kernel⟩
abbrev sp_whole (K : PySem.W.Frag) : Sp := spF K (fun i : Int => [.int i]) (fun _ => True) (fun _ => .bool true)
section
variable {ρ : Type} {R : ρ → Hp → Hp → Prop} [Stab R] {e : SE} {r : ρ} {ta tb : TE} {E : XK}
theorem ev_whole {i : Int} (h : EvD K R ta e r (.int i)) : EvD K R (tCall (sp_whole K) [] E (tCons ta tNil)) e r (.bool true) := ev_call i (ea_cons h ea_nil) trivial
end
theorem ok__law_whole (T : Tx K mg) : FnOk P w K mg base CX0 1 T.d__law_whole.a T.d__law_whole.fd ["_law_found"] (sp_whole K) := by
  refine ok_pure T.d__law_whole.F sc__law_whole (fun _ => rfl) fun cdv A outer s H E hr => ⟨_, (pss_one (ps_ret (pe_and (pe_callB call_isi (by rfl) T.z_isinstance (by decide +kernel) (pa_cons (pv 0) (pa_cons (pe_bltn (v := .ty "int") (u := .type "int") (by rfl) T.z_int (by decide +kernel) rfl) pa_nil))) (pe_one (pe_not (pe_callB call_isi (by rfl) T.z_isinstance (by decide +kernel) (pa_cons (pv 0) (pa_cons (pe_bltn (v := .ty "bool") (u := .type "bool") (by rfl) T.z_bool (by decide +kernel) rfl) pa_nil)))))))), ?_⟩
  rintro M0 i -
  exact sp_ret (ev_andV (isi_int (ev_var rfl)) fun _ => ev_notV (isi_intB (ev_var rfl))) rfl

/-! ## _law_others -/
theorem sc__law_others : FnScope ["_law_count", "_law_way", "_law_bits", "_law_some", "_law_k"] ["_law_count", "_law_way", "_law_bits"] (defScope s__law_others) := ⟨rfl, rfl, rfl, by decide +kernel, rfl, by decide +kernel, by decide +kernel⟩
abbrev sp_others (K : PySem.W.Frag) : Sp := spD K (fun a : Int × Int × Int => [.int a.1, .int a.2.1, .int a.2.2]) (fun a => 1 ≤ a.1 ∧ a.1 ≤ 9) (fun a d => ∃ os, d = osD os ∧ os.length ≤ 1000 ∧ ∀ o, o ∈ os → 0 ≤ o ∧ o < a.1)
theorem ok__law_others (T : Tx K mg) : FnOk P w K mg base CX0 1 T.d__law_others.a T.d__law_others.fd ["_law_count", "_law_way", "_law_bits"] (sp_others K) := by
  refine ok_pure T.d__law_others.F sc__law_others (fun _ => rfl) fun cdv A outer s H E hr => ⟨_, (pss_cons (ps_set (i := 3) sc__law_others.nd rfl (by first | exact Or.inl rfl | exact Or.inr rfl) (pe_listRg rfl (by rfl) T.z_list (prg_1 (by rfl) T.z_range (pv 0))))
    (pss_cons (ps_if (pt_cmpR op_eq (pv 1) pe_int (nomark _)) (pss_one (ps_setLc (i := 3) (own := [("_law_k", 4)]) (g := gName 4) (tt := tYes) rfl sc__law_others.nd rfl rfl (sw_true rfl rfl rfl (by decide +kernel)) (pi_range1 (by rfl) T.z_range (pa_cons (pv 0) pa_nil)) (blkOk_by (own := [("_law_k", 4)]) (N := ["_law_count", "_law_way", "_law_bits", "_law_some", "_law_k"]) (sc := defScope s__law_others) (by decide +kernel)) (fun _ _ _ _ _ => pg_name (i := 4) sc__law_others.nd rfl (Or.inl rfl)) (fun _ _ _ _ _ => pts_nil) (fun _ _ _ _ _ => (pe_op op_sub (pe_op op_sub (pv 0) pe_int) (pv 4))))) pss_nil)
    (pss_cons (ps_if (pt_cmpR op_eq (pv 1) pe_int (nomark _)) (pss_one (ps_set (i := 3) sc__law_others.nd rfl (by first | exact Or.inl rfl | exact Or.inr rfl) (pe_op op_cat (pv 3) (pv 3)))) pss_nil)
    (pss_cons (ps_if (pt_cmpR op_gt (pv 1) pe_int (nomark _)) (pss_one (ps_setLc (i := 3) (own := [("_law_k", 4)]) (g := gName 4)  rfl sc__law_others.nd rfl rfl (sw_true rfl rfl rfl (by decide +kernel)) (pi_range1 (by rfl) T.z_range (pa_cons (pv 0) pa_nil)) (blkOk_by (own := [("_law_k", 4)]) (N := ["_law_count", "_law_way", "_law_bits", "_law_some", "_law_k"]) (sc := defScope s__law_others) (by decide +kernel)) (fun _ _ _ _ _ => pg_name (i := 4) sc__law_others.nd rfl (Or.inl rfl)) (fun _ _ _ _ _ => (pts_one (pt_cmpR op_eq (pe_op op_mod (pe_op op_fdiv (pv 2) (pe_ix (r := rIxL K) ix_list (pe_lst (pa_cons pe_int (pa_cons pe_int (pa_cons pe_int (pa_cons pe_int (pa_cons pe_int (pa_cons pe_int (pa_cons pe_int (pa_cons pe_int (pa_cons pe_int pa_nil)))))))))) (pv 4) (fun _ _ => rfl))) pe_int) pe_int (nomark _)))) (fun _ _ _ _ _ => (pv 4)))) pss_nil)
    (pss_one (ps_ret (pv 3))))))), ?_⟩
  rintro M0 ⟨n, way, bits⟩ ⟨h1, h2⟩
  have h1 : 1 ≤ n := h1
  have h2 : n ≤ 9 := h2
  let W : List Int → Prop := fun os => os.length ≤ 500 ∧ ∀ o, o ∈ os → 0 ≤ o ∧ o < n
  have w0 : W (rgI n.toNat) := ⟨by rw [rgI_len]; omega, fun o ho => by have := rgI_mem ho; omega⟩
  refine sp_asg (d := osD (rgI n.toNat)) ((EvF.ev (evf_listRg (ev_var rfl) (by omega) (by omega))).is (by unfold osD; rw [rgI_D])) ?_
  refine sp_seq (N := fun e' _ => ∃ x os, e' = [.dat (.int n), .dat (.int way), .dat (.int bits), .dat (osD os), x] ∧ os.length ≤ 20 ∧ ∀ o, o ∈ os → 0 ≤ o ∧ o < n) ?_ ?_
  · refine sp_if (et_test (ev_op (ev_var rfl) ev_int opEqI)) (fun _ => ?_) (fun _ => sp_next ⟨_, _, rfl, by rw [rgI_len]; omega, w0.2⟩)
    refine sp_asg1 (d := osD (((rgI n.toNat).filter fun _ => true).map fun k => n - 1 - k)) ((EvF.ev (evf_lcR1 (n := n) (fun _ => true) (fun d => .int (n - 1 - intOf d)) (ea_cons (ev_var rfl) ea_nil) (by omega) (by omega) (fun _ _ => et_yes) (fun k hk _ => ev_op (ev_op (ev_var rfl) ev_int opI) (ev_var rfl) opI))).is (by unfold osD; rw [← rgI_D, lcOut_ints (fun _ => true) (fun k => n - 1 - k)])) ⟨_, _, rfl, ?_, ?_⟩
    · rw [List.length_map]
      refine Nat.le_trans (List.length_filter_le _ _) ?_
      rw [rgI_len]; omega
    · intro o ho
      obtain ⟨k, hk, rfl⟩ := List.mem_map.mp ho
      have := rgI_mem (List.mem_filter.mp hk).1
      omega
  rintro _ _ ⟨x, os, rfl, ho1, ho2⟩
  refine sp_seq (N := fun e' _ => ∃ x os, e' = [.dat (.int n), .dat (.int way), .dat (.int bits), .dat (osD os), x] ∧ os.length ≤ 40 ∧ ∀ o, o ∈ os → 0 ≤ o ∧ o < n) ?_ ?_
  · refine sp_if (et_test (ev_op (ev_var rfl) ev_int opEqI)) (fun _ => ?_) (fun _ => sp_next ⟨_, _, rfl, by omega, ho2⟩)
    refine sp_asg1 (d := osD (os ++ os)) ((EvF.ev (evf_op (ev_var (d := .list (os.map .int)) rfl) (ev_var (d := .list (os.map .int)) rfl) (opCat (by rw [List.length_map, sizeLine_eq]; omega)))).is (by unfold osD; rw [List.map_append])) ⟨_, _, rfl, by rw [List.length_append]; omega, fun o ho => (List.mem_append.mp ho).elim (ho2 o) (ho2 o)⟩
  rintro _ _ ⟨x, os, rfl, ho1, ho2⟩
  refine sp_seq (N := fun e' _ => ∃ x os, e' = [.dat (.int n), .dat (.int way), .dat (.int bits), .dat (osD os), x] ∧ os.length ≤ 1000 ∧ ∀ o, o ∈ os → 0 ≤ o ∧ o < n) ?_ ?_
  · refine sp_if (et_test (ev_op (ev_var rfl) ev_int opB)) (fun _ => ?_) (fun _ => sp_next ⟨_, _, rfl, by omega, ho2⟩)
    refine sp_asg1 (d := osD (((rgI n.toNat).filter fun k => bitD bits (.int k)).map fun k => k)) ((EvF.ev (evf_lcR1 (n := n) (bitD bits) (fun d => .int (intOf d)) (ea_cons (ev_var rfl) ea_nil) (by omega) (by omega) (fun k hk => ?_) (fun k hk _ => ev_var rfl))).is (by unfold osD; rw [← rgI_D, lcOut_ints (bitD bits) (fun k => k)])) ⟨_, _, rfl, ?_, ?_⟩
    · obtain ⟨p, hp, hp1, hp2⟩ := pw9_at (k := (k : Int)) (by omega) (by omega)
      refine (et_test (ev_op (ev_op (ev_op (ev_var rfl) (ev_op (d1 := .list pw9) (ev_lst (ea_cons ev_int (ea_cons ev_int (ea_cons ev_int (ea_cons ev_int (ea_cons ev_int (ea_cons ev_int (ea_cons ev_int (ea_cons ev_int (ea_cons ev_int ea_nil))))))))) (by show 9 ≤ sizeLine; decide)) (ev_var rfl) (opIxL hp)) (opIC ⟨hp1, hp2⟩)) ev_int (opIC (by decide))) ev_int opEqI)).is ?_
      unfold bitD
      show _ = (match L2.atI pw9 (k : Int) with | some (.int x) => decide (bits / x % 2 = 1) | _ => false)
      rw [hp]
    · rw [List.length_map]
      refine Nat.le_trans (List.length_filter_le _ _) ?_
      rw [rgI_len]; omega
    · intro o ho
      obtain ⟨k, hk, rfl⟩ := List.mem_map.mp ho
      have := rgI_mem (List.mem_filter.mp hk).1
      omega
  rintro _ _ ⟨x, os, rfl, ho1, ho2⟩
  exact sp_ret (ev_var rfl) ⟨os, rfl, ho1, ho2⟩

/-! ## _law_stood -/
theorem sc__law_stood : FnScope ["_law_terms", "_law_leads", "_law_k", "_law_others_here", "_law_voices", "_law_other"] ["_law_terms", "_law_leads", "_law_k", "_law_others_here"] (defScope s__law_stood) := ⟨rfl, rfl, rfl, by decide +kernel, rfl, by decide +kernel, by decide +kernel⟩
abbrev sp_stood (K : PySem.W.Frag) : Sp := spX K (Rmf K) (fun a : (Addr × Addr) × (Nat × (Nat → KS)) × Int × List Int => [objD a.1.1, objD a.1.2, .int a.2.2.1, osD a.2.2.2])
  (fun a r => TL a.1.1 a.1.2 a.2.1.1 (fun i => (a.2.1.2 i).term) (fun i => (a.2.1.2 i).leads) r ∧ a.2.1.1 ≤ 9 ∧ (0 ≤ a.2.2.1 ∧ a.2.2.1 < a.2.1.1) ∧ (∀ o, o ∈ a.2.2.2 → 0 ≤ o ∧ o < a.2.1.1) ∧ ∀ i, i < a.2.1.1 → (a.2.1.2 i).row = [])
  (fun a r d r' => d = .bool ((standSt a.2.1.1 a.2.1.2 a.2.2.1.toNat a.2.2.2) a.2.2.1.toNat).leads ∧ TL a.1.1 a.1.2 a.2.1.1 (fun i => ((standSt a.2.1.1 a.2.1.2 a.2.2.1.toNat a.2.2.2) i).term) (fun i => ((standSt a.2.1.1 a.2.1.2 a.2.2.1.toNat a.2.2.2) i).leads) r') (fun _ _ _ _ => False)
theorem ok__law_stood (T : Tx K mg) : FnOk P w K mg base (L2.CX P w) 1 T.d__law_stood.a T.d__law_stood.fd ["_law_terms", "_law_leads", "_law_k", "_law_others_here"] (sp_stood K) := by
  refine ok_obj T.d__law_stood.F sc__law_stood (fun _ => rfl) fun cdv A outer s H E hr => ⟨_, (pss_cons (ps_asg (pe_op op_add (pe_ix ix_list (pv 0) (pv 2) (fun _ _ => rfl)) pe_int) (pg_sub (pv 0) (pv 2) set_list))
    (pss_cons (ps_set (i := 4) sc__law_stood.nd rfl (by first | exact Or.inl rfl | exact Or.inr rfl) pe_int)
    (pss_cons (ps_for (passes_of rfl) rfl (pi_list (pv 3)) (pg_name (i := 5) sc__law_stood.nd rfl (by first | exact Or.inl rfl | exact Or.inr rfl)) (pss_one (ps_if (pt_cmpR op_lt (pe_ix ix_list (pv 0) (pv 5) (fun _ _ => rfl)) (pe_ix ix_list (pv 0) (pv 2) (fun _ _ => rfl)) (nomark _)) (pss_cons (ps_asg (pe_ix ix_list (pv 0) (pv 2) (fun _ _ => rfl)) (pg_sub (pv 0) (pv 5) set_list))
    (pss_cons (ps_asg pe_bl (pg_sub (pv 1) (pv 5) set_list))
    (pss_one (ps_set (i := 4) sc__law_stood.nd rfl (by first | exact Or.inl rfl | exact Or.inr rfl) (pe_op op_add (pv 4) pe_int))))) pss_nil)))
    (pss_cons (ps_asg (pe_cmpR op_gt (pe_op op_mul pe_int (pv 4)) (pe_callB call_len_seq (by rfl) T.z_len (by decide +kernel) (pa_cons (pv 0) pa_nil)) (nomark _)) (pg_sub (pv 1) (pv 2) set_list))
    (pss_one (ps_ret (pe_ix ix_list (pv 1) (pv 2) (fun _ _ => rfl)))))))), ?_⟩
  rintro ⟨⟨lt, ll⟩, ⟨n, st⟩, k, os⟩ r ⟨h0, hn, hk, hos, hrow⟩
  have h0 : TL lt ll n (fun i => (st i).term) (fun i => (st i).leads) r := h0
  have hn : n ≤ 9 := hn
  have hk : 0 ≤ k ∧ k < n := hk
  have hos : ∀ o, o ∈ os → 0 ≤ o ∧ o < n := hos
  have hrow : ∀ i, i < n → (st i).row = [] := hrow
  have ik : k.toNat < n := by omega
  have et : ∀ {t : Nat → Int} {b : Nat → Bool} {r : MF} {e : SE} {ta : TE} {j : Int}, TL lt ll n t b r → e[0]? = some (.dat (objD lt)) → EvD K (Rmf K) ta e r (.int j) → 0 ≤ j ∧ j < n → EvD K (Rmf K) (tOp (rIxL K) (tVar 0) ta) e r (.int (t j.toNat)) := fun h he hj hr => ev_ixM (ev_var he) hj h.t (rgm_at _ hr.1 hr.2) .int
  have hst1 : ∀ i, (stand1 st k.toNat i).row = (st i).row := fun i => by
    unfold stand1 updS
    split
    · rename_i h; rw [hear_row, h]
    · rfl
  have hkt : stand1 st k.toNat k.toNat = { st k.toNat with term := (st k.toNat).term + 1, leads := false } := by
    unfold stand1 KS.hear
    rw [updS_same, if_pos (by omega)]
  refine sp_seq (N := fun e' r' => e' = [.dat (objD lt), .dat (objD ll), .dat (.int k), .dat (osD os), .hid, .hid] ∧ TL lt ll n (fun i => (stand1 st k.toNat i).term) (fun i => if i = k.toNat then (st k.toNat).leads else (stand1 st k.toNat i).leads) r')
    (sp_setM (d := .int ((st k.toNat).term + 1)) (n := k.toNat) Lift.id (ev_op (et h0 rfl (ev_var rfl) hk) ev_int opI) (ev_var rfl) (ev_var rfl) h0.t (ixN_rgm hk.1 hk.2) fun v ⟨G, hv⟩ => ⟨rfl, ?_⟩) ?_
  · have := h0.setT k.toNat ((st k.toNat).term + 1) (addF r.f v (.int ((st k.toNat).term + 1)))
    rw [hv.int_inv] at this ⊢
    have e1 : updN (fun i => (st i).term) k.toNat ((st k.toNat).term + 1) = fun i => (stand1 st k.toNat i).term := by
      funext i
      by_cases h : i = k.toNat
      · rw [h, updN_same, hkt]
      · rw [updN_ne h]; unfold stand1; rw [updS_ne h]
    have e2 : (fun i => (st i).leads) = fun i => if i = k.toNat then (st k.toNat).leads else (stand1 st k.toNat i).leads := by
      funext i
      by_cases h : i = k.toNat
      · rw [if_pos h, h]
      · rw [if_neg h]; unfold stand1; rw [updS_ne h]
    rw [e1, e2] at this
    exact this
  rintro _ r1 ⟨rfl, h1⟩
  refine sp_asg ev_int ?_
  refine sp_seq (N := fun e' r' => ∃ x, e' = [.dat (objD lt), .dat (objD ll), .dat (.int k), .dat (osD os), .dat (.int (askAll (stand1 st k.toNat) k.toNat os 1).2), x] ∧ TL lt ll n (fun i => ((askAll (stand1 st k.toNat) k.toNat os 1).1 i).term) (fun i => if i = k.toNat then (st k.toNat).leads else ((askAll (stand1 st k.toNat) k.toNat os 1).1 i).leads) r' ∧ ((askAll (stand1 st k.toNat) k.toNat os 1).1 k.toNat).leads = false) ?_ ?_
  · refine sp_forL (ds := os.map .int) (ev_var rfl) (fun j e' r' => ∃ x A, A = (os.take j).foldl (ask1 k.toNat) (stand1 st k.toNat, 1) ∧ e' = [.dat (objD lt), .dat (objD ll), .dat (.int k), .dat (osD os), .dat (.int A.2), x] ∧ TL lt ll n (fun i => (A.1 i).term) (fun i => if i = k.toNat then (st k.toNat).leads else (A.1 i).leads) r' ∧ (A.1 k.toNat).leads = false)
      ⟨_, _, rfl, rfl, h1, by show (stand1 st k.toNat k.toNat).leads = false; rw [hkt]⟩ ?_ ?_
    · rintro j d _ r2 hd ⟨x, A, hA0, rfl, h2, hl⟩
      rw [List.getElem?_map] at hd
      cases ho : os[j]? with
      | none => rw [ho] at hd; cases hd
      | some o =>
        rw [ho] at hd
        have hd : some (PyData.int o) = some d := hd
        injection hd with hd
        subst hd
        have hoo := hos o (List.mem_of_getElem? ho)
        have hio : o.toNat < n := by omega
        have hA := foldl_take_succ (ask1 k.toNat) (stand1 st k.toNat, (1 : Int)) os ho
        rw [← hA0] at hA
        have hR : ∀ i, i < n → (A.1 i).row = [] := fun i hi => by rw [hA0, ← askAll_fold, askAll_row, hst1, hrow i hi]
        refine sp_if (et_test (ev_op (et h2 rfl (ev_var rfl) hoo) (et h2 rfl (ev_var rfl) hk) opB)) (fun h => ?_) fun h => ?_
        · have ht : (A.1 o.toNat).term < (A.1 k.toNat).term := of_decide_eq_true h
          have hne : o.toNat ≠ k.toNat := fun z => by rw [z] at ht; omega
          have hh : (A.1 o.toNat).hear (A.1 k.toNat).term = { A.1 o.toNat with term := (A.1 k.toNat).term, leads := false } := by unfold KS.hear; rw [if_pos ht]
          have hA' : ask1 k.toNat A o = (updS A.1 o.toNat { A.1 o.toNat with term := (A.1 k.toNat).term, leads := false }, A.2 + 1) := by
            unfold ask1
            rw [hh, hR _ ik, hR _ hio, decide_eq_true ht]; rfl
          refine sp_seq (N := fun e' r' => e' = [.dat (objD lt), .dat (objD ll), .dat (.int k), .dat (osD os), .dat (.int A.2), .dat (.int o)] ∧ TL lt ll n (updN (fun i => (A.1 i).term) o.toNat (A.1 k.toNat).term) (fun i => if i = k.toNat then (st k.toNat).leads else (A.1 i).leads) r')
            (sp_setM (n := o.toNat) Lift.id (et h2 rfl (ev_var rfl) hk) (ev_var rfl) (ev_var rfl) h2.t (ixN_rgm hoo.1 hoo.2) fun v ⟨G, hv⟩ => ⟨rfl, by rw [hv.int_inv]; exact h2.setT _ _ _⟩) ?_
          rintro _ r3 ⟨rfl, h3⟩
          refine sp_seq (N := fun e' r' => e' = [.dat (objD lt), .dat (objD ll), .dat (.int k), .dat (osD os), .dat (.int A.2), .dat (.int o)] ∧ TL lt ll n (updN (fun i => (A.1 i).term) o.toNat (A.1 k.toNat).term) (updN (fun i => if i = k.toNat then (st k.toNat).leads else (A.1 i).leads) o.toNat false) r')
            (sp_setM (d := .bool false) (n := o.toNat) Lift.id ev_bl (ev_var rfl) (ev_var rfl) h3.b (ixN_rgm hoo.1 hoo.2) fun v ⟨G, hv⟩ => ⟨rfl, by rw [hv.bl_inv]; exact h3.setB _ _ _⟩) ?_
          rintro _ r4 ⟨rfl, h4⟩
          refine sp_asg1 (ev_op (ev_var rfl) ev_int opI) ⟨.dat (.int o), _, rfl, ?_, ?_, ?_⟩
          · rw [hA, hA']; rfl
          · rw [hA, hA']
            have e1 : updN (fun i => (A.1 i).term) o.toNat (A.1 k.toNat).term = fun i => ((updS A.1 o.toNat { A.1 o.toNat with term := (A.1 k.toNat).term, leads := false }) i).term := by
              funext i
              by_cases q : i = o.toNat
              · rw [q, updN_same, updS_same]
              · rw [updN_ne q, updS_ne q]
            have e2 : updN (fun i => if i = k.toNat then (st k.toNat).leads else (A.1 i).leads) o.toNat false = fun i => if i = k.toNat then (st k.toNat).leads else ((updS A.1 o.toNat { A.1 o.toNat with term := (A.1 k.toNat).term, leads := false }) i).leads := by
              funext i
              by_cases q : i = o.toNat
              · rw [q, updN_same, if_neg hne, updS_same]
              · rw [updN_ne q, updS_ne q]
            rw [e1, e2] at h4
            exact h4
          · rw [hA, hA']
            show (updS A.1 o.toNat _ k.toNat).leads = false
            rw [updS_ne hne.symm]; exact hl
        · have ht : ¬ (A.1 o.toNat).term < (A.1 k.toNat).term := of_decide_eq_false h
          have hh : (A.1 o.toNat).hear (A.1 k.toNat).term = A.1 o.toNat := by unfold KS.hear; rw [if_neg ht]
          have hA' : ask1 k.toNat A o = A := by
            unfold ask1
            rw [hh, updS_self, decide_eq_false ht]; rfl
          exact sp_next ⟨.dat (.int o), _, rfl, by rw [hA, hA'] <;> rfl, by rw [hA, hA']; exact h2, by rw [hA, hA']; exact hl⟩
    · rintro _ r2 ⟨x, A, hA, rfl, h2, hl⟩
      rw [List.length_map, List.take_length, ← askAll_fold] at hA
      exact ⟨x, by rw [hA], by rw [← hA]; exact h2, by rw [← hA]; exact hl⟩
  rintro _ r2 ⟨x, rfl, h2, hl⟩
  have hst : standSt n st k.toNat os = if (n : Int) < 2 * (askAll (stand1 st k.toNat) k.toNat os 1).2 then updS (askAll (stand1 st k.toNat) k.toNat os 1).1 k.toNat (((askAll (stand1 st k.toNat) k.toNat os 1).1 k.toNat).begin_ n) else (askAll (stand1 st k.toNat) k.toNat os 1).1 := rfl
  generalize askAll (stand1 st k.toNat) k.toNat os 1 = A at hst h2 hl
  have et2 : (fun i => ((standSt n st k.toNat os) i).term) = fun i => (A.1 i).term := by
    funext i
    rw [hst]
    split
    · by_cases q : i = k.toNat
      · rw [q, updS_same]; rfl
      · rw [updS_ne q]
    · rfl
  have eb2 : (fun i => ((standSt n st k.toNat os) i).leads) = updN (fun i => if i = k.toNat then (st k.toNat).leads else (A.1 i).leads) k.toNat (decide ((n : Int) < 2 * A.2)) := by
    funext i
    rw [hst]
    by_cases q : i = k.toNat
    · rw [q, updN_same]
      split
      · rename_i h; rw [updS_same, decide_eq_true h]; rfl
      · rename_i h; rw [decide_eq_false h]; exact hl
    · rw [updN_ne q, if_neg q]
      split
      · rw [updS_ne q]
      · rfl
  refine sp_seq (N := fun e' r' => (∃ x y, e' = [.dat (objD lt), .dat (objD ll), .dat (.int k), .dat (osD os), y, x]) ∧ TL lt ll n (fun i => ((standSt n st k.toNat os) i).term) (fun i => ((standSt n st k.toNat os) i).leads) r')
    (sp_setM (d := .bool (decide ((n : Int) < 2 * A.2))) (n := k.toNat) Lift.id (ev_op (ev_op ev_int (ev_var rfl) (opIC (.inl ⟨by decide, by decide⟩))) ((ev_lenM (ev_var rfl) h2.t).is (by unfold tl; rw [List.length_map, List.length_range])) opB) (ev_var rfl) (ev_var rfl) h2.b (ixN_rgm hk.1 hk.2) fun v ⟨G, hv⟩ => ⟨⟨_, _, rfl⟩, by
      rw [hv.bl_inv, et2, eb2]; exact h2.setB _ _ _⟩) ?_
  rintro _ r3 ⟨⟨x, y, rfl⟩, h3⟩
  exact sp_ret (ev_ixM (ev_var rfl) (ev_var rfl) h3.b (rgm_at _ hk.1 hk.2) .bl) ⟨rfl, h3⟩

/-! ## _law_stands -/
theorem sc__law_stands : FnScope ["_law_room", "_law_terms", "_law_leads", "_law_k", "_law_term", "_law_told"] ["_law_room", "_law_terms", "_law_leads"] (defScope s__law_stands) := ⟨rfl, rfl, rfl, by decide +kernel, rfl, by decide +kernel, by decide +kernel⟩
abbrev R6 (K : PySem.W.Frag) (CR CK : Addr) := Rs (RO K CR CK) (Rmf K)
abbrev sp_stands (K : PySem.W.Frag) (CR CK : Addr) : Sp := spX K (R6 K CR CK) (fun a : RSt × Addr × Addr => [objD a.1.p, objD a.2.1, objD a.2.2])
  (fun a r => r.1 = some a.1 ∧ TL a.2.1 a.2.2 a.1.n (fun i => (a.1.st i).term) (fun i => (a.1.st i).leads) r.2 ∧ a.1.n ≤ 9 ∧ (∀ i, i < a.1.n → (a.1.st i).row = []) ∧ ∀ i, i < a.1.n → 0 ≤ (a.1.st i).settled) (fun _ r d r' => d = .bool true ∧ r' = r) (fun _ _ _ _ => False)
theorem ok__law_stands (T : Tx K mg) : FnOk P w K mg base (L2.CX P w) 3 T.d__law_stands.a T.d__law_stands.fd ["_law_room", "_law_terms", "_law_leads"] (sp_stands K T.c_Room T.c_Keeper) := by
  refine ok_obj T.d__law_stands.F sc__law_stands (fun _ => rfl) fun cdv A outer s H E hr => ⟨_, (pss_cons (ps_for (passes_of rfl) rfl (pi_range1 (by rfl) T.z_range (pa_cons (pe_callB call_len_seq (by rfl) T.z_len (by decide +kernel) (pa_cons (pv 1) pa_nil)) pa_nil)) (pg_name (i := 3) sc__law_stands.nd rfl (by first | exact Or.inl rfl | exact Or.inr rfl)) (pss_cons (ps_set (i := 4) sc__law_stands.nd rfl (by first | exact Or.inl rfl | exact Or.inr rfl) (pe_meth (pv 0) T.cl_Room T.d_Room_term_of.m (ok_Room_term_of T) (hr.mono (by decide)) T.d_Room_term_of.b .nil (passX (takes_of rfl rfl rfl rfl)) (pa_cons (pv 3) pa_nil)))
    (pss_cons (ps_set (i := 5) sc__law_stands.nd rfl (by first | exact Or.inl rfl | exact Or.inr rfl) (pe_meth (pv 0) T.cl_Room T.d_Room_leading.m (ok_Room_leading T) (hr.mono (by decide)) T.d_Room_leading.b .nil (passX (takes_of rfl rfl rfl rfl)) (pa_cons (pv 3) pa_nil)))
    (pss_cons (ps_if (PW.pt (pw_or (pt_not (pt_val (pe_call (ok__law_whole T) (hr.mono (by decide)) (by rfl) T.d__law_whole.g T.d__law_whole.F.kp T.d__law_whole.b .nil pass0 (pa_cons (pv 4) pa_nil)))) (pw_or (pt_cmpR op_ne (pv 4) (pe_ix ix_list (pv 1) (pv 3) (fun _ _ => rfl)) (nomark _)) (pw_or (pt_not (pt_val (pe_callB call_isi (by rfl) T.z_isinstance (by decide +kernel) (pa_cons (pv 5) (pa_cons (pe_bltn (v := .ty "bool") (u := .type "bool") (by rfl) T.z_bool (by decide +kernel) rfl) pa_nil))))) (pw_or1 (pt_cmpR op_ne (pv 5) (pe_ix ix_list (pv 2) (pv 3) (fun _ _ => rfl)) (nomark _))))))) (pss_one (ps_ret pe_bl)) pss_nil)
    (pss_one (ps_if (PW.pt (pw_or (pt_cmpR (op_neD hr.units) (pe_meth (pv 0) T.cl_Room T.d_Room_row_of.m (ok_Room_row_of T) (hr.mono (by decide)) T.d_Room_row_of.b .nil (passX (takes_of rfl rfl rfl rfl)) (pa_cons (pv 3) pa_nil)) (pe_lst pa_nil) (nomark _)) (pw_or1 (pt_cmpR (op_neD hr.units) (pe_meth (pv 0) T.cl_Room T.d_Room_settled_of.m (ok_Room_settled_of T) (hr.mono (by decide)) T.d_Room_settled_of.b .nil (passX (takes_of rfl rfl rfl rfl)) (pa_cons (pv 3) pa_nil)) (pe_lst pa_nil) (nomark _))))) (pss_one (ps_ret pe_bl)) pss_nil))))))
    (pss_one (ps_ret pe_bl))), ?_⟩
  rintro ⟨s, lt, ll⟩ ⟨r1, r2⟩ ⟨h0, h1, h2, h3, h4⟩
  have h0 : r1 = some s := h0
  subst h0
  have h1 : TL lt ll s.n (fun i => (s.st i).term) (fun i => (s.st i).leads) r2 := h1
  have h2 : s.n ≤ 9 := h2
  have h3 : ∀ i, i < s.n → (s.st i).row = [] := h3
  have h4 : ∀ i, i < s.n → 0 ≤ (s.st i).settled := h4
  refine sp_seq (N := fun e' r' => r' = (some s, r2)) ?_ ?_
  · refine sp_forR1 (n := (s.n : Int)) (ea_cons (EvD.lift ((ev_lenM (ev_var rfl) h1.t).is (by unfold tl; rw [List.length_map, List.length_range])) Lift.right) ea_nil) ⟨by omega, by omega⟩ (fun j e' r' => r' = (some s, r2) ∧ ∃ x y z, e' = [.dat (objD s.p), .dat (objD lt), .dat (objD ll), x, y, z]) ⟨rfl, _, _, _, rfl⟩ ?_ (fun _ _ h => h.1)
    rintro j _ _ hj ⟨rfl, x, y, z, rfl⟩
    have hji : j < s.n := by omega
    have hjn : ((j : Int)).toNat = j := Int.toNat_natCast j
    refine sp_asg ((ev_term_of Lift.left (ev_var rfl) (ev_var rfl) (by omega) hj).is (by rw [hjn])) ?_
    refine sp_asg ((ev_leading Lift.left (ev_var rfl) (ev_var rfl) (by omega) hj).is (by rw [hjn])) ?_
    have i1 : L2.atI (tl s.n fun i => (s.st i).term) (j : Int) = some (.int (s.st j).term) := by
      have := rgm_at (fun i => V.int (s.st i).term) (n := s.n) (k := (j : Int)) (by omega) hj
      rw [hjn] at this; exact this
    have i2 : L2.atI (bl s.n fun i => (s.st i).leads) (j : Int) = some (.bl (s.st j).leads) := by
      have := rgm_at (fun i => V.bl (s.st i).leads) (n := s.n) (k := (j : Int)) (by omega) hj
      rw [hjn] at this; exact this
    refine sp_when (b := false) ((et_or (a := false) (b := false) (et_not (a := true) (et_B (ev_whole (ev_var rfl)))) fun _ => (et_or (a := false) (b := false) (et_test ((ev_op (ev_var rfl) (EvD.lift (ev_ixM (ev_var rfl) (ev_var rfl) h1.t i1 .int) Lift.right) opNeI).is (by simp))) fun _ =>
      (et_or (a := false) (b := false) (et_not (a := true) (et_B (isi_bool (ev_var rfl)))) fun _ => et_test ((ev_op (ev_var rfl) (EvD.lift (ev_ixM (ev_var rfl) (ev_var rfl) h1.b i2 .bl) Lift.right) opNeB).is (by simp))).is rfl).is rfl).is rfl) (fun h => nomatch h) fun _ => ?_
    refine sp_if (b := false) ((et_or (a := false) (b := false) (et_test ((ev_op (ev_row_of Lift.left (ev_var rfl) (ev_var rfl) (by omega) hj) (ev_lst (ds := []) ea_nil (Nat.zero_le _)) (opNeR (a := (s.st ((j : Int)).toNat).row) (b := []) (by rw [hjn, h3 j hji]; exact rowOk_nil) rowOk_nil)).is (by rw [hjn, h3 j hji]; rfl))) fun _ =>
      et_test ((ev_op (ev_settled_of Lift.left (ev_var rfl) (ev_var rfl) (by omega) hj h4) (ev_lst (ds := []) ea_nil (Nat.zero_le _)) (opNeR (a := (s.st ((j : Int)).toNat).row.take (s.st ((j : Int)).toNat).settled.toNat) (b := []) (by rw [hjn, h3 j hji, List.take_nil]; exact rowOk_nil) rowOk_nil)).is (by rw [hjn, h3 j hji, List.take_nil]; rfl))).is rfl) (fun h => nomatch h) fun _ => ?_
    exact sp_next ⟨rfl, _, _, _, rfl⟩
  · rintro _ _ rfl
    exact sp_ret ev_bl ⟨rfl, rfl⟩

/-! ## law -/
theorem sc_law : FnScope ["_law_script", "_law_count", "_law_room", "_law_terms", "_law_leads", "_law_at", "_law_some", "_law_k", "_law_others_here", "_law_handed", "_law_told", "_law_due"] ["_law_script"] (defScope s_law) := ⟨rfl, rfl, rfl, by decide +kernel, rfl, by decide +kernel, by decide +kernel⟩
def cnt6 : List PyData := [.int 1, .int 2, .int 3, .int 3, .int 4, .int 5, .int 6, .int 7, .int 8, .int 9]
theorem cnt6_at {k : Int} (h0 : 0 ≤ k) (h1 : k < 10) : ∃ x, L2.atI cnt6 k = some (.int x) ∧ 1 ≤ x ∧ x ≤ 9 := by
  have : k = 0 ∨ k = 1 ∨ k = 2 ∨ k = 3 ∨ k = 4 ∨ k = 5 ∨ k = 6 ∨ k = 7 ∨ k = 8 ∨ k = 9 := by omega
  rcases this with rfl | rfl | rfl | rfl | rfl | rfl | rfl | rfl | rfl | rfl
  all_goals exact ⟨_, rfl, by decide, by decide⟩
structure K6 (p lt ll : Addr) (n : Nat) (r : Option RSt × MF) (s : RSt) : Prop where
  r1 : r.1 = some s
  hp : s.p = p
  hn : s.n = n
  t : TL lt ll n (fun i => (s.st i).term) (fun i => (s.st i).leads) r.2
  e : ∀ i, i < n → (s.st i).row = []
  z : ∀ i, i < n → 0 ≤ (s.st i).settled
theorem ok_law (T : Tx K mg) : FnOk P w K mg base CX0 5 T.d_law.a T.d_law.fd ["_law_script"] (spTrue K) := by
  refine ok_forget (R := R6 K T.c_Room T.c_Keeper) T.d_law.F sc_law (fun _ => rfl) (none, ⟨fun _ => none, fun _ _ => False⟩) (fun G => ⟨fun _ => none, fun _ => none, fun _ => rfl, fun _ _ => rfl, fun _ => rfl, rfl, fun _ _ z => z.elim⟩) fun cdv A outer s H E hr => ⟨_, (pss_cons (ps_set (i := 1) sc_law.nd rfl (by first | exact Or.inl rfl | exact Or.inr rfl) (pe_ix ix_list (pe_lst (pa_cons pe_int (pa_cons pe_int (pa_cons pe_int (pa_cons pe_int (pa_cons pe_int (pa_cons pe_int (pa_cons pe_int (pa_cons pe_int (pa_cons pe_int (pa_cons pe_int pa_nil))))))))))) (pe_op op_mod (pe_call (ok__law_mixed T) (hr.mono (by decide)) (by rfl) T.d__law_mixed.g T.d__law_mixed.F.kp T.d__law_mixed.b .nil pass0 (pa_cons (pv 0) (pa_cons pe_int pa_nil))) pe_int) (fun _ _ => rfl)))
    (pss_cons (ps_set (i := 2) sc_law.nd rfl (by first | exact Or.inl rfl | exact Or.inr rfl) (pe_make T.d_Room_init.m (ok_Room_init T) (hr.mono (by decide)) (by rfl) T.mg_Room T.d_Room_init.b .nil passL (pa_cons (pv 1) pa_nil)))
    (pss_cons (ps_set (i := 3) sc_law.nd rfl (by first | exact Or.inl rfl | exact Or.inr rfl) (pe_op op_rep (pe_lst (pa_cons pe_int pa_nil)) (pv 1)))
    (pss_cons (ps_set (i := 4) sc_law.nd rfl (by first | exact Or.inl rfl | exact Or.inr rfl) (pe_op op_rep (pe_lst (pa_cons pe_bl pa_nil)) (pv 1)))
    (pss_cons (ps_for PassesOwn.never rfl (pi_range2 (by rfl) T.z_range (pa_cons pe_int (pa_cons (pe_callB call_len_seq (by rfl) T.z_len (by decide +kernel) (pa_cons (pv 0) pa_nil)) pa_nil))) (pg_name (i := 5) sc_law.nd rfl (by first | exact Or.inl rfl | exact Or.inr rfl)) (pss_cons (ps_set (i := 6) sc_law.nd rfl (by first | exact Or.inl rfl | exact Or.inr rfl) (pe_call (ok__law_drawn T) (hr.mono (by decide)) (by rfl) T.d__law_drawn.g T.d__law_drawn.F.kp T.d__law_drawn.b .nil pass0 (pa_cons (pe_call (ok__law_mixed T) (hr.mono (by decide)) (by rfl) T.d__law_mixed.g T.d__law_mixed.F.kp T.d__law_mixed.b .nil pass0 (pa_cons (pv 0) (pa_cons (pv 5) pa_nil))) (pa_cons (pe_lst (pa_cons pe_int (pa_cons pe_int (pa_cons pe_int (pa_cons pe_int pa_nil))))) pa_nil))))
    (pss_cons (ps_set (i := 7) sc_law.nd rfl (by first | exact Or.inl rfl | exact Or.inr rfl) (pe_op op_mod (pe_ix ix_list (pv 6) pe_int (fun _ _ => rfl)) (pv 1)))
    (pss_cons (ps_if (pt_cmpR op_eq (pe_ix ix_list (pv 6) pe_int (fun _ _ => rfl)) pe_int (nomark _)) (pss_cons (ps_asg pe_bl (pg_sub (pv 4) (pv 7) set_list))
    (pss_one (ps_if (pt_cmp (pc_notN (pe_meth (pv 2) T.cl_Room T.d_Room_rest.m (ok_Room_rest T) (hr.mono (by decide)) T.d_Room_rest.b .nil passL (pa_cons (pv 7) pa_nil)))) (pss_one (ps_ret pe_bl)) pss_nil))) (pss_cons (ps_set (i := 8) sc_law.nd rfl (by first | exact Or.inl rfl | exact Or.inr rfl) (pe_call (ok__law_others T) (hr.mono (by decide)) (by rfl) T.d__law_others.g T.d__law_others.F.kp T.d__law_others.b .nil pass0 (pa_cons (pv 1) (pa_cons (pe_ix ix_list (pv 6) pe_int (fun _ _ => rfl)) (pa_cons (pe_ix ix_list (pv 6) pe_int (fun _ _ => rfl)) pa_nil)))))
    (pss_cons (ps_set (i := 9) sc_law.nd rfl (by first | exact Or.inl rfl | exact Or.inr rfl) (pe_callTy call_list_of (by rfl) T.z_list (by decide +kernel) (pa_cons (pv 8) pa_nil)))
    (pss_cons (ps_set (i := 10) sc_law.nd rfl (by first | exact Or.inl rfl | exact Or.inr rfl) (pe_meth (pv 2) T.cl_Room T.d_Room_stand.m (ok_Room_stand T) (hr.mono (by decide)) T.d_Room_stand.b .nil passL (pa_cons (pv 7) (pa_cons (pv 9) pa_nil))))
    (pss_cons (ps_set (i := 11) sc_law.nd rfl (by first | exact Or.inl rfl | exact Or.inr rfl) (pe_call (ok__law_stood T) (hr.mono (by decide)) (by rfl) T.d__law_stood.g T.d__law_stood.F.kp T.d__law_stood.b .nil passL (pa_cons (pv 3) (pa_cons (pv 4) (pa_cons (pv 7) (pa_cons (pv 8) pa_nil))))))
    (pss_one (ps_if (PW.pt (pw_or (pt_not (pt_val (pe_callB call_isi (by rfl) T.z_isinstance (by decide +kernel) (pa_cons (pv 10) (pa_cons (pe_bltn (v := .ty "bool") (u := .type "bool") (by rfl) T.z_bool (by decide +kernel) rfl) pa_nil))))) (pw_or (pt_cmpR op_ne (pv 10) (pv 11) (nomark _)) (pw_or1 (pt_cmpR (op_neD hr.units) (pv 9) (pv 8) (nomark _)))))) (pss_one (ps_ret pe_bl)) pss_nil)))))))
    (pss_one (ps_if (pt_not (pt_val (pe_call (ok__law_stands T) (hr.mono (by decide)) (by rfl) T.d__law_stands.g T.d__law_stands.F.kp T.d__law_stands.b .nil passL (pa_cons (pv 2) (pa_cons (pv 3) (pa_cons (pv 4) pa_nil)))))) (pss_one (ps_ret pe_bl)) pss_nil))))))
    (pss_one (ps_ret (pe_call (ok__law_stands T) (hr.mono (by decide)) (by rfl) T.d__law_stands.g T.d__law_stands.F.kp T.d__law_stands.b .nil passL (pa_cons (pv 2) (pa_cons (pv 3) (pa_cons (pv 4) pa_nil))))))))))), ?_⟩
  rintro ns hns
  have hns : ns.length ≤ 63 := hns
  have h0 : 0 ≤ mixed ns 0 % 10 := Int.emod_nonneg _ (by decide)
  have h1 : mixed ns 0 % 10 < 10 := Int.emod_lt_of_pos _ (by decide)
  obtain ⟨n, hn, hn1, hn9⟩ := cnt6_at h0 h1
  refine sp_asg (ev_op (d1 := .list cnt6) (ev_lst (ea_cons ev_int (ea_cons ev_int (ea_cons ev_int (ea_cons ev_int (ea_cons ev_int (ea_cons ev_int (ea_cons ev_int (ea_cons ev_int (ea_cons ev_int (ea_cons ev_int ea_nil)))))))))) (by show 10 ≤ sizeLine; decide)) (ev_op (ev_mixed (ev_var rfl) ev_int (by decide)) ev_int (opIC (by decide))) (opIxL hn)) ?_
  clear hn h0 h1
  refine sp_asgS (EvS.lift (ev_room rfl (fun r => ea_cons (ev_var rfl) ea_nil) hn1 hn9) Lift.left (P' := fun d r' => ∃ p, d = objD p ∧ r' = (some ⟨p, n.toNat, fun _ => {}⟩, ⟨fun _ => none, fun _ _ => False⟩)) (fun d r' ⟨p, e1, e2⟩ => ⟨p, e1, by rw [e2]⟩)) ?_
  rintro _ _ ⟨p, rfl, rfl⟩
  refine sp_asgS (EvS.lift (EvF.toM (ds := List.replicate n.toNat (.int 0)) (by
      rw [← flat_rep]
      exact evf_op (ev_lst (ea_cons ev_int ea_nil) (by show 1 ≤ sizeLine; decide)) (ev_var rfl) (opRep (by omega) (by omega) (by rw [sizeLine_eq]; show 1 * n.toNat ≤ _; omega)))) Lift.right (P' := fun d r' => ∃ lt r2, d = objD lt ∧ r' = (some ⟨p, n.toNat, fun _ => {}⟩, r2) ∧ r2.m lt = some (.lst (tl n.toNat fun _ => 0))) ?_) ?_
  · rintro d r' ⟨l, vs, rfl, _, _, ⟨G, hG⟩, rfl⟩
    exact ⟨l, _, rfl, rfl, by show upd _ _ _ _ = _; rw [upd_same, tl_rep, hG.rep_int]⟩
  rintro _ _ ⟨lt, r2, rfl, rfl, hlt⟩
  refine sp_asgS (EvS.lift (EvF.toM (ds := List.replicate n.toNat (.bool false)) (by
      rw [← flat_rep]
      exact evf_op (ev_lst (ea_cons ev_bl ea_nil) (by show 1 ≤ sizeLine; decide)) (ev_var rfl) (opRep (by omega) (by omega) (by rw [sizeLine_eq]; show 1 * n.toNat ≤ _; omega)))) Lift.right (P' := fun d r' => ∃ ll r3, d = objD ll ∧ r' = (some ⟨p, n.toNat, fun _ => {}⟩, r3) ∧ TL lt ll n.toNat (fun _ => 0) (fun _ => false) r3) ?_) ?_
  · rintro d r' ⟨l, vs, rfl, hl, _, ⟨G, hG⟩, rfl⟩
    have hne : lt ≠ l := fun z => by rw [z, hl] at hlt; cases hlt
    exact ⟨l, _, rfl, rfl, by show upd _ _ _ _ = _; rw [upd_ne hne]; exact hlt, by show upd _ _ _ _ = _; rw [upd_same, bl_rep, hG.rep_bool], hne⟩
  rintro _ _ ⟨ll, r3, rfl, rfl, hTL⟩
  have hI0 : K6 p lt ll n.toNat (some ⟨p, n.toNat, fun _ => {}⟩, r3) ⟨p, n.toNat, fun _ => {}⟩ := ⟨rfl, rfl, rfl, hTL, fun _ _ => rfl, fun _ _ => Int.le_refl 0⟩
  have stands : ∀ {e : SE} {r : Option RSt × MF} {s : RSt}, K6 p lt ll n.toNat r s → e[2]? = some (.dat (objD p)) → e[3]? = some (.dat (objD lt)) → e[4]? = some (.dat (objD ll)) → EvD K (R6 K T.c_Room T.c_Keeper) (tCall (sp_stands K T.c_Room T.c_Keeper) [] E0 (tCons (tVar 2) (tCons (tVar 3) (tCons (tVar 4) tNil)))) e r (.bool true) := fun {e r s} h e2 e3 e4 =>
    EvX.s (evx_call (s, lt, ll) (ea_cons (ev_var (by rw [e2, h.hp])) (ea_cons (ev_var e3) (ea_cons (ev_var e4) ea_nil))) ⟨h.r1, by rw [h.hn]; exact h.t, by show s.n ≤ 9; rw [h.hn]; omega, by rw [h.hn]; exact h.e, by rw [h.hn]; exact h.z⟩) fun _ _ z => z
  refine sp_seq (N := fun e' r' => ∃ s x5 x6 x7 x8 x9 x10 x11, e' = [.dat (scrD ns), .dat (.int n), .dat (objD p), .dat (objD lt), .dat (objD ll), x5, x6, x7, x8, x9, x10, x11] ∧ K6 p lt ll n.toNat r' s) ?_ ?_
  · refine sp_forR2 (lo := 1) (n := (ns.length : Int)) (ea_cons ev_int (ea_cons (ev_cb (ea_cons (ev_var rfl) ea_nil) cbLenScr) ea_nil)) ⟨by decide, by decide, by omega, by omega⟩
      (fun _ e' r' => ∃ s x5 x6 x7 x8 x9 x10 x11, e' = [.dat (scrD ns), .dat (.int n), .dat (objD p), .dat (objD lt), .dat (objD ll), x5, x6, x7, x8, x9, x10, x11] ∧ K6 p lt ll n.toNat r' s) ⟨_, _, _, _, _, _, _, _, rfl, hI0⟩ ?_ (fun _ _ h => h)
    rintro j _ ⟨r1, r2⟩ hj ⟨s, x5, x6, x7, x8, x9, x10, x11, rfl, hI⟩
    have hr1 : r1 = some s := hI.r1
    subst hr1
    refine sp_asg (ev_drawn (zs := [8, 9, 5, 512]) (ev_mixed (ev_var rfl) (ev_var rfl) (by omega)) (ev_lst (ea_cons ev_int (ea_cons ev_int (ea_cons ev_int (ea_cons ev_int ea_nil)))) (by show 4 ≤ sizeLine; decide)) (by decide) (by decide)) ?_
    generalize mixed ns (1 + (j : Int)) = q
    have hd : osD (drawnL q [8, 9, 5, 512]) = .list [.int (q % 8), .int (q / 8 % 9), .int (q / 8 / 9 % 5), .int (q / 8 / 9 / 5 % 512)] := rfl
    rw [hd]
    refine sp_asg (ev_op (ev_op (ev_var rfl) ev_int (opIxL (d := .int (q / 8 % 9)) rfl)) (ev_var rfl) (opIC (show (0 : Int) < n by omega))) ?_
    have hk0 : 0 ≤ q / 8 % 9 % n := Int.emod_nonneg _ (by omega)
    have hk1 : q / 8 % 9 % n < n := Int.emod_lt_of_pos _ (by omega)
    generalize q / 8 % 9 % n = k at hk0 hk1
    have hkn : k < s.n := by rw [hI.hn]; omega
    have hkn' : k.toNat < n.toNat := by omega
    refine sp_seq (N := fun e' r' => ∃ s x5 x6 x7 x8 x9 x10 x11, e' = [.dat (scrD ns), .dat (.int n), .dat (objD p), .dat (objD lt), .dat (objD ll), x5, x6, x7, x8, x9, x10, x11] ∧ K6 p lt ll n.toNat r' s) ?_ ?_
    · refine sp_if (et_test (ev_op (ev_op (ev_var rfl) ev_int (opIxL (d := .int (q % 8)) rfl)) ev_int opEqI)) (fun _ => ?_) fun _ => ?_
      · refine sp_seq (N := fun e' r' => ∃ x5 x6 x8 x9 x10 x11 r3, e' = [.dat (scrD ns), .dat (.int n), .dat (objD p), .dat (objD lt), .dat (objD ll), x5, x6, .dat (.int k), x8, x9, x10, x11] ∧ r' = (some s, r3) ∧ TL lt ll n.toNat (fun i => (s.st i).term) (updN (fun i => (s.st i).leads) k.toNat false) r3)
          (sp_setM (d := .bool false) (n := k.toNat) Lift.right ev_bl (ev_var rfl) (ev_var rfl) hI.t.b (ixN_rgm hk0 (by omega)) fun v ⟨G, hv⟩ => ⟨_, _, _, _, _, _, _, rfl, rfl, by rw [hv.bl_inv]; exact hI.t.setB _ _ _⟩) ?_
        rintro _ _ ⟨x5, x6, x8, x9, x10, x11, r3, rfl, rfl, hT⟩
        refine sp_ifS (evts_notN (PB := fun b r' => b = false ∧ r' = (some (s.rest k.toNat), r3)) (es_rest Lift.left (ev_var (by rw [hI.hp] <;> rfl)) (ev_var rfl) hk0 hkn) ?_) ?_ ?_
        · rintro d r' ⟨rfl, rfl⟩
          exact ⟨rfl, rfl⟩
        · rintro r' ⟨h, _⟩
          cases h
        · rintro r' ⟨_, rfl⟩
          refine sp_next ⟨s.rest k.toNat, _, _, _, _, _, _, _, rfl, ⟨rfl, hI.hp, hI.hn, ?_, fun i hi => ?_, fun i hi => ?_⟩⟩
          · have e1 : (fun i => (s.st i).term) = fun i => ((s.rest k.toNat).st i).term := by
              funext i
              show _ = (updS s.st k.toNat _ i).term
              by_cases h : i = k.toNat
              · rw [h, updS_same]
              · rw [updS_ne h]
            have e2 : updN (fun i => (s.st i).leads) k.toNat false = fun i => ((s.rest k.toNat).st i).leads := by
              funext i
              show _ = (updS s.st k.toNat _ i).leads
              by_cases h : i = k.toNat
              · rw [h, updS_same, updN_same]
              · rw [updS_ne h, updN_ne h]
            rw [e1, e2] at hT
            exact hT
          · show (updS s.st k.toNat _ i).row = []
            by_cases h : i = k.toNat
            · rw [h, updS_same]; exact hI.e _ hkn'
            · rw [updS_ne h]; exact hI.e i hi
          · show 0 ≤ (updS s.st k.toNat _ i).settled
            by_cases h : i = k.toNat
            · rw [h, updS_same]; exact Int.le_refl 0
            · rw [updS_ne h]; exact hI.z i hi
      · refine sp_asgS (evs_call (n, q / 8 / 9 % 5, q / 8 / 9 / 5 % 512) (ea_cons (ev_var rfl) (ea_cons (ev_op (ev_var rfl) ev_int (opIxL rfl)) (ea_cons (ev_op (ev_var rfl) ev_int (opIxL rfl)) ea_nil))) (by exact ⟨hn1, hn9⟩)) ?_
        rintro _ _ ⟨⟨os, rfl, ho1, ho2⟩, rfl⟩
        have ho2 : ∀ o, o ∈ os → 0 ≤ o ∧ o < n := ho2
        refine sp_asg (EvF.ev (evf_cb (ea_cons (ev_var (d := osD os) rfl) ea_nil) cbList)) ?_
        refine sp_asgS (es_stand (os := os) Lift.left (ev_var (by rw [hI.hp] <;> rfl)) (ev_var rfl) (ev_var rfl) hk0 hkn ⟨fun i hi => by rw [hI.e i (by rw [← hI.hn]; exact hi)]; exact rowOk_nil, by rw [hI.hn]; omega, ho1, fun o ho => by rw [hI.hn]; have := ho2 o ho; omega⟩) ?_
        rintro _ _ ⟨rfl, rfl⟩
        refine sp_asgS (EvS.lift (EvX.s (evx_call ((lt, ll), (n.toNat, s.st), k, os) (ea_cons (ev_var rfl) (ea_cons (ev_var rfl) (ea_cons (ev_var rfl) (ea_cons (ev_var rfl) ea_nil)))) (by exact ⟨hI.t, by show n.toNat ≤ 9; omega, by show 0 ≤ k ∧ k < (n.toNat : Int); omega, fun o ho => by have := ho2 o ho; show 0 ≤ o ∧ o < (n.toNat : Int); omega, hI.e⟩)) (fun _ _ z => z)) Lift.right (P' := fun d r' => d = .bool ((standSt n.toNat s.st k.toNat os) k.toNat).leads ∧ ∃ r3, r' = (some (s.stand k.toNat os), r3) ∧ TL lt ll n.toNat (fun i => ((standSt n.toNat s.st k.toNat os) i).term) (fun i => ((standSt n.toNat s.st k.toNat os) i).leads) r3) (fun d r' z => ⟨z.1, r', rfl, z.2⟩)) ?_
        rintro _ _ ⟨rfl, r3, rfl, hT⟩
        have est : (s.stand k.toNat os).st = standSt n.toNat s.st k.toNat os := by unfold RSt.stand; rw [hI.hn]
        refine sp_if (b := false) ((et_or (a := false) (b := false) (et_not (a := true) (et_B (isi_bool (ev_var rfl)))) fun _ => (et_or (a := false) (b := false) (et_test ((ev_op (ev_var rfl) (ev_var rfl) opNeB).is (by rw [est]; simp))) fun _ => et_test ((ev_op (ev_var rfl) (ev_var rfl) (opNeIs (a := os) (b := os))).is (by simp))).is rfl).is rfl) (fun h => nomatch h) fun _ => ?_
        refine sp_next ⟨s.stand k.toNat os, _, _, _, _, _, _, _, rfl, ⟨rfl, hI.hp, hI.hn, by rw [est]; exact hT, fun i hi => ?_, fun i hi => ?_⟩⟩
        · rw [est, standSt_row]; exact hI.e i hi
        · rw [est, standSt_settled]; exact hI.z i hi
    · rintro _ ⟨r1, r2⟩ ⟨s, x5, x6, x7, x8, x9, x10, x11, rfl, hI⟩
      refine sp_if (b := false) (et_not (a := true) (et_B (stands hI rfl rfl rfl))) (fun h => nomatch h) fun _ => ?_
      exact sp_next ⟨s, _, _, _, _, _, _, _, rfl, hI⟩
  · rintro _ ⟨r1, r2⟩ ⟨s, x5, x6, x7, x8, x9, x10, x11, rfl, hI⟩
    exact sp_ret (stands hI rfl rfl rfl) rfl

end
theorem all_mk {l : PySem.W.OpenLaw} {w : World} {K : PySem.W.Frag} {h : Heap} {mg : Str → Option Value} {fa : Addr} (X : K.In h) (G : h.Ns mainGlobals mg) (hfa : mg "law" = some (.ref fa))
    {c_RoomError c_NoRoom c_NoKeeper c_NotLeading c_Keeper c_Room f_last_term f_as_new f_Keeper_init f_Keeper_hear f_Keeper_asked f_Keeper_begin f_Room_init f_Room_keeper f_Room_leader f_Room_stand f_Room_write f_Room_rest f_Room_term_of f_Room_row_of f_Room_leading f_Room_settled_of f__law_cell_at f__law_mixed f__law_drawn f__law_whole f__law_others f__law_stood f__law_stands f_law : Addr}
    {od_last_term an_last_term od_as_new an_as_new od_Keeper_init an_Keeper_init od_Keeper_hear an_Keeper_hear od_Keeper_asked an_Keeper_asked od_Keeper_begin an_Keeper_begin od_Room_init an_Room_init od_Room_keeper an_Room_keeper od_Room_leader an_Room_leader od_Room_stand an_Room_stand od_Room_write an_Room_write od_Room_rest an_Room_rest od_Room_term_of an_Room_term_of od_Room_row_of an_Room_row_of od_Room_leading an_Room_leading od_Room_settled_of an_Room_settled_of od__law_cell_at an__law_cell_at od__law_mixed an__law_mixed od__law_drawn an__law_drawn od__law_whole an__law_whole od__law_others an__law_others od__law_stood an__law_stood od__law_stands an__law_stands od_law an_law : Option Addr} {sl_last_term sl_as_new sl_Keeper_init sl_Keeper_hear sl_Keeper_asked sl_Keeper_begin sl_Room_init sl_Room_keeper sl_Room_leader sl_Room_stand sl_Room_write sl_Room_rest sl_Room_term_of sl_Room_row_of sl_Room_leading sl_Room_settled_of sl__law_cell_at sl__law_mixed sl__law_drawn sl__law_whole sl__law_others sl__law_stood sl__law_stands sl_law : Array (Option Value)} {t_MOST : Tok}
    {oc_last_term kV_last_term dc_last_term pm_last_term cd_last_term ct_last_term oc_as_new kV_as_new dc_as_new pm_as_new cd_as_new ct_as_new oc_Keeper_init kV_Keeper_init dc_Keeper_init pm_Keeper_init cd_Keeper_init ct_Keeper_init oc_Keeper_hear kV_Keeper_hear dc_Keeper_hear pm_Keeper_hear cd_Keeper_hear ct_Keeper_hear oc_Keeper_asked kV_Keeper_asked dc_Keeper_asked pm_Keeper_asked cd_Keeper_asked ct_Keeper_asked oc_Keeper_begin kV_Keeper_begin dc_Keeper_begin pm_Keeper_begin cd_Keeper_begin ct_Keeper_begin oc_Room_init kV_Room_init dc_Room_init pm_Room_init cd_Room_init ct_Room_init oc_Room_keeper kV_Room_keeper dc_Room_keeper pm_Room_keeper cd_Room_keeper ct_Room_keeper oc_Room_leader kV_Room_leader dc_Room_leader pm_Room_leader cd_Room_leader ct_Room_leader oc_Room_stand kV_Room_stand dc_Room_stand pm_Room_stand cd_Room_stand ct_Room_stand oc_Room_write kV_Room_write dc_Room_write pm_Room_write cd_Room_write ct_Room_write oc_Room_rest kV_Room_rest dc_Room_rest pm_Room_rest cd_Room_rest ct_Room_rest oc_Room_term_of kV_Room_term_of dc_Room_term_of pm_Room_term_of cd_Room_term_of ct_Room_term_of oc_Room_row_of kV_Room_row_of dc_Room_row_of pm_Room_row_of cd_Room_row_of ct_Room_row_of oc_Room_leading kV_Room_leading dc_Room_leading pm_Room_leading cd_Room_leading ct_Room_leading oc_Room_settled_of kV_Room_settled_of dc_Room_settled_of pm_Room_settled_of cd_Room_settled_of ct_Room_settled_of oc__law_cell_at kV__law_cell_at dc__law_cell_at pm__law_cell_at cd__law_cell_at ct__law_cell_at oc__law_mixed kV__law_mixed dc__law_mixed pm__law_mixed cd__law_mixed ct__law_mixed oc__law_drawn kV__law_drawn dc__law_drawn pm__law_drawn cd__law_drawn ct__law_drawn oc__law_whole kV__law_whole dc__law_whole pm__law_whole cd__law_whole ct__law_whole oc__law_others kV__law_others dc__law_others pm__law_others cd__law_others ct__law_others oc__law_stood kV__law_stood dc__law_stood pm__law_stood cd__law_stood ct__law_stood oc__law_stands kV__law_stands dc__law_stands pm__law_stands cd__law_stands ct__law_stands oc_law kV_law dc_law pm_law cd_law ct_law : Value}
    (aC_RoomError : PySem.W.nsIn K mainGlobals "RoomError" = some (some (.ref c_RoomError)))
    (x_RoomError : PySem.W.excIn K c_RoomError [.type "ValueError", .type "Exception", .type "BaseException", .type "object"] "ValueError.__new__" = true)
    (kx_RoomError : PySem.W.keepIn K (.ref c_RoomError) = true)
    (bx_RoomError : PySem.W.subIn K (.ref c_RoomError) (.type "BaseException") = some true)
    (tx_RoomError : PySem.W.typeIn K (.ref c_RoomError) = some (.type "type"))
    (hx_RoomError : PySem.W.hasDictIn K c_RoomError = true)
    (aC_NoRoom : PySem.W.nsIn K mainGlobals "NoRoom" = some (some (.ref c_NoRoom)))
    (x_NoRoom : PySem.W.excIn K c_NoRoom [.type "ValueError", .type "Exception", .type "BaseException", .type "object"] "ValueError.__new__" = true)
    (kx_NoRoom : PySem.W.keepIn K (.ref c_NoRoom) = true)
    (bx_NoRoom : PySem.W.subIn K (.ref c_NoRoom) (.type "BaseException") = some true)
    (tx_NoRoom : PySem.W.typeIn K (.ref c_NoRoom) = some (.type "type"))
    (hx_NoRoom : PySem.W.hasDictIn K c_NoRoom = true)
    (aC_NoKeeper : PySem.W.nsIn K mainGlobals "NoKeeper" = some (some (.ref c_NoKeeper)))
    (x_NoKeeper : PySem.W.excIn K c_NoKeeper [.type "ValueError", .type "Exception", .type "BaseException", .type "object"] "ValueError.__new__" = true)
    (kx_NoKeeper : PySem.W.keepIn K (.ref c_NoKeeper) = true)
    (bx_NoKeeper : PySem.W.subIn K (.ref c_NoKeeper) (.type "BaseException") = some true)
    (tx_NoKeeper : PySem.W.typeIn K (.ref c_NoKeeper) = some (.type "type"))
    (hx_NoKeeper : PySem.W.hasDictIn K c_NoKeeper = true)
    (aC_NotLeading : PySem.W.nsIn K mainGlobals "NotLeading" = some (some (.ref c_NotLeading)))
    (x_NotLeading : PySem.W.excIn K c_NotLeading [.type "ValueError", .type "Exception", .type "BaseException", .type "object"] "ValueError.__new__" = true)
    (kx_NotLeading : PySem.W.keepIn K (.ref c_NotLeading) = true)
    (bx_NotLeading : PySem.W.subIn K (.ref c_NotLeading) (.type "BaseException") = some true)
    (tx_NotLeading : PySem.W.typeIn K (.ref c_NotLeading) = some (.type "type"))
    (hx_NotLeading : PySem.W.hasDictIn K c_NotLeading = true)
    (aC_Keeper : PySem.W.nsIn K mainGlobals "Keeper" = some (some (.ref c_Keeper)))
    (pg_Keeper : PySem.W.plainGet K c_Keeper Str.empty = true)
    (hd_Keeper : PySem.W.hasDictIn K c_Keeper = true)
    (po_Keeper : PySem.W.plainOver K c_Keeper = true)
    (sa_Keeper : PySem.W.findIn K (.ref c_Keeper) "__setattr__" = some (some (.builtin "object.__setattr__")))
    (mk_Keeper : PySem.W.makesIn K c_Keeper = true)
    (kc_Keeper : PySem.W.keepIn K (.ref c_Keeper) = true)
    (na_Keeper_term : PySem.W.findIn K (.ref c_Keeper) "term" = some none)
    (na_Keeper_row : PySem.W.findIn K (.ref c_Keeper) "row" = some none)
    (na_Keeper_leads : PySem.W.findIn K (.ref c_Keeper) "leads" = some none)
    (na_Keeper_settled : PySem.W.findIn K (.ref c_Keeper) "settled" = some none)
    (na_Keeper_ahead : PySem.W.findIn K (.ref c_Keeper) "ahead" = some none)
    (na_Keeper_held : PySem.W.findIn K (.ref c_Keeper) "held" = some none)
    (aC_Room : PySem.W.nsIn K mainGlobals "Room" = some (some (.ref c_Room)))
    (pg_Room : PySem.W.plainGet K c_Room Str.empty = true)
    (hd_Room : PySem.W.hasDictIn K c_Room = true)
    (po_Room : PySem.W.plainOver K c_Room = true)
    (sa_Room : PySem.W.findIn K (.ref c_Room) "__setattr__" = some (some (.builtin "object.__setattr__")))
    (mk_Room : PySem.W.makesIn K c_Room = true)
    (kc_Room : PySem.W.keepIn K (.ref c_Room) = true)
    (na_Room_keepers : PySem.W.findIn K (.ref c_Room) "keepers" = some none)
    (a_last_term : PySem.W.nsIn K mainGlobals "last_term" = some (some (.ref f_last_term)))
    (l_last_term : K.lookup f_last_term = some ⟨oc_last_term, od_last_term, .func (PySem.W.fnOf "last_term" "last_term" (defArgs s_last_term) (defBody s_last_term) (defScope s_last_term) .none kV_last_term dc_last_term pm_last_term an_last_term cd_last_term ct_last_term), sl_last_term⟩)
    (c_last_term_ : PySem.W.codeIn K cd_last_term "last_term" = true)
    (k_last_term : PySem.W.keepIn K (.ref f_last_term) = true)
    (a_as_new : PySem.W.nsIn K mainGlobals "as_new" = some (some (.ref f_as_new)))
    (l_as_new : K.lookup f_as_new = some ⟨oc_as_new, od_as_new, .func (PySem.W.fnOf "as_new" "as_new" (defArgs s_as_new) (defBody s_as_new) (defScope s_as_new) .none kV_as_new dc_as_new pm_as_new an_as_new cd_as_new ct_as_new), sl_as_new⟩)
    (c_as_new_ : PySem.W.codeIn K cd_as_new "as_new" = true)
    (k_as_new : PySem.W.keepIn K (.ref f_as_new) = true)
    (a_Keeper_init : PySem.W.findIn K (.ref c_Keeper) "__init__" = some (some (.ref f_Keeper_init)))
    (i_Keeper_init : PySem.W.isFn K (.ref f_Keeper_init) = true)
    (l_Keeper_init : K.lookup f_Keeper_init = some ⟨oc_Keeper_init, od_Keeper_init, .func (PySem.W.fnOf "__init__" "Keeper.__init__" (defArgs s_Keeper_init) (defBody s_Keeper_init) (defScope s_Keeper_init) .none kV_Keeper_init dc_Keeper_init pm_Keeper_init an_Keeper_init cd_Keeper_init ct_Keeper_init), sl_Keeper_init⟩)
    (c_Keeper_init_ : PySem.W.codeIn K cd_Keeper_init "Keeper.__init__" = true)
    (k_Keeper_init : PySem.W.keepIn K (.ref f_Keeper_init) = true)
    (a_Keeper_hear : PySem.W.findIn K (.ref c_Keeper) "hear" = some (some (.ref f_Keeper_hear)))
    (i_Keeper_hear : PySem.W.isFn K (.ref f_Keeper_hear) = true)
    (l_Keeper_hear : K.lookup f_Keeper_hear = some ⟨oc_Keeper_hear, od_Keeper_hear, .func (PySem.W.fnOf "hear" "Keeper.hear" (defArgs s_Keeper_hear) (defBody s_Keeper_hear) (defScope s_Keeper_hear) .none kV_Keeper_hear dc_Keeper_hear pm_Keeper_hear an_Keeper_hear cd_Keeper_hear ct_Keeper_hear), sl_Keeper_hear⟩)
    (c_Keeper_hear_ : PySem.W.codeIn K cd_Keeper_hear "Keeper.hear" = true)
    (k_Keeper_hear : PySem.W.keepIn K (.ref f_Keeper_hear) = true)
    (a_Keeper_asked : PySem.W.findIn K (.ref c_Keeper) "asked" = some (some (.ref f_Keeper_asked)))
    (i_Keeper_asked : PySem.W.isFn K (.ref f_Keeper_asked) = true)
    (l_Keeper_asked : K.lookup f_Keeper_asked = some ⟨oc_Keeper_asked, od_Keeper_asked, .func (PySem.W.fnOf "asked" "Keeper.asked" (defArgs s_Keeper_asked) (defBody s_Keeper_asked) (defScope s_Keeper_asked) .none kV_Keeper_asked dc_Keeper_asked pm_Keeper_asked an_Keeper_asked cd_Keeper_asked ct_Keeper_asked), sl_Keeper_asked⟩)
    (c_Keeper_asked_ : PySem.W.codeIn K cd_Keeper_asked "Keeper.asked" = true)
    (k_Keeper_asked : PySem.W.keepIn K (.ref f_Keeper_asked) = true)
    (a_Keeper_begin : PySem.W.findIn K (.ref c_Keeper) "begin" = some (some (.ref f_Keeper_begin)))
    (i_Keeper_begin : PySem.W.isFn K (.ref f_Keeper_begin) = true)
    (l_Keeper_begin : K.lookup f_Keeper_begin = some ⟨oc_Keeper_begin, od_Keeper_begin, .func (PySem.W.fnOf "begin" "Keeper.begin" (defArgs s_Keeper_begin) (defBody s_Keeper_begin) (defScope s_Keeper_begin) .none kV_Keeper_begin dc_Keeper_begin pm_Keeper_begin an_Keeper_begin cd_Keeper_begin ct_Keeper_begin), sl_Keeper_begin⟩)
    (c_Keeper_begin_ : PySem.W.codeIn K cd_Keeper_begin "Keeper.begin" = true)
    (k_Keeper_begin : PySem.W.keepIn K (.ref f_Keeper_begin) = true)
    (a_Room_init : PySem.W.findIn K (.ref c_Room) "__init__" = some (some (.ref f_Room_init)))
    (i_Room_init : PySem.W.isFn K (.ref f_Room_init) = true)
    (l_Room_init : K.lookup f_Room_init = some ⟨oc_Room_init, od_Room_init, .func (PySem.W.fnOf "__init__" "Room.__init__" (defArgs s_Room_init) (defBody s_Room_init) (defScope s_Room_init) .none kV_Room_init dc_Room_init pm_Room_init an_Room_init cd_Room_init ct_Room_init), sl_Room_init⟩)
    (c_Room_init_ : PySem.W.codeIn K cd_Room_init "Room.__init__" = true)
    (k_Room_init : PySem.W.keepIn K (.ref f_Room_init) = true)
    (a_Room_keeper : PySem.W.findIn K (.ref c_Room) "keeper" = some (some (.ref f_Room_keeper)))
    (i_Room_keeper : PySem.W.isFn K (.ref f_Room_keeper) = true)
    (l_Room_keeper : K.lookup f_Room_keeper = some ⟨oc_Room_keeper, od_Room_keeper, .func (PySem.W.fnOf "keeper" "Room.keeper" (defArgs s_Room_keeper) (defBody s_Room_keeper) (defScope s_Room_keeper) .none kV_Room_keeper dc_Room_keeper pm_Room_keeper an_Room_keeper cd_Room_keeper ct_Room_keeper), sl_Room_keeper⟩)
    (c_Room_keeper_ : PySem.W.codeIn K cd_Room_keeper "Room.keeper" = true)
    (k_Room_keeper : PySem.W.keepIn K (.ref f_Room_keeper) = true)
    (a_Room_leader : PySem.W.findIn K (.ref c_Room) "leader" = some (some (.ref f_Room_leader)))
    (i_Room_leader : PySem.W.isFn K (.ref f_Room_leader) = true)
    (l_Room_leader : K.lookup f_Room_leader = some ⟨oc_Room_leader, od_Room_leader, .func (PySem.W.fnOf "leader" "Room.leader" (defArgs s_Room_leader) (defBody s_Room_leader) (defScope s_Room_leader) .none kV_Room_leader dc_Room_leader pm_Room_leader an_Room_leader cd_Room_leader ct_Room_leader), sl_Room_leader⟩)
    (c_Room_leader_ : PySem.W.codeIn K cd_Room_leader "Room.leader" = true)
    (k_Room_leader : PySem.W.keepIn K (.ref f_Room_leader) = true)
    (a_Room_stand : PySem.W.findIn K (.ref c_Room) "stand" = some (some (.ref f_Room_stand)))
    (i_Room_stand : PySem.W.isFn K (.ref f_Room_stand) = true)
    (l_Room_stand : K.lookup f_Room_stand = some ⟨oc_Room_stand, od_Room_stand, .func (PySem.W.fnOf "stand" "Room.stand" (defArgs s_Room_stand) (defBody s_Room_stand) (defScope s_Room_stand) .none kV_Room_stand dc_Room_stand pm_Room_stand an_Room_stand cd_Room_stand ct_Room_stand), sl_Room_stand⟩)
    (c_Room_stand_ : PySem.W.codeIn K cd_Room_stand "Room.stand" = true)
    (k_Room_stand : PySem.W.keepIn K (.ref f_Room_stand) = true)
    (a_Room_write : PySem.W.findIn K (.ref c_Room) "write" = some (some (.ref f_Room_write)))
    (i_Room_write : PySem.W.isFn K (.ref f_Room_write) = true)
    (l_Room_write : K.lookup f_Room_write = some ⟨oc_Room_write, od_Room_write, .func (PySem.W.fnOf "write" "Room.write" (defArgs s_Room_write) (defBody s_Room_write) (defScope s_Room_write) .none kV_Room_write dc_Room_write pm_Room_write an_Room_write cd_Room_write ct_Room_write), sl_Room_write⟩)
    (c_Room_write_ : PySem.W.codeIn K cd_Room_write "Room.write" = true)
    (k_Room_write : PySem.W.keepIn K (.ref f_Room_write) = true)
    (a_Room_rest : PySem.W.findIn K (.ref c_Room) "rest" = some (some (.ref f_Room_rest)))
    (i_Room_rest : PySem.W.isFn K (.ref f_Room_rest) = true)
    (l_Room_rest : K.lookup f_Room_rest = some ⟨oc_Room_rest, od_Room_rest, .func (PySem.W.fnOf "rest" "Room.rest" (defArgs s_Room_rest) (defBody s_Room_rest) (defScope s_Room_rest) .none kV_Room_rest dc_Room_rest pm_Room_rest an_Room_rest cd_Room_rest ct_Room_rest), sl_Room_rest⟩)
    (c_Room_rest_ : PySem.W.codeIn K cd_Room_rest "Room.rest" = true)
    (k_Room_rest : PySem.W.keepIn K (.ref f_Room_rest) = true)
    (a_Room_term_of : PySem.W.findIn K (.ref c_Room) "term_of" = some (some (.ref f_Room_term_of)))
    (i_Room_term_of : PySem.W.isFn K (.ref f_Room_term_of) = true)
    (l_Room_term_of : K.lookup f_Room_term_of = some ⟨oc_Room_term_of, od_Room_term_of, .func (PySem.W.fnOf "term_of" "Room.term_of" (defArgs s_Room_term_of) (defBody s_Room_term_of) (defScope s_Room_term_of) .none kV_Room_term_of dc_Room_term_of pm_Room_term_of an_Room_term_of cd_Room_term_of ct_Room_term_of), sl_Room_term_of⟩)
    (c_Room_term_of_ : PySem.W.codeIn K cd_Room_term_of "Room.term_of" = true)
    (k_Room_term_of : PySem.W.keepIn K (.ref f_Room_term_of) = true)
    (a_Room_row_of : PySem.W.findIn K (.ref c_Room) "row_of" = some (some (.ref f_Room_row_of)))
    (i_Room_row_of : PySem.W.isFn K (.ref f_Room_row_of) = true)
    (l_Room_row_of : K.lookup f_Room_row_of = some ⟨oc_Room_row_of, od_Room_row_of, .func (PySem.W.fnOf "row_of" "Room.row_of" (defArgs s_Room_row_of) (defBody s_Room_row_of) (defScope s_Room_row_of) .none kV_Room_row_of dc_Room_row_of pm_Room_row_of an_Room_row_of cd_Room_row_of ct_Room_row_of), sl_Room_row_of⟩)
    (c_Room_row_of_ : PySem.W.codeIn K cd_Room_row_of "Room.row_of" = true)
    (k_Room_row_of : PySem.W.keepIn K (.ref f_Room_row_of) = true)
    (a_Room_leading : PySem.W.findIn K (.ref c_Room) "leading" = some (some (.ref f_Room_leading)))
    (i_Room_leading : PySem.W.isFn K (.ref f_Room_leading) = true)
    (l_Room_leading : K.lookup f_Room_leading = some ⟨oc_Room_leading, od_Room_leading, .func (PySem.W.fnOf "leading" "Room.leading" (defArgs s_Room_leading) (defBody s_Room_leading) (defScope s_Room_leading) .none kV_Room_leading dc_Room_leading pm_Room_leading an_Room_leading cd_Room_leading ct_Room_leading), sl_Room_leading⟩)
    (c_Room_leading_ : PySem.W.codeIn K cd_Room_leading "Room.leading" = true)
    (k_Room_leading : PySem.W.keepIn K (.ref f_Room_leading) = true)
    (a_Room_settled_of : PySem.W.findIn K (.ref c_Room) "settled_of" = some (some (.ref f_Room_settled_of)))
    (i_Room_settled_of : PySem.W.isFn K (.ref f_Room_settled_of) = true)
    (l_Room_settled_of : K.lookup f_Room_settled_of = some ⟨oc_Room_settled_of, od_Room_settled_of, .func (PySem.W.fnOf "settled_of" "Room.settled_of" (defArgs s_Room_settled_of) (defBody s_Room_settled_of) (defScope s_Room_settled_of) .none kV_Room_settled_of dc_Room_settled_of pm_Room_settled_of an_Room_settled_of cd_Room_settled_of ct_Room_settled_of), sl_Room_settled_of⟩)
    (c_Room_settled_of_ : PySem.W.codeIn K cd_Room_settled_of "Room.settled_of" = true)
    (k_Room_settled_of : PySem.W.keepIn K (.ref f_Room_settled_of) = true)
    (a__law_cell_at : PySem.W.nsIn K mainGlobals "_law_cell_at" = some (some (.ref f__law_cell_at)))
    (l__law_cell_at : K.lookup f__law_cell_at = some ⟨oc__law_cell_at, od__law_cell_at, .func (PySem.W.fnOf "_law_cell_at" "_law_cell_at" (defArgs s__law_cell_at) (defBody s__law_cell_at) (defScope s__law_cell_at) .none kV__law_cell_at dc__law_cell_at pm__law_cell_at an__law_cell_at cd__law_cell_at ct__law_cell_at), sl__law_cell_at⟩)
    (c__law_cell_at_ : PySem.W.codeIn K cd__law_cell_at "_law_cell_at" = true)
    (k__law_cell_at : PySem.W.keepIn K (.ref f__law_cell_at) = true)
    (a__law_mixed : PySem.W.nsIn K mainGlobals "_law_mixed" = some (some (.ref f__law_mixed)))
    (l__law_mixed : K.lookup f__law_mixed = some ⟨oc__law_mixed, od__law_mixed, .func (PySem.W.fnOf "_law_mixed" "_law_mixed" (defArgs s__law_mixed) (defBody s__law_mixed) (defScope s__law_mixed) .none kV__law_mixed dc__law_mixed pm__law_mixed an__law_mixed cd__law_mixed ct__law_mixed), sl__law_mixed⟩)
    (c__law_mixed_ : PySem.W.codeIn K cd__law_mixed "_law_mixed" = true)
    (k__law_mixed : PySem.W.keepIn K (.ref f__law_mixed) = true)
    (a__law_drawn : PySem.W.nsIn K mainGlobals "_law_drawn" = some (some (.ref f__law_drawn)))
    (l__law_drawn : K.lookup f__law_drawn = some ⟨oc__law_drawn, od__law_drawn, .func (PySem.W.fnOf "_law_drawn" "_law_drawn" (defArgs s__law_drawn) (defBody s__law_drawn) (defScope s__law_drawn) .none kV__law_drawn dc__law_drawn pm__law_drawn an__law_drawn cd__law_drawn ct__law_drawn), sl__law_drawn⟩)
    (c__law_drawn_ : PySem.W.codeIn K cd__law_drawn "_law_drawn" = true)
    (k__law_drawn : PySem.W.keepIn K (.ref f__law_drawn) = true)
    (a__law_whole : PySem.W.nsIn K mainGlobals "_law_whole" = some (some (.ref f__law_whole)))
    (l__law_whole : K.lookup f__law_whole = some ⟨oc__law_whole, od__law_whole, .func (PySem.W.fnOf "_law_whole" "_law_whole" (defArgs s__law_whole) (defBody s__law_whole) (defScope s__law_whole) .none kV__law_whole dc__law_whole pm__law_whole an__law_whole cd__law_whole ct__law_whole), sl__law_whole⟩)
    (c__law_whole_ : PySem.W.codeIn K cd__law_whole "_law_whole" = true)
    (k__law_whole : PySem.W.keepIn K (.ref f__law_whole) = true)
    (a__law_others : PySem.W.nsIn K mainGlobals "_law_others" = some (some (.ref f__law_others)))
    (l__law_others : K.lookup f__law_others = some ⟨oc__law_others, od__law_others, .func (PySem.W.fnOf "_law_others" "_law_others" (defArgs s__law_others) (defBody s__law_others) (defScope s__law_others) .none kV__law_others dc__law_others pm__law_others an__law_others cd__law_others ct__law_others), sl__law_others⟩)
    (c__law_others_ : PySem.W.codeIn K cd__law_others "_law_others" = true)
    (k__law_others : PySem.W.keepIn K (.ref f__law_others) = true)
    (a__law_stood : PySem.W.nsIn K mainGlobals "_law_stood" = some (some (.ref f__law_stood)))
    (l__law_stood : K.lookup f__law_stood = some ⟨oc__law_stood, od__law_stood, .func (PySem.W.fnOf "_law_stood" "_law_stood" (defArgs s__law_stood) (defBody s__law_stood) (defScope s__law_stood) .none kV__law_stood dc__law_stood pm__law_stood an__law_stood cd__law_stood ct__law_stood), sl__law_stood⟩)
    (c__law_stood_ : PySem.W.codeIn K cd__law_stood "_law_stood" = true)
    (k__law_stood : PySem.W.keepIn K (.ref f__law_stood) = true)
    (a__law_stands : PySem.W.nsIn K mainGlobals "_law_stands" = some (some (.ref f__law_stands)))
    (l__law_stands : K.lookup f__law_stands = some ⟨oc__law_stands, od__law_stands, .func (PySem.W.fnOf "_law_stands" "_law_stands" (defArgs s__law_stands) (defBody s__law_stands) (defScope s__law_stands) .none kV__law_stands dc__law_stands pm__law_stands an__law_stands cd__law_stands ct__law_stands), sl__law_stands⟩)
    (c__law_stands_ : PySem.W.codeIn K cd__law_stands "_law_stands" = true)
    (k__law_stands : PySem.W.keepIn K (.ref f__law_stands) = true)
    (a_law : PySem.W.nsIn K mainGlobals "law" = some (some (.ref f_law)))
    (l_law : K.lookup f_law = some ⟨oc_law, od_law, .func (PySem.W.fnOf "law" "law" (defArgs s_law) (defBody s_law) (defScope s_law) .none kV_law dc_law pm_law an_law cd_law ct_law), sl_law⟩)
    (c_law_ : PySem.W.codeIn K cd_law "law" = true)
    (k_law : PySem.W.keepIn K (.ref f_law) = true)
    (z_bool : PySem.W.nsIn K mainGlobals "bool" = some none)
    (z_int : PySem.W.nsIn K mainGlobals "int" = some none)
    (z_isinstance : PySem.W.nsIn K mainGlobals "isinstance" = some none)
    (z_len : PySem.W.nsIn K mainGlobals "len" = some none)
    (z_list : PySem.W.nsIn K mainGlobals "list" = some none)
    (z_range : PySem.W.nsIn K mainGlobals "range" = some none)
    (v_MOST : PySem.W.nsIn K mainGlobals "MOST" = some (some (.int 9 t_MOST))) :
    ∃ fd : FuncData, (∀ (s : Shared) (v : Value), BindsTo s fd ⟨[v], []⟩ [("_law_script", v)]) ∧ ∀ base : Heap, K.In base → base.Ns mainGlobals mg → FnOk l.prog w K mg base CX0 5 fa fd ["_law_script"] (spLaw K) := by
  have e := hfa.symm.trans (PySem.W.mg_of X G a_law)
  cases e
  let T : Tx K mg := {
    c_RoomError := c_RoomError
    c_NoRoom := c_NoRoom
    c_NoKeeper := c_NoKeeper
    c_NotLeading := c_NotLeading
    c_Keeper := c_Keeper
    c_Room := c_Room
    mg_RoomError := PySem.W.mg_of X G aC_RoomError
    x_RoomError := x_RoomError
    kx_RoomError := kx_RoomError
    bx_RoomError := bx_RoomError
    tx_RoomError := tx_RoomError
    mg_NoRoom := PySem.W.mg_of X G aC_NoRoom
    x_NoRoom := x_NoRoom
    kx_NoRoom := kx_NoRoom
    bx_NoRoom := bx_NoRoom
    tx_NoRoom := tx_NoRoom
    mg_NoKeeper := PySem.W.mg_of X G aC_NoKeeper
    x_NoKeeper := x_NoKeeper
    kx_NoKeeper := kx_NoKeeper
    bx_NoKeeper := bx_NoKeeper
    tx_NoKeeper := tx_NoKeeper
    mg_NotLeading := PySem.W.mg_of X G aC_NotLeading
    x_NotLeading := x_NotLeading
    kx_NotLeading := kx_NotLeading
    bx_NotLeading := bx_NotLeading
    tx_NotLeading := tx_NotLeading
    cl_Keeper := ⟨pg_Keeper, hd_Keeper, po_Keeper, sa_Keeper⟩
    mg_Keeper := PySem.W.mg_of X G aC_Keeper
    na_Keeper_term := na_Keeper_term
    na_Keeper_row := na_Keeper_row
    na_Keeper_leads := na_Keeper_leads
    na_Keeper_settled := na_Keeper_settled
    na_Keeper_ahead := na_Keeper_ahead
    na_Keeper_held := na_Keeper_held
    cl_Room := ⟨pg_Room, hd_Room, po_Room, sa_Room⟩
    mg_Room := PySem.W.mg_of X G aC_Room
    na_Room_keepers := na_Room_keepers
    d_last_term := ⟨f_last_term, _, fun_mk (st := s_last_term) l_last_term c_last_term_ k_last_term, (fun_mk (st := s_last_term) l_last_term c_last_term_ k_last_term).binds (ps := ["row"]) (fun _ _ _ _ _ _ us hl => (match us, hl with | [_], _ => rfl)), PySem.W.mg_of X G a_last_term⟩
    d_as_new := ⟨f_as_new, _, fun_mk (st := s_as_new) l_as_new c_as_new_ k_as_new, (fun_mk (st := s_as_new) l_as_new c_as_new_ k_as_new).binds (ps := ["row", "other"]) (fun _ _ _ _ _ _ us hl => (match us, hl with | [_, _], _ => rfl)), PySem.W.mg_of X G a_as_new⟩
    d_Keeper_init := ⟨f_Keeper_init, _, fun_mk (st := s_Keeper_init) l_Keeper_init c_Keeper_init_ k_Keeper_init, (fun_mk (st := s_Keeper_init) l_Keeper_init c_Keeper_init_ k_Keeper_init).binds (ps := ["self", "row"]) (fun _ _ _ _ _ _ us hl => (match us, hl with | [_, _], _ => rfl)), ⟨mk_Keeper, a_Keeper_init, i_Keeper_init, kc_Keeper⟩⟩
    d_Keeper_hear := ⟨f_Keeper_hear, _, fun_mk (st := s_Keeper_hear) l_Keeper_hear c_Keeper_hear_ k_Keeper_hear, (fun_mk (st := s_Keeper_hear) l_Keeper_hear c_Keeper_hear_ k_Keeper_hear).binds (ps := ["self", "term"]) (fun _ _ _ _ _ _ us hl => (match us, hl with | [_, _], _ => rfl)), ⟨a_Keeper_hear, i_Keeper_hear, k_Keeper_hear⟩⟩
    d_Keeper_asked := ⟨f_Keeper_asked, _, fun_mk (st := s_Keeper_asked) l_Keeper_asked c_Keeper_asked_ k_Keeper_asked, (fun_mk (st := s_Keeper_asked) l_Keeper_asked c_Keeper_asked_ k_Keeper_asked).binds (ps := ["self", "term", "row"]) (fun _ _ _ _ _ _ us hl => (match us, hl with | [_, _, _], _ => rfl)), ⟨a_Keeper_asked, i_Keeper_asked, k_Keeper_asked⟩⟩
    d_Keeper_begin := ⟨f_Keeper_begin, _, fun_mk (st := s_Keeper_begin) l_Keeper_begin c_Keeper_begin_ k_Keeper_begin, (fun_mk (st := s_Keeper_begin) l_Keeper_begin c_Keeper_begin_ k_Keeper_begin).binds (ps := ["self", "count"]) (fun _ _ _ _ _ _ us hl => (match us, hl with | [_, _], _ => rfl)), ⟨a_Keeper_begin, i_Keeper_begin, k_Keeper_begin⟩⟩
    d_Room_init := ⟨f_Room_init, _, fun_mk (st := s_Room_init) l_Room_init c_Room_init_ k_Room_init, (fun_mk (st := s_Room_init) l_Room_init c_Room_init_ k_Room_init).binds (ps := ["self", "count"]) (fun _ _ _ _ _ _ us hl => (match us, hl with | [_, _], _ => rfl)), ⟨mk_Room, a_Room_init, i_Room_init, kc_Room⟩⟩
    d_Room_keeper := ⟨f_Room_keeper, _, fun_mk (st := s_Room_keeper) l_Room_keeper c_Room_keeper_ k_Room_keeper, (fun_mk (st := s_Room_keeper) l_Room_keeper c_Room_keeper_ k_Room_keeper).binds (ps := ["self", "k"]) (fun _ _ _ _ _ _ us hl => (match us, hl with | [_, _], _ => rfl)), ⟨a_Room_keeper, i_Room_keeper, k_Room_keeper⟩⟩
    d_Room_leader := ⟨f_Room_leader, _, fun_mk (st := s_Room_leader) l_Room_leader c_Room_leader_ k_Room_leader, (fun_mk (st := s_Room_leader) l_Room_leader c_Room_leader_ k_Room_leader).binds (ps := ["self", "k"]) (fun _ _ _ _ _ _ us hl => (match us, hl with | [_, _], _ => rfl)), ⟨a_Room_leader, i_Room_leader, k_Room_leader⟩⟩
    d_Room_stand := ⟨f_Room_stand, _, fun_mk (st := s_Room_stand) l_Room_stand c_Room_stand_ k_Room_stand, (fun_mk (st := s_Room_stand) l_Room_stand c_Room_stand_ k_Room_stand).binds (ps := ["self", "k", "others"]) (fun _ _ _ _ _ _ us hl => (match us, hl with | [_, _, _], _ => rfl)), ⟨a_Room_stand, i_Room_stand, k_Room_stand⟩⟩
    d_Room_write := ⟨f_Room_write, _, fun_mk (st := s_Room_write) l_Room_write c_Room_write_ k_Room_write, (fun_mk (st := s_Room_write) l_Room_write c_Room_write_ k_Room_write).binds (ps := ["self", "k", "word"]) (fun _ _ _ _ _ _ us hl => (match us, hl with | [_, _, _], _ => rfl)), ⟨a_Room_write, i_Room_write, k_Room_write⟩⟩
    d_Room_rest := ⟨f_Room_rest, _, fun_mk (st := s_Room_rest) l_Room_rest c_Room_rest_ k_Room_rest, (fun_mk (st := s_Room_rest) l_Room_rest c_Room_rest_ k_Room_rest).binds (ps := ["self", "k"]) (fun _ _ _ _ _ _ us hl => (match us, hl with | [_, _], _ => rfl)), ⟨a_Room_rest, i_Room_rest, k_Room_rest⟩⟩
    d_Room_term_of := ⟨f_Room_term_of, _, fun_mk (st := s_Room_term_of) l_Room_term_of c_Room_term_of_ k_Room_term_of, (fun_mk (st := s_Room_term_of) l_Room_term_of c_Room_term_of_ k_Room_term_of).binds (ps := ["self", "k"]) (fun _ _ _ _ _ _ us hl => (match us, hl with | [_, _], _ => rfl)), ⟨a_Room_term_of, i_Room_term_of, k_Room_term_of⟩⟩
    d_Room_row_of := ⟨f_Room_row_of, _, fun_mk (st := s_Room_row_of) l_Room_row_of c_Room_row_of_ k_Room_row_of, (fun_mk (st := s_Room_row_of) l_Room_row_of c_Room_row_of_ k_Room_row_of).binds (ps := ["self", "k"]) (fun _ _ _ _ _ _ us hl => (match us, hl with | [_, _], _ => rfl)), ⟨a_Room_row_of, i_Room_row_of, k_Room_row_of⟩⟩
    d_Room_leading := ⟨f_Room_leading, _, fun_mk (st := s_Room_leading) l_Room_leading c_Room_leading_ k_Room_leading, (fun_mk (st := s_Room_leading) l_Room_leading c_Room_leading_ k_Room_leading).binds (ps := ["self", "k"]) (fun _ _ _ _ _ _ us hl => (match us, hl with | [_, _], _ => rfl)), ⟨a_Room_leading, i_Room_leading, k_Room_leading⟩⟩
    d_Room_settled_of := ⟨f_Room_settled_of, _, fun_mk (st := s_Room_settled_of) l_Room_settled_of c_Room_settled_of_ k_Room_settled_of, (fun_mk (st := s_Room_settled_of) l_Room_settled_of c_Room_settled_of_ k_Room_settled_of).binds (ps := ["self", "k"]) (fun _ _ _ _ _ _ us hl => (match us, hl with | [_, _], _ => rfl)), ⟨a_Room_settled_of, i_Room_settled_of, k_Room_settled_of⟩⟩
    d__law_cell_at := ⟨f__law_cell_at, _, fun_mk (st := s__law_cell_at) l__law_cell_at c__law_cell_at_ k__law_cell_at, (fun_mk (st := s__law_cell_at) l__law_cell_at c__law_cell_at_ k__law_cell_at).binds (ps := ["_law_script", "_law_k"]) (fun _ _ _ _ _ _ us hl => (match us, hl with | [_, _], _ => rfl)), PySem.W.mg_of X G a__law_cell_at⟩
    d__law_mixed := ⟨f__law_mixed, _, fun_mk (st := s__law_mixed) l__law_mixed c__law_mixed_ k__law_mixed, (fun_mk (st := s__law_mixed) l__law_mixed c__law_mixed_ k__law_mixed).binds (ps := ["_law_script", "_law_k"]) (fun _ _ _ _ _ _ us hl => (match us, hl with | [_, _], _ => rfl)), PySem.W.mg_of X G a__law_mixed⟩
    d__law_drawn := ⟨f__law_drawn, _, fun_mk (st := s__law_drawn) l__law_drawn c__law_drawn_ k__law_drawn, (fun_mk (st := s__law_drawn) l__law_drawn c__law_drawn_ k__law_drawn).binds (ps := ["_law_number", "_law_sizes"]) (fun _ _ _ _ _ _ us hl => (match us, hl with | [_, _], _ => rfl)), PySem.W.mg_of X G a__law_drawn⟩
    d__law_whole := ⟨f__law_whole, _, fun_mk (st := s__law_whole) l__law_whole c__law_whole_ k__law_whole, (fun_mk (st := s__law_whole) l__law_whole c__law_whole_ k__law_whole).binds (ps := ["_law_found"]) (fun _ _ _ _ _ _ us hl => (match us, hl with | [_], _ => rfl)), PySem.W.mg_of X G a__law_whole⟩
    d__law_others := ⟨f__law_others, _, fun_mk (st := s__law_others) l__law_others c__law_others_ k__law_others, (fun_mk (st := s__law_others) l__law_others c__law_others_ k__law_others).binds (ps := ["_law_count", "_law_way", "_law_bits"]) (fun _ _ _ _ _ _ us hl => (match us, hl with | [_, _, _], _ => rfl)), PySem.W.mg_of X G a__law_others⟩
    d__law_stood := ⟨f__law_stood, _, fun_mk (st := s__law_stood) l__law_stood c__law_stood_ k__law_stood, (fun_mk (st := s__law_stood) l__law_stood c__law_stood_ k__law_stood).binds (ps := ["_law_terms", "_law_leads", "_law_k", "_law_others_here"]) (fun _ _ _ _ _ _ us hl => (match us, hl with | [_, _, _, _], _ => rfl)), PySem.W.mg_of X G a__law_stood⟩
    d__law_stands := ⟨f__law_stands, _, fun_mk (st := s__law_stands) l__law_stands c__law_stands_ k__law_stands, (fun_mk (st := s__law_stands) l__law_stands c__law_stands_ k__law_stands).binds (ps := ["_law_room", "_law_terms", "_law_leads"]) (fun _ _ _ _ _ _ us hl => (match us, hl with | [_, _, _], _ => rfl)), PySem.W.mg_of X G a__law_stands⟩
    d_law := ⟨fa, _, fun_mk (st := s_law) l_law c_law_ k_law, (fun_mk (st := s_law) l_law c_law_ k_law).binds (ps := ["_law_script"]) (fun _ _ _ _ _ _ us hl => (match us, hl with | [_], _ => rfl)), PySem.W.mg_of X G a_law⟩
    z_bool := PySem.W.mg_none_of X G z_bool
    z_int := PySem.W.mg_none_of X G z_int
    z_isinstance := PySem.W.mg_none_of X G z_isinstance
    z_len := PySem.W.mg_none_of X G z_len
    z_list := PySem.W.mg_none_of X G z_list
    z_range := PySem.W.mg_none_of X G z_range
    t_MOST := t_MOST
    v_MOST := PySem.W.mg_of X G v_MOST }
  exact ⟨T.d_law.fd, fun s v => .of_eq rfl, fun base _ _ => spLaw_of (ok_law T)⟩
theorem walk {l : PySem.W.OpenLaw} {q : Program} {loose : List Str} {XP : (Str → Option Value) → Heap → Prop} {YP : World → Heap → Prop} {d : DefRec} {K : Params → PySem.W.Frag} (hn : l.most = some 63) (hdf : d.params.defaults = [])
    (hY : ∀ (w : World) (h : Heap), YP w h → (K w.params).In h)
    (F : ∀ (w : World) (mg : Str → Option Value) (fa : Addr) (h : Heap), (K w.params).In h → h.Ns mainGlobals mg → mg d.name = some (.ref fa) →
      ∃ fd : FuncData, (∀ (s : Shared) (u : Value), BindsTo s fd ⟨[u], []⟩ [("_law_script", u)]) ∧ ∀ base : Heap, (K w.params).In base → base.Ns mainGlobals mg → FnOk l.prog w (K w.params) mg base CX0 5 fa fd ["_law_script"] (spLaw (K w.params))) :
    PySem.W.WalkO q loose XP YP l.row.toRowW d [] (fun f vs => PySem.call f vs) :=
  L2.walk_of (n := 63) (k := 5) (x := "_law_script") (CX := fun _ => CX0) (sp := fun w => spLaw (K w.params)) hn (by decide) hdf ⟨rfl, by decide, by decide⟩ hY F (fun _ _ a ns hl _ hS => ⟨a, ns, rfl, hS, hl, fun _ => rfl⟩) fun _ _ _ _ _ z => z
end My
open PySem PySem.W PyProof.Rows in
set_option maxRecDepth 100000 in
set_option maxHeartbeats 0 in
theorem PySem.Challenge.cw_logreplica_k06_standing_holds : PySem.Challenge.rw_logreplica_k06_standing.Holds := by
  w_on; o_law; k_head; (case hw => w_witness2)
  k_fill
  refine My.walk (l := PySem.Challenge.rw_logreplica_k06_standing) rfl rfl (fun w h Y => PySem.W.kIn_of Y) ?F
  case F =>
    intro w mg fa h KX G hmg
    refine' My.all_mk KX G hmg ?aC_RoomError ?x_RoomError ?kx_RoomError ?bx_RoomError ?tx_RoomError ?hx_RoomError ?aC_NoRoom ?x_NoRoom ?kx_NoRoom ?bx_NoRoom ?tx_NoRoom ?hx_NoRoom ?aC_NoKeeper ?x_NoKeeper ?kx_NoKeeper ?bx_NoKeeper ?tx_NoKeeper ?hx_NoKeeper ?aC_NotLeading ?x_NotLeading ?kx_NotLeading ?bx_NotLeading ?tx_NotLeading ?hx_NotLeading ?aC_Keeper ?pg_Keeper ?hd_Keeper ?po_Keeper ?sa_Keeper ?mk_Keeper ?kc_Keeper ?na_Keeper_term ?na_Keeper_row ?na_Keeper_leads ?na_Keeper_settled ?na_Keeper_ahead ?na_Keeper_held ?aC_Room ?pg_Room ?hd_Room ?po_Room ?sa_Room ?mk_Room ?kc_Room ?na_Room_keepers ?a_last_term ?l_last_term ?c_last_term_ ?k_last_term ?a_as_new ?l_as_new ?c_as_new_ ?k_as_new ?a_Keeper_init ?i_Keeper_init ?l_Keeper_init ?c_Keeper_init_ ?k_Keeper_init ?a_Keeper_hear ?i_Keeper_hear ?l_Keeper_hear ?c_Keeper_hear_ ?k_Keeper_hear ?a_Keeper_asked ?i_Keeper_asked ?l_Keeper_asked ?c_Keeper_asked_ ?k_Keeper_asked ?a_Keeper_begin ?i_Keeper_begin ?l_Keeper_begin ?c_Keeper_begin_ ?k_Keeper_begin ?a_Room_init ?i_Room_init ?l_Room_init ?c_Room_init_ ?k_Room_init ?a_Room_keeper ?i_Room_keeper ?l_Room_keeper ?c_Room_keeper_ ?k_Room_keeper ?a_Room_leader ?i_Room_leader ?l_Room_leader ?c_Room_leader_ ?k_Room_leader ?a_Room_stand ?i_Room_stand ?l_Room_stand ?c_Room_stand_ ?k_Room_stand ?a_Room_write ?i_Room_write ?l_Room_write ?c_Room_write_ ?k_Room_write ?a_Room_rest ?i_Room_rest ?l_Room_rest ?c_Room_rest_ ?k_Room_rest ?a_Room_term_of ?i_Room_term_of ?l_Room_term_of ?c_Room_term_of_ ?k_Room_term_of ?a_Room_row_of ?i_Room_row_of ?l_Room_row_of ?c_Room_row_of_ ?k_Room_row_of ?a_Room_leading ?i_Room_leading ?l_Room_leading ?c_Room_leading_ ?k_Room_leading ?a_Room_settled_of ?i_Room_settled_of ?l_Room_settled_of ?c_Room_settled_of_ ?k_Room_settled_of ?a__law_cell_at ?l__law_cell_at ?c__law_cell_at_ ?k__law_cell_at ?a__law_mixed ?l__law_mixed ?c__law_mixed_ ?k__law_mixed ?a__law_drawn ?l__law_drawn ?c__law_drawn_ ?k__law_drawn ?a__law_whole ?l__law_whole ?c__law_whole_ ?k__law_whole ?a__law_others ?l__law_others ?c__law_others_ ?k__law_others ?a__law_stood ?l__law_stood ?c__law_stood_ ?k__law_stood ?a__law_stands ?l__law_stands ?c__law_stands_ ?k__law_stands ?a_law ?l_law ?c_law_ ?k_law ?z_bool ?z_int ?z_isinstance ?z_len ?z_list ?z_range ?v_MOST
    (case aC_RoomError => k_is)
    (case x_RoomError => k_exc)
    (case kx_RoomError => k_is)
    (case bx_RoomError => k_is)
    (case tx_RoomError => k_is)
    (case hx_RoomError => k_is)
    (case aC_NoRoom => k_is)
    (case x_NoRoom => k_exc)
    (case kx_NoRoom => k_is)
    (case bx_NoRoom => k_is)
    (case tx_NoRoom => k_is)
    (case hx_NoRoom => k_is)
    (case aC_NoKeeper => k_is)
    (case x_NoKeeper => k_exc)
    (case kx_NoKeeper => k_is)
    (case bx_NoKeeper => k_is)
    (case tx_NoKeeper => k_is)
    (case hx_NoKeeper => k_is)
    (case aC_NotLeading => k_is)
    (case x_NotLeading => k_exc)
    (case kx_NotLeading => k_is)
    (case bx_NotLeading => k_is)
    (case tx_NotLeading => k_is)
    (case hx_NotLeading => k_is)
    (case aC_Keeper => k_is)
    (case pg_Keeper => k_is)
    (case hd_Keeper => k_is)
    (case po_Keeper => k_is)
    (case sa_Keeper => k_is)
    (case mk_Keeper => k_is)
    (case kc_Keeper => k_is)
    (case na_Keeper_term => k_is)
    (case na_Keeper_row => k_is)
    (case na_Keeper_leads => k_is)
    (case na_Keeper_settled => k_is)
    (case na_Keeper_ahead => k_is)
    (case na_Keeper_held => k_is)
    (case aC_Room => k_is)
    (case pg_Room => k_is)
    (case hd_Room => k_is)
    (case po_Room => k_is)
    (case sa_Room => k_is)
    (case mk_Room => k_is)
    (case kc_Room => k_is)
    (case na_Room_keepers => k_is)
    (case a_last_term => k_is)
    (case l_last_term => k_is)
    (case c_last_term_ => k_is)
    (case k_last_term => k_is)
    (case a_as_new => k_is)
    (case l_as_new => k_is)
    (case c_as_new_ => k_is)
    (case k_as_new => k_is)
    (case a_Keeper_init => k_is)
    (case i_Keeper_init => k_is)
    (case l_Keeper_init => k_is)
    (case c_Keeper_init_ => k_is)
    (case k_Keeper_init => k_is)
    (case a_Keeper_hear => k_is)
    (case i_Keeper_hear => k_is)
    (case l_Keeper_hear => k_is)
    (case c_Keeper_hear_ => k_is)
    (case k_Keeper_hear => k_is)
    (case a_Keeper_asked => k_is)
    (case i_Keeper_asked => k_is)
    (case l_Keeper_asked => k_is)
    (case c_Keeper_asked_ => k_is)
    (case k_Keeper_asked => k_is)
    (case a_Keeper_begin => k_is)
    (case i_Keeper_begin => k_is)
    (case l_Keeper_begin => k_is)
    (case c_Keeper_begin_ => k_is)
    (case k_Keeper_begin => k_is)
    (case a_Room_init => k_is)
    (case i_Room_init => k_is)
    (case l_Room_init => k_is)
    (case c_Room_init_ => k_is)
    (case k_Room_init => k_is)
    (case a_Room_keeper => k_is)
    (case i_Room_keeper => k_is)
    (case l_Room_keeper => k_is)
    (case c_Room_keeper_ => k_is)
    (case k_Room_keeper => k_is)
    (case a_Room_leader => k_is)
    (case i_Room_leader => k_is)
    (case l_Room_leader => k_is)
    (case c_Room_leader_ => k_is)
    (case k_Room_leader => k_is)
    (case a_Room_stand => k_is)
    (case i_Room_stand => k_is)
    (case l_Room_stand => k_is)
    (case c_Room_stand_ => k_is)
    (case k_Room_stand => k_is)
    (case a_Room_write => k_is)
    (case i_Room_write => k_is)
    (case l_Room_write => k_is)
    (case c_Room_write_ => k_is)
    (case k_Room_write => k_is)
    (case a_Room_rest => k_is)
    (case i_Room_rest => k_is)
    (case l_Room_rest => k_is)
    (case c_Room_rest_ => k_is)
    (case k_Room_rest => k_is)
    (case a_Room_term_of => k_is)
    (case i_Room_term_of => k_is)
    (case l_Room_term_of => k_is)
    (case c_Room_term_of_ => k_is)
    (case k_Room_term_of => k_is)
    (case a_Room_row_of => k_is)
    (case i_Room_row_of => k_is)
    (case l_Room_row_of => k_is)
    (case c_Room_row_of_ => k_is)
    (case k_Room_row_of => k_is)
    (case a_Room_leading => k_is)
    (case i_Room_leading => k_is)
    (case l_Room_leading => k_is)
    (case c_Room_leading_ => k_is)
    (case k_Room_leading => k_is)
    (case a_Room_settled_of => k_is)
    (case i_Room_settled_of => k_is)
    (case l_Room_settled_of => k_is)
    (case c_Room_settled_of_ => k_is)
    (case k_Room_settled_of => k_is)
    (case a__law_cell_at => k_is)
    (case l__law_cell_at => k_is)
    (case c__law_cell_at_ => k_is)
    (case k__law_cell_at => k_is)
    (case a__law_mixed => k_is)
    (case l__law_mixed => k_is)
    (case c__law_mixed_ => k_is)
    (case k__law_mixed => k_is)
    (case a__law_drawn => k_is)
    (case l__law_drawn => k_is)
    (case c__law_drawn_ => k_is)
    (case k__law_drawn => k_is)
    (case a__law_whole => k_is)
    (case l__law_whole => k_is)
    (case c__law_whole_ => k_is)
    (case k__law_whole => k_is)
    (case a__law_others => k_is)
    (case l__law_others => k_is)
    (case c__law_others_ => k_is)
    (case k__law_others => k_is)
    (case a__law_stood => k_is)
    (case l__law_stood => k_is)
    (case c__law_stood_ => k_is)
    (case k__law_stood => k_is)
    (case a__law_stands => k_is)
    (case l__law_stands => k_is)
    (case c__law_stands_ => k_is)
    (case k__law_stands => k_is)
    (case a_law => k_is)
    (case l_law => k_is)
    (case c_law_ => k_is)
    (case k_law => k_is)
    (case z_bool => k_is)
    (case z_int => k_is)
    (case z_isinstance => k_is)
    (case z_len => k_is)
    (case z_list => k_is)
    (case z_range => k_is)
    (case v_MOST => k_is)
#print axioms PySem.Challenge.cw_logreplica_k06_standing_holds


