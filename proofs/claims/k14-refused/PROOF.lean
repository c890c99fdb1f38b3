import PyProof.Rows.All
import Wide.All
import OpenK.AllK
import Wide.FinOn
import KE.KTryMore
import HandS.ExcIs
import HandS.HotCalls
import KE.DataCmp
import HandS.SetKeys
import HandS.ForMost
import HandS.ForExc
import HandS.IsInst
import HandS.Conv
import HandS.Style
import HandS.TryMany
import HandS.More
import PySem.Challenge.RW_logreplica_k14_refused
set_option Elab.async false
set_option linter.all false
set_option maxRecDepth 100000
set_option maxHeartbeats 4000000
/-! A layer over the readings: values as data, a world of things that stay (G), a world of things that change (M), the heap (H). -/
namespace Fw
open PySem L2

/-- the script; an object by its place -/
abbrev scrD (ns : List Int) : PyData := .dict [(.list (ns.map PyData.int), .none)]
abbrev objD (a : Addr) : PyData := .dict [(.int (a : Int), .bool true)]

mutual
inductive Rp (K : PySem.W.Frag) (G : Hp) : V → PyData → Prop
  | non : Rp K G .non .none
  | bl (b : Bool) : Rp K G (.bl b) (.bool b)
  | int (i : Int) : Rp K G (.int i) (.int i)
  | str (x : Str) : Rp K G (.str x) (.str x)
  | lst {a : Addr} {xs : List V} {ds : List PyData} : G a = some (.lst xs) → RpAll K G xs ds → Rp K G (.ref a) (.list ds)
  | tup {a : Addr} {xs : List V} {ds : List PyData} : G a = some (.tup xs) → RpAll K G xs ds → Rp K G (.ref a) (.tuple ds)
  | scr {a : Addr} {ns : List Int} : SqL K G a (ns.map V.int) → Rp K G (.ref a) (.dict [(.list (ns.map PyData.int), .none)])
  | obj {a : Addr} : Rp K G (.ref a) (.dict [(.int (a : Int), .bool true)])
inductive RpAll (K : PySem.W.Frag) (G : Hp) : List V → List PyData → Prop
  | nil : RpAll K G [] []
  | cons {v : V} {vs : List V} {d : PyData} {ds : List PyData} : Rp K G v d → RpAll K G vs ds → RpAll K G (v :: vs) (d :: ds)
end

section
variable {K : PySem.W.Frag} {G G' : Hp}
theorem Rp.non_inv {v : V} (h : Rp K G v .none) : v = .non := by cases h; rfl
theorem Rp.bl_inv {v : V} {b : Bool} (h : Rp K G v (.bool b)) : v = .bl b := by cases h; rfl
theorem Rp.int_inv {v : V} {i : Int} (h : Rp K G v (.int i)) : v = .int i := by cases h; rfl
theorem Rp.str_inv {v : V} {x : Str} (h : Rp K G v (.str x)) : v = .str x := by cases h; rfl
theorem Rp.lst_inv {v : V} {ds : List PyData} (h : Rp K G v (.list ds)) : ∃ a xs, v = .ref a ∧ G a = some (.lst xs) ∧ RpAll K G xs ds := by
  cases h with
  | lst h1 h2 => exact ⟨_, _, rfl, h1, h2⟩
theorem Rp.tup_inv {v : V} {ds : List PyData} (h : Rp K G v (.tuple ds)) : ∃ a xs, v = .ref a ∧ G a = some (.tup xs) ∧ RpAll K G xs ds := by
  cases h with
  | tup h1 h2 => exact ⟨_, _, rfl, h1, h2⟩
theorem map_int_inj : ∀ {a b : List Int}, a.map PyData.int = b.map PyData.int → a = b
  | [], [], _ => rfl
  | [], _ :: _, h => by simp at h
  | _ :: _, [], h => by simp at h
  | x :: r, y :: t, h => by
    rw [List.map_cons, List.map_cons] at h
    injection h with h1 h2
    injection h1 with h1
    rw [h1, map_int_inj h2]
theorem Rp.dict_inv {v : V} {kvs : List (PyData × PyData)} (h : Rp K G v (.dict kvs)) :
    (∃ (a : Addr) (ns : List Int), v = .ref a ∧ kvs = [(.list (ns.map PyData.int), .none)] ∧ SqL K G a (ns.map V.int)) ∨ (∃ a : Addr, v = .ref a ∧ kvs = [(.int (a : Int), .bool true)]) := by
  cases h with
  | scr h1 => exact .inl ⟨_, _, rfl, rfl, h1⟩
  | obj => exact .inr ⟨_, rfl, rfl⟩
theorem Rp.scr_inv {v : V} {ns : List Int} (h : Rp K G v (scrD ns)) : ∃ a, v = .ref a ∧ SqL K G a (ns.map V.int) := by
  rcases h.dict_inv with ⟨a, ms, rfl, e, hs⟩ | ⟨a, rfl, e⟩
  · injection e with e _
    injection e with e _
    injection e with e
    rw [map_int_inj e]
    exact ⟨a, rfl, hs⟩
  · injection e with e _
    injection e with e _
    cases e
theorem Rp.obj_inv {v : V} {a : Addr} (h : Rp K G v (objD a)) : v = .ref a := by
  rcases h.dict_inv with ⟨b, ms, rfl, e, hs⟩ | ⟨b, rfl, e⟩
  · injection e with e _
    injection e with e _
    cases e
  · injection e with e _
    injection e with e _
    injection e with e
    have : a = b := Int.ofNat.inj e
    rw [this]
theorem RpAll.nil_inv {vs : List V} (h : RpAll K G vs []) : vs = [] := by cases h; rfl
theorem RpAll.cons_inv {vs : List V} {d : PyData} {ds : List PyData} (h : RpAll K G vs (d :: ds)) : ∃ v ws, vs = v :: ws ∧ Rp K G v d ∧ RpAll K G ws ds := by
  cases h with
  | cons h1 h2 => exact ⟨_, _, rfl, h1, h2⟩
mutual
theorem Rp.mono (s : Same G G') : ∀ {v : V} {d : PyData}, Rp K G v d → Rp K G' v d
  | _, _, .non => .non
  | _, _, .bl b => .bl b
  | _, _, .int i => .int i
  | _, _, .str x => .str x
  | _, _, .lst h1 h2 => .lst (s _ _ h1) (RpAll.mono s h2)
  | _, _, .tup h1 h2 => .tup (s _ _ h1) (RpAll.mono s h2)
  | _, _, .scr h => .scr (s.seq h)
  | _, _, .obj => .obj
theorem RpAll.mono (s : Same G G') : ∀ {vs : List V} {ds : List PyData}, RpAll K G vs ds → RpAll K G' vs ds
  | _, _, .nil => .nil
  | _, _, .cons h1 h2 => .cons (Rp.mono s h1) (RpAll.mono s h2)
end
theorem RpAll.length : ∀ {ds : List PyData} {vs : List V}, RpAll K G vs ds → vs.length = ds.length
  | [], _, h => by rw [h.nil_inv]; rfl
  | d :: ds, _, h => by
    obtain ⟨v, ws, rfl, _, h2⟩ := h.cons_inv
    rw [List.length_cons, List.length_cons, h2.length]
theorem RpAll.get : ∀ {ds : List PyData} {vs : List V} {i : Nat} {d : PyData}, RpAll K G vs ds → ds[i]? = some d → ∃ v, vs[i]? = some v ∧ Rp K G v d
  | [], _, i, d, h, e => by simp at e
  | x :: ds, _, 0, d, h, e => by
    obtain ⟨v, ws, rfl, h1, _⟩ := h.cons_inv
    have : x = d := by simpa using e
    subst this
    exact ⟨v, rfl, h1⟩
  | x :: ds, _, i + 1, d, h, e => by
    obtain ⟨v, ws, rfl, _, h2⟩ := h.cons_inv
    obtain ⟨w, e1, e2⟩ := h2.get (i := i) (d := d) (by simpa using e)
    exact ⟨w, by simpa using e1, e2⟩
theorem RpAll.of_get : ∀ {ds : List PyData} {vs : List V} {i : Nat} {v : V}, RpAll K G vs ds → vs[i]? = some v → ∃ d, ds[i]? = some d ∧ Rp K G v d := by
  intro ds vs i v h e
  have hl := h.length
  have hi : i < ds.length := by
    rw [← hl]
    exact (List.getElem?_eq_some_iff.mp e).1
  obtain ⟨w, e1, e2⟩ := h.get (List.getElem?_eq_getElem hi)
  rw [e] at e1
  cases e1
  exact ⟨_, List.getElem?_eq_getElem hi, e2⟩
theorem RpAll.append : ∀ {ds es : List PyData} {vs ws : List V}, RpAll K G vs ds → RpAll K G ws es → RpAll K G (vs ++ ws) (ds ++ es)
  | [], es, _, ws, h, g => by rw [h.nil_inv]; exact g
  | d :: ds, es, _, ws, h, g => by
    obtain ⟨v, us, rfl, h1, h2⟩ := h.cons_inv
    exact .cons h1 (h2.append g)
theorem RpAll.one {v : V} {d : PyData} (h : Rp K G v d) : RpAll K G [v] [d] := .cons h .nil
theorem RpAll.take : ∀ {ds : List PyData} {vs : List V} (n : Nat), RpAll K G vs ds → RpAll K G (vs.take n) (ds.take n)
  | _, _, 0, _ => .nil
  | [], _, n + 1, h => by rw [h.nil_inv]; exact .nil
  | d :: ds, _, n + 1, h => by
    obtain ⟨v, us, rfl, h1, h2⟩ := h.cons_inv
    exact .cons h1 (h2.take n)
theorem RpAll.drop : ∀ {ds : List PyData} {vs : List V} (n : Nat), RpAll K G vs ds → RpAll K G (vs.drop n) (ds.drop n)
  | _, _, 0, h => h
  | [], _, n + 1, h => by rw [h.nil_inv]; exact .nil
  | d :: ds, _, n + 1, h => by
    obtain ⟨v, us, rfl, h1, h2⟩ := h.cons_inv
    exact h2.drop n
theorem RpAll.set {v : V} {d : PyData} (r : Rp K G v d) : ∀ {ds : List PyData} {vs : List V} (i : Nat), RpAll K G vs ds → RpAll K G (vs.set i v) (ds.set i d)
  | [], _, i, h => by rw [h.nil_inv]; exact .nil
  | x :: ds, _, 0, h => by
    obtain ⟨w, us, rfl, h1, h2⟩ := h.cons_inv
    exact .cons r h2
  | x :: ds, _, i + 1, h => by
    obtain ⟨w, us, rfl, h1, h2⟩ := h.cons_inv
    exact .cons h1 (h2.set r i)
theorem RpAll.rep {ds : List PyData} {vs : List V} (h : RpAll K G vs ds) : ∀ n : Nat, RpAll K G (List.replicate n vs).flatten (List.replicate n ds).flatten
  | 0 => .nil
  | n + 1 => by
    rw [List.replicate_succ, List.replicate_succ, List.flatten_cons, List.flatten_cons]
    exact h.append (h.rep n)
theorem RpAll.ints : ∀ {ns : List Int} {vs : List V}, RpAll K G vs (ns.map PyData.int) → vs = ns.map V.int
  | [], _, h => h.nil_inv
  | n :: ns, _, h => by
    obtain ⟨v, us, rfl, h1, h2⟩ := h.cons_inv
    rw [h1.int_inv, h2.ints]; rfl
theorem RpAll.of_ints : ∀ (ns : List Int), RpAll K G (ns.map V.int) (ns.map PyData.int)
  | [] => .nil
  | n :: ns => .cons (.int n) (RpAll.of_ints ns)
theorem RpAll.strs : ∀ {ns : List Str} {vs : List V}, RpAll K G vs (ns.map PyData.str) → vs = ns.map V.str
  | [], _, h => h.nil_inv
  | n :: ns, _, h => by
    obtain ⟨v, us, rfl, h1, h2⟩ := h.cons_inv
    rw [h1.str_inv, h2.strs]; rfl
end

/-! ### no dict within; to the layer's own reading of data -/
mutual
def plainD : PyData → Bool
  | .none => true
  | .bool _ => true
  | .int _ => true
  | .str _ => true
  | .list xs => plainAll xs
  | .tuple xs => plainAll xs
  | .dict _ => false
def plainAll : List PyData → Bool
  | [] => true
  | d :: ds => plainD d && plainAll ds
end
mutual
theorem Rp.dp {K : PySem.W.Frag} {G H : Hp} (s : Same G H) : ∀ (d : PyData) (v : V), plainD d = true → Rp K G v d → Dp K H v d
  | .none, _, _, h => by rw [h.non_inv]; exact .non
  | .bool b, _, _, h => by rw [h.bl_inv]; exact .bl b
  | .int i, _, _, h => by rw [h.int_inv]; exact .int i
  | .str x, _, _, h => by rw [h.str_inv]; exact .str x
  | .list ds, _, p, h => by
    obtain ⟨a, xs, rfl, h1, h2⟩ := h.lst_inv
    exact .lst (SqL.of (s _ _ h1)) (RpAll.dp s ds xs (by unfold plainD at p; exact p) h2)
  | .tuple ds, _, p, h => by
    obtain ⟨a, xs, rfl, h1, h2⟩ := h.tup_inv
    exact .tup (SqT.of (s _ _ h1)) (RpAll.dp s ds xs (by unfold plainD at p; exact p) h2)
  | .dict _, _, p, _ => by unfold plainD at p; cases p
theorem RpAll.dp {K : PySem.W.Frag} {G H : Hp} (s : Same G H) : ∀ (ds : List PyData) (vs : List V), plainAll ds = true → RpAll K G vs ds → DpAll K H vs ds
  | [], _, _, h => by rw [h.nil_inv]; exact .nil
  | d :: ds, _, p, h => by
    obtain ⟨v, us, rfl, h1, h2⟩ := h.cons_inv
    unfold plainAll at p
    have p' := Bool.and_eq_true_iff.mp p
    exact .cons (Rp.dp s d v p'.1 h1) (RpAll.dp s ds us p'.2 h2)
end

/-! ### steps -/
structure Stp (G M H G' M' H' : Hp) : Prop where
  gg : Same G G'
  th : ∀ b, H b ≠ none → H' b ≠ none
  fr : ∀ b o, H b = some o → M b = none → H' b = some o
  ng : ∀ b, H b ≠ none → G b = none → G' b = none
  nm : ∀ b, H b ≠ none → M b = none → M' b = none
structure Wf {ρ : Type} (R : ρ → Hp → Hp → Prop) (G M H : Hp) (r : ρ) : Prop where
  gh : Same G H
  mh : Same M H
  dj : ∀ b, M b ≠ none → G b = none
  res : R r G M
class Stab {ρ : Type} (R : ρ → Hp → Hp → Prop) : Prop where
  out : ∀ (r : ρ) (G G' M : Hp), Same G G' → (∀ b, M b ≠ none → G' b = none) → R r G M → R r G' M

theorem some_ne {o : HO} {x : Option HO} (h : x = some o) : x ≠ none := fun e => by rw [h] at e; cases e
theorem Stp.refl (G M H : Hp) : Stp G M H G M H := ⟨Same.refl _, fun _ h => h, fun _ _ h _ => h, fun _ _ h => h, fun _ _ h => h⟩
theorem Stp.trans {G M H G1 M1 H1 G2 M2 H2 : Hp} (a : Stp G M H G1 M1 H1) (b : Stp G1 M1 H1 G2 M2 H2) : Stp G M H G2 M2 H2 where
  gg := a.gg.trans b.gg
  th := fun x h => b.th x (a.th x h)
  fr := fun x o h m => b.fr x o (a.fr x o h m) (a.nm x (some_ne h) m)
  ng := fun x h g => b.ng x (a.th x h) (a.ng x h g)
  nm := fun x h m => b.nm x (a.th x h) (a.nm x h m)
theorem Stp.rebase {G0 M0 H0 G M H : Hp} (s : Stp G0 M0 H0 G M H) : Stp G M0 H0 G M H := ⟨Same.refl _, s.th, s.fr, fun _ _ g => g, s.nm⟩
theorem Stp.unbase {G0 M0 H0 G M H G2 M2 H2 : Hp} (s : Stp G0 M0 H0 G M H) (t : Stp G M0 H0 G2 M2 H2) : Stp G0 M0 H0 G2 M2 H2 := ⟨s.gg.trans t.gg, t.th, t.fr, fun b h g => t.ng b h (s.ng b h g), t.nm⟩
section
variable {ρ : Type} {R : ρ → Hp → Hp → Prop} {G M H G' M' H' : Hp} {r : ρ}
theorem same_new {p : Addr} {o : HO} (h : H p = none) : Same H (upd H p o) := fun b u e => by rw [upd_ne (ne_of_none e h)]; exact e
theorem same_upd {p : Addr} {o : HO} (s : Same G H) (h : G p = none) : Same G (upd H p o) := fun b u e => by rw [upd_ne (ne_of_none e h)]; exact s b u e
theorem same_both {p : Addr} {o : HO} (s : Same G H) : Same (upd G p o) (upd H p o) := fun b u e => by
  by_cases hb : b = p
  · subst hb; rw [upd_same] at e ⊢; exact e
  · rw [upd_ne hb] at e ⊢; exact s b u e
theorem Wf.gn (w : Wf R G M H r) {p : Addr} (h : H p = none) : G p = none := w.gh.free h
theorem Wf.mn (w : Wf R G M H r) {p : Addr} (h : H p = none) : M p = none := w.mh.free h
theorem Wf.alloc [Stab R] (w : Wf R G M H r) {p : Addr} (h : H p = none) (o : HO) : Wf R (upd G p o) M (upd H p o) r := by
  have hd : ∀ b, M b ≠ none → upd G p o b = none := fun b hb => by
    have : b ≠ p := fun e => hb (by rw [e]; exact w.mn h)
    rw [upd_ne this]; exact w.dj b hb
  exact ⟨same_both w.gh, same_upd w.mh (w.mn h), hd, Stab.out r G _ M (same_new (w.gn h)) hd w.res⟩
theorem Stp.alloc (hg : G p = none) (h : H p = none) (o : HO) : Stp G M H (upd G p o) M (upd H p o) where
  gg := same_new hg
  th := fun b hb => by
    by_cases e : b = p
    · rw [e, upd_same]; exact fun z => nomatch z
    · rw [upd_ne e]; exact hb
  fr := fun b u e _ => by rw [upd_ne (ne_of_none e h)]; exact e
  ng := fun b hb g => by
    have : b ≠ p := fun e => hb (by rw [e]; exact h)
    rw [upd_ne this]; exact g
  nm := fun _ _ m => m
/-- a hidden thing is laid or changed -/
theorem Wf.hid (w : Wf R G M H r) {p : Addr} (g : G p = none) (m : M p = none) (o : HO) : Wf R G M (upd H p o) r := ⟨same_upd w.gh g, same_upd w.mh m, w.dj, w.res⟩
theorem Stp.hid (s : Stp G M H G' M' H') {p : Addr} (h : H p = none) (o : HO) : Stp G M H G' M' (upd H' p o) where
  gg := s.gg
  th := fun b hb => by
    by_cases e : b = p
    · rw [e, upd_same]; exact fun z => nomatch z
    · rw [upd_ne e]; exact s.th b hb
  fr := fun b u e m => by rw [upd_ne (ne_of_none e h)]; exact s.fr b u e m
  ng := s.ng
  nm := s.nm
/-- a hidden thing comes to stay as it is -/
theorem Wf.freeze [Stab R] (w : Wf R G M H r) {p : Addr} {o : HO} (h : H p = some o) (g : G p = none) (m : M p = none) : Wf R (upd G p o) M H r := by
  have hd : ∀ b, M b ≠ none → upd G p o b = none := fun b hb => by
    have : b ≠ p := fun e => hb (by rw [e]; exact m)
    rw [upd_ne this]; exact w.dj b hb
  refine ⟨fun b u e => ?_, w.mh, hd, Stab.out r G _ M (same_new g) hd w.res⟩
  by_cases hb : b = p
  · subst hb; rw [upd_same] at e; rw [h]; exact e
  · rw [upd_ne hb] at e; exact w.gh b u e
theorem Stp.freeze (s : Stp G M H G' M' H') {p : Addr} {o : HO} (h : H p = none) (g : G' p = none) : Stp G M H (upd G' p o) M' H' where
  gg := s.gg.trans (same_new g)
  th := s.th
  fr := s.fr
  ng := fun b hb gb => by
    have : b ≠ p := fun e => hb (by rw [e]; exact h)
    rw [upd_ne this]; exact s.ng b hb gb
  nm := s.nm
end

/-! ### what the slots hold -/
inductive Sk where
  | hid
  | dat (d : PyData)
  | own (ds : List PyData)
abbrev SE := List Sk
structure EnvO (K : PySem.W.Frag) (B G M H : Hp) (σ : St) (e : SE) : Prop where
  len : σ.length = e.length
  dat : ∀ (i : Nat) d, e[i]? = some (.dat d) → ∃ v, σ[i]? = some (some v) ∧ Rp K G v d
  own : ∀ (i : Nat) ds, e[i]? = some (.own ds) → ∃ l vs, σ[i]? = some (some (.ref l)) ∧ B l = none ∧ G l = none ∧ M l = none ∧ H l = some (.lst vs) ∧ RpAll K G vs ds
  sep : ∀ (i j : Nat) ds es l, e[i]? = some (.own ds) → e[j]? = some (.own es) → σ[i]? = some (some (.ref l)) → σ[j]? = some (some (.ref l)) → i = j
section
variable {K : PySem.W.Frag} {B G M H G' M' H' : Hp} {σ : St} {e : SE}
theorem EnvO.step (v : EnvO K B G M H σ e) (s : Stp G M H G' M' H') : EnvO K B G' M' H' σ e where
  len := v.len
  dat := fun i d h => by
    obtain ⟨x, h1, h2⟩ := v.dat i d h
    exact ⟨x, h1, h2.mono s.gg⟩
  own := fun i ds h => by
    obtain ⟨l, vs, h1, h2, h3, h4, h5, h6⟩ := v.own i ds h
    exact ⟨l, vs, h1, h2, s.ng l (some_ne h5) h3, s.nm l (some_ne h5) h4, s.fr l _ h5 h4, h6.mono s.gg⟩
  sep := v.sep
theorem getElem?_set_ne' {α : Type} {l : List α} {i j : Nat} {x : α} (h : i ≠ j) : (l.set i x)[j]? = l[j]? := List.getElem?_set_ne h
theorem set_cases {α : Type} {l : List α} {i j : Nat} {x y : α} (h : (l.set i x)[j]? = some y) : (i = j ∧ y = x ∧ j < l.length) ∨ (i ≠ j ∧ l[j]? = some y) := by
  by_cases hij : i = j
  · subst hij
    by_cases hl : i < l.length
    · rw [List.getElem?_set_self hl] at h
      cases h
      exact .inl ⟨rfl, rfl, hl⟩
    · rw [List.getElem?_eq_none (by rw [List.length_set]; omega)] at h
      cases h
  · rw [List.getElem?_set_ne hij] at h
    exact .inr ⟨hij, h⟩
/-- a slot takes a datum -/
theorem EnvO.setD (v : EnvO K B G M H σ e) {i : Nat} {x : V} {d : PyData} (h : Rp K G x d) : EnvO K B G M H (σ.set i (some x)) (e.set i (.dat d)) where
  len := by rw [List.length_set, List.length_set, v.len]
  dat := fun j d' hj => by
    rcases set_cases hj with ⟨rfl, e1, hl⟩ | ⟨hne, hj⟩
    · injection e1 with e1
      subst e1
      exact ⟨x, List.getElem?_set_self (by rw [v.len]; exact hl), h⟩
    · obtain ⟨w, h1, h2⟩ := v.dat j d' hj
      exact ⟨w, by rw [List.getElem?_set_ne hne]; exact h1, h2⟩
  own := fun j ds hj => by
    rcases set_cases hj with ⟨_, e1, _⟩ | ⟨hne, hj⟩
    · cases e1
    · obtain ⟨l, vs, h1, h2⟩ := v.own j ds hj
      exact ⟨l, vs, by rw [List.getElem?_set_ne hne]; exact h1, h2⟩
  sep := fun j k ds es l hj hk h1 h2 => by
    rcases set_cases hj with ⟨_, e1, _⟩ | ⟨hne, hj⟩
    · cases e1
    rcases set_cases hk with ⟨_, e1, _⟩ | ⟨hne2, hk⟩
    · cases e1
    rw [List.getElem?_set_ne hne] at h1
    rw [List.getElem?_set_ne hne2] at h2
    exact v.sep j k ds es l hj hk h1 h2
theorem EnvO.setH (v : EnvO K B G M H σ e) {i : Nat} {x : Option V} : EnvO K B G M H (σ.set i x) (e.set i .hid) where
  len := by rw [List.length_set, List.length_set, v.len]
  dat := fun j d' hj => by
    rcases set_cases hj with ⟨_, e1, hl⟩ | ⟨hne, hj⟩
    · cases e1
    · obtain ⟨w, h1, h2⟩ := v.dat j d' hj
      exact ⟨w, by rw [List.getElem?_set_ne hne]; exact h1, h2⟩
  own := fun j ds hj => by
    rcases set_cases hj with ⟨_, e1, _⟩ | ⟨hne, hj⟩
    · cases e1
    · obtain ⟨l, vs, h1, h2⟩ := v.own j ds hj
      exact ⟨l, vs, by rw [List.getElem?_set_ne hne]; exact h1, h2⟩
  sep := fun j k ds es l hj hk h1 h2 => by
    rcases set_cases hj with ⟨_, e1, _⟩ | ⟨hne, hj⟩
    · cases e1
    rcases set_cases hk with ⟨_, e1, _⟩ | ⟨hne2, hk⟩
    · cases e1
    rw [List.getElem?_set_ne hne] at h1
    rw [List.getElem?_set_ne hne2] at h2
    exact v.sep j k ds es l hj hk h1 h2
/-- a slot takes a new list of its own -/
theorem EnvO.setO (v : EnvO K B G M H σ e) {i : Nat} {l : Addr} {vs : List V} {ds : List PyData} (hB : B l = none) (hG : G l = none) (hM : M l = none) (hH : H l = some (.lst vs)) (h : RpAll K G vs ds)
    (new : ∀ (j : Nat) es, e[j]? = some (.own es) → σ[j]? ≠ some (some (.ref l))) : EnvO K B G M H (σ.set i (some (.ref l))) (e.set i (.own ds)) where
  len := by rw [List.length_set, List.length_set, v.len]
  dat := fun j d' hj => by
    rcases set_cases hj with ⟨_, e1, hl⟩ | ⟨hne, hj⟩
    · cases e1
    · obtain ⟨w, h1, h2⟩ := v.dat j d' hj
      exact ⟨w, by rw [List.getElem?_set_ne hne]; exact h1, h2⟩
  own := fun j es hj => by
    rcases set_cases hj with ⟨rfl, e1, hl⟩ | ⟨hne, hj⟩
    · injection e1 with e1
      subst e1
      exact ⟨l, vs, List.getElem?_set_self (by rw [v.len]; exact hl), hB, hG, hM, hH, h⟩
    · obtain ⟨l', vs', h1, h2⟩ := v.own j es hj
      exact ⟨l', vs', by rw [List.getElem?_set_ne hne]; exact h1, h2⟩
  sep := fun j k es fs a hj hk h1 h2 => by
    rcases set_cases hj with ⟨e1, _, hl⟩ | ⟨hne, hj⟩
    · rcases set_cases hk with ⟨e2, _, _⟩ | ⟨hne2, hk⟩
      · rw [← e1, ← e2]
      · subst e1
        rw [List.getElem?_set_self (by rw [v.len]; exact hl)] at h1
        rw [List.getElem?_set_ne hne2] at h2
        cases h1
        exact absurd h2 (new k _ hk)
    · rw [List.getElem?_set_ne hne] at h1
      rcases set_cases hk with ⟨e2, _, hl⟩ | ⟨hne2, hk⟩
      · subst e2
        rw [List.getElem?_set_self (by rw [v.len]; exact hl)] at h2
        cases h2
        exact absurd h1 (new j _ hj)
      · rw [List.getElem?_set_ne hne2] at h2
        exact v.sep j k es fs a hj hk h1 h2
/-- the own list of a slot is changed -/
theorem EnvO.mutO (v : EnvO K B G M H σ e) {i : Nat} {l : Addr} {vs' : List V} {ds ds' : List PyData} (hi : e[i]? = some (.own ds)) (hl : σ[i]? = some (some (.ref l))) (h : RpAll K G vs' ds') :
    EnvO K B G M (upd H l (.lst vs')) σ (e.set i (.own ds')) where
  len := by rw [List.length_set, v.len]
  dat := fun j d' hj => by
    rcases set_cases hj with ⟨_, e1, _⟩ | ⟨hne, hj⟩
    · cases e1
    · exact v.dat j d' hj
  own := fun j es hj => by
    rcases set_cases hj with ⟨rfl, e1, _⟩ | ⟨hne, hj⟩
    · injection e1 with e1
      subst e1
      obtain ⟨l', ws, h1, h2, h3, h4, h5, h6⟩ := v.own i ds hi
      rw [hl] at h1
      cases h1
      exact ⟨l, vs', hl, h2, h3, h4, upd_same, h⟩
    · obtain ⟨l', ws, h1, h2, h3, h4, h5, h6⟩ := v.own j es hj
      have : l' ≠ l := fun q => hne (v.sep i j ds es l hi hj hl (by rw [← q]; exact h1))
      exact ⟨l', ws, h1, h2, h3, h4, by rw [upd_ne this]; exact h5, h6⟩
  sep := fun j k es fs a hj hk h1 h2 => by
    have own_of : ∀ (j : Nat) es, (e.set i (.own ds'))[j]? = some (.own es) → ∃ es', e[j]? = some (.own es') := fun j es hj => by
      rcases set_cases hj with ⟨q, _, _⟩ | ⟨_, hj⟩
      · exact ⟨ds, by rw [← q]; exact hi⟩
      · exact ⟨es, hj⟩
    obtain ⟨es', hj'⟩ := own_of j es hj
    obtain ⟨fs', hk'⟩ := own_of k fs hk
    exact v.sep j k _ _ a hj' hk' h1 h2
/-- the own list of a slot comes to stay: it is a datum from now on -/
theorem EnvO.frz (v : EnvO K B G M H σ e) {i : Nat} {ds : List PyData} (hi : e[i]? = some (.own ds)) : ∃ l vs, σ[i]? = some (some (.ref l)) ∧ B l = none ∧ G l = none ∧ M l = none ∧ H l = some (.lst vs) ∧
    EnvO K B (upd G l (.lst vs)) M H σ (e.set i (.dat (.list ds))) := by
  obtain ⟨l, vs, h1, h2, h3, h4, h5, h6⟩ := v.own i ds hi
  have sm : Same G (upd G l (.lst vs)) := same_new h3
  refine ⟨l, vs, h1, h2, h3, h4, h5, by rw [List.length_set, v.len], fun j d hj => ?_, fun j es hj => ?_, fun j k es fs a hj hk g1 g2 => ?_⟩
  · rcases set_cases hj with ⟨rfl, e1, _⟩ | ⟨hne, hj⟩
    · injection e1 with e1
      subst e1
      exact ⟨.ref l, h1, .lst upd_same (h6.mono sm)⟩
    · obtain ⟨w, g1, g2⟩ := v.dat j d hj
      exact ⟨w, g1, g2.mono sm⟩
  · rcases set_cases hj with ⟨_, e1, _⟩ | ⟨hne, hj⟩
    · cases e1
    · obtain ⟨l', ws, g1, g2, g3, g4, g5, g6⟩ := v.own j es hj
      have : l' ≠ l := fun q => hne (v.sep i j ds es l hi hj h1 (by rw [← q]; exact g1))
      exact ⟨l', ws, g1, g2, by rw [upd_ne this]; exact g3, g4, g5, g6.mono sm⟩
  · rcases set_cases hj with ⟨_, e1, _⟩ | ⟨hne, hj⟩
    · cases e1
    rcases set_cases hk with ⟨_, e1, _⟩ | ⟨hne2, hk⟩
    · cases e1
    exact v.sep j k es fs a hj hk g1 g2
end
end Fw

namespace Fw
open PySem L2

/-! ### expressions -/
section
variable (K : PySem.W.Frag) {ρ : Type} (R : ρ → Hp → Hp → Prop)
/-- te gives data as P says, the state goes with it -/
def EvS (te : TE) (e : SE) (r : ρ) (P : PyData → ρ → Prop) : Prop := ∀ (B : Hp) (σ : St) (G M H : Hp), EnvO K B G M H σ e → Wf R G M H r → ∀ Q : VK,
  (∀ v d r' G' M' H', P d r' → Stp G M H G' M' H' → Wf R G' M' H' r' → Rp K G' v d → Q v H') → te σ H Q
def EvTS (tt : TT) (e : SE) (r : ρ) (P : Bool → ρ → Prop) : Prop := ∀ (B : Hp) (σ : St) (G M H : Hp), EnvO K B G M H σ e → Wf R G M H r → ∀ Q : Bool → Hp → Prop,
  (∀ b r' G' M' H', P b r' → Stp G M H G' M' H' → Wf R G' M' H' r' → Q b H') → tt σ H Q
abbrev EvD (te : TE) (e : SE) (r : ρ) (d : PyData) : Prop := EvS K R te e r (fun d' r' => d' = d ∧ r' = r)
abbrev EvT (tt : TT) (e : SE) (r : ρ) (b : Bool) : Prop := EvTS K R tt e r (fun b' r' => b' = b ∧ r' = r)
/-- a new list -/
def EvF (te : TE) (e : SE) (r : ρ) (ds : List PyData) : Prop := ∀ (B : Hp) (σ : St) (G M H : Hp), EnvO K B G M H σ e → Wf R G M H r → ∀ Q : VK,
  (∀ l vs G' M' H', Stp G M H G' M' H' → Wf R G' M' H' r → H l = none → G' l = none → M' l = none → H' l = some (.lst vs) → RpAll K G' vs ds → Q (.ref l) H') → te σ H Q
def EvA (ta : TA) (e : SE) (r : ρ) (ds : List PyData) : Prop := ∀ (B : Hp) (σ : St) (G M H : Hp), EnvO K B G M H σ e → Wf R G M H r → ∀ Q : List V → Hp → Prop,
  (∀ vs G' M' H', Stp G M H G' M' H' → Wf R G' M' H' r → RpAll K G' vs ds → Q vs H') → ta σ H Q
def EvO (to : TO) (e : SE) (r : ρ) (o : Option Int) : Prop := ∀ (B : Hp) (σ : St) (G M H : Hp), EnvO K B G M H σ e → Wf R G M H r → ∀ Q : Option Int → Hp → Prop,
  (∀ G' M' H', Stp G M H G' M' H' → Wf R G' M' H' r → Q o H') → to σ H Q
end
/-- by values: a pure step (no change of M) -/
structure Al (G M H G' H' : Hp) : Prop where
  st : Stp G M H G' M H'
  gh : Same G' H'
  mh : Same M H'
  dj : ∀ b, M b ≠ none → G' b = none
def Pre (G M H : Hp) : Prop := Same G H ∧ Same M H ∧ ∀ b, M b ≠ none → G b = none
def OpD (K : PySem.W.Frag) (r2 : R2) (d1 d2 d3 : PyData) : Prop := ∀ x y G M H, Pre G M H → Rp K G x d1 → Rp K G y d2 → ∀ Q : VK, (∀ z G' H', Al G M H G' H' → Rp K G' z d3 → Q z H') → r2 x y H Q
def OpF (K : PySem.W.Frag) (r2 : R2) (d1 d2 : PyData) (ds : List PyData) : Prop := ∀ x y G M H, Pre G M H → Rp K G x d1 → Rp K G y d2 → ∀ Q : VK,
  (∀ l vs H', (∀ b o, H b = some o → H' b = some o) → H l = none → H' l = some (.lst vs) → RpAll K G vs ds → Q (.ref l) H') → r2 x y H Q
def UnD (K : PySem.W.Frag) (r : V → Hp → VK → Prop) (d1 d3 : PyData) : Prop := ∀ x G M H, Pre G M H → Rp K G x d1 → ∀ Q : VK, (∀ z, Rp K G z d3 → Q z H) → r x H Q
/-- a call of a builtin -/
def CbD (K : PySem.W.Frag) (r : List V → Hp → VK → Prop) (ds : List PyData) (d3 : PyData) : Prop := ∀ vs G M H, Pre G M H → RpAll K G vs ds → ∀ Q : VK, (∀ z, Rp K G z d3 → Q z H) → r vs H Q
def CbF (K : PySem.W.Frag) (r : List V → Hp → VK → Prop) (ds : List PyData) (es : List PyData) : Prop := ∀ vs G M H, Pre G M H → RpAll K G vs ds → ∀ Q : VK,
  (∀ l ws H', (∀ b o, H b = some o → H' b = some o) → H l = none → H' l = some (.lst ws) → RpAll K G ws es → Q (.ref l) H') → r vs H Q

section
variable {K : PySem.W.Frag} {ρ : Type} {R : ρ → Hp → Hp → Prop} {e : SE} {r : ρ} {ta tb te tc : TE} {t u : TT} {d d1 d2 d3 : PyData} {ds es : List PyData} {G M H G' H' : Hp}
theorem Wf.pre (w : Wf R G M H r) : Pre G M H := ⟨w.gh, w.mh, w.dj⟩
theorem Al.refl (p : Pre G M H) : Al G M H G H := ⟨Stp.refl _ _ _, p.1, p.2.1, p.2.2⟩
theorem Wf.al [Stab R] (w : Wf R G M H r) (a : Al G M H G' H') : Wf R G' M H' r := ⟨a.gh, a.mh, a.dj, Stab.out r G G' M a.st.gg a.dj w.res⟩
theorem Al.new (p : Pre G M H) {q : Addr} (h : H q = none) (o : HO) : Al G M H (upd G q o) (upd H q o) := by
  obtain ⟨p1, p2, p3⟩ := p
  refine ⟨Stp.alloc (p1.free h) h o, same_both p1, same_upd p2 (p2.free h), fun b hb => ?_⟩
  have : b ≠ q := fun e => hb (by rw [e]; exact p2.free h)
  rw [upd_ne this]; exact p3 b hb
theorem Al.trans {G'' H'' : Hp} (a : Al G M H G' H') (b : Al G' M H' G'' H'') : Al G M H G'' H'' := ⟨a.st.trans b.st, b.gh, b.mh, b.dj⟩
theorem Al.pre (a : Al G M H G' H') : Pre G' M H' := ⟨a.gh, a.mh, a.dj⟩

/-- from a new list to a datum -/
theorem EvF.ev [Stab R] (h : EvF K R te e r ds) : EvD K R te e r (.list ds) := fun B σ G M H v w Q q =>
  h B σ G M H v w Q fun l vs G' M' H' s w' h1 h2 h3 h4 h5 => q (.ref l) (.list ds) r _ M' H' ⟨rfl, rfl⟩ (s.freeze h1 h2) (w'.freeze h4 h2 h3) (.lst upd_same (h5.mono (same_new h2)))
theorem EvS.imp {P P' : PyData → ρ → Prop} (h : EvS K R te e r P) (hp : ∀ d r', P d r' → P' d r') : EvS K R te e r P' := fun B σ G M H v w Q q =>
  h B σ G M H v w Q fun x d r' G' M' H' p => q x d r' G' M' H' (hp d r' p)
theorem EvS.of (h : EvD K R te e r d) {P : PyData → ρ → Prop} (hp : P d r) : EvS K R te e r P := h.imp fun d' r' ⟨e1, e2⟩ => by rw [e1, e2]; exact hp
theorem EvTS.imp {P P' : Bool → ρ → Prop} (h : EvTS K R t e r P) (hp : ∀ d r', P d r' → P' d r') : EvTS K R t e r P' := fun B σ G M H v w Q q =>
  h B σ G M H v w Q fun b r' G' M' H' p => q b r' G' M' H' (hp b r' p)
theorem EvT.is {b b' : Bool} (h : EvT K R t e r b) (eq : b = b') : EvT K R t e r b' := eq ▸ h
theorem EvD.is {d d' : PyData} (h : EvD K R te e r d) (eq : d = d') : EvD K R te e r d' := eq ▸ h
/-- one after the other -/
theorem ev_seq2 {ta tb : TE} {P1 : PyData → ρ → Prop} {P2 : PyData → PyData → ρ → Prop} (ha : EvS K R ta e r P1) (hb : ∀ d1 r1, P1 d1 r1 → EvS K R tb e r1 (P2 d1)) (B : Hp) (σ : St) (G M H : Hp) (v : EnvO K B G M H σ e) (w : Wf R G M H r)
    (Q : V → V → Hp → Prop) (q : ∀ x y d1 d2 r2 G' M' H', P2 d1 d2 r2 → Stp G M H G' M' H' → Wf R G' M' H' r2 → Rp K G' x d1 → Rp K G' y d2 → Q x y H') : ta σ H fun x H1 => tb σ H1 fun y H2 => Q x y H2 :=
  ha B σ G M H v w _ fun x d1 r1 G1 M1 H1 p1 s1 w1 h1 => hb d1 r1 p1 B σ G1 M1 H1 (v.step s1) w1 _ fun y d2 r2 G2 M2 H2 p2 s2 w2 h2 => q x y d1 d2 r2 G2 M2 H2 p2 (s1.trans s2) w2 (h1.mono s2.gg) h2

theorem ev_var {i : Nat} (h : e[i]? = some (.dat d)) : EvD K R (tVar i) e r d := fun B σ G M H v w Q q => by
  obtain ⟨x, h1, h2⟩ := v.dat i d h
  exact ⟨x, h1, q x d r G M H ⟨rfl, rfl⟩ (Stp.refl _ _ _) w h2⟩
theorem ev_c {v : V} (h : ∀ G, Rp K G v d) : EvD K R (tC v) e r d := fun B σ G M H _ w Q q => q v d r G M H ⟨rfl, rfl⟩ (Stp.refl _ _ _) w (h G)
theorem ev_int {i : Int} : EvD K R (tC (.int i)) e r (.int i) := ev_c fun _ => .int i
theorem ev_str {x : Str} : EvD K R (tC (.str x)) e r (.str x) := ev_c fun _ => .str x
theorem ev_bl {b : Bool} : EvD K R (tC (.bl b)) e r (.bool b) := ev_c fun _ => .bl b
theorem ev_non : EvD K R (tC .non) e r .none := ev_c fun _ => .non
theorem evs_op [Stab R] {r2 : R2} {P1 : PyData → ρ → Prop} {P2 : PyData → PyData → ρ → Prop} {P3 : PyData → ρ → Prop} (ha : EvS K R ta e r P1) (hb : ∀ d1 r1, P1 d1 r1 → EvS K R tb e r1 (P2 d1))
    (hr : ∀ d1 d2 r', P2 d1 d2 r' → ∃ d3, OpD K r2 d1 d2 d3 ∧ P3 d3 r') : EvS K R (tOp r2 ta tb) e r P3 := fun B σ G M H v w Q q =>
  ev_seq2 ha hb B σ G M H v w _ fun x y d1 d2 r' G' M' H' p s w' h1 h2 => by
    obtain ⟨d3, o, p3⟩ := hr d1 d2 r' p
    exact o x y G' M' H' w'.pre h1 h2 Q fun z G3 H3 a h3 => q z d3 r' G3 M' H3 p3 (s.trans a.st) (w'.al a) h3
theorem ev_op [Stab R] {r2 : R2} (ha : EvD K R ta e r d1) (hb : EvD K R tb e r d2) (hr : OpD K r2 d1 d2 d3) : EvD K R (tOp r2 ta tb) e r d3 :=
  evs_op (P2 := fun x y r' => x = d1 ∧ y = d2 ∧ r' = r) ha (fun _ _ ⟨e1, e2⟩ => by rw [e1, e2]; exact hb.imp fun _ _ ⟨e3, e4⟩ => ⟨rfl, e3, e4⟩) fun _ _ _ ⟨e1, e2, e3⟩ => by rw [e1, e2, e3]; exact ⟨d3, hr, rfl, rfl⟩
theorem evf_op [Stab R] {r2 : R2} (ha : EvD K R ta e r d1) (hb : EvD K R tb e r d2) (hr : OpF K r2 d1 d2 ds) : EvF K R (tOp r2 ta tb) e r ds := fun B σ G M H v w Q q =>
  ev_seq2 (P2 := fun x y r' => x = d1 ∧ y = d2 ∧ r' = r) ha (fun _ _ ⟨e1, e2⟩ => by rw [e1, e2]; exact hb.imp fun _ _ ⟨e3, e4⟩ => ⟨rfl, e3, e4⟩) B σ G M H v w _ fun x y _ _ r' G' M' H' ⟨e1, e2, e3⟩ s w' h1 h2 => by
    subst e1 e2 e3
    refine hr x y G' M' H' w'.pre h1 h2 Q fun l vs H3 k hl h3 hd => ?_
    have hg := w'.gn hl
    have hm := w'.mn hl
    have h0 : H l = none := by
      cases z : H l with
      | none => rfl
      | some o => exact absurd hl (s.th l (some_ne z))
    refine q l vs G' M' H3 ⟨s.gg, fun b hb => ?_, fun b o hb m => k _ _ (s.fr b o hb m), s.ng, s.nm⟩ ⟨w'.gh.trans k, w'.mh.trans k, w'.dj, w'.res⟩ h0 hg hm h3 hd
    cases z : H' b with
    | none => exact absurd z (s.th b hb)
    | some o => exact some_ne (k b o z)
theorem ev_un {r1 : V → Hp → VK → Prop} (ha : EvD K R ta e r d1) (hr : UnD K r1 d1 d3) : EvD K R (tUn r1 ta) e r d3 := fun B σ G M H v w Q q =>
  ha B σ G M H v w _ fun x d r' G' M' H' ⟨e1, e2⟩ s w' h => by
    subst e1 e2
    exact hr x G' M' H' w'.pre h Q fun z hz => q z d3 r' G' M' H' ⟨rfl, rfl⟩ s w' hz

/-! ### operators by values -/
theorem op_of {r2 : R2} {g : V} {x y : V} (hx : ∀ G, Rp K G x d1) (hy : ∀ G, Rp K G y d2) (ix : ∀ G v, Rp K G v d1 → v = x) (iy : ∀ G v, Rp K G v d2 → v = y) (hz : ∀ G, Rp K G g d3) (h : ∀ H (Q : VK), Q g H → r2 x y H Q) : OpD K r2 d1 d2 d3 :=
  fun a b G M H p h1 h2 Q q => by
    rw [ix G a h1, iy G b h2]
    exact h H Q (q g G H (Al.refl p) (hz G))
section
variable {i j : Int} {a b : Str} {p q : Bool}
theorem opI {g : Int → Int → Int} : OpD K (rI0 fun i j => .int (g i j)) (.int i) (.int j) (.int (g i j)) :=
  op_of (fun _ => .int i) (fun _ => .int j) (fun _ _ h => h.int_inv) (fun _ _ h => h.int_inv) (fun _ => .int _) fun H Q q => ⟨i, j, rfl, rfl, q⟩
theorem opIC {C : Int → Int → Prop} {g : Int → Int → Int} (c : C i j) : OpD K (rI C fun i j => .int (g i j)) (.int i) (.int j) (.int (g i j)) :=
  op_of (fun _ => .int i) (fun _ => .int j) (fun _ _ h => h.int_inv) (fun _ _ h => h.int_inv) (fun _ => .int _) fun H Q q => ⟨i, j, rfl, rfl, c, q⟩
theorem opB {g : Int → Int → Bool} : OpD K (rI0 fun i j => .bl (g i j)) (.int i) (.int j) (.bool (g i j)) :=
  op_of (fun _ => .int i) (fun _ => .int j) (fun _ _ h => h.int_inv) (fun _ _ h => h.int_inv) (fun _ => .bl _) fun H Q q => ⟨i, j, rfl, rfl, q⟩
theorem opEqI : OpD K rEq (.int i) (.int j) (.bool (decide (i = j))) :=
  op_of (g := .bl (decide (i = j))) (fun _ => .int i) (fun _ => .int j) (fun _ _ h => h.int_inv) (fun _ _ h => h.int_inv) (fun _ => .bl _) fun H Q q => ⟨rfl, by rw [show decide (V.int i = V.int j) = decide (i = j) from by rw [dec_int]; by_cases h : i = j <;> simp [h]]; exact q⟩
theorem opNeI : OpD K rNe (.int i) (.int j) (.bool (!decide (i = j))) :=
  op_of (g := .bl (!decide (i = j))) (fun _ => .int i) (fun _ => .int j) (fun _ _ h => h.int_inv) (fun _ _ h => h.int_inv) (fun _ => .bl _) fun H Q q => ⟨rfl, by rw [show decide (V.int i = V.int j) = decide (i = j) from by rw [dec_int]; by_cases h : i = j <;> simp [h]]; exact q⟩
theorem opEqS : OpD K rEq (.str a) (.str b) (.bool (decide (a = b))) :=
  op_of (g := .bl (decide (a = b))) (fun _ => .str a) (fun _ => .str b) (fun _ _ h => h.str_inv) (fun _ _ h => h.str_inv) (fun _ => .bl _) fun H Q q => ⟨rfl, by rw [show decide (V.str a = V.str b) = decide (a = b) from by by_cases h : a = b <;> simp [h]]; exact q⟩
theorem opEqB : OpD K rEq (.bool p) (.bool q) (.bool (decide (p = q))) :=
  op_of (g := .bl (decide (p = q))) (fun _ => .bl p) (fun _ => .bl q) (fun _ _ h => h.bl_inv) (fun _ _ h => h.bl_inv) (fun _ => .bl _) fun H Q z => ⟨rfl, by rw [show decide (V.bl p = V.bl q) = decide (p = q) from by by_cases h : p = q <;> simp [h]]; exact z⟩
theorem opNeB : OpD K rNe (.bool p) (.bool q) (.bool (!decide (p = q))) :=
  op_of (g := .bl (!decide (p = q))) (fun _ => .bl p) (fun _ => .bl q) (fun _ _ h => h.bl_inv) (fun _ _ h => h.bl_inv) (fun _ => .bl _) fun H Q z => ⟨rfl, by rw [show decide (V.bl p = V.bl q) = decide (p = q) from by by_cases h : p = q <;> simp [h]]; exact z⟩
theorem opIsB : OpD K rIsB (.bool p) (.bool q) (.bool (decide (p = q))) :=
  op_of (fun _ => .bl p) (fun _ => .bl q) (fun _ _ h => h.bl_inv) (fun _ _ h => h.bl_inv) (fun _ => .bl _) fun H Q z => ⟨p, q, rfl, rfl, z⟩
theorem opNotB : OpD K rNotB (.bool p) (.bool q) (.bool (!decide (p = q))) :=
  op_of (fun _ => .bl p) (fun _ => .bl q) (fun _ _ h => h.bl_inv) (fun _ _ h => h.bl_inv) (fun _ => .bl _) fun H Q z => ⟨p, q, rfl, rfl, z⟩
theorem opCatS (h : a.length + b.length ≤ sizeLine) : OpD K (fun x y H Q => ∃ i j, x = .str i ∧ y = .str j ∧ i.length + j.length ≤ sizeLine ∧ Q (.str (i ++ j)) H) (.str a) (.str b) (.str (a ++ b)) :=
  op_of (fun _ => .str a) (fun _ => .str b) (fun _ _ h => h.str_inv) (fun _ _ h => h.str_inv) (fun _ => .str _) fun H Q z => ⟨a, b, rfl, rfl, h, z⟩
end
theorem opEqD (p1 : plainD d1 = true) (p2 : plainD d2 = true) (s1 : SeqAt.shaped d1 = true) (s2 : SeqAt.shaped d2 = true) : OpD K (rEqD K) d1 d2 (.bool (PyData.eqv d1 d2)) :=
  fun x y G M H p h1 h2 Q q => ⟨d1, d2, Rp.dp p.1 d1 x p1 h1, Rp.dp p.1 d2 y p2 h2, s1, s2, q _ G H (Al.refl p) (.bl _)⟩
theorem opNeD (p1 : plainD d1 = true) (p2 : plainD d2 = true) (s1 : SeqAt.shaped d1 = true) (s2 : SeqAt.shaped d2 = true) : OpD K (rNeD K) d1 d2 (.bool (!PyData.eqv d1 d2)) :=
  fun x y G M H p h1 h2 Q q => ⟨d1, d2, Rp.dp p.1 d1 x p1 h1, Rp.dp p.1 d2 y p2 h2, s1, s2, q _ G H (Al.refl p) (.bl _)⟩
theorem opCat (h : ds.length + es.length ≤ sizeLine) : OpF K rCat (.list ds) (.list es) (ds ++ es) := fun x y G M H p h1 h2 Q q => by
  obtain ⟨a, xs, rfl, g1, r1⟩ := h1.lst_inv
  obtain ⟨b, ys, rfl, g2, r2⟩ := h2.lst_inv
  exact ⟨a, b, xs, ys, rfl, rfl, p.1 _ _ g1, p.1 _ _ g2, by rw [r1.length, r2.length]; exact h, fun l hl => q l _ _ (same_new hl) hl upd_same (r1.append r2)⟩
theorem opRep {k : Int} (h1 : -(2 ^ 63) ≤ k) (h2 : k < 2 ^ 63) (h : ds.length * k.toNat ≤ sizeLine) : OpF K rRep (.list ds) (.int k) (List.replicate k.toNat ds).flatten := fun x y G M H p g1 g2 Q q => by
  obtain ⟨a, xs, rfl, g1, r1⟩ := g1.lst_inv
  rw [g2.int_inv]
  exact ⟨a, k, xs, rfl, rfl, p.1 _ _ g1, h1, h2, by rw [r1.length]; exact h, fun l hl => q l _ _ (same_new hl) hl upd_same (r1.rep _)⟩
theorem ixN_len {n m : Nat} {i : Int} (h : n = m) : ixN n i = ixN m i := by rw [h]
theorem RpAll.atI {G : Hp} {vs : List V} {i : Int} (h : RpAll K G vs ds) (ha : L2.atI ds i = some d) : ∃ v, L2.atI vs i = some v ∧ Rp K G v d := by
  unfold L2.atI at ha ⊢
  rw [h.length]
  cases z : ixN ds.length i with
  | none => rw [z] at ha; cases ha
  | some j =>
    rw [z] at ha
    exact h.get (i := j) ha
theorem opIxL {i : Int} (h : L2.atI ds i = some d) : OpD K (rIxL K) (.list ds) (.int i) d := fun x y G M H p h1 h2 Q q => by
  obtain ⟨a, xs, rfl, g1, r1⟩ := h1.lst_inv
  rw [h2.int_inv]
  obtain ⟨v, e1, e2⟩ := r1.atI h
  exact ⟨a, xs, i, v, rfl, rfl, SqL.of (p.1 _ _ g1), e1, q v G H (Al.refl p) e2⟩
theorem opIxT {i : Int} (h : L2.atI ds i = some d) : OpD K (rIxT K) (.tuple ds) (.int i) d := fun x y G M H p h1 h2 Q q => by
  obtain ⟨a, xs, rfl, g1, r1⟩ := h1.tup_inv
  rw [h2.int_inv]
  obtain ⟨v, e1, e2⟩ := r1.atI h
  exact ⟨a, xs, i, v, rfl, rfl, SqT.of (p.1 _ _ g1), e1, q v G H (Al.refl p) e2⟩
theorem opIxScr {i n : Int} {ns : List Int} (h : L2.atI ns i = some n) : OpD K (rIxL K) (scrD ns) (.int i) (.int n) := fun x y G M H p h1 h2 Q q => by
  obtain ⟨a, rfl, g1⟩ := h1.scr_inv
  rw [h2.int_inv]
  refine ⟨a, ns.map V.int, i, .int n, rfl, rfl, p.1.seq g1, ?_, q _ G H (Al.refl p) (.int n)⟩
  unfold L2.atI at h ⊢
  rw [List.length_map]
  cases z : ixN ns.length i with
  | none => rw [z] at h; cases h
  | some j =>
    rw [z] at h
    show (ns.map V.int)[j]? = some (V.int n)
    rw [List.getElem?_map, show ns[j]? = some n from h]; rfl
theorem opIxS {i : Int} {w : Str} {c : Nat} (hl : w.length ≤ sizeLine) (h : L2.atI w.cps.toList i = some c) : OpD K rIxS (.str w) (.int i) (.str ⟨#[c]⟩) := fun x y G M H p h1 h2 Q q => by
  rw [h1.str_inv, h2.int_inv]
  exact ⟨w, i, c, rfl, rfl, hl, h, q _ G H (Al.refl p) (.str _)⟩
theorem opNeg {i : Int} : UnD K (rU fun i => .int (-i)) (.int i) (.int (-i)) := fun x G M H p h Q q => by
  rw [h.int_inv]
  exact ⟨i, rfl, q _ (.int _)⟩

/-! ### arguments, displays -/
theorem ea_nil : EvA K R tNil e r [] := fun B σ G M H v w Q q => q [] G M H (Stp.refl _ _ _) w .nil
theorem ea_cons {tr : TA} (h : EvD K R te e r d) (hr : EvA K R tr e r ds) : EvA K R (tCons te tr) e r (d :: ds) := fun B σ G M H v w Q q =>
  h B σ G M H v w _ fun x d' r' G1 M1 H1 ⟨e1, e2⟩ s1 w1 h1 => by
    subst e1 e2
    exact hr B σ G1 M1 H1 (v.step s1) w1 _ fun xs G2 M2 H2 s2 w2 h2 => q (x :: xs) G2 M2 H2 (s1.trans s2) w2 (.cons (h1.mono s2.gg) h2)
theorem free_back {G M H G' M' H' : Hp} (s : Stp G M H G' M' H') {l : Addr} (h : H' l = none) : H l = none := by
  cases z : H l with
  | none => rfl
  | some o => exact absurd h (s.th l (some_ne z))
theorem evf_lst {ta : TA} (h : EvA K R ta e r ds) (hl : ds.length ≤ sizeLine) : EvF K R (tLst ta) e r ds := fun B σ G M H v w Q q =>
  h B σ G M H v w _ fun vs G1 M1 H1 s w1 h1 => ⟨by rw [h1.length]; exact hl, fun p hp => q p vs G1 M1 _ (s.hid (free_back s hp) _) (w1.hid (w1.gn hp) (w1.mn hp) _) (free_back s hp) (w1.gn hp) (w1.mn hp) upd_same h1⟩
theorem ev_lst [Stab R] {ta : TA} (h : EvA K R ta e r ds) (hl : ds.length ≤ sizeLine) : EvD K R (tLst ta) e r (.list ds) := (evf_lst h hl).ev
theorem ev_tup [Stab R] {ta : TA} (h : EvA K R ta e r ds) (hl : ds.length ≤ sizeLine) : EvD K R (tTup ta) e r (.tuple ds) := fun B σ G M H v w Q q =>
  h B σ G M H v w _ fun vs G1 M1 H1 s w1 h1 => ⟨by rw [h1.length]; exact hl, fun p hp => q (.ref p) _ r (upd G1 p (.tup vs)) M1 _ ⟨rfl, rfl⟩ (s.trans (Stp.alloc (w1.gn hp) hp _)) (w1.alloc hp _) (.tup upd_same (h1.mono (same_new (w1.gn hp))))⟩

/-! ### slices -/
theorem eo_none : EvO K R tNoPart e r none := fun B σ G M H v w Q q => q G M H (Stp.refl _ _ _) w
theorem eo_some {i : Int} (h : EvD K R te e r (.int i)) : EvO K R (tPart te) e r (some i) := fun B σ G M H v w Q q =>
  h B σ G M H v w _ fun x d r' G' M' H' ⟨e1, e2⟩ s w' hx => by
    subst e1 e2
    exact ⟨i, hx.int_inv, q G' M' H' s w'⟩
def cutD {α : Type} (xs : List α) (lo hi : Option Int) : List α := (xs.drop (HT.sIx xs.length 0 lo)).take (HT.sIx xs.length xs.length hi - HT.sIx xs.length 0 lo)
theorem evf_sl [Stab R] {tl th : TO} {lo hi : Option Int} (h : EvD K R te e r (.list ds)) (h1 : EvO K R tl e r lo) (h2 : EvO K R th e r hi) : EvF K R (tSl (rSlL K) te tl th) e r (cutD ds lo hi) := fun B σ G M H v w Q q =>
  h B σ G M H v w _ fun x d r' G1 M1 H1 ⟨e1, e2⟩ s1 w1 hx => by
    subst e1 e2
    refine h1 B σ G1 M1 H1 (v.step s1) w1 _ fun G2 M2 H2 s2 w2 => h2 B σ G2 M2 H2 ((v.step s1).step s2) w2 _ fun G3 M3 H3 s3 w3 => ?_
    obtain ⟨a, xs, rfl, g1, rr⟩ := hx.lst_inv
    have s13 := s2.trans s3
    have rr3 := rr.mono s13.gg
    refine ⟨a, xs, rfl, SqL.of (w3.gh _ _ (s13.gg _ _ g1)), fun p hp => ?_⟩
    have s := s1.trans s13
    refine q p _ G3 M3 _ (s.hid (free_back s hp) _) (w3.hid (w3.gn hp) (w3.mn hp) _) (free_back s hp) (w3.gn hp) (w3.mn hp) upd_same ?_
    unfold cutD cutV
    rw [rr.length]
    exact (rr3.drop _).take _

/-! ### builtins -/
theorem ev_cb {f : List V → Hp → VK → Prop} {ta : TA} (h : EvA K R ta e r ds) (hr : CbD K f ds d3) : EvD K R (tCB f ta) e r d3 := fun B σ G M H v w Q q =>
  h B σ G M H v w _ fun vs G' M' H' s w' hv => hr vs G' M' H' w'.pre hv Q fun z hz => q z d3 r G' M' H' ⟨rfl, rfl⟩ s w' hz
theorem evf_cb {f : List V → Hp → VK → Prop} {ta : TA} (h : EvA K R ta e r ds) (hr : CbF K f ds es) : EvF K R (tCB f ta) e r es := fun B σ G M H v w Q q =>
  h B σ G M H v w _ fun vs G' M' H' s w' hv => hr vs G' M' H' w'.pre hv Q fun l ws H3 k hl h3 hd => by
    refine q l ws G' M' H3 ⟨s.gg, fun b hb => ?_, fun b o hb m => k _ _ (s.fr b o hb m), s.ng, s.nm⟩ ⟨w'.gh.trans k, w'.mh.trans k, w'.dj, w'.res⟩ (free_back s hl) (w'.gn hl) (w'.mn hl) h3 hd
    cases z : H' b with
    | none => exact absurd z (s.th b hb)
    | some o => exact some_ne (k b o z)
def rLenS (K : PySem.W.Frag) : List V → Hp → VK → Prop := fun xs H Q => ∃ p ys, xs = [.ref p] ∧ (SqL K H p ys ∨ SqT K H p ys) ∧ Q (.int ys.length) H
theorem cbLen : CbD K (rLenS K) [.list ds] (.int (ds.length : Int)) := fun vs G M H p h Q q => by
  obtain ⟨v, ws, rfl, h1, h2⟩ := h.cons_inv
  rw [h2.nil_inv]
  obtain ⟨a, xs, rfl, g1, rr⟩ := h1.lst_inv
  refine ⟨a, xs, rfl, .inl (SqL.of (p.1 _ _ g1)), ?_⟩
  rw [rr.length]
  exact q _ (.int _)
theorem cbLenT : CbD K (rLenS K) [.tuple ds] (.int (ds.length : Int)) := fun vs G M H p h Q q => by
  obtain ⟨v, ws, rfl, h1, h2⟩ := h.cons_inv
  rw [h2.nil_inv]
  obtain ⟨a, xs, rfl, g1, rr⟩ := h1.tup_inv
  refine ⟨a, xs, rfl, .inr (SqT.of (p.1 _ _ g1)), ?_⟩
  rw [rr.length]
  exact q _ (.int _)
theorem cbLenScr {ns : List Int} : CbD K (rLenS K) [scrD ns] (.int (ns.length : Int)) := fun vs G M H p h Q q => by
  obtain ⟨v, ws, rfl, h1, h2⟩ := h.cons_inv
  rw [h2.nil_inv]
  obtain ⟨a, rfl, g1⟩ := h1.scr_inv
  refine ⟨a, _, rfl, .inl (p.1.seq g1), ?_⟩
  rw [List.length_map]
  exact q _ (.int _)
def rListS (K : PySem.W.Frag) : List V → Hp → VK → Prop := fun xs H Q => ∃ p ys, xs = [.ref p] ∧ (SqL K H p ys ∨ SqT K H p ys) ∧ ∀ l, H l = none → Q (.ref l) (upd H l (.lst ys))
theorem cbList : CbF K (rListS K) [.list ds] ds := fun vs G M H p h Q q => by
  obtain ⟨v, ws, rfl, h1, h2⟩ := h.cons_inv
  rw [h2.nil_inv]
  obtain ⟨a, xs, rfl, g1, rr⟩ := h1.lst_inv
  exact ⟨a, xs, rfl, .inl (SqL.of (p.1 _ _ g1)), fun l hl => q l xs _ (same_new hl) hl upd_same rr⟩
theorem cb2 {f : Int → Int → Int} {i j : Int} : CbD K (fun xs H Q => ∃ i j, xs = [.int i, .int j] ∧ Q (.int (f i j)) H) [.int i, .int j] (.int (f i j)) := fun vs G M H p h Q q => by
  obtain ⟨v, ws, rfl, h1, h2⟩ := h.cons_inv
  obtain ⟨v2, ws2, rfl, h3, h4⟩ := h2.cons_inv
  rw [h4.nil_inv, h1.int_inv, h3.int_inv]
  exact ⟨i, j, rfl, q _ (.int _)⟩
theorem cb1 {f : Int → Int} {i : Int} : CbD K (fun xs H Q => ∃ i, xs = [.int i] ∧ Q (.int (f i)) H) [.int i] (.int (f i)) := fun vs G M H p h Q q => by
  obtain ⟨v, ws, rfl, h1, h2⟩ := h.cons_inv
  rw [h2.nil_inv, h1.int_inv]
  exact ⟨i, rfl, q _ (.int _)⟩
theorem cbIntB {b : Bool} : CbD K (fun xs H Q => (∃ i, xs = [.int i] ∧ Q (.int i) H) ∨ ∃ k, xs = [.bl k] ∧ Q (.int (if k then 1 else 0)) H) [.bool b] (.int (if b then 1 else 0)) := fun vs G M H p h Q q => by
  obtain ⟨v, ws, rfl, h1, h2⟩ := h.cons_inv
  rw [h2.nil_inv, h1.bl_inv]
  exact .inr ⟨b, rfl, q _ (.int _)⟩

/-! ### isinstance -/
def tyD : PyData → String
  | .none => "NoneType"
  | .bool _ => "bool"
  | .int _ => "int"
  | .str _ => "str"
  | .list _ => "list"
  | .tuple _ => "tuple"
  | .dict _ => "dict"
theorem tyx_of {K : PySem.W.Frag} {G H : Hp} (s : Same G H) {v : V} {d : PyData} (h : Rp K G v d) (hd : ∀ kvs, d ≠ .dict kvs) : TyX K H v (.type (tyD d)) := by
  cases d with
  | none => rw [h.non_inv]; exact .base .non
  | bool b => rw [h.bl_inv]; exact .base (.bl b)
  | int i => rw [h.int_inv]; exact .base (.int i)
  | str x => rw [h.str_inv]; exact .base (.str x)
  | list ds =>
    obtain ⟨a, xs, rfl, g1, rr⟩ := h.lst_inv
    exact .base (.lst (s _ _ g1))
  | tuple ds =>
    obtain ⟨a, xs, rfl, g1, rr⟩ := h.tup_inv
    exact .base (.tup (s _ _ g1))
  | dict kvs => exact absurd rfl (hd kvs)
/-- isinstance(e, a built-in class) -/
theorem ev_isi {T ty : String} {b : Bool} (h : EvD K R te e r d) (ht : tyD d = ty) (hd : ty ≠ "dict") (hk : kitB ty T = some b) : EvD K R (tCB (rIsi K) (tCons te (tCons (tC (.ty T)) tNil))) e r (.bool b) := fun B σ G M H v w Q q =>
  h B σ G M H v w _ fun x d' r' G' M' H' ⟨e1, e2⟩ s w' hx => by
    subst e1 e2 ht
    exact ⟨x, .ty T, _, .type T, b, rfl, .ty T, tyx_of w'.gh hx (fun kvs z => hd (by rw [z]; rfl)), kit_ty hk, q _ _ r' G' M' H' ⟨rfl, rfl⟩ s w' (.bl b)⟩
section
variable {i : Int} {b : Bool} {x : Str}
theorem isi_int (h : EvD K R te e r (.int i)) : EvD K R (tCB (rIsi K) (tCons te (tCons (tC (.ty "int")) tNil))) e r (.bool true) := ev_isi (ty := "int") h rfl (by decide) (by decide +kernel)
theorem isi_intB (h : EvD K R te e r (.int i)) : EvD K R (tCB (rIsi K) (tCons te (tCons (tC (.ty "bool")) tNil))) e r (.bool false) := ev_isi (ty := "int") h rfl (by decide) (by decide +kernel)
theorem isi_bool (h : EvD K R te e r (.bool b)) : EvD K R (tCB (rIsi K) (tCons te (tCons (tC (.ty "bool")) tNil))) e r (.bool true) := ev_isi (ty := "bool") h rfl (by decide) (by decide +kernel)
theorem isi_noneB (h : EvD K R te e r .none) : EvD K R (tCB (rIsi K) (tCons te (tCons (tC (.ty "bool")) tNil))) e r (.bool false) := ev_isi (ty := "NoneType") h rfl (by decide) (by decide +kernel)
theorem isi_str (h : EvD K R te e r (.str x)) : EvD K R (tCB (rIsi K) (tCons te (tCons (tC (.ty "str")) tNil))) e r (.bool true) := ev_isi (ty := "str") h rfl (by decide) (by decide +kernel)
theorem isi_list (h : EvD K R te e r (.list ds)) : EvD K R (tCB (rIsi K) (tCons te (tCons (tC (.ty "list")) tNil))) e r (.bool true) := ev_isi (ty := "list") h rfl (by decide) (by decide +kernel)
theorem isi_tup (h : EvD K R te e r (.tuple ds)) : EvD K R (tCB (rIsi K) (tCons te (tCons (tC (.ty "tuple")) tNil))) e r (.bool true) := ev_isi (ty := "tuple") h rfl (by decide) (by decide +kernel)
end

/-! ### tests -/
theorem et_test {b : Bool} (h : EvD K R te e r (.bool b)) : EvT K R (tTest te) e r b := fun B σ G M H v w Q q =>
  h B σ G M H v w _ fun x d r' G' M' H' ⟨e1, e2⟩ s w' hx => by
    subst e1
    exact ⟨b, hx.bl_inv, q b r' G' M' H' ⟨rfl, e2⟩ s w'⟩
theorem et_B {b : Bool} (h : EvD K R te e r (.bool b)) : EvT K R (tB te) e r b := fun B σ G M H v w Q q =>
  h B σ G M H v w _ fun x d r' G' M' H' ⟨e1, e2⟩ s w' hx => by
    subst e1
    exact ⟨b, hx.bl_inv, q b r' G' M' H' ⟨rfl, e2⟩ s w'⟩
theorem et_and {a b : Bool} (h1 : EvT K R t e r a) (h2 : a = true → EvT K R u e r b) : EvT K R (tAnd t u) e r (a && b) := fun B σ G M H v w Q q =>
  h1 B σ G M H v w _ fun c r' G' M' H' ⟨e1, e2⟩ s w' => by
    subst e1 e2
    cases c with
    | true =>
      show u σ H' Q
      exact h2 rfl B σ G' M' H' (v.step s) w' Q fun c r2 G2 M2 H2 ⟨e1, e2⟩ s2 w2 => q c r2 G2 M2 H2 ⟨by rw [e1]; rfl, e2⟩ (s.trans s2) w2
    | false =>
      show Q false H'
      exact q false _ G' M' H' ⟨rfl, rfl⟩ s w'
theorem et_or {a b : Bool} (h1 : EvT K R t e r a) (h2 : a = false → EvT K R u e r b) : EvT K R (tOr t u) e r (a || b) := fun B σ G M H v w Q q =>
  h1 B σ G M H v w _ fun c r' G' M' H' ⟨e1, e2⟩ s w' => by
    subst e1 e2
    cases c with
    | true =>
      show Q true H'
      exact q true _ G' M' H' ⟨rfl, rfl⟩ s w'
    | false =>
      show u σ H' Q
      exact h2 rfl B σ G' M' H' (v.step s) w' Q fun c r2 G2 M2 H2 ⟨e1, e2⟩ s2 w2 => q c r2 G2 M2 H2 ⟨by rw [e1]; rfl, e2⟩ (s.trans s2) w2
theorem et_not {a : Bool} (h1 : EvT K R t e r a) : EvT K R (tNot t) e r (!a) := fun B σ G M H v w Q q =>
  h1 B σ G M H v w _ fun c r' G' M' H' ⟨e1, e2⟩ s w' => q (!c) r' G' M' H' ⟨by rw [e1], e2⟩ s w'
theorem et_yes : EvT K R tYes e r true := fun B σ G M H v w Q q => q true r G M H ⟨rfl, rfl⟩ (Stp.refl _ _ _) w
theorem ev_andV {a b : Bool} (h1 : EvD K R ta e r (.bool a)) (h2 : a = true → EvD K R tb e r (.bool b)) : EvD K R (tAndV ta tb) e r (.bool (a && b)) := fun B σ G M H v w Q q =>
  h1 B σ G M H v w _ fun x d r' G' M' H' ⟨e1, e2⟩ s w' hx => by
    subst e1 e2
    refine ⟨a, hx.bl_inv, ?_⟩
    cases a with
    | true =>
      show tb σ H' Q
      exact h2 rfl B σ G' M' H' (v.step s) w' Q fun y d r2 G2 M2 H2 ⟨e1, e2⟩ s2 w2 hy => q y d r2 G2 M2 H2 ⟨e1, e2⟩ (s.trans s2) w2 hy
    | false =>
      show Q (.bl false) H'
      exact q _ _ _ G' M' H' ⟨rfl, rfl⟩ s w' (.bl _)
theorem ev_orV {a b : Bool} (h1 : EvD K R ta e r (.bool a)) (h2 : a = false → EvD K R tb e r (.bool b)) : EvD K R (tOrV ta tb) e r (.bool (a || b)) := fun B σ G M H v w Q q =>
  h1 B σ G M H v w _ fun x d r' G' M' H' ⟨e1, e2⟩ s w' hx => by
    subst e1 e2
    refine ⟨a, hx.bl_inv, ?_⟩
    cases a with
    | true =>
      show Q (.bl true) H'
      exact q _ _ _ G' M' H' ⟨rfl, rfl⟩ s w' (.bl _)
    | false =>
      show tb σ H' Q
      exact h2 rfl B σ G' M' H' (v.step s) w' Q fun y d r2 G2 M2 H2 ⟨e1, e2⟩ s2 w2 hy => q y d r2 G2 M2 H2 ⟨e1, e2⟩ (s.trans s2) w2 hy
theorem ev_notV {a : Bool} (h1 : EvD K R ta e r (.bool a)) : EvD K R (tNotV ta) e r (.bool (!a)) := fun B σ G M H v w Q q =>
  h1 B σ G M H v w _ fun x d r' G' M' H' ⟨e1, e2⟩ s w' hx => by
    subst e1 e2
    exact ⟨a, hx.bl_inv, q _ _ _ G' M' H' ⟨rfl, rfl⟩ s w' (.bl _)⟩
theorem ev_if {b : Bool} (h : EvT K R t e r b) (h1 : b = true → EvD K R ta e r d) (h2 : b = false → EvD K R tb e r d) : EvD K R (tIf t ta tb) e r d := fun B σ G M H v w Q q =>
  h B σ G M H v w _ fun c r' G' M' H' ⟨e1, e2⟩ s w' => by
    subst e1 e2
    cases c with
    | true =>
      show ta σ H' Q
      exact h1 rfl B σ G' M' H' (v.step s) w' Q fun y d r2 G2 M2 H2 p s2 w2 hy => q y d r2 G2 M2 H2 p (s.trans s2) w2 hy
    | false =>
      show tb σ H' Q
      exact h2 rfl B σ G' M' H' (v.step s) w' Q fun y d r2 G2 M2 H2 p s2 w2 hy => q y d r2 G2 M2 H2 p (s.trans s2) w2 hy
/-- is None, of a datum -/
def isNoneD : PyData → Bool
  | .none => true
  | _ => false
theorem isNone_of {G : Hp} {x : V} : ∀ {d : PyData}, Rp K G x d → decide (x = V.non) = isNoneD d
  | .none, hx => by rw [hx.non_inv]; rfl
  | .bool b, hx => by rw [hx.bl_inv]; rfl
  | .int i, hx => by rw [hx.int_inv]; rfl
  | .str x, hx => by rw [hx.str_inv]; rfl
  | .list ds, hx => by obtain ⟨a, xs, rfl, _⟩ := hx.lst_inv; rfl
  | .tuple ds, hx => by obtain ⟨a, xs, rfl, _⟩ := hx.tup_inv; rfl
  | .dict ds, hx => by rcases hx.dict_inv with ⟨a, ns, rfl, _⟩ | ⟨a, rfl, _⟩ <;> rfl
theorem ev_isN (h : EvD K R te e r d) : EvD K R (tIsN te) e r (.bool (isNoneD d)) := fun B σ G M H v w Q q =>
  h B σ G M H v w _ fun x d' r' G' M' H' ⟨e1, e2⟩ s w' hx => by
    subst e1 e2
    show Q (.bl (decide (x = V.non))) H'
    rw [isNone_of hx]
    exact q _ _ _ G' M' H' ⟨rfl, rfl⟩ s w' (.bl _)
theorem ev_notN (h : EvD K R te e r d) : EvD K R (tNotN te) e r (.bool (!isNoneD d)) := fun B σ G M H v w Q q =>
  h B σ G M H v w _ fun x d' r' G' M' H' ⟨e1, e2⟩ s w' hx => by
    subst e1 e2
    show Q (.bl (!decide (x = V.non))) H'
    rw [isNone_of hx]
    exact q _ _ _ G' M' H' ⟨rfl, rfl⟩ s w' (.bl _)

/-! ### calls of pure defs -/
/-- a pure def: what the arguments are, what comes -/
def spD (K : PySem.W.Frag) {α : Type} (args : α → List PyData) (pre : α → Prop) (res : α → PyData → Prop) : Sp := fun vs H Q _ => ∃ G M a, Pre G M H ∧ RpAll K G vs (args a) ∧ pre a ∧
  ∀ v d G' H', res a d → Al G M H G' H' → Rp K G' v d → Q v H'
theorem evs_call [Stab R] {α : Type} {args : α → List PyData} {pre : α → Prop} {res : α → PyData → Prop} {E : XK} {ta : TA} (a : α) (h : EvA K R ta e r (args a)) (hp : pre a) : EvS K R (tCall (spD K args pre res) [] E ta) e r (fun d r' => res a d ∧ r' = r) := fun B σ G M H v w Q q =>
  h B σ G M H v w _ fun vs G' M' H' s w' hv => ⟨G', M', a, w'.pre, by rw [List.append_nil]; exact hv, hp, fun x d G2 H2 p a hx => q x d r G2 M' H2 ⟨p, rfl⟩ (s.trans a.st) (w'.al a) hx⟩
/-- one value -/
abbrev spF (K : PySem.W.Frag) {α : Type} (args : α → List PyData) (pre : α → Prop) (f : α → PyData) : Sp := spD K args pre fun a d => d = f a
theorem ev_call [Stab R] {α : Type} {args : α → List PyData} {pre : α → Prop} {f : α → PyData} {E : XK} {ta : TA} (a : α) (h : EvA K R ta e r (args a)) (hp : pre a) : EvD K R (tCall (spF K args pre f) [] E ta) e r (f a) := evs_call a h hp
end
end Fw

namespace Fw
open PySem L2

/-! ### statements -/
structure Post (ρ : Type) where
  nx : SE → ρ → Prop
  rt : PyData → ρ → Prop
  bk : SE → ρ → Prop := fun _ _ => False
  ct : SE → ρ → Prop := fun _ _ => False
  ex : Value → ρ → Prop := fun _ _ => False
  fr : List PyData → ρ → Prop := fun _ _ => False
section
variable (K : PySem.W.Frag) {ρ : Type} (R : ρ → Hp → Hp → Prop) (E : XK)
/-- the ends are met: seen from the entry (G0, M0, H0) -/
structure EndsOk (G0 M0 H0 : Hp) (D : Ends) (P : Post ρ) : Prop where
  nx : ∀ e r σ G M H, P.nx e r → Stp G0 M0 H0 G M H → EnvO K H0 G M H σ e → Wf R G M H r → D.nx σ H
  rt : ∀ d r v G M H, P.rt d r → Stp G0 M0 H0 G M H → Wf R G M H r → Rp K G v d → D.rt v H
  bk : ∀ e r σ G M H, P.bk e r → Stp G0 M0 H0 G M H → EnvO K H0 G M H σ e → Wf R G M H r → D.bk σ H
  ct : ∀ e r σ G M H, P.ct e r → Stp G0 M0 H0 G M H → EnvO K H0 G M H σ e → Wf R G M H r → D.ct σ H
  ex : ∀ c r G M H, P.ex c r → Stp G0 M0 H0 G M H → Wf R G M H r → E c none H
  fr : ∀ ds r l ws G M H, P.fr ds r → Stp G0 M0 H0 G M H → Wf R G M H r → H0 l = none → G l = none → M l = none → H l = some (.lst ws) → RpAll K G ws ds → D.rt (.ref l) H
def SP (ts : TS) (e : SE) (r : ρ) (P : Post ρ) : Prop := ∀ (G0 M0 H0 : Hp) (σ : St) (G M H : Hp) (D : Ends), Stp G0 M0 H0 G M H → EnvO K H0 G M H σ e → Wf R G M H r → EndsOk K R E G0 M0 H0 D P → ts D σ H
end
section
variable {K : PySem.W.Frag} {ρ : Type} {R : ρ → Hp → Hp → Prop} {e : SE} {r : ρ} {ta tb te tc : TE} {t : TT} {tu tw tz : TS} {d : PyData} {ds es : List PyData} {P : Post ρ} {E : XK}
theorem sp_next (h : P.nx e r) : SP K R E tNext e r P := fun G0 M0 H0 σ G M H D s v w k => k.nx e r σ G M H h s v w
theorem sp_brk (h : P.bk e r) : SP K R E tBreak e r P := fun G0 M0 H0 σ G M H D s v w k => k.bk e r σ G M H h s v w
theorem sp_cont (h : P.ct e r) : SP K R E tCont e r P := fun G0 M0 H0 σ G M H D s v w k => k.ct e r σ G M H h s v w
/-- an end that comes behind another statement -/
theorem EndsOk.behind {G0 M0 H0 : Hp} {D : Ends} {N : SE → ρ → Prop} (k : EndsOk K R E G0 M0 H0 D P) (h : ∀ e r, N e r → SP K R E tz e r P) : EndsOk K R E G0 M0 H0 { D with nx := tz D } { P with nx := N } :=
  ⟨fun e r σ G M H n s v w => h e r n G0 M0 H0 σ G M H D s v w k, k.rt, k.bk, k.ct, k.ex, k.fr⟩
theorem sp_seq {N : SE → ρ → Prop} (h : SP K R E tu e r { P with nx := N }) (k : ∀ e r, N e r → SP K R E tz e r P) : SP K R E (tSeq tu tz) e r P := fun G0 M0 H0 σ G M H D s v w q =>
  h G0 M0 H0 σ G M H _ s v w (q.behind k)
/-- x = e -/
theorem sp_asgS {i : Nat} {Pe : PyData → ρ → Prop} (h : EvS K R te e r Pe) (k : ∀ d r', Pe d r' → SP K R E tz (e.set i (.dat d)) r' P) : SP K R E (tSeq (tAsg te (gName i)) tz) e r P := fun G0 M0 H0 σ G M H D s v w q =>
  h H0 σ G M H v w _ fun x d r' G' M' H' p s' w' hx => k d r' p G0 M0 H0 _ G' M' H' D (s.trans s') ((v.step s').setD hx) w' q
theorem sp_asg {i : Nat} (h : EvD K R te e r d) (k : SP K R E tz (e.set i (.dat d)) r P) : SP K R E (tSeq (tAsg te (gName i)) tz) e r P := sp_asgS h fun _ _ ⟨e1, e2⟩ => by rw [e1, e2]; exact k
theorem sp_asgN {i : Nat} {Pe : PyData → ρ → Prop} (h : EvS K R te e r Pe) (k : ∀ d r', Pe d r' → P.nx (e.set i (.dat d)) r') : SP K R E (tAsg te (gName i)) e r P := fun G0 M0 H0 σ G M H D s v w q =>
  h H0 σ G M H v w _ fun x d r' G' M' H' p s' w' hx => q.nx _ r' _ G' M' H' (k d r' p) (s.trans s') ((v.step s').setD hx) w'
theorem sp_asg1 {i : Nat} (h : EvD K R te e r d) (k : P.nx (e.set i (.dat d)) r) : SP K R E (tAsg te (gName i)) e r P := sp_asgN h fun _ _ ⟨e1, e2⟩ => by rw [e1, e2]; exact k
theorem own_new {B G M H : Hp} {σ : St} {l : Addr} (v : EnvO K B G M H σ e) (h : H l = none) : ∀ (j : Nat) es, e[j]? = some (.own es) → σ[j]? ≠ some (some (.ref l)) := fun j es hj q => by
  obtain ⟨l', vs, h1, h2, h3, h4, h5, h6⟩ := v.own j es hj
  rw [q] at h1
  cases h1
  rw [h] at h5
  cases h5
theorem born {G0 M0 H0 G M H : Hp} (s : Stp G0 M0 H0 G M H) {l : Addr} (h : H l = none) : H0 l = none := free_back s h
/-- x = a new list, kept as one's own -/
theorem sp_asgO {i : Nat} (h : EvF K R te e r ds) (k : SP K R E tz (e.set i (.own ds)) r P) : SP K R E (tSeq (tAsg te (gName i)) tz) e r P := fun G0 M0 H0 σ G M H D s v w q =>
  h H0 σ G M H v w _ fun l vs G' M' H' s' w' h1 h2 h3 h4 h5 => k G0 M0 H0 _ G' M' H' D (s.trans s') ((v.step s').setO (born s h1) h2 h3 h4 h5 fun j es hj => own_new v h1 j es hj) w' q
theorem sp_asgO1 {i : Nat} (h : EvF K R te e r ds) (k : P.nx (e.set i (.own ds)) r) : SP K R E (tAsg te (gName i)) e r P := fun G0 M0 H0 σ G M H D s v w q =>
  h H0 σ G M H v w _ fun l vs G' M' H' s' w' h1 h2 h3 h4 h5 => q.nx _ r _ G' M' H' k (s.trans s') ((v.step s').setO (born s h1) h2 h3 h4 h5 fun j es hj => own_new v h1 j es hj) w'
/-- an own list is from now on a datum -/
theorem sp_frz [Stab R] {i : Nat} (hi : e[i]? = some (.own ds)) (k : SP K R E tu (e.set i (.dat (.list ds))) r P) : SP K R E tu e r P := fun G0 M0 H0 σ G M H D s v w q => by
  obtain ⟨l, vs, h1, h2, h3, h4, h5, v'⟩ := v.frz hi
  exact k G0 M0 H0 σ _ M H D (s.freeze h2 h3) v' (w.freeze h5 h3 h4) q
/-- x.append(e), x one's own -/
theorem sp_appS {i : Nat} {Pe : PyData → ρ → Prop} (hi : e[i]? = some (.own ds)) (hz : ds.length < sizeLine) (h : EvS K R te e r Pe) (k : ∀ d r', Pe d r' → P.nx (e.set i (.own (ds ++ [d]))) r') :
    SP K R E (tDrop (tBM K "list" rAppend (tVar i) (tCons te tNil))) e r P := fun G0 M0 H0 σ G M H D s v w q => by
  obtain ⟨l, vs, h1, h2, h3, h4, h5, h6⟩ := v.own i ds hi
  refine ⟨.ref l, h1, .inl ⟨rfl, vs, SqL.of h5⟩, h H0 σ G M H v w _ fun x d r' G' M' H' p s' w' hx => ?_⟩
  have hl := s'.fr l _ h5 h4
  refine ⟨l, vs, x, rfl, rfl, hl, by rw [h6.length]; exact hz, ?_⟩
  have v2 := (v.step s').mutO (vs' := vs ++ [x]) (ds' := ds ++ [d]) hi h1 ((h6.mono s'.gg).append (.one hx))
  exact q.nx _ r' σ G' M' _ (k d r' p) ((s.trans s').hid h2 _) v2 (w'.hid (s'.ng l (some_ne h5) h3) (s'.nm l (some_ne h5) h4) _)
theorem sp_app {i : Nat} (hi : e[i]? = some (.own ds)) (hz : ds.length < sizeLine) (h : EvD K R te e r d) (k : P.nx (e.set i (.own (ds ++ [d]))) r) :
    SP K R E (tDrop (tBM K "list" rAppend (tVar i) (tCons te tNil))) e r P := sp_appS hi hz h fun _ _ ⟨e1, e2⟩ => by rw [e1, e2]; exact k
/-- x[j] = e, x one's own -/
theorem sp_setL {i : Nat} {j : Int} {n : Nat} (hi : e[i]? = some (.own ds)) (h : EvD K R te e r d) (hj : EvD K R tb e r (.int j)) (hn : ixN ds.length j = some n) (k : P.nx (e.set i (.own (ds.set n d))) r) :
    SP K R E (tAsg te (gSub (tVar i) tb rSetL)) e r P := fun G0 M0 H0 σ G M H D s v w q =>
  h H0 σ G M H v w _ fun x d' r' G1 M1 H1 ⟨e1, e2⟩ s1 w1 hx => by
    subst e1 e2
    have v1 := v.step s1
    obtain ⟨l, vs, h1, h2, h3, h4, h5, h6⟩ := v1.own i ds hi
    refine ⟨.ref l, h1, hj H0 σ G1 M1 H1 v1 w1 _ fun y d2 r2 G2 M2 H2 ⟨e1, e2⟩ s2 w2 hy => ?_⟩
    subst e1 e2
    have hl := s2.fr l _ h5 h4
    have h62 := h6.mono s2.gg
    refine ⟨l, vs, j, n, rfl, hy.int_inv, hl, by rw [h6.length]; exact hn, ?_⟩
    have v2 := (v1.step s2).mutO (vs' := vs.set n x) (ds' := ds.set n d') hi h1 (h62.set (hx.mono s2.gg) n)
    exact q.nx _ _ σ G2 M2 _ k ((s.trans (s1.trans s2)).hid h2 _) v2 (w2.hid (s2.ng l (some_ne h5) h3) (s2.nm l (some_ne h5) h4) _)
theorem sp_drop {Pe : PyData → ρ → Prop} (h : EvS K R te e r Pe) (k : ∀ d r', Pe d r' → P.nx e r') : SP K R E (tDrop te) e r P := fun G0 M0 H0 σ G M H D s v w q =>
  h H0 σ G M H v w _ fun x d r' G' M' H' p s' w' hx => q.nx e r' σ G' M' H' (k d r' p) (s.trans s') (v.step s') w'
theorem sp_retS {Pe : PyData → ρ → Prop} (h : EvS K R te e r Pe) (k : ∀ d r', Pe d r' → P.rt d r') : SP K R E (tRet te) e r P := fun G0 M0 H0 σ G M H D s v w q =>
  h H0 σ G M H v w _ fun x d r' G' M' H' p s' w' hx => q.rt d r' x G' M' H' (k d r' p) (s.trans s') w' hx
/-- return a new list -/
theorem sp_retF (h : EvF K R te e r ds) (k : P.fr ds r) : SP K R E (tRet te) e r P := fun G0 M0 H0 σ G M H D s v w q =>
  h H0 σ G M H v w _ fun l vs G' M' H' s' w' h1 h2 h3 h4 h5 => q.fr ds r l vs G' M' H' k (s.trans s') w' (born s h1) h2 h3 h4 h5
theorem sp_retO {i : Nat} (hi : e[i]? = some (.own ds)) (k : P.fr ds r) : SP K R E (tRet (tVar i)) e r P := fun G0 M0 H0 σ G M H D s v w q => by
  obtain ⟨l, vs, h1, h2, h3, h4, h5, h6⟩ := v.own i ds hi
  exact ⟨.ref l, h1, q.fr ds r l vs G M H k s w h2 h3 h4 h5 h6⟩
theorem sp_ret (h : EvD K R te e r d) (k : P.rt d r) : SP K R E (tRet te) e r P := sp_retS h fun _ _ ⟨e1, e2⟩ => by rw [e1, e2]; exact k
theorem sp_ifS {Pb : Bool → ρ → Prop} (h : EvTS K R t e r Pb) (k1 : ∀ r', Pb true r' → SP K R E tu e r' P) (k2 : ∀ r', Pb false r' → SP K R E tw e r' P) : SP K R E (tIfS t tu tw) e r P := fun G0 M0 H0 σ G M H D s v w q =>
  h H0 σ G M H v w _ fun b r' G' M' H' p s' w' => by
    cases b with
    | true =>
      show tu D σ H'
      exact k1 r' p G0 M0 H0 σ G' M' H' D (s.trans s') (v.step s') w' q
    | false =>
      show tw D σ H'
      exact k2 r' p G0 M0 H0 σ G' M' H' D (s.trans s') (v.step s') w' q
theorem sp_if {b : Bool} (h : EvT K R t e r b) (k1 : b = true → SP K R E tu e r P) (k2 : b = false → SP K R E tw e r P) : SP K R E (tIfS t tu tw) e r P :=
  sp_ifS h (fun r' ⟨e1, e2⟩ => by rw [e2]; exact k1 e1.symm) (fun r' ⟨e1, e2⟩ => by rw [e2]; exact k2 e1.symm)
/-- an if without else, then the rest -/
theorem sp_when {b : Bool} (h : EvT K R t e r b) (k1 : b = true → SP K R E tu e r { P with nx := fun e' r' => SP K R E tz e' r' P }) (k2 : b = false → SP K R E tz e r P) : SP K R E (tSeq (tIfS t tu tNext) tz) e r P :=
  sp_seq (N := fun e' r' => SP K R E tz e' r' P) (sp_if h k1 fun hb => sp_next (k2 hb)) fun _ _ h => h
theorem sp_whenS {Pb : Bool → ρ → Prop} (h : EvTS K R t e r Pb) (k1 : ∀ r', Pb true r' → SP K R E tu e r' { P with nx := fun e' r' => SP K R E tz e' r' P }) (k2 : ∀ r', Pb false r' → SP K R E tz e r' P) : SP K R E (tSeq (tIfS t tu tNext) tz) e r P :=
  sp_seq (N := fun e' r' => SP K R E tz e' r' P) (sp_ifS h k1 fun r' hb => sp_next (k2 r' hb)) fun _ _ h => h
/-- if c: x = e, told by the value x has behind it -/
theorem sp_ifAsg {b : Bool} {i : Nat} (h : EvT K R t e r b) (h1 : b = true → EvD K R te e r d) (h2 : b = false → e.set i (.dat d) = e) (k : SP K R E tz (e.set i (.dat d)) r P) : SP K R E (tSeq (tIfS t (tAsg te (gName i)) tNext) tz) e r P :=
  sp_when h (fun hb => sp_asg1 (h1 hb) k) fun hb => by
    have g := k
    rw [h2 hb] at g
    exact g
theorem sp_imp {P' : Post ρ} (h : SP K R E tu e r P) (h1 : ∀ e r, P.nx e r → P'.nx e r) (h2 : ∀ d r, P.rt d r → P'.rt d r) (h3 : ∀ e r, P.bk e r → P'.bk e r := by intro _ _ h; exact h) (h4 : ∀ e r, P.ct e r → P'.ct e r := by intro _ _ h; exact h) (h5 : ∀ c r, P.ex c r → P'.ex c r := by intro _ _ h; exact h) (h6 : ∀ c r, P.fr c r → P'.fr c r := by intro _ _ h; exact h) : SP K R E tu e r P' := fun G0 M0 H0 σ G M H D s v w q =>
  h G0 M0 H0 σ G M H D s v w ⟨fun e r σ G M H n => q.nx e r σ G M H (h1 e r n), fun d r x G M H n => q.rt d r x G M H (h2 d r n), fun e r σ G M H n => q.bk e r σ G M H (h3 e r n), fun e r σ G M H n => q.ct e r σ G M H (h4 e r n), fun c r G M H n => q.ex c r G M H (h5 c r n), fun ds r l ws G M H n => q.fr ds r l ws G M H (h6 ds r n)⟩

/-! ### loops -/
theorem EndsOk.rebase {G0 M0 H0 G M H : Hp} {D : Ends} (s : Stp G0 M0 H0 G M H) (k : EndsOk K R E G0 M0 H0 D P) : EndsOk K R E G M0 H0 D P :=
  ⟨fun e r σ G M H h t => k.nx e r σ G M H h (s.unbase t), fun d r v G M H h t => k.rt d r v G M H h (s.unbase t), fun e r σ G M H h t => k.bk e r σ G M H h (s.unbase t), fun e r σ G M H h t => k.ct e r σ G M H h (s.unbase t), fun c r G M H h t => k.ex c r G M H h (s.unbase t), fun ds r l ws G M H h t => k.fr ds r l ws G M H h (s.unbase t)⟩
theorem sp_forL {i : Nat} {tl : TE} (h : EvD K R tl e r (.list ds)) (I : Nat → SE → ρ → Prop) (h0 : I 0 e r)
    (hs : ∀ k d e' r', ds[k]? = some d → I k e' r' → SP K R E tu (e'.set i (.dat d)) r' ⟨I (k + 1), P.rt, P.nx, I (k + 1), P.ex, P.fr⟩) (hd : ∀ e' r', I ds.length e' r' → P.nx e' r') : SP K R E (tFor (iList K tl) (gName i) tu) e r P := fun G0 M0 H0 σ G M H D s v w q =>
  h H0 σ G M H v w _ fun x d r' G' M' H' ⟨e1, e2⟩ s' w' hx => by
    subst e1 e2
    obtain ⟨a, xs, rfl, ha, rr⟩ := hx.lst_inv
    have s0 := s.trans s'
    refine ⟨a, rfl, ⟨xs, SqL.of (w'.gh _ _ ha)⟩, for_list (K := K) (a := a) (xs := xs) (fun k σ1 H1 => ∃ e1 r1 G1 M1, I k e1 r1 ∧ Stp G' M0 H0 G1 M1 H1 ∧ EnvO K H0 G1 M1 H1 σ1 e1 ∧ Wf R G1 M1 H1 r1)
      ⟨e, _, G', M', h0, s0.rebase, v.step s', w'⟩ (fun k σ1 H1 _ ⟨e1, r1, G1, M1, _, s1, _, w1⟩ => SqL.of (w1.gh _ _ (s1.gg _ _ ha))) ?_ ?_⟩
    · rintro k y σ1 H1 hy ⟨e1, r1, G1, M1, p, s1, v1, w1⟩
      obtain ⟨d, hd', ry⟩ := rr.of_get hy
      exact hs k d e1 r1 hd' p G' M0 H0 _ G1 M1 H1 _ s1 (v1.setD (ry.mono s1.gg)) w1
        ⟨fun e2 r2 σ2 G2 M2 H2 p2 s2 v2 w2 => ⟨e2, r2, G2, M2, p2, s2, v2, w2⟩, fun d r x G M H n t => q.rt d r x G M H n (s0.unbase t), fun e r σ G M H n t => q.nx e r σ G M H n (s0.unbase t), fun e2 r2 σ2 G2 M2 H2 p2 s2 v2 w2 => ⟨e2, r2, G2, M2, p2, s2, v2, w2⟩, fun c r G M H n t => q.ex c r G M H n (s0.unbase t), fun ds r l ws G M H n t => q.fr ds r l ws G M H n (s0.unbase t)⟩
    · rintro σ1 H1 ⟨e1, r1, G1, M1, p, s1, v1, w1⟩
      rw [rr.length] at p
      exact q.nx e1 r1 σ1 G1 M1 H1 (hd e1 r1 p) (s0.unbase s1) v1 w1
theorem sp_forR {i : Nat} {lo n : Int} {wi : TI} (h : ∀ (B : Hp) (σ : St) (G M H : Hp), EnvO K B G M H σ e → Wf R G M H r → ∀ Q : It → Hp → Prop, (∀ G' M' H', Stp G M H G' M' H' → Wf R G' M' H' r → Q (Itr lo (n - lo).toNat) H') → wi σ H Q)
    (I : Nat → SE → ρ → Prop) (h0 : I 0 e r)
    (hs : ∀ (k : Nat) e' r', lo + (k : Int) < n → I k e' r' → SP K R E tu (e'.set i (.dat (.int (lo + (k : Int))))) r' ⟨I (k + 1), P.rt, P.nx, I (k + 1), P.ex, P.fr⟩) (hd : ∀ e' r', I (n - lo).toNat e' r' → P.nx e' r') : SP K R E (tFor wi (gName i) tu) e r P := fun G0 M0 H0 σ G M H D s v w q =>
  h H0 σ G M H v w _ fun G' M' H' s' w' => by
    have s0 := s.trans s'
    refine for_range (lo := lo) (n := (n - lo).toNat) (fun k σ1 H1 => ∃ e1 r1 G1 M1, I k e1 r1 ∧ Stp G0 M0 H0 G1 M1 H1 ∧ EnvO K H0 G1 M1 H1 σ1 e1 ∧ Wf R G1 M1 H1 r1)
      ⟨e, r, G', M', h0, s0, v.step s', w'⟩ ?_ ?_
    · rintro k σ1 H1 hk ⟨e1, r1, G1, M1, p, s1, v1, w1⟩
      exact hs k e1 r1 (by omega) p G0 M0 H0 _ G1 M1 H1 _ s1 (v1.setD (.int _)) w1
        ⟨fun e2 r2 σ2 G2 M2 H2 p2 s2 v2 w2 => ⟨e2, r2, G2, M2, p2, s2, v2, w2⟩, q.rt, q.nx, fun e2 r2 σ2 G2 M2 H2 p2 s2 v2 w2 => ⟨e2, r2, G2, M2, p2, s2, v2, w2⟩, q.ex, q.fr⟩
    · rintro σ1 H1 ⟨e1, r1, G1, M1, p, s1, v1, w1⟩
      exact q.nx e1 r1 σ1 G1 M1 H1 (hd e1 r1 p) s1 v1 w1
theorem it_r1 {ta : TA} {n : Int} (h : EvA K R ta e r [.int n]) (h1 : -(2 ^ 62) ≤ n) (h2 : n < 2 ^ 62) (B : Hp) (σ : St) (G M H : Hp) (v : EnvO K B G M H σ e) (w : Wf R G M H r) (Q : It → Hp → Prop)
    (q : ∀ G' M' H', Stp G M H G' M' H' → Wf R G' M' H' r → Q (Itr 0 (n - 0).toNat) H') : iRng1 ta σ H Q :=
  h B σ G M H v w _ fun vs G' M' H' s w' hv => by
    obtain ⟨x, ws, rfl, g1, g2⟩ := hv.cons_inv
    rw [g2.nil_inv, g1.int_inv]
    refine ⟨n, rfl, h1, h2, ?_⟩
    have z := q G' M' H' s w'
    rw [Int.sub_zero] at z
    exact z
theorem it_r2 {ta : TA} {lo n : Int} (h : EvA K R ta e r [.int lo, .int n]) (h1 : -(2 ^ 62) ≤ lo ∧ lo < 2 ^ 62 ∧ -(2 ^ 62) ≤ n ∧ n < 2 ^ 62) (B : Hp) (σ : St) (G M H : Hp) (v : EnvO K B G M H σ e) (w : Wf R G M H r) (Q : It → Hp → Prop)
    (q : ∀ G' M' H', Stp G M H G' M' H' → Wf R G' M' H' r → Q (Itr lo (n - lo).toNat) H') : iRng2 ta σ H Q :=
  h B σ G M H v w _ fun vs G' M' H' s w' hv => by
    obtain ⟨x, ws, rfl, g1, g2⟩ := hv.cons_inv
    obtain ⟨y, us, rfl, g3, g4⟩ := g2.cons_inv
    rw [g4.nil_inv, g1.int_inv, g3.int_inv]
    exact ⟨lo, n, rfl, h1, q G' M' H' s w'⟩
/-- for k in range(n) -/
theorem sp_forR1 {i : Nat} {ta : TA} {n : Int} (h : EvA K R ta e r [.int n]) (h1 : -(2 ^ 62) ≤ n ∧ n < 2 ^ 62) (I : Nat → SE → ρ → Prop) (h0 : I 0 e r)
    (hs : ∀ (k : Nat) e' r', (k : Int) < n → I k e' r' → SP K R E tu (e'.set i (.dat (.int (k : Int)))) r' ⟨I (k + 1), P.rt, P.nx, I (k + 1), P.ex, P.fr⟩) (hd : ∀ e' r', I n.toNat e' r' → P.nx e' r') : SP K R E (tFor (iRng1 ta) (gName i) tu) e r P :=
  sp_forR (lo := 0) (it_r1 h h1.1 h1.2) I h0 (fun k e' r' hk p => by
    have z := hs k e' r' (by omega) p
    rw [← Int.zero_add (k : Int)] at z
    exact z) (by rw [Int.sub_zero]; exact hd)
/-- for k in range(lo, n) -/
theorem sp_forR2 {i : Nat} {ta : TA} {lo n : Int} (h : EvA K R ta e r [.int lo, .int n]) (h1 : -(2 ^ 62) ≤ lo ∧ lo < 2 ^ 62 ∧ -(2 ^ 62) ≤ n ∧ n < 2 ^ 62) (I : Nat → SE → ρ → Prop) (h0 : I 0 e r)
    (hs : ∀ (k : Nat) e' r', lo + (k : Int) < n → I k e' r' → SP K R E tu (e'.set i (.dat (.int (lo + (k : Int))))) r' ⟨I (k + 1), P.rt, P.nx, I (k + 1), P.ex, P.fr⟩) (hd : ∀ e' r', I (n - lo).toNat e' r' → P.nx e' r') : SP K R E (tFor (iRng2 ta) (gName i) tu) e r P :=
  sp_forR (it_r2 h h1) I h0 hs hd
/-- a loop, then the rest -/
theorem sp_while (I : Nat → SE → ρ → Prop) (m0 : Nat) (h0 : I m0 e r)
    (hs : ∀ m e' r', I m e' r' → ∃ b, EvT K R t e' r' b ∧ (b = true → SP K R E tu e' r' ⟨fun e2 r2 => ∃ m', m' < m ∧ I m' e2 r2, P.rt, P.nx, fun e2 r2 => ∃ m', m' < m ∧ I m' e2 r2, P.ex, P.fr⟩) ∧ (b = false → P.nx e' r')) : SP K R E (tWhile t tu) e r P := fun G0 M0 H0 σ G M H D s v w q => by
  refine ⟨fun m σ1 H1 => ∃ e1 r1 G1 M1, I m e1 r1 ∧ Stp G0 M0 H0 G1 M1 H1 ∧ EnvO K H0 G1 M1 H1 σ1 e1 ∧ Wf R G1 M1 H1 r1, ⟨m0, e, r, G, M, h0, s, v, w⟩, ?_⟩
  rintro m σ1 H1 ⟨e1, r1, G1, M1, p, s1, v1, w1⟩
  obtain ⟨b, hb, h1, h2⟩ := hs m e1 r1 p
  refine hb H0 σ1 G1 M1 H1 v1 w1 _ fun b' r' G2 M2 H2 ⟨e3, e4⟩ s2 w2 => ?_
  subst e3 e4
  cases b' with
  | true =>
    refine ⟨fun σ3 H3 => ∃ e3 r3 G3 M3, (∃ m', m' < m ∧ I m' e3 r3) ∧ Stp G0 M0 H0 G3 M3 H3 ∧ EnvO K H0 G3 M3 H3 σ3 e3 ∧ Wf R G3 M3 H3 r3, fun σ3 H3 ⟨e3, r3, G3, M3, ⟨m', l, p'⟩, s3, v3, w3⟩ => ⟨m', l, e3, r3, G3, M3, p', s3, v3, w3⟩, ?_⟩
    exact h1 rfl G0 M0 H0 σ1 G2 M2 H2 _ (s1.trans s2) (v1.step s2) w2
      ⟨fun e3 r3 σ3 G3 M3 H3 p3 s3 v3 w3 => ⟨e3, r3, G3, M3, p3, s3, v3, w3⟩, q.rt, q.nx, fun e3 r3 σ3 G3 M3 H3 p3 s3 v3 w3 => ⟨e3, r3, G3, M3, p3, s3, v3, w3⟩, q.ex, q.fr⟩
  | false => exact q.nx e1 _ σ1 G2 M2 H2 (h2 rfl) (s1.trans s2) (v1.step s2) w2

/-! ### comprehensions -/
/-- the state of a comprehension: the new list at D so far -/
def Cs (K : PySem.W.Frag) {ρ : Type} (R : ρ → Hp → Hp → Prop) (G M H : Hp) (r : ρ) (D : Addr) (ds : List PyData) (H' : Hp) : Prop :=
  ∃ G' M' vs, Stp G M H G' M' H' ∧ Wf R G' M' H' r ∧ H D = none ∧ G' D = none ∧ M' D = none ∧ H' D = some (.lst vs) ∧ RpAll K G' vs ds
theorem cs_turn {B G M H H' : Hp} {σ2 : St} {e2 : SE} {D : Addr} {b : Bool} {Pn : Hp → Prop} (c : Cs K R G M H r D ds H') (hl : ds.length < sizeLine) (v : ∀ G' M' H', Stp G M H G' M' H' → EnvO K B G' M' H' σ2 e2)
    (ht : EvT K R t e2 r b) (he : b = true → EvD K R te e2 r d) (h1 : b = true → ∀ H', Cs K R G M H r D (ds ++ [d]) H' → Pn H') (h2 : b = false → ∀ H', Cs K R G M H r D ds H' → Pn H') :
    t σ2 H' fun b H3 => if b = true then te σ2 H3 fun y H4 => ∃ acc, H4 D = some (.lst acc) ∧ acc.length < sizeLine ∧ Pn (upd H4 D (.lst (acc ++ [y]))) else Pn H3 := by
  obtain ⟨G', M', vs, s, w, h0, g0, m0, hD, hv⟩ := c
  refine ht B σ2 G' M' H' (v _ _ _ s) w _ fun b' r' G2 M2 H2 ⟨e1, e2'⟩ s2 w2 => ?_
  subst e1 e2'
  have hD2 := s2.fr D _ hD m0
  have gD2 := s2.ng D (some_ne hD) g0
  have mD2 := s2.nm D (some_ne hD) m0
  have s02 := s.trans s2
  cases b' with
  | true =>
    show te σ2 H2 _
    refine he rfl B σ2 G2 M2 H2 (v _ _ _ s02) w2 _ fun y d' r'' G3 M3 H3 ⟨e1, e2'⟩ s3 w3 hy => ?_
    subst e1 e2'
    have hD3 := s3.fr D _ hD2 mD2
    have gD3 := s3.ng D (some_ne hD2) gD2
    have mD3 := s3.nm D (some_ne hD2) mD2
    refine ⟨vs, hD3, by rw [hv.length]; exact hl, h1 rfl _ ⟨G3, M3, vs ++ [y], (s02.trans s3).hid h0 _, w3.hid gD3 mD3 _, h0, gD3, mD3, upd_same, ?_⟩⟩
    exact (hv.mono (s2.gg.trans s3.gg)).append (.one hy)
  | false =>
    show Pn H2
    exact h2 rfl _ ⟨G2, M2, vs, s02, w2, h0, gD2, mD2, hD2, hv.mono s2.gg⟩
def lcOut (p : PyData → Bool) (f : PyData → PyData) (its : List PyData) : List PyData := (its.filter p).map f
theorem lcOut_succ {p : PyData → Bool} {f : PyData → PyData} {its : List PyData} {i : Nat} (h : its[i]? = some d) : lcOut p f (its.take (i + 1)) = if p d = true then lcOut p f (its.take i) ++ [f d] else lcOut p f (its.take i) := by
  unfold lcOut
  rw [List.take_add_one, h, List.filter_append, List.map_append]
  by_cases hp : p d = true
  · rw [if_pos hp]
    simp [hp]
  · rw [if_neg hp]
    simp [hp]
theorem lcOut_len {p : PyData → Bool} {f : PyData → PyData} (its : List PyData) (i : Nat) : (lcOut p f (its.take i)).length ≤ its.length := by
  unfold lcOut
  rw [List.length_map]
  refine Nat.le_trans (List.length_filter_le _ _) ?_
  rw [List.length_take]
  omega
theorem wipe_back {σ : St} {j : Nat} {x : V} : wipe ((wipe σ [j]).set j (some x)) [j] = wipe σ [j] := by
  show ((σ.set j none).set j (some x)).set j none = σ.set j none
  rw [List.set_set, List.set_set]
theorem wipe_set {σ : St} {j : Nat} {x : V} : (wipe σ [j]).set j (some x) = σ.set j (some x) := by
  show (σ.set j none).set j (some x) = σ.set j (some x)
  rw [List.set_set]
/-- [f(x) for x in xs if p(x)] -/
theorem evf_lcL {its : List PyData} {tl : TE} {j : Nat} (p : PyData → Bool) (f : PyData → PyData) (h : EvD K R tl e r (.list its)) (hz : its.length < sizeLine)
    (ht : ∀ d, d ∈ its → EvT K R t (e.set j (.dat d)) r (p d)) (he : ∀ d, d ∈ its → p d = true → EvD K R te (e.set j (.dat d)) r (f d)) :
    EvF K R (tLc (iList K tl) (gName j) t te [j]) e r (lcOut p f its) := fun B σ G M H v w Q q =>
  h B σ G M H v w _ fun x d r' G1 M1 H1 ⟨e1, e2⟩ s1 w1 hx => by
    subst e1 e2
    obtain ⟨a, xs, rfl, ha, rr⟩ := hx.lst_inv
    refine ⟨a, rfl, ⟨xs, SqL.of (w1.gh _ _ ha)⟩, fun D hD => ?_⟩
    refine lc_list (K := K) (a := a) (xs := xs) (fun i H' => Cs K R G1 M1 H1 r' D (lcOut p f (its.take i)) H') ⟨G1, M1, [], (Stp.refl _ _ _).hid hD _, w1.hid (w1.gn hD) (w1.mn hD) _, hD, w1.gn hD, w1.mn hD, upd_same, .nil⟩ ?_ ?_ ?_
    · rintro i H' _ ⟨G', M', vs, s', w', _⟩
      exact SqL.of (w'.gh _ _ (s'.gg _ _ ha))
    · intro i y H' hy c
      obtain ⟨d, hd, ry⟩ := rr.of_get hy
      have hm : d ∈ its := List.mem_of_getElem? hd
      show wipe ((wipe σ [j]).set j (some y)) [j] = wipe σ [j] ∧ _
      rw [wipe_back, wipe_set]
      refine ⟨rfl, ?_⟩
      refine cs_turn (B := B) (e2 := e.set j (.dat d)) (d := f d) (b := p d) c (Nat.lt_of_le_of_lt (lcOut_len its i) hz) (fun G' M' H' s => ((v.step s1).step s).setD (ry.mono s.gg)) (ht d hm) (he d hm) ?_ ?_
      · intro hp H'' c'
        rw [lcOut_succ hd, if_pos hp]
        exact c'
      · intro hp H'' c'
        rw [lcOut_succ hd, if_neg (by rw [hp]; decide)]
        exact c'
    · rintro H' ⟨G', M', vs, s', w', h0, g0, m0, hD', hv⟩
      rw [rr.length, List.take_length] at hv
      exact q D vs G' M' H' (s1.trans s') w' (free_back s1 h0) g0 m0 hD' hv
def rgD (n : Nat) : List PyData := (List.range n).map fun (k : Nat) => PyData.int (k : Int)
theorem rgD_len (n : Nat) : (rgD n).length = n := by unfold rgD; rw [List.length_map, List.length_range]
theorem rgD_get {n i : Nat} (h : i < n) : (rgD n)[i]? = some (.int (i : Int)) := by unfold rgD; rw [List.getElem?_map, List.getElem?_range h]; rfl
/-- [f(k) for k in range(n) if p(k)] -/
theorem evf_lcR1 {ta : TA} {j : Nat} {n : Int} (p : PyData → Bool) (f : PyData → PyData) (h : EvA K R ta e r [.int n]) (h1 : -(2 ^ 62) ≤ n) (hz : n < 16777216)
    (ht : ∀ k : Nat, (k : Int) < n → EvT K R t (e.set j (.dat (.int (k : Int)))) r (p (.int k))) (he : ∀ k : Nat, (k : Int) < n → p (.int k) = true → EvD K R te (e.set j (.dat (.int (k : Int)))) r (f (.int k))) :
    EvF K R (tLc (iRng1 ta) (gName j) t te [j]) e r (lcOut p f (rgD n.toNat)) := fun B σ G M H v w Q q =>
  it_r1 h h1 (by omega) B σ G M H v w _ fun G1 M1 H1 s1 w1 D hD => by
    have en : (n - 0).toNat = n.toNat := by rw [Int.sub_zero]
    rw [en]
    refine lc_range (lo := 0) (n := n.toNat) (fun i H' => Cs K R G1 M1 H1 r D (lcOut p f ((rgD n.toNat).take i)) H') ⟨G1, M1, [], (Stp.refl _ _ _).hid hD _, w1.hid (w1.gn hD) (w1.mn hD) _, hD, w1.gn hD, w1.mn hD, upd_same, .nil⟩ ?_ ?_
    · intro i H' hi c
      have hk : (i : Int) < n := by omega
      have hd := rgD_get hi
      rw [Int.zero_add]
      show wipe ((wipe σ [j]).set j (some (.int (i : Int)))) [j] = wipe σ [j] ∧ _
      rw [wipe_back, wipe_set]
      refine ⟨rfl, ?_⟩
      refine cs_turn (B := B) (e2 := e.set j (.dat (.int (i : Int)))) (d := f (.int i)) (b := p (.int i)) c (Nat.lt_of_le_of_lt (lcOut_len _ i) (by rw [rgD_len, sizeLine_eq]; omega)) (fun G' M' H' s => ((v.step s1).step s).setD (.int _)) (ht i hk) (he i hk) ?_ ?_
      · intro hp H'' c'
        rw [lcOut_succ hd, if_pos hp]
        exact c'
      · intro hp H'' c'
        rw [lcOut_succ hd, if_neg (by rw [hp]; decide)]
        exact c'
    · rintro H' ⟨G', M', vs, s', w', h0, g0, m0, hD', hv⟩
      rw [List.take_of_length_le (by rw [rgD_len]; exact Nat.le_refl _)] at hv
      exact q D vs G' M' H' (s1.trans s') w' (free_back s1 h0) g0 m0 hD' hv
/-- list(range(n)) -/
theorem evf_listRg {n : Int} (h : EvD K R te e r (.int n)) (h0 : 0 ≤ n) (h1 : n ≤ 16777216) : EvF K R (tLstRg (tRg1 te)) e r (rgD n.toNat) := fun B σ G M H v w Q q =>
  h B σ G M H v w _ fun x d r' G1 M1 H1 ⟨e1, e2⟩ s1 w1 hx => by
    subst e1 e2
    refine ⟨n, hx.int_inv, .of_le (Int.le_refl _) h1 (by decide) h0, fun p hp => ?_⟩
    refine q p _ G1 M1 _ (s1.hid (free_back s1 hp) _) (w1.hid (w1.gn hp) (w1.mn hp) _) (free_back s1 hp) (w1.gn hp) (w1.mn hp) upd_same ?_
    have : rgV 0 n = ((List.range n.toNat).map fun (k : Nat) => (k : Int)).map V.int := by
      unfold rgV
      rw [Int.sub_zero, List.map_map]
      refine List.map_congr_left fun k _ => ?_
      show V.int (0 + (k : Int)) = V.int k
      rw [Int.zero_add]
    rw [this]
    have e : rgD n.toNat = ((List.range n.toNat).map fun (k : Nat) => (k : Int)).map PyData.int := by unfold rgD; rw [List.map_map]; rfl
    rw [e]
    exact RpAll.of_ints _
/-- sep.join(xs) -/
theorem ev_join {to : TE} {a : Str} {ys : List Str} (ho : EvD K R to e r (.str a)) (h : EvD K R te e r (.list (ys.map PyData.str))) (hz : (ys.map (·.length)).sum + ys.length * a.length ≤ 16777216) :
    EvD K R (tM1 (fun x xs H Q => ∃ a p, ∃ ys : List Str, x = .str a ∧ xs = [.ref p] ∧ (SqL K H p (ys.map V.str) ∨ SqT K H p (ys.map V.str)) ∧ (ys.map (·.length)).sum + ys.length * a.length ≤ 16777216 ∧ Q (.str (Txt.join a ys)) H) to te) e r (.str (Txt.join a ys)) := fun B σ G M H v w Q q =>
  ho B σ G M H v w _ fun x d r' G1 M1 H1 ⟨e1, e2⟩ s1 w1 hx => by
    subst e1 e2
    refine ⟨⟨a, hx.str_inv⟩, h B σ G1 M1 H1 (v.step s1) w1 _ fun y d r' G2 M2 H2 ⟨e1, e2⟩ s2 w2 hy => ?_⟩
    subst e1 e2
    obtain ⟨p, xs, rfl, hp, rr⟩ := hy.lst_inv
    refine ⟨a, p, ys, hx.str_inv, rfl, .inl (SqL.of (w2.gh _ _ ?_)), hz, q _ _ _ G2 M2 H2 ⟨rfl, rfl⟩ (s1.trans s2) w2 (.str _)⟩
    rw [← rr.strs]
    exact hp
end

/-! ### a pure def -/
/-- M stays as it is -/
def RM (M0 : Hp) : Unit → Hp → Hp → Prop := fun _ _ M => M = M0
instance {M0 : Hp} : Stab (RM M0) := ⟨fun _ _ _ _ _ _ h => h⟩
def startE (ds : List PyData) (n : Nat) : SE := ds.map Sk.dat ++ List.replicate n Sk.hid
section
variable {P : Program} {w : World} {K : PySem.W.Frag} {mg : Str → Option Value} {base : Heap}
theorem env_start {B G M H : Hp} {vs : List V} {ds : List PyData} {n : Nat} (h : RpAll K G vs ds) : EnvO K B G M H (vs.map some ++ List.replicate n none) (startE ds n) := by
  have own : ∀ (i : Nat) es, (startE ds n)[i]? ≠ some (.own es) := fun i es q => by
    unfold startE at q
    rcases List.mem_append.mp (List.mem_of_getElem? q) with m | m
    · obtain ⟨d, _, e⟩ := List.mem_map.mp m
      cases e
    · cases (List.mem_replicate.mp m).2
  refine ⟨by unfold startE; simp [h.length], fun i d q => ?_, fun i es q => absurd q (own i es), fun i j es fs l q => absurd q (own i es)⟩
  unfold startE at q
  by_cases hi : i < (ds.map Sk.dat).length
  · rw [List.getElem?_append_left hi, List.getElem?_map] at q
    cases z : ds[i]? with
    | none => rw [z] at q; cases q
    | some d' =>
      rw [z] at q
      have q : some (Sk.dat d') = some (Sk.dat d) := q
      injection q with q
      injection q with q
      subst q
      obtain ⟨v, e1, e2⟩ := h.get z
      have hv : i < (vs.map some).length := by rw [List.length_map, h.length]; simpa using hi
      exact ⟨v, by rw [List.getElem?_append_left hv, List.getElem?_map, e1]; rfl, e2⟩
  · rw [List.getElem?_append_right (by omega)] at q
    cases (List.mem_replicate.mp (List.mem_of_getElem? q)).2
/-- a pure def keeps its promise -/
theorem ok_pure {x qual : Str} {st : Stmt} {f : Addr} {fd : FuncData} {N ps : List Str} {k : Nat} {α : Type} {args : α → List PyData} {pre : α → Prop} {res : α → PyData → Prop} (F : Fun K x qual st f fd) (S : FnScope N ps (defScope st))
    (len : ∀ a, (args a).length = ps.length)
    (body : ∀ (cdv : Value) (A : Around) (outer : List Env) (s : Shared) (H : Hp) (E : XK), Room k (A.deeper (PyProof.Rows.envOfC qual (defScope st) s.heap.objs.size f cdv)) →
      ∃ t, PSs (cxOf CX0 P w K mg base N qual (defScope st) f cdv A outer s H E).nox (defBody st) t ∧ ∀ (M0 : Hp) a, pre a → SP K (RM M0) E0 t (startE (args a) (N.length - ps.length)) () ⟨fun _ _ => res a .none, fun d _ => res a d, fun _ _ => False, fun _ _ => False, fun _ _ => False, fun _ _ => False⟩) :
    FnOk P w K mg base CX0 (k + 1) f fd ps (spD K args pre res) := by
  refine F.ok S (fun vs H Q E h => ?_) (fun cdv A outer s H vs Q E hr h => ?_)
  · obtain ⟨G, M, a, p, hv, hp, _⟩ := h
    rw [hv.length]
    exact len a
  · obtain ⟨t, ht, hb⟩ := body cdv A outer s H E hr
    refine ⟨t, ht, ?_⟩
    obtain ⟨G, M, a, p, hv, hp, q⟩ := h
    have hs : L2.start N vs = vs.map some ++ List.replicate (N.length - ps.length) none := by unfold L2.start; rw [hv.length, len a]
    rw [hs]
    refine hb M a hp G M H _ G M H _ (Stp.refl _ _ _) (env_start hv) ⟨p.1, p.2.1, p.2.2, rfl⟩ ⟨?_, ?_, fun _ _ _ _ _ _ z => z.elim, fun _ _ _ _ _ _ z => z.elim, fun _ _ _ _ _ z => z.elim, fun _ _ _ _ _ _ _ z => z.elim⟩
    · intro e r σ G' M' H' hp' s' v' w'
      have e1 : M' = M := w'.res
      subst e1
      exact q .non .none G' H' hp' ⟨s', w'.gh, w'.mh, w'.dj⟩ .non
    · intro d r v G' M' H' hp' s' w' hx
      have e1 : M' = M := w'.res
      subst e1
      exact q v d G' H' hp' ⟨s', w'.gh, w'.mh, w'.dj⟩ hx
/-- where a def stands -/
structure DefAt (K : PySem.W.Frag) (mg : Str → Option Value) (x qual : Str) (st : Stmt) (ps : List Str) where
  a : Addr
  fd : FuncData
  F : Fun K x qual st a fd
  b : Binds K fd ps []
  g : mg x = some (.ref a)
/-- where a method stands -/
structure MethAt (K : PySem.W.Frag) (C : Addr) (m qual : Str) (st : Stmt) (ps : List Str) where
  a : Addr
  fd : FuncData
  F : Fun K m qual st a fd
  b : Binds K fd ps []
  m : Meth K C m a
/-- the law's own promise -/
def spLaw (K : PySem.W.Frag) : Sp := fun vs H Q _ => ∃ (a : Addr) (ns : List Int), vs = [.ref a] ∧ SqL K H a (ns.map V.int) ∧ ns.length ≤ 63 ∧ ∀ H', Q (.bl true) H'
abbrev spTrue (K : PySem.W.Frag) : Sp := spF K (fun ns : List Int => [scrD ns]) (fun ns => ns.length ≤ 63) (fun _ => .bool true)
theorem spLaw_of {f : Addr} {fd : FuncData} {k : Nat} {ps : List Str} (F : FnOk P w K mg base CX0 k f fd ps (spTrue K)) : FnOk P w K mg base CX0 k f fd ps (spLaw K) :=
  F.imp fun vs H Q E ⟨a, ns, e, hs, hl, q⟩ => by
    subst e
    refine ⟨H, fun _ => none, ns, ⟨Same.refl _, (fun b o h => by cases h), (fun b h => absurd rfl h)⟩, .one (.scr hs), hl, fun v d G' H' hd _ hx => ?_⟩
    subst hd
    rw [hx.bl_inv]
    exact q H'
end
end Fw

/-! Rows of entries as data, words, numbers drawn: plain Lean. -/
namespace Fw
open PySem L2
open PySem.PyData (strOk)
abbrev Ent := Int × Str
def entD (e : Ent) : PyData := .tuple [.int e.1, .str e.2]
def rowD (es : List Ent) : PyData := .list (es.map entD)
def wOk (x : Str) : Prop := strOk x = true ∧ x.length ≤ 129
def rowOk (es : List Ent) : Prop := ∀ e ∈ es, strOk e.2 = true
theorem rowOk_nil : rowOk [] := fun _ h => nomatch h
theorem rowOk_append {a b : List Ent} (h : rowOk a) (g : rowOk b) : rowOk (a ++ b) := fun e he => (List.mem_append.mp he).elim (h e) (g e)
theorem rowOk_sub {a b : List Ent} (h : rowOk b) (s : ∀ e ∈ a, e ∈ b) : rowOk a := fun e he => h e (s e he)
theorem rowOk_one {e : Ent} (h : strOk e.2 = true) : rowOk [e] := fun x hx => by rw [List.mem_singleton.mp hx]; exact h
theorem plain_rows : ∀ es : List Ent, plainAll (es.map entD) = true
  | [] => rfl
  | e :: es => by
    show (plainD (entD e) && plainAll (es.map entD)) = true
    rw [plain_rows es]; rfl
theorem plain_row (es : List Ent) : plainD (rowD es) = true := plain_rows es
theorem canLay_rows : ∀ es : List Ent, rowOk es → PyData.canLayAll0 (es.map entD) = true
  | [], _ => rfl
  | e :: es, h => by
    show (PyData.canLay0 (entD e) && PyData.canLayAll0 (es.map entD)) = true
    rw [canLay_rows es fun x hx => h x (List.mem_cons_of_mem _ hx)]
    have : strOk e.2 = true := h e List.mem_cons_self
    show (true && (strOk e.2 && true) && true) = true
    rw [this]; rfl
theorem depth_rows : ∀ es : List Ent, PyData.depthAll (es.map entD) ≤ 1
  | [] => Nat.zero_le _
  | e :: es => by
    show max (PyData.depth (entD e)) (PyData.depthAll (es.map entD)) ≤ 1
    have h1 := depth_rows es
    have h2 : PyData.depth (entD e) = 1 := rfl
    rw [h2]
    omega
theorem shaped_row {es : List Ent} (h : rowOk es) : SeqAt.shaped (rowD es) = true := by
  unfold SeqAt.shaped
  rw [Bool.and_eq_true]
  refine ⟨canLay_rows es h, decide_eq_true ?_⟩
  show PyData.depthAll (es.map entD) + 1 ≤ 64
  have := depth_rows es
  omega
theorem eqv_ent (a b : Ent) : PyData.eqv (entD a) (entD b) = decide (a = b) := by
  obtain ⟨i, x⟩ := a
  obtain ⟨j, y⟩ := b
  show (i == j && (x == y && true)) = _
  by_cases h1 : i = j
  · subst h1
    by_cases h2 : x = y
    · subst h2; simp
    · simp [h2]
  · simp [h1]
theorem eqv_rows : ∀ a b : List Ent, PyData.eqvAll (a.map entD) (b.map entD) = decide (a = b)
  | [], [] => rfl
  | [], _ :: _ => rfl
  | _ :: _, [] => rfl
  | x :: a, y :: b => by
    show (PyData.eqv (entD x) (entD y) && PyData.eqvAll (a.map entD) (b.map entD)) = _
    rw [eqv_ent, eqv_rows a b]
    by_cases h1 : x = y
    · subst h1
      by_cases h2 : a = b
      · subst h2; simp
      · simp [h2]
    · simp [h1]
theorem eqv_row (a b : List Ent) : PyData.eqv (rowD a) (rowD b) = decide (a = b) := eqv_rows a b
theorem rowD_nil : PyData.list [] = rowD [] := rfl
section
variable {K : PySem.W.Frag}
theorem opEqR {a b : List Ent} (h1 : rowOk a) (h2 : rowOk b) : OpD K (rEqD K) (rowD a) (rowD b) (.bool (decide (a = b))) := by
  rw [← eqv_row]
  exact opEqD (plain_row a) (plain_row b) (shaped_row h1) (shaped_row h2)
theorem opNeR {a b : List Ent} (h1 : rowOk a) (h2 : rowOk b) : OpD K (rNeD K) (rowD a) (rowD b) (.bool (!decide (a = b))) := by
  rw [← eqv_row]
  exact opNeD (plain_row a) (plain_row b) (shaped_row h1) (shaped_row h2)
end
/-- the last term -/
def lastT (es : List Ent) : Int := match es.getLast? with
  | none => 0
  | some e => e.1
def asNew (a b : List Ent) : Bool := if lastT a ≠ lastT b then decide (lastT b < lastT a) else decide (b.length ≤ a.length)
theorem lastT_nil : lastT [] = 0 := rfl
theorem lastT_snoc (es : List Ent) (e : Ent) : lastT (es ++ [e]) = e.1 := by unfold lastT; rw [List.getLast?_concat]
theorem atI_row {es : List Ent} {i : Nat} {e : Ent} (h : es[i]? = some e) : L2.atI (es.map entD) (i : Int) = some (entD e) := atI_nat (by rw [List.getElem?_map, h]; rfl)
theorem atI_rowLast {es : List Ent} (h : es ≠ []) : ∃ e, L2.atI (es.map entD) (-1) = some (entD e) ∧ lastT es = e.1 := by
  obtain ⟨e, he⟩ : ∃ e, es.getLast? = some e := by
    cases q : es.getLast? with
    | none => exact absurd (List.getLast?_eq_none_iff.mp q) h
    | some e => exact ⟨e, rfl⟩
  obtain ⟨ys, rfl⟩ := List.getLast?_eq_some_iff.mp he
  exact ⟨e, by rw [List.map_append]; exact atI_last _ _, lastT_snoc ys e⟩

/-! ### numbers -/
def cellAt (ns : List Int) (k : Int) : Int := if k < ns.length then ns.getD k.toNat 0 else 0
def mixed (ns : List Int) (k : Int) : Int :=
  ((cellAt ns k + 7919 * k) * 48271 % 2147483647 * ((cellAt ns k + 7919 * k) * 48271 % 2147483647) + 7 * ((cellAt ns k + 7919 * k) * 48271 % 2147483647) + k) % 2147483629
theorem mixed_rng (ns : List Int) (k : Int) : 0 ≤ mixed ns k ∧ mixed ns k < 2147483629 := ⟨Int.emod_nonneg _ (by decide), Int.emod_lt_of_pos _ (by decide)⟩
theorem atI_cell {ns : List Int} {k : Int} (h0 : 0 ≤ k) (h : k < ns.length) : L2.atI ns k = some (ns.getD k.toNat 0) := by
  have e : k = (k.toNat : Int) := by omega
  have hl : k.toNat < ns.length := by omega
  have := atI_nat (xs := ns) (j := k.toNat) (v := ns.getD k.toNat 0) (by rw [List.getD_eq_getElem?_getD, List.getElem?_eq_getElem hl]; rfl)
  rw [← e] at this
  exact this
/-! ### words -/
def alphaA : Str := (" !\"#$&'()*+,-./0123456789:;<=>?@ABCDEFGHIJKLMNOPQRSTUVWXYZ[\\]^_`" : String)
def alphaB : Str := ("abcdefghijklmnopqrstuvwxyz{|}~" : String)
def alpha : Str := alphaA ++ alphaB
theorem alpha_len : alpha.cps.toList.length = 94 := by decide +kernel
theorem alpha_small : alpha.length ≤ sizeLine := by rw [sizeLine_eq]; decide +kernel
theorem alphaA_len : alphaA.length + alphaB.length ≤ sizeLine := by rw [sizeLine_eq]; decide +kernel
theorem alpha_all : alpha.cps.toList.all (fun c => decide (c < 0x110000)) = true := by decide +kernel
def signBy (n : Int) : Str := ⟨#[alpha.cps.toList.getD (n % 94).toNat 0]⟩
theorem sign_at (n : Int) : L2.atI alpha.cps.toList (n % 94) = some (alpha.cps.toList.getD (n % 94).toNat 0) := by
  have h0 : 0 ≤ n % 94 := Int.emod_nonneg _ (by decide)
  have h1 : n % 94 < 94 := Int.emod_lt_of_pos _ (by decide)
  have e : n % 94 = ((n % 94).toNat : Int) := by omega
  have hl : (n % 94).toNat < alpha.cps.toList.length := by rw [alpha_len]; omega
  have := atI_nat (xs := alpha.cps.toList) (j := (n % 94).toNat) (v := alpha.cps.toList.getD (n % 94).toNat 0) (by rw [List.getD_eq_getElem?_getD, List.getElem?_eq_getElem hl]; rfl)
  rw [← e] at this
  exact this
theorem signBy_len (n : Int) : (signBy n).length = 1 := rfl
theorem signBy_ok (n : Int) : strOk (signBy n) = true := by
  have h1 : n % 94 < 94 := Int.emod_lt_of_pos _ (by decide)
  have h0 : 0 ≤ n % 94 := Int.emod_nonneg _ (by decide)
  have hl : (n % 94).toNat < alpha.cps.toList.length := by rw [alpha_len]; omega
  have hm : alpha.cps.toList.getD (n % 94).toNat 0 ∈ alpha.cps.toList := by
    rw [List.getD_eq_getElem?_getD, List.getElem?_eq_getElem hl]
    exact List.getElem_mem hl
  have := List.all_eq_true.mp alpha_all _ hm
  unfold strOk signBy
  simp only [List.all_toArray, List.all_cons, List.all_nil, Bool.and_true]
  exact this
theorem strOk_append {a b : Str} (h1 : strOk a = true) (h2 : strOk b = true) : strOk (a ++ b) = true := by
  show (a.cps ++ b.cps).all _ = true
  rw [Array.all_append]
  rw [show a.cps.all _ = true from h1, show b.cps.all _ = true from h2]
  rfl
theorem len_append (a b : Str) : (a ++ b).length = a.length + b.length := by
  show (a.cps ++ b.cps).size = _
  rw [Array.size_append]; rfl
theorem join_ok : ∀ ys : List Str, (∀ y ∈ ys, strOk y = true ∧ y.length = 1) → strOk (Str.join Str.empty ys) = true ∧ (Str.join Str.empty ys).length = ys.length
  | [], _ => ⟨by decide +kernel, rfl⟩
  | [x], h => h x List.mem_cons_self
  | x :: y :: r, h => by
    obtain ⟨h1, h2⟩ := join_ok (y :: r) fun z hz => h z (List.mem_cons_of_mem _ hz)
    obtain ⟨h3, h4⟩ := h x List.mem_cons_self
    have he : strOk Str.empty = true := by decide +kernel
    refine ⟨strOk_append (strOk_append h3 he) h1, ?_⟩
    show ((x ++ Str.empty) ++ Str.join Str.empty (y :: r)).length = _
    rw [len_append, len_append, h2, h4]
    show 1 + 0 + (y :: r).length = (x :: y :: r).length
    rw [List.length_cons (a := x)]
    omega
def wordSize (n : Int) : Int := if n / 4 % 9 = 1 then 10 + n / 36 % 120 else n % 4
theorem wordSize_rng (n : Int) : 0 ≤ wordSize n ∧ wordSize n ≤ 129 := by
  unfold wordSize
  split <;> omega
def wordSigns (n : Int) : List Str := (List.range (wordSize n).toNat).map fun (k : Nat) => signBy (n / 36 + 7 * (k : Int))
def emptyS : Str := ("" : String)
theorem emptyS_eq : emptyS = Str.empty := by decide +kernel
def wordBy (n : Int) : Str := Txt.join emptyS (wordSigns n)
theorem wordSigns_ok (n : Int) : ∀ y ∈ wordSigns n, strOk y = true ∧ y.length = 1 := fun y hy => by
  obtain ⟨k, _, rfl⟩ := List.mem_map.mp hy
  exact ⟨signBy_ok _, signBy_len _⟩
theorem wordSigns_len (n : Int) : (wordSigns n).length ≤ 129 := by
  unfold wordSigns
  rw [List.length_map, List.length_range]
  have := wordSize_rng n
  omega
theorem wordBy_ok (n : Int) : wOk (wordBy n) := by
  unfold wordBy wOk
  rw [emptyS_eq, TL.join_eq]
  obtain ⟨h1, h2⟩ := join_ok _ (wordSigns_ok n)
  exact ⟨h1, by rw [h2]; exact wordSigns_len n⟩
theorem wordSigns_fit (n : Int) : ((wordSigns n).map (·.length)).sum + (wordSigns n).length * emptyS.length ≤ 16777216 := by
  have h : ∀ ys : List Str, (∀ y ∈ ys, strOk y = true ∧ y.length = 1) → (ys.map (·.length)).sum = ys.length := fun ys => by
    induction ys with
    | nil => intro _; rfl
    | cons y r ih =>
      intro hy
      rw [List.map_cons, List.sum_cons, ih fun z hz => hy z (List.mem_cons_of_mem _ hz), (hy y List.mem_cons_self).2, List.length_cons]
      omega
  rw [h _ (wordSigns_ok n)]
  have := wordSigns_len n
  have e : emptyS.length = 0 := by rw [emptyS_eq]; rfl
  rw [e]
  omega
def entBy (n : Int) : Ent := (if n / 4 % 6 = 1 then 1 + n ^ 3 else 1 + n % 4, wordBy (n / 24))
theorem entBy_ok (n : Int) : strOk (entBy n).2 = true := (wordBy_ok _).1
def rowSize (n : Int) : Int := if n / 6 % 4 = 1 then n % 6 + 60 else n % 6
theorem rowSize_rng (n : Int) : 0 ≤ rowSize n ∧ rowSize n ≤ 65 := by
  unfold rowSize
  split <;> omega
def rowBy (ns : List Int) (at_ : Int) : List Ent := (List.range (rowSize (mixed ns at_)).toNat).map fun (k : Nat) => entBy (mixed ns (at_ + 2 + 3 * (k : Int)))
theorem rowBy_ok (ns : List Int) (a : Int) : rowOk (rowBy ns a) := fun e he => by
  obtain ⟨k, _, rfl⟩ := List.mem_map.mp he
  exact entBy_ok _
theorem rowBy_len (ns : List Int) (a : Int) : (rowBy ns a).length ≤ 65 := by
  unfold rowBy
  rw [List.length_map, List.length_range]
  have := rowSize_rng (mixed ns a)
  omega
theorem lcOut_all {f : PyData → PyData} (its : List PyData) : lcOut (fun _ => true) f its = its.map f := by
  unfold lcOut
  rw [List.filter_eq_self.mpr fun _ _ => rfl]
theorem rgD_map (n : Nat) (f : PyData → PyData) : (rgD n).map f = (List.range n).map fun (k : Nat) => f (.int (k : Int)) := by unfold rgD; rw [List.map_map]; rfl
end Fw
namespace Fw
open PySem L2
/-- whether the entry ahead of a place is there, and of a term -/
def agreesB (es : List Ent) (k t : Int) : Bool := if k = 0 then true else match es[(k - 1).toNat]? with
  | some e => decide (e.1 = t)
  | none => false
theorem agreesB_at {es : List Ent} {k t : Int} {e : Ent} (h0 : 0 < k) (h : es[(k - 1).toNat]? = some e) : agreesB es k t = decide (e.1 = t) := by
  unfold agreesB
  rw [if_neg (by omega), h]
theorem agreesB_out {es : List Ent} {k t : Int} (h0 : 0 < k) (h : (es.length : Int) < k) : agreesB es k t = false := by
  unfold agreesB
  rw [if_neg (by omega), List.getElem?_eq_none (by omega)]
theorem row_get {es : List Ent} {k : Int} (h0 : 0 < k) (h : k ≤ es.length) : ∃ e, es[(k - 1).toNat]? = some e ∧ L2.atI (es.map entD) (k - 1) = some (entD e) := by
  have hl : (k - 1).toNat < es.length := by omega
  refine ⟨es[(k - 1).toNat], List.getElem?_eq_getElem hl, ?_⟩
  have := atI_row (List.getElem?_eq_getElem hl)
  have e : ((k - 1).toNat : Int) = k - 1 := by omega
  rw [e] at this
  exact this
end Fw
namespace Fw
open PySem L2
/-! ### what more than half hold -/
def cnt (hs : List Int) (n : Int) : Nat := (hs.filter fun h => decide (n ≤ h)).length
def settledUp (es : List Ent) (t : Int) (hs : List Int) : Nat → Int
  | 0 => 0
  | n + 1 => if (hs.length : Int) < 2 * (cnt hs ((n : Int) + 1) : Int) ∧ (es[n]?.map (·.1)) = some t then (n : Int) + 1 else settledUp es t hs n
def settledBy (es : List Ent) (t : Int) (hs : List Int) : Int := settledUp es t hs es.length
def geD (n : Int) : PyData → Bool
  | .int h => decide (n ≤ h)
  | _ => false
theorem cnt_out (hs : List Int) (n : Int) : (lcOut (geD n) (fun d => d) (hs.map PyData.int)).length = cnt hs n := by
  unfold lcOut cnt
  rw [List.length_map, List.filter_map, List.length_map]; rfl
theorem cnt_nil (n : Int) : cnt [] n = 0 := rfl
theorem cnt_snoc (hs : List Int) (h n : Int) : cnt (hs ++ [h]) n = if n ≤ h then cnt hs n + 1 else cnt hs n := by
  unfold cnt
  rw [List.filter_append, List.length_append]
  by_cases q : n ≤ h
  · rw [if_pos q]; simp [q]
  · rw [if_neg q]; simp [q]
theorem cnt_le (hs : List Int) (n : Int) : cnt hs n ≤ hs.length := List.length_filter_le _ _
theorem settledUp_rng (es : List Ent) (t : Int) (hs : List Int) : ∀ n : Nat, 0 ≤ settledUp es t hs n ∧ settledUp es t hs n ≤ n
  | 0 => ⟨Int.le_refl _, Int.le_refl _⟩
  | n + 1 => by
    have := settledUp_rng es t hs n
    unfold settledUp
    split <;> omega
end Fw
namespace Fw
open PySem L2
def heldOne (ns : List Int) (size : Int) (k : Nat) : Int := if mixed ns (4 + 3 * (k : Int)) / 70 % 11 = 1 then 10 ^ 20 else mixed ns (4 + 3 * (k : Int)) % (size + 3)
def heldBy (ns : List Int) (size : Int) (n : Nat) : List Int := (List.range n).map (heldOne ns size)
theorem heldBy_succ (ns : List Int) (size : Int) (n : Nat) : heldBy ns size (n + 1) = heldBy ns size n ++ [heldOne ns size n] := by
  unfold heldBy
  rw [List.range_succ, List.map_append]; rfl
theorem heldBy_len (ns : List Int) (size : Int) (n : Nat) : (heldBy ns size n).length = n := by unfold heldBy; rw [List.length_map, List.length_range]
theorem plain_ints : ∀ hs : List Int, plainAll (hs.map PyData.int) = true
  | [] => rfl
  | e :: es => plain_ints es
theorem shaped_ints (hs : List Int) : SeqAt.shaped (.list (hs.map PyData.int)) = true := by
  unfold SeqAt.shaped
  have h1 : ∀ hs : List Int, PyData.canLayAll0 (hs.map PyData.int) = true := fun hs => by
    induction hs with
    | nil => rfl
    | cons h t ih => exact ih
  have h2 : ∀ hs : List Int, PyData.depthAll (hs.map PyData.int) = 0 := fun hs => by
    induction hs with
    | nil => rfl
    | cons h t ih =>
      show max 0 (PyData.depthAll (t.map PyData.int)) = 0
      rw [ih]; rfl
  rw [Bool.and_eq_true]
  refine ⟨h1 hs, decide_eq_true ?_⟩
  show PyData.depthAll (hs.map PyData.int) + 1 ≤ 64
  rw [h2]
  decide
theorem eqv_ints : ∀ a b : List Int, PyData.eqvAll (a.map PyData.int) (b.map PyData.int) = decide (a = b)
  | [], [] => rfl
  | [], _ :: _ => rfl
  | _ :: _, [] => rfl
  | x :: a, y :: b => by
    show ((x == y) && PyData.eqvAll (a.map PyData.int) (b.map PyData.int)) = _
    rw [eqv_ints a b]
    by_cases h1 : x = y
    · subst h1
      by_cases h2 : a = b
      · subst h2; simp
      · simp [h2]
    · simp [h1]
theorem opEqIs {K : PySem.W.Frag} {a b : List Int} : OpD K (rEqD K) (.list (a.map .int)) (.list (b.map .int)) (.bool (decide (a = b))) := by
  rw [← eqv_ints]
  exact opEqD (plain_ints a) (plain_ints b) (shaped_ints a) (shaped_ints b)
theorem opNeIs {K : PySem.W.Frag} {a b : List Int} : OpD K (rNeD K) (.list (a.map .int)) (.list (b.map .int)) (.bool (!decide (a = b))) := by
  rw [← eqv_ints]
  exact opNeD (plain_ints a) (plain_ints b) (shaped_ints a) (shaped_ints b)
end Fw

/-! Objects: a state is M itself and what is known of G; calls of defs that change it or raise. -/
namespace Fw
open PySem L2

structure MF where
  m : Hp
  f : V → PyData → Prop
def Rmf (K : PySem.W.Frag) : MF → Hp → Hp → Prop := fun r G M => M = r.m ∧ ∀ v d, r.f v d → Rp K G v d
instance {K : PySem.W.Frag} : Stab (Rmf K) := ⟨fun _ _ _ _ s _ h => ⟨h.1, fun v d q => (h.2 v d q).mono s⟩⟩
def VF (K : PySem.W.Frag) (r : MF) (v : V) (d : PyData) : Prop := ∀ G M, Rmf K r G M → Rp K G v d
section
variable {K : PySem.W.Frag} {r : MF}
theorem VF.int {i : Int} : VF K r (.int i) (.int i) := fun _ _ _ => .int i
theorem VF.bl {b : Bool} : VF K r (.bl b) (.bool b) := fun _ _ _ => .bl b
theorem VF.obj {a : Addr} : VF K r (.ref a) (objD a) := fun _ _ _ => .obj
theorem VF.fact {v : V} {d : PyData} (h : r.f v d) : VF K r v d := fun _ _ q => q.2 v d h
end
def addF (f : V → PyData → Prop) (v : V) (d : PyData) : V → PyData → Prop := fun w e => f w e ∨ (w = v ∧ e = d)
section
variable {K : PySem.W.Frag} {r : MF} {e : SE} {ta tb te tv : TE} {d : PyData} {ds : List PyData} {a C dx l : Addr} {fs : List (Str × V)} {f : Str} {v : V} {xs : List V}
theorem Wf.at {G M H : Hp} (w : Wf (Rmf K) G M H r) {o : HO} (h : r.m a = some o) : H a = some o := w.mh a o (by rw [w.res.1]; exact h)
theorem ev_fld (h : EvD K (Rmf K) ta e r (objD a)) (hm : r.m a = some (.ins C dx fs)) (c : Cls K C) (n : NoAttr K C f) (hl : fs.lookup f = some v) (hv : VF K r v d) : EvD K (Rmf K) (tFld K ta f) e r d := fun B σ G M H ve w Q q =>
  h B σ G M H ve w _ fun x d' r' G' M' H' ⟨e1, e2⟩ s w' hx => by
    subst e1 e2
    exact ⟨a, C, dx, fs, v, hx.obj_inv, w'.at hm, c, n, hl, q v d _ G' M' H' ⟨rfl, rfl⟩ s w' (hv _ _ w'.res)⟩
theorem inst_of {p : Addr} {m : Str} (h : r.m p = some (.ins C dx fs)) (l : fs.lookup m = none) : ∀ G M, Rmf K r G M → ∃ dx fs, M p = some (.ins C dx fs) ∧ fs.lookup m = none := fun G M hM => ⟨dx, fs, by rw [hM.1]; exact h, l⟩
/-- a thing of M changes -/
theorem Stp.mutM {G M H : Hp} (hm : ∃ o, M a = some o) (mh : Same M H) (o' : HO) : Stp G M H G (upd M a o') (upd H a o') where
  gg := Same.refl _
  th := fun b hb => by
    by_cases e : b = a
    · rw [e, upd_same]; exact fun z => nomatch z
    · rw [upd_ne e]; exact hb
  fr := fun b u e m => by
    have : b ≠ a := fun z => by rw [z] at m; obtain ⟨o, h⟩ := hm; rw [m] at h; cases h
    rw [upd_ne this]; exact e
  ng := fun _ _ g => g
  nm := fun b _ m => by
    have : b ≠ a := fun z => by rw [z] at m; obtain ⟨o, h⟩ := hm; rw [m] at h; cases h
    rw [upd_ne this]; exact m
theorem Wf.mutM {G M H : Hp} (w : Wf (Rmf K) G M H r) {o : HO} (hm : r.m a = some o) (o' : HO) {f' : V → PyData → Prop} (hf : ∀ v d, f' v d → Rp K G v d) : Wf (Rmf K) G (upd M a o') (upd H a o') ⟨upd r.m a o', f'⟩ := by
  have hM : M = r.m := w.res.1
  subst hM
  refine ⟨same_upd w.gh (w.dj a (some_ne hm)), same_both w.mh, fun b hb => ?_, rfl, hf⟩
  by_cases e : b = a
  · rw [e]; exact w.dj a (some_ne hm)
  · rw [upd_ne e] at hb; exact w.dj b hb
/-- a new thing comes to M -/
theorem Stp.newM {G M H : Hp} (h : H a = none) (o' : HO) : Stp G M H G (upd M a o') (upd H a o') where
  gg := Same.refl _
  th := fun b hb => by
    by_cases e : b = a
    · rw [e, upd_same]; exact fun z => nomatch z
    · rw [upd_ne e]; exact hb
  fr := fun b u e m => by rw [upd_ne (ne_of_none e h)]; exact e
  ng := fun _ _ g => g
  nm := fun b hb m => by
    have : b ≠ a := fun z => hb (by rw [z]; exact h)
    rw [upd_ne this]; exact m
theorem Wf.newM {G M H : Hp} (w : Wf (Rmf K) G M H r) (h : H a = none) (o' : HO) : Wf (Rmf K) G (upd M a o') (upd H a o') ⟨upd r.m a o', r.f⟩ := by
  have hM : M = r.m := w.res.1
  subst hM
  refine ⟨same_upd w.gh (w.gn h), same_both w.mh, fun b hb => ?_, rfl, w.res.2⟩
  by_cases e : b = a
  · rw [e]; exact w.gn h
  · rw [upd_ne e] at hb; exact w.dj b hb
/-- a hidden new list comes to M -/
theorem Wf.toM {G M H : Hp} (w : Wf (Rmf K) G M H r) {o : HO} (h : H a = some o) (g : G a = none) : Wf (Rmf K) G (upd M a o) H ⟨upd r.m a o, r.f⟩ := by
  have hM : M = r.m := w.res.1
  subst hM
  refine ⟨w.gh, fun b u e => ?_, fun b hb => ?_, rfl, w.res.2⟩
  · by_cases q : b = a
    · rw [q, upd_same] at e; rw [q, h]; exact e
    · rw [upd_ne q] at e; exact w.mh b u e
  · by_cases q : b = a
    · rw [q]; exact g
    · rw [upd_ne q] at hb; exact w.dj b hb
theorem Stp.toM {G M H G' M' H' : Hp} (s : Stp G M H G' M' H') (h : H a = none) (o : HO) : Stp G M H G' (upd M' a o) H' :=
  ⟨s.gg, s.th, s.fr, s.ng, fun b hb m => by
    have : b ≠ a := fun z => hb (by rw [z]; exact h)
    rw [upd_ne this]; exact s.nm b hb m⟩
/-- o.f = e -/
theorem sp_fld {P : Post MF} {E : XK} (h : EvD K (Rmf K) tv e r d) (ha : EvD K (Rmf K) ta e r (objD a)) (hm : r.m a = some (.ins C dx fs)) (c : Cls K C) (n : NoAttr K C f) (hl : fs.length < 1000)
    (k : ∀ v, (∃ G, Rp K G v d) → P.nx e ⟨upd r.m a (.ins C dx (putF f v fs)), addF r.f v d⟩) : SP K (Rmf K) E (sFld K ta tv f) e r P := fun G0 M0 H0 σ G M H D s ve w q =>
  h H0 σ G M H ve w _ fun v d' r' G1 M1 H1 ⟨e1, e2⟩ s1 w1 hv => by
    subst e1 e2
    refine ha H0 σ G1 M1 H1 (ve.step s1) w1 _ fun x d2 r2 G2 M2 H2 ⟨e1, e2⟩ s2 w2 hx => ?_
    subst e1 e2
    refine ⟨a, C, dx, fs, hx.obj_inv, w2.at hm, c, n, hl, ?_⟩
    have hM : M2 = r2.m := w2.res.1
    have st : Stp G2 M2 H2 G2 (upd M2 a (.ins C dx (putF f v fs))) (upd H2 a (.ins C dx (putF f v fs))) := Stp.mutM ⟨_, by rw [hM]; exact hm⟩ w2.mh _
    have s3 := (s1.trans s2).trans st
    refine q.nx e _ σ G2 _ _ (k v ⟨_, hv⟩) (s.trans s3) (ve.step s3) (w2.mutM hm _ fun v' d' hf => ?_)
    rcases hf with hf | ⟨e1, e2⟩
    · exact w2.res.2 v' d' hf
    · rw [e1, e2]; exact hv.mono s2.gg
/-- o.f = a new list that stays -/
theorem sp_fldL {P : Post MF} {E : XK} (h : EvF K (Rmf K) tv e r ds) (ha : EvD K (Rmf K) ta e r (objD a)) (hm : r.m a = some (.ins C dx fs)) (c : Cls K C) (n : NoAttr K C f) (hl : fs.length < 1000)
    (k : ∀ l, (∀ es, ¬ r.f (.ref l) (.list es)) → P.nx e ⟨upd r.m a (.ins C dx (putF f (.ref l) fs)), addF r.f (.ref l) (.list ds)⟩) : SP K (Rmf K) E (sFld K ta tv f) e r P := fun G0 M0 H0 σ G M H D s ve w q =>
  h H0 σ G M H ve w _ fun l vs G1 M1 H1 s1 w1 h1 h2 h3 h4 h5 => by
    have s1' := s1.freeze (o := .lst vs) h1 h2
    have w1' := w1.freeze h4 h2 h3
    refine ha H0 σ _ M1 H1 (ve.step s1') w1' _ fun x d2 r2 G2 M2 H2 ⟨e1, e2⟩ s2 w2 hx => ?_
    subst e1 e2
    refine ⟨a, C, dx, fs, hx.obj_inv, w2.at hm, c, n, hl, ?_⟩
    have hM : M2 = r2.m := w2.res.1
    have st : Stp G2 M2 H2 G2 (upd M2 a (.ins C dx (putF f (.ref l) fs))) (upd H2 a (.ins C dx (putF f (.ref l) fs))) := Stp.mutM ⟨_, by rw [hM]; exact hm⟩ w2.mh _
    have s3 := (s1'.trans s2).trans st
    refine q.nx e _ σ G2 _ _ (k l fun es hf => ?_) (s.trans s3) (ve.step s3) (w2.mutM hm _ fun v' d' hf => ?_)
    · obtain ⟨b, xs, e1, e2, _⟩ := (w.res.2 _ _ hf).lst_inv
      cases e1
      rw [w.gn h1] at e2
      cases e2
    · rcases hf with hf | ⟨e1, e2⟩
      · exact w2.res.2 v' d' hf
      · rw [e1, e2]; exact (Rp.lst upd_same (h5.mono (same_new h2))).mono s2.gg
/-- o.f = a new list of ints -/
theorem sp_fldN {P : Post MF} {E : XK} {ns : List Int} (h : EvF K (Rmf K) tv e r (ns.map .int)) (ha : EvD K (Rmf K) ta e r (objD a)) (hm : r.m a = some (.ins C dx fs)) (c : Cls K C) (n : NoAttr K C f) (hl : fs.length < 1000)
    (ha' : ∀ m', EvD K (Rmf K) ta e ⟨m', r.f⟩ (objD a))
    (k : ∀ l, r.m l = none → l ≠ a → P.nx e ⟨upd (upd r.m l (.lst (ns.map .int))) a (.ins C dx (putF f (.ref l) fs)), r.f⟩) : SP K (Rmf K) E (sFld K ta tv f) e r P := fun G0 M0 H0 σ G M H D s ve w q =>
  h H0 σ G M H ve w _ fun l vs G1 M1 H1 s1 w1 h1 h2 h3 h4 h5 => by
    have hM1 : M1 = r.m := w1.res.1
    have hla : l ≠ a := fun z => by rw [hM1, z, hm] at h3; cases h3
    have wl := w1.toM h4 h2
    have sl := s1.toM h1 (.lst vs)
    have hn := h5.ints
    subst hn
    refine ha' _ H0 σ G1 _ H1 (ve.step sl) wl _ fun x d2 r2 G2 M2 H2 ⟨e1, e2⟩ s2 w2 hx => ?_
    subst e1 e2
    have hm' : (upd r.m l (.lst (ns.map .int))) a = some (.ins C dx fs) := by rw [upd_ne hla.symm]; exact hm
    refine ⟨a, C, dx, fs, hx.obj_inv, w2.at hm', c, n, hl, ?_⟩
    have hM : M2 = upd r.m l (.lst (ns.map .int)) := w2.res.1
    have st : Stp G2 M2 H2 G2 (upd M2 a (.ins C dx (putF f (.ref l) fs))) (upd H2 a (.ins C dx (putF f (.ref l) fs))) := Stp.mutM ⟨_, by rw [hM]; exact hm'⟩ w2.mh _
    have s3 := (sl.trans s2).trans st
    exact q.nx e _ σ G2 _ _ (k l (by rw [← hM1]; exact h3) hla) (s.trans s3) (ve.step s3) (w2.mutM hm' _ w2.res.2)
/-- o.f[j] = e, an int -/
theorem sp_setF {P : Post MF} {E : XK} {i j : Int} {n : Nat} (h : EvD K (Rmf K) te e r (.int i)) (ho : EvD K (Rmf K) ta e r (objD l)) (hj : EvD K (Rmf K) tb e r (.int j)) (hm : r.m l = some (.lst xs)) (hn : ixN xs.length j = some n)
    (k : P.nx e ⟨upd r.m l (.lst (xs.set n (.int i))), r.f⟩) : SP K (Rmf K) E (tAsg te (gSub ta tb rSetL)) e r P := fun G0 M0 H0 σ G M H D s ve w q =>
  h H0 σ G M H ve w _ fun v d' r' G1 M1 H1 ⟨e1, e2⟩ s1 w1 hv => by
    subst e1 e2
    refine ho H0 σ G1 M1 H1 (ve.step s1) w1 _ fun x d2 r2 G2 M2 H2 ⟨e1, e2⟩ s2 w2 hx => ?_
    subst e1 e2
    refine hj H0 σ G2 M2 H2 ((ve.step s1).step s2) w2 _ fun y d3 r3 G3 M3 H3 ⟨e1, e2⟩ s3 w3 hy => ?_
    subst e1 e2
    rw [hv.int_inv]
    refine ⟨l, xs, j, n, hx.obj_inv, hy.int_inv, w3.at hm, hn, ?_⟩
    have hM : M3 = r3.m := w3.res.1
    have st : Stp G3 M3 H3 G3 (upd M3 l (.lst (xs.set n (.int i)))) (upd H3 l (.lst (xs.set n (.int i)))) := Stp.mutM ⟨_, by rw [hM]; exact hm⟩ w3.mh _
    have s4 := ((s1.trans s2).trans s3).trans st
    exact q.nx e _ σ G3 _ _ k (s.trans s4) (ve.step s4) (w3.mutM hm _ w3.res.2)
/-- o.f[j] -/
theorem ev_ixM {j : Int} (h : EvD K (Rmf K) ta e r (objD l)) (hb : EvD K (Rmf K) tb e r (.int j)) (hm : r.m l = some (.lst xs)) (ha : L2.atI xs j = some v) (hv : VF K r v d) : EvD K (Rmf K) (tOp (rIxL K) ta tb) e r d := fun B σ G M H ve w Q q =>
  h B σ G M H ve w _ fun x d' r' G1 M1 H1 ⟨e1, e2⟩ s1 w1 hx => by
    subst e1 e2
    refine hb B σ G1 M1 H1 (ve.step s1) w1 _ fun y d2 r2 G2 M2 H2 ⟨e1, e2⟩ s2 w2 hy => ?_
    subst e1 e2
    exact ⟨l, xs, j, v, hx.obj_inv, hy.int_inv, SqL.of (w2.at hm), ha, q v d _ G2 M2 H2 ⟨rfl, rfl⟩ (s1.trans s2) w2 (hv _ _ w2.res)⟩
/-- list(o.f) -/
theorem evf_listM {ns : List Int} (h : EvD K (Rmf K) ta e r (objD l)) (hm : r.m l = some (.lst (ns.map .int))) : EvF K (Rmf K) (tCB (rListS K) (tCons ta tNil)) e r (ns.map .int) := fun B σ G M H ve w Q q =>
  h B σ G M H ve w _ fun x d' r' G1 M1 H1 ⟨e1, e2⟩ s1 w1 hx => by
    subst e1 e2
    refine ⟨l, ns.map .int, by rw [hx.obj_inv], .inl (SqL.of (w1.at hm)), fun p hp => ?_⟩
    exact q p _ G1 M1 _ (s1.hid (free_back s1 hp) _) (w1.hid (w1.gn hp) (w1.mn hp) _) (free_back s1 hp) (w1.gn hp) (w1.mn hp) upd_same (RpAll.of_ints ns)
end

/-- o.f = e, where e changes the state -/
theorem sp_fldS {K : PySem.W.Frag} {r : MF} {e : SE} {ta tv : TE} {a C : Addr} {f : Str} {P : Post MF} {E : XK} {Pv : PyData → MF → Prop} (h : EvS K (Rmf K) tv e r Pv) (c : Cls K C) (n : NoAttr K C f)
    (k : ∀ d r', Pv d r' → EvD K (Rmf K) ta e r' (objD a) ∧ ∃ dx fs, r'.m a = some (.ins C dx fs) ∧ fs.length < 1000 ∧ ∀ v, (∃ G, Rp K G v d) → P.nx e ⟨upd r'.m a (.ins C dx (putF f v fs)), addF r'.f v d⟩) : SP K (Rmf K) E (sFld K ta tv f) e r P := fun G0 M0 H0 σ G M H D s ve w q =>
  h H0 σ G M H ve w _ fun v d r' G1 M1 H1 p s1 w1 hv => by
    obtain ⟨ha, dx, fs, hm, hl, k'⟩ := k d r' p
    refine ha H0 σ G1 M1 H1 (ve.step s1) w1 _ fun x d2 r2 G2 M2 H2 ⟨e1, e2⟩ s2 w2 hx => ?_
    subst e1 e2
    refine ⟨a, C, dx, fs, hx.obj_inv, w2.at hm, c, n, hl, ?_⟩
    have hM : M2 = r2.m := w2.res.1
    have st : Stp G2 M2 H2 G2 (upd M2 a (.ins C dx (putF f v fs))) (upd H2 a (.ins C dx (putF f v fs))) := Stp.mutM ⟨_, by rw [hM]; exact hm⟩ w2.mh _
    have s3 := (s1.trans s2).trans st
    refine q.nx e _ σ G2 _ _ (k' v ⟨_, hv⟩) (s.trans s3) (ve.step s3) (w2.mutM hm _ fun v' d' hf => ?_)
    rcases hf with hf | ⟨e1, e2⟩
    · exact w2.res.2 v' d' hf
    · rw [e1, e2]; exact hv.mono s2.gg
/-- [f(k) for k in range(n)], f changes the state -/
theorem evs_lcR1 {K : PySem.W.Frag} {ρ : Type} {R : ρ → Hp → Hp → Prop} [Stab R] {e : SE} {r : ρ} {te : TE} {ta : TA} {j : Nat} {n : Int} (I : Nat → List PyData → ρ → Prop) (h : EvA K R ta e r [.int n]) (h1 : -(2 ^ 62) ≤ n) (hz : n < 16777216) (h0 : I 0 [] r)
    (he : ∀ (k : Nat) ds r', (k : Int) < n → I k ds r' → ds.length = k → EvS K R te (e.set j (.dat (.int (k : Int)))) r' (fun d r'' => I (k + 1) (ds ++ [d]) r'')) :
    EvS K R (tLc (iRng1 ta) (gName j) tYes te [j]) e r (fun d r' => ∃ ds, d = .list ds ∧ I n.toNat ds r') := fun B σ G M H v w Q q =>
  it_r1 h h1 (by omega) B σ G M H v w _ fun G1 M1 H1 s1 w1 D hD => by
    have en : (n - 0).toNat = n.toNat := by rw [Int.sub_zero]
    rw [en]
    refine lc_range (lo := 0) (n := n.toNat) (te := te) (g := gName j) (tt := tYes) (vs := [j]) (σ := σ) (fun i H' => ∃ ds r', I i ds r' ∧ ds.length = i ∧ Cs K R G1 M1 H1 r' D ds H') ⟨[], r, h0, rfl, G1, M1, [], (Stp.refl _ _ _).hid hD _, w1.hid (w1.gn hD) (w1.mn hD) _, hD, w1.gn hD, w1.mn hD, upd_same, .nil⟩ ?_ ?_
    · rintro i H' hi ⟨ds, r', p, hl, G', M', vs, s', w', g0, g1, g2, g3, g4⟩
      have hk : (i : Int) < n := by omega
      rw [Int.zero_add]
      refine And.intro wipe_back ?_
      show (if true = true then te ((wipe σ [j]).set j (some (.int (i : Int)))) H' (fun y H4 => ∃ acc, H4 D = some (.lst acc) ∧ acc.length < sizeLine ∧ ∃ ds r', I (i + 1) ds r' ∧ ds.length = i + 1 ∧ Cs K R G1 M1 H1 r' D ds (upd H4 D (.lst (acc ++ [y]))))
        else ∃ ds r', I (i + 1) ds r' ∧ ds.length = i + 1 ∧ Cs K R G1 M1 H1 r' D ds H')
      rw [if_pos rfl, wipe_set]
      refine he i ds r' hk p hl B (σ.set j (some (.int (i : Int)))) G' M' H' (EnvO.setD (e := e) ((v.step s1).step s') (.int _)) w' _ fun y d r'' G3 M3 H3 p3 s3 w3 hy => ?_
      have k1 := s3.fr D _ g3 g2
      have k2 := s3.ng D (some_ne g3) g1
      have k3 := s3.nm D (some_ne g3) g2
      exact ⟨vs, k1, by rw [g4.length, hl, sizeLine_eq]; omega, ds ++ [d], r'', p3, by rw [List.length_append, hl]; rfl, G3, M3, vs ++ [y], (s'.trans s3).hid g0 _, w3.hid k2 k3 _, g0, k2, k3, upd_same, (g4.mono s3.gg).append (.one hy)⟩
    · rintro H' ⟨ds, r', p, hl, G', M', vs, s', w', g0, g1, g2, g3, g4⟩
      exact q (.ref D) (.list ds) r' (upd G' D (.lst vs)) M' H' ⟨ds, rfl, p⟩ ((s1.trans s').freeze (free_back s1 g0) g1) (w'.freeze g3 g1 g2) (.lst upd_same (g4.mono (same_new g1)))

/-! ### own lists that are lent -/
def ScD (K : PySem.W.Frag) (d : PyData) : Prop := ∀ G G' v, Rp K G v d → Rp K G' v d
theorem ScD.bl {K : PySem.W.Frag} {b : Bool} : ScD K (.bool b) := fun _ _ _ h => by rw [h.bl_inv]; exact .bl b
theorem ScD.int {K : PySem.W.Frag} {b : Int} : ScD K (.int b) := fun _ _ _ h => by rw [h.int_inv]; exact .int b
theorem ScD.non {K : PySem.W.Frag} : ScD K .none := fun _ _ _ h => by rw [h.non_inv]; exact .non
theorem ScD.obj {K : PySem.W.Frag} {a : Addr} : ScD K (objD a) := fun _ _ _ h => by rw [h.obj_inv]; exact .obj
section
variable {K : PySem.W.Frag} {ρ : Type} {R : ρ → Hp → Hp → Prop} {e : SE} {r : ρ} {te : TE} {t : TT} {d : PyData} {ds : List PyData}
/-- a pure reading: an own list is lent for it -/
theorem ev_lend [Stab R] {i : Nat} (hi : e[i]? = some (.own ds)) (h : ∀ M0, EvD K (RM M0) te (e.set i (.dat (.list ds))) () d) (sc : ScD K d) : EvD K R te e r d := fun B σ G M H v w Q q => by
  obtain ⟨l, vs, h1, h2, h3, h4, h5, v'⟩ := v.frz hi
  have w0 : Wf (RM M) G M H () := ⟨w.gh, w.mh, w.dj, rfl⟩
  refine h M B σ _ M H v' (w0.freeze h5 h3 h4) Q fun x d' _ G' M' H' ⟨e1, _⟩ s' w' hx => ?_
  subst e1
  have e2 : M' = M := w'.res
  subst e2
  have sg : Same G G' := (same_new h3).trans s'.gg
  exact q x d' r G M' H' ⟨rfl, rfl⟩ ⟨Same.refl _, s'.th, s'.fr, fun _ _ g => g, fun _ _ m => m⟩ ⟨fun b o hb => w'.gh b o (sg b o hb), w'.mh, w.dj, w.res⟩ (sc _ _ _ hx)
/-- list(x), x one's own -/
theorem evf_listO {i : Nat} (hi : e[i]? = some (.own ds)) : EvF K R (tCB (rListS K) (tCons (tVar i) tNil)) e r ds := fun B σ G M H v w Q q => by
  obtain ⟨l, vs, h1, h2, h3, h4, h5, h6⟩ := v.own i ds hi
  exact ⟨.ref l, h1, l, vs, rfl, .inl (SqL.of h5), fun p hp => q p vs G M _ ((Stp.refl _ _ _).hid hp _) (w.hid (w.gn hp) (w.mn hp) _) hp (w.gn hp) (w.mn hp) upd_same h6⟩
/-- a row that does not stand at l stands without it -/
def wo (G : Hp) (l : Addr) : Hp := fun b => if b = l then none else G b
theorem wo_ne {G : Hp} {l b : Addr} (h : b ≠ l) : wo G l b = G b := by unfold wo; rw [if_neg h]
theorem wo_same {G : Hp} {l : Addr} : wo G l l = none := by unfold wo; rw [if_pos rfl]
theorem Rp.wo_row {G : Hp} {l : Addr} {vs : List V} {v : V} {es : List Ent} (h : Rp K G v (rowD es)) (hl : G l = some (.lst vs)) (hv : v ≠ .ref l) : Rp K (wo G l) v (rowD es) := by
  obtain ⟨a, xs, rfl, h1, h2⟩ := Rp.lst_inv (ds := es.map entD) h
  refine Rp.lst (ds := es.map entD) (by rw [wo_ne (fun z => hv (by rw [z]))]; exact h1) ?_
  have all : ∀ (es : List Ent) (xs : List V), RpAll K G xs (es.map entD) → RpAll K (wo G l) xs (es.map entD) := fun es => by
    induction es with
    | nil => intro xs h; rw [RpAll.nil_inv h]; exact .nil
    | cons x r ih =>
      intro xs h
      obtain ⟨u, us, rfl, g1, g2⟩ := RpAll.cons_inv (d := entD x) (ds := r.map entD) h
      refine .cons ?_ (ih us g2)
      obtain ⟨b, ys, rfl, k1, k2⟩ := Rp.tup_inv (ds := [.int x.1, .str x.2]) g1
      refine Rp.tup (ds := [.int x.1, .str x.2]) (by rw [wo_ne (ne_of k1 hl (by intro z; cases z))]; exact k1) ?_
      obtain ⟨p, ps, rfl, m1, m2⟩ := k2.cons_inv
      obtain ⟨q, qs, rfl, m3, m4⟩ := m2.cons_inv
      rw [m1.int_inv, m3.str_inv, m4.nil_inv]
      exact .cons (.int _) (.cons (.str _) .nil)
  exact all es xs h2
/-- an own list is lent to what changes the state: what is known behind it does not lean on it -/
theorem evs_lend {r : MF} {i : Nat} {P' : PyData → MF → Prop} {P : Addr → PyData → MF → Prop} (hi : e[i]? = some (.own ds)) (h : ∀ l, EvS K (Rmf K) te (e.set i (.dat (.list ds))) ⟨r.m, addF r.f (.ref l) (.list ds)⟩ (P l))
    (k : ∀ l d r', P l d r' → ScD K d ∧ ∃ f, (∀ v d, f v d → r.f v d ∨ (r'.f v d ∧ v ≠ .ref l ∧ ∃ es, d = rowD es)) ∧ P' d ⟨r'.m, f⟩) : EvS K (Rmf K) te e r P' := fun B σ G M H v w Q q => by
  obtain ⟨l, vs, h1, h2, h3, h4, h5, v'⟩ := v.frz hi
  obtain ⟨l2, vs2, h1', _, _, _, h5', h6'⟩ := v.own i ds hi
  rw [h1] at h1'
  cases h1'
  rw [h5] at h5'
  cases h5'
  have wf := w.freeze h5 h3 h4
  have w0 : Wf (Rmf K) (upd G l (.lst vs)) M H ⟨r.m, addF r.f (.ref l) (.list ds)⟩ := ⟨wf.gh, wf.mh, wf.dj, wf.res.1, fun v d hf => by
    rcases hf with hf | ⟨e1, e2⟩
    · exact wf.res.2 v d hf
    · rw [e1, e2]; exact .lst upd_same (h6'.mono (same_new h3))⟩
  refine h l B σ _ M H v' w0 Q fun x d r' G' M' H' p s' w' hx => ?_
  obtain ⟨sc, f, hf, p'⟩ := k l d r' p
  have hl' : G' l = some (.lst vs) := s'.gg _ _ upd_same
  have sg : Same G (wo G' l) := fun b o hb => by
    have : b ≠ l := ne_of_none hb h3
    rw [wo_ne this]
    exact s'.gg _ _ (by rw [upd_ne this]; exact hb)
  have sw : Same (wo G' l) G' := fun b o hb => by
    by_cases e1 : b = l
    · rw [e1, wo_same] at hb; cases hb
    · rw [wo_ne e1] at hb; exact hb
  refine q x d _ (wo G' l) M' H' p' ⟨sg, s'.th, s'.fr, fun b hb g => ?_, s'.nm⟩ ⟨sw.trans w'.gh, w'.mh, fun b hb => ?_, w'.res.1, fun v d hf' => ?_⟩ (sc _ _ _ hx)
  · by_cases e1 : b = l
    · rw [e1, wo_same]
    · rw [wo_ne e1]; exact s'.ng b hb (by rw [upd_ne e1]; exact g)
  · by_cases e1 : b = l
    · rw [e1, wo_same]
    · rw [wo_ne e1]; exact w'.dj b hb
  · rcases hf v d hf' with g | ⟨g1, g2, es, rfl⟩
    · exact (w.res.2 v d g).mono sg
    · exact (w'.res.2 v _ g1).wo_row hl' g2
end

/-! ### calls of defs that change the state, or raise -/
/-- a new list comes of it -/
def spN (K : PySem.W.Frag) {α : Type} (args : α → List PyData) (pre : α → Prop) (res : α → List PyData) : Sp := fun vs H Q _ => ∃ G M a, Pre G M H ∧ RpAll K G vs (args a) ∧ pre a ∧
  ∀ l ws G' H', Al G M H G' H' → H l = none → G' l = none → H' l = some (.lst ws) → RpAll K G' ws (res a) → Q (.ref l) H'
theorem evf_call {K : PySem.W.Frag} {ρ : Type} {R : ρ → Hp → Hp → Prop} [Stab R] {e : SE} {r : ρ} {α : Type} {args : α → List PyData} {pre : α → Prop} {res : α → List PyData} {E : XK} {ta : TA} (a : α) (h : EvA K R ta e r (args a)) (hp : pre a) : EvF K R (tCall (spN K args pre res) [] E ta) e r (res a) := fun B σ G M H v w Q q =>
  h B σ G M H v w _ fun vs G' M' H' s w' hv => ⟨G', M', a, w'.pre, by rw [List.append_nil]; exact hv, hp, fun l ws G2 H2 al h1 h2 h3 h4 => q l ws G2 M' H2 (s.trans al.st) (w'.al al) (free_back s h1) h2 (w'.mn h1) h3 h4⟩
def spX (K : PySem.W.Frag) {ρ : Type} (R : ρ → Hp → Hp → Prop) {α : Type} (args : α → List PyData) (pre : α → ρ → Prop) (post : α → ρ → PyData → ρ → Prop) (exc : α → ρ → Value → ρ → Prop) : Sp := fun vs H Q E =>
  ∃ G M a r, Wf R G M H r ∧ RpAll K G vs (args a) ∧ pre a r ∧ (∀ v d r' G' M' H', post a r d r' → Stp G M H G' M' H' → Wf R G' M' H' r' → Rp K G' v d → Q v H') ∧
    (∀ c r' G' M' H', exc a r c r' → Stp G M H G' M' H' → Wf R G' M' H' r' → E c none H')
/-- no change, but it may raise -/
def spPX (K : PySem.W.Frag) {α : Type} (args : α → List PyData) (pre : α → Prop) (res : α → PyData → Prop) (exc : α → Value → Prop) : Sp := fun vs H Q E =>
  ∃ G M a, Pre G M H ∧ RpAll K G vs (args a) ∧ pre a ∧ (∀ v d G' H', res a d → Al G M H G' H' → Rp K G' v d → Q v H') ∧ (∀ c G' H', exc a c → Al G M H G' H' → E c none H')
section
variable {K : PySem.W.Frag} {ρ : Type} {R : ρ → Hp → Hp → Prop} {e : SE} {r : ρ} {te : TE} {t : TA} {d : PyData} {ds : List PyData} {α : Type} {args : α → List PyData} {E : XK}
/-- as EvS, where te may raise -/
def EvX (K : PySem.W.Frag) {ρ : Type} (R : ρ → Hp → Hp → Prop) (E : XK) (te : TE) (e : SE) (r : ρ) (P : PyData → ρ → Prop) (PE : Value → ρ → Prop) : Prop := ∀ (B : Hp) (σ : St) (G M H : Hp), EnvO K B G M H σ e → Wf R G M H r → ∀ Q : VK,
  (∀ v d r' G' M' H', P d r' → Stp G M H G' M' H' → Wf R G' M' H' r' → Rp K G' v d → Q v H') → (∀ c r' G' M' H', PE c r' → Stp G M H G' M' H' → Wf R G' M' H' r' → E c none H') → te σ H Q
theorem EvX.s {P : PyData → ρ → Prop} {PE : Value → ρ → Prop} (h : EvX K R E te e r P PE) (n : ∀ c r', ¬ PE c r') : EvS K R te e r P := fun B σ G M H v w Q q => h B σ G M H v w Q q fun c r' _ _ _ p => (n c r' p).elim
theorem evx_call {pre : α → ρ → Prop} {post : α → ρ → PyData → ρ → Prop} {exc : α → ρ → Value → ρ → Prop} (a : α) (h : EvA K R t e r (args a)) (hp : pre a r) : EvX K R E (tCall (spX K R args pre post exc) [] E t) e r (post a r) (exc a r) := fun B σ G M H v w Q q qe =>
  h B σ G M H v w _ fun vs G' M' H' s w' hv => ⟨G', M', a, r, w', by rw [List.append_nil]; exact hv, hp, fun x d r' G2 M2 H2 p s2 w2 hx => q x d r' G2 M2 H2 p (s.trans s2) w2 hx, fun c r' G2 M2 H2 p s2 w2 => qe c r' G2 M2 H2 p (s.trans s2) w2⟩
theorem evx_callP [Stab R] {pre : α → Prop} {res : α → PyData → Prop} {exc : α → Value → Prop} (a : α) (h : EvA K R t e r (args a)) (hp : pre a) : EvX K R E (tCall (spPX K args pre res exc) [] E t) e r (fun d r' => res a d ∧ r' = r) (fun c r' => exc a c ∧ r' = r) := fun B σ G M H v w Q q qe =>
  h B σ G M H v w _ fun vs G' M' H' s w' hv => ⟨G', M', a, w'.pre, by rw [List.append_nil]; exact hv, hp, fun x d G2 H2 p a hx => q x d r G2 M' H2 ⟨p, rfl⟩ (s.trans a.st) (w'.al a) hx, fun c G2 H2 p a => qe c r G2 M' H2 ⟨p, rfl⟩ (s.trans a.st) (w'.al a)⟩
theorem evx_meth {pre : α → ρ → Prop} {post : α → ρ → PyData → ρ → Prop} {exc : α → ρ → Value → ρ → Prop} {p C : Addr} {m : Str} (a : α) (ho : EvD K R te e r (objD p)) (hi : ∀ G M, R r G M → ∃ dx fs, M p = some (.ins C dx fs) ∧ fs.lookup m = none)
    (h : EvA K R t e r ds) (hs : args a = objD p :: ds) (hp : pre a r) : EvX K R E (tMeth C m (spX K R args pre post exc) [] E te t) e r (post a r) (exc a r) := fun B σ G M H v w Q q qe =>
  ho B σ G M H v w _ fun x d' r' G1 M1 H1 ⟨e1, e2⟩ s1 w1 hx => by
    subst e1 e2
    obtain ⟨dx, fs, h1, h2⟩ := hi G1 M1 w1.res
    refine ⟨p, dx, fs, hx.obj_inv, w1.mh _ _ h1, h2, h B σ G1 M1 H1 (v.step s1) w1 _ fun vs G2 M2 H2 s2 w2 hv => ?_⟩
    exact ⟨G2, M2, a, _, w2, by rw [hs, List.append_nil]; exact .cons (hx.mono s2.gg) hv, hp, fun x d r' G3 M3 H3 p s3 w3 hx => q x d r' G3 M3 H3 p ((s1.trans s2).trans s3) w3 hx, fun c r' G3 M3 H3 p s3 w3 => qe c r' G3 M3 H3 p ((s1.trans s2).trans s3) w3⟩
theorem evts_notN {P : PyData → ρ → Prop} {PB : Bool → ρ → Prop} (h : EvS K R te e r P) (k : ∀ d r', P d r' → PB (!isNoneD d) r') : EvTS K R (tB (tNotN te)) e r PB := fun B σ G M H v w Q q =>
  h B σ G M H v w _ fun x d r' G' M' H' p s' w' hx => by
    show ∃ c, V.bl (!decide (x = V.non)) = .bl c ∧ Q c H'
    rw [isNone_of hx]
    exact ⟨_, rfl, q _ r' G' M' H' (k d r' p) s' w'⟩
theorem evts_B {P : PyData → ρ → Prop} {PB : Bool → ρ → Prop} (h : EvS K R te e r P) (k : ∀ d r', P d r' → ∃ b, d = .bool b ∧ PB b r') : EvTS K R (tB te) e r PB := fun B σ G M H v w Q q =>
  h B σ G M H v w _ fun x d r' G' M' H' p s' w' hx => by
    obtain ⟨b, e1, p2⟩ := k d r' p
    subst e1
    exact ⟨b, hx.bl_inv, q b r' G' M' H' p2 s' w'⟩
theorem evts_test {P : PyData → ρ → Prop} {PB : Bool → ρ → Prop} (h : EvS K R te e r P) (k : ∀ d r', P d r' → ∃ b, d = .bool b ∧ PB b r') : EvTS K R (tTest te) e r PB := fun B σ G M H v w Q q =>
  h B σ G M H v w _ fun x d r' G' M' H' p s' w' hx => by
    obtain ⟨b, e1, p2⟩ := k d r' p
    subst e1
    exact ⟨b, hx.bl_inv, q b r' G' M' H' p2 s' w'⟩
theorem sp_asgX {i : Nat} {tz : TS} {P : Post ρ} {Pe : PyData → ρ → Prop} {PE : Value → ρ → Prop} (h : EvX K R E te e r Pe PE) (k : ∀ d r', Pe d r' → SP K R E tz (e.set i (.dat d)) r' P) (kx : ∀ c r', PE c r' → P.ex c r') : SP K R E (tSeq (tAsg te (gName i)) tz) e r P := fun G0 M0 H0 σ G M H D s v w q =>
  h H0 σ G M H v w _ (fun x d r' G' M' H' p s' w' hx => k d r' p G0 M0 H0 _ G' M' H' D (s.trans s') ((v.step s').setD hx) w' q) fun c r' G' M' H' p s' w' => q.ex c r' G' M' H' (kx c r' p) (s.trans s') w'
theorem sp_retX {P : Post ρ} {Pe : PyData → ρ → Prop} {PE : Value → ρ → Prop} (h : EvX K R E te e r Pe PE) (k : ∀ d r', Pe d r' → P.rt d r') (kx : ∀ c r', PE c r' → P.ex c r') : SP K R E (tRet te) e r P := fun G0 M0 H0 σ G M H D s v w q =>
  h H0 σ G M H v w _ (fun x d r' G' M' H' p s' w' hx => q.rt d r' x G' M' H' (k d r' p) (s.trans s') w' hx) fun c r' G' M' H' p s' w' => q.ex c r' G' M' H' (kx c r' p) (s.trans s') w'
theorem sp_dropX {P : Post ρ} {Pe : PyData → ρ → Prop} {PE : Value → ρ → Prop} (h : EvX K R E te e r Pe PE) (k : ∀ d r', Pe d r' → P.nx e r') (kx : ∀ c r', PE c r' → P.ex c r') : SP K R E (tDrop te) e r P := fun G0 M0 H0 σ G M H D s v w q =>
  h H0 σ G M H v w _ (fun x d r' G' M' H' p s' w' hx => q.nx e r' σ G' M' H' (k d r' p) (s.trans s') (v.step s') w') fun c r' G' M' H' p s' w' => q.ex c r' G' M' H' (kx c r' p) (s.trans s') w'
/-- an attribute of what may raise -/
theorem evx_fld {K : PySem.W.Frag} {r : MF} {Pe : PyData → MF → Prop} {PE : Value → MF → Prop} {C : Addr} {f : Str} {P : PyData → MF → Prop} (h : EvX K (Rmf K) E te e r Pe PE) (c : Cls K C) (n : NoAttr K C f)
    (k : ∀ d r', Pe d r' → ∃ a dx fs v d2, d = objD a ∧ r'.m a = some (.ins C dx fs) ∧ fs.lookup f = some v ∧ VF K r' v d2 ∧ P d2 r') : EvX K (Rmf K) E (tFld K te f) e r P PE := fun B σ G M H ve w Q q qe =>
  h B σ G M H ve w _ (fun x d r' G' M' H' p s w' hx => by
    obtain ⟨a, dx, fs, v, d2, rfl, h1, h2, h3, h4⟩ := k d r' p
    exact ⟨a, C, dx, fs, v, hx.obj_inv, w'.at h1, c, n, h2, q v d2 r' G' M' H' h4 s w' (h3 _ _ w'.res)⟩) qe
/-- list(e), e may raise -/
theorem evx_listD [Stab R] {Pe P : PyData → ρ → Prop} {PE : Value → ρ → Prop} (h : EvX K R E te e r Pe PE) (k : ∀ d r', Pe d r' → ∃ ds, d = .list ds ∧ P (.list ds) r') : EvX K R E (tCB (rListS K) (tCons te tNil)) e r P PE := fun B σ G M H v w Q q qe =>
  h B σ G M H v w _ (fun x d r' G' M' H' p s w' hx => by
    obtain ⟨ds, rfl, p'⟩ := k d r' p
    obtain ⟨a, xs, rfl, h1, h2⟩ := hx.lst_inv
    refine ⟨a, xs, rfl, .inl (SqL.of (w'.gh _ _ h1)), fun l hl => ?_⟩
    exact q (.ref l) (.list ds) r' (upd G' l (.lst xs)) M' _ p' (s.trans (Stp.alloc (w'.gn hl) hl _)) (w'.alloc hl _) (.lst upd_same (h2.mono (same_new (w'.gn hl))))) qe
/-- a new object -/
theorem evx_make {K : PySem.W.Frag} {r : MF} {args : α → List PyData} {pre : α → MF → Prop} {post : α → MF → PyData → MF → Prop} {exc : α → MF → Value → MF → Prop} {C : Addr} {P : PyData → MF → Prop} {PE : Value → MF → Prop} (h : EvA K (Rmf K) t e r ds)
    (k : ∀ x dx, r.m x = none → ∃ a, args a = objD x :: ds ∧ pre a ⟨upd r.m x (.ins C dx []), r.f⟩ ∧ (∀ d r', post a ⟨upd r.m x (.ins C dx []), r.f⟩ d r' → d = .none ∧ P (objD x) r') ∧ (∀ c r', exc a ⟨upd r.m x (.ins C dx []), r.f⟩ c r' → PE c r')) :
    EvX K (Rmf K) E (tMake C (spX K (Rmf K) args pre post exc) [] E t) e r P PE := fun B σ G M H v w Q q qe =>
  h B σ G M H v w _ fun vs G1 M1 H1 s1 w1 hv x dx nx ndx ne => by
    have hM : M1 = r.m := w1.res.1
    obtain ⟨a, ea, hp, k1, k2⟩ := k x dx (by rw [← hM]; exact w1.mn nx)
    have wh : Wf (Rmf K) G1 M1 (upd H1 dx (.own x)) r := w1.hid (w1.gn ndx) (w1.mn ndx) _
    have sh : Stp G1 M1 H1 G1 M1 (upd H1 dx (.own x)) := (Stp.refl _ _ _).hid ndx _
    have nx' : (upd H1 dx (.own x)) x = none := by rw [upd_ne ne.symm]; exact nx
    have w2 := wh.newM nx' (.ins C dx [])
    have s2 : Stp G M H G1 _ _ := (s1.trans sh).trans (Stp.newM (G := G1) (M := M1) nx' (.ins C dx []))
    refine ⟨G1, _, a, _, w2, by rw [ea, List.append_nil]; exact .cons .obj hv, hp, fun u d r' G' M' H' p s' w' hu => ?_, fun c r' G' M' H' p s' w' => qe c r' G' M' H' (k2 c r' p) (s2.trans s') w'⟩
    obtain ⟨e1, e2⟩ := k1 d r' p
    subst e1
    exact ⟨hu.non_inv, q (.ref x) (objD x) r' G' M' H' e2 (s2.trans s') w' .obj⟩
end

/-! ### bodies that return a new list -/
/-- each return gives a new list, as P says -/
def SPN (K : PySem.W.Frag) {ρ : Type} (R : ρ → Hp → Hp → Prop) (ts : TS) (e : SE) (r : ρ) (P : List PyData → Prop) : Prop := ∀ (G0 M0 H0 : Hp) (σ : St) (G M H : Hp) (D : Ends), Stp G0 M0 H0 G M H → EnvO K H0 G M H σ e → Wf R G M H r →
  (∀ l ws ds G' M' H', P ds → Stp G0 M0 H0 G' M' H' → Wf R G' M' H' r → H0 l = none → G' l = none → H' l = some (.lst ws) → RpAll K G' ws ds → D.rt (.ref l) H') → ts D σ H
section
variable {K : PySem.W.Frag} {ρ : Type} {R : ρ → Hp → Hp → Prop} {e : SE} {r : ρ} {te : TE} {t : TT} {tu tw tz : TS} {d : PyData} {ds : List PyData} {P : List PyData → Prop}
theorem spn_ret (h : EvF K R te e r ds) (k : P ds) : SPN K R (tRet te) e r P := fun G0 M0 H0 σ G M H D s v w q =>
  h H0 σ G M H v w _ fun l vs G' M' H' s' w' h1 h2 h3 h4 h5 => q l vs ds G' M' H' k (s.trans s') w' (born s h1) h2 h4 h5
theorem spn_retO {i : Nat} (hi : e[i]? = some (.own ds)) (k : P ds) : SPN K R (tRet (tVar i)) e r P := fun G0 M0 H0 σ G M H D s v w q => by
  obtain ⟨l, vs, h1, h2, h3, h4, h5, h6⟩ := v.own i ds hi
  exact ⟨.ref l, h1, q l vs ds G M H k s w h2 h3 h5 h6⟩
theorem spn_if {b : Bool} (h : EvT K R t e r b) (k1 : b = true → SPN K R tu e r P) (k2 : b = false → SPN K R tw e r P) : SPN K R (tIfS t tu tw) e r P := fun G0 M0 H0 σ G M H D s v w q =>
  h H0 σ G M H v w _ fun b' r' G' M' H' ⟨e1, e2⟩ s' w' => by
    subst e1 e2
    cases b' with
    | true =>
      show tu D σ H'
      exact k1 rfl G0 M0 H0 σ G' M' H' D (s.trans s') (v.step s') w' q
    | false =>
      show tw D σ H'
      exact k2 rfl G0 M0 H0 σ G' M' H' D (s.trans s') (v.step s') w' q
/-- an if that returns, then the rest -/
theorem spn_when {b : Bool} (h : EvT K R t e r b) (k1 : b = true → SPN K R tu e r P) (k2 : b = false → SPN K R tz e r P) : SPN K R (tSeq (tIfS t tu tNext) tz) e r P := fun G0 M0 H0 σ G M H D s v w q =>
  h H0 σ G M H v w _ fun b' r' G' M' H' ⟨e1, e2⟩ s' w' => by
    subst e1 e2
    cases b' with
    | true =>
      show tu { D with nx := tz D } σ H'
      exact k1 rfl G0 M0 H0 σ G' M' H' _ (s.trans s') (v.step s') w' q
    | false =>
      show tz D σ H'
      exact k2 rfl G0 M0 H0 σ G' M' H' D (s.trans s') (v.step s') w' q
/-- through a part that may return too -/
theorem spn_seq {E : XK} {N : SE → ρ → Prop} (h : SP K R E tu e r ⟨N, fun _ _ => False, fun _ _ => False, fun _ _ => False, fun _ _ => False, fun _ _ => False⟩) (k : ∀ e r', N e r' → r' = r ∧ SPN K R tz e r P) : SPN K R (tSeq tu tz) e r P := fun G0 M0 H0 σ G M H D s v w q =>
  h G0 M0 H0 σ G M H _ s v w ⟨fun e' r' σ' G' M' H' n s' v' w' => by
    obtain ⟨e1, k1⟩ := k e' r' n
    subst e1
    exact k1 G0 M0 H0 σ' G' M' H' D s' v' w' q, fun _ _ _ _ _ _ z => z.elim, fun _ _ _ _ _ _ z => z.elim, fun _ _ _ _ _ _ z => z.elim, fun _ _ _ _ _ z => z.elim, fun _ _ _ _ _ _ _ z => z.elim⟩
end

/-! ### defs that change the state, or raise -/
section
variable {P : Program} {w : World} {K : PySem.W.Frag} {mg : Str → Option Value} {base : Heap}
theorem passX {X : Cx} {E : XK} (tk : Takes X (fun cls d _ H => E cls d H)) : Passes (L2.CX X.prog X.w) X E := passes_call tk fun _ _ _ _ h => h
theorem ok_obj {x qual : Str} {st : Stmt} {f : Addr} {fd : FuncData} {N ps : List Str} {k : Nat} {ρ : Type} {R : ρ → Hp → Hp → Prop} {α : Type} {args : α → List PyData} {pre : α → ρ → Prop} {post : α → ρ → PyData → ρ → Prop} {exc : α → ρ → Value → ρ → Prop}
    (F : Fun K x qual st f fd) (S : FnScope N ps (defScope st)) (len : ∀ a, (args a).length = ps.length)
    (body : ∀ (cdv : Value) (A : Around) (outer : List Env) (s : Shared) (H : Hp) (E : XK), Room k (A.deeper (PyProof.Rows.envOfC qual (defScope st) s.heap.objs.size f cdv)) →
      ∃ t, PSs (cxOf (L2.CX P w) P w K mg base N qual (defScope st) f cdv A outer s H E) (defBody st) t ∧ ∀ a r, pre a r → SP K R E t (startE (args a) (N.length - ps.length)) r ⟨fun _ r' => post a r .none r', fun d r' => post a r d r', fun _ _ => False, fun _ _ => False, fun c r' => exc a r c r', fun _ _ => False⟩) :
    FnOk P w K mg base (L2.CX P w) (k + 1) f fd ps (spX K R args pre post exc) := by
  refine F.okX S (fun vs H Q E h => ?_) (fun cdv A outer s H vs Q E hr h => ?_)
  · obtain ⟨G, M, a, r, p, hv, hp, _⟩ := h
    rw [hv.length]
    exact len a
  · obtain ⟨t, ht, hb⟩ := body cdv A outer s H E hr
    refine ⟨t, ht, ?_⟩
    obtain ⟨G, M, a, r, wf, hv, hp, q, qe⟩ := h
    have hs : L2.start N vs = vs.map some ++ List.replicate (N.length - ps.length) none := by unfold L2.start; rw [hv.length, len a]
    rw [hs]
    exact hb a r hp G M H _ G M H _ (Stp.refl _ _ _) (env_start hv) wf ⟨fun e r' σ G' M' H' hp' s' v' w' => q .non .none r' G' M' H' hp' s' w' .non, fun d r' v G' M' H' hp' s' w' hx => q v d r' G' M' H' hp' s' w' hx, fun _ _ _ _ _ _ z => z.elim, fun _ _ _ _ _ _ z => z.elim, fun c r' G' M' H' hp' s' w' => qe c r' G' M' H' hp' s' w', fun _ _ _ _ _ _ _ z => z.elim⟩
/-- a def whose own objects are forgotten at its end -/
theorem ok_pureR {x qual : Str} {st : Stmt} {f : Addr} {fd : FuncData} {N ps : List Str} {k : Nat} {ρ : Type} {R : ρ → Hp → Hp → Prop} {α : Type} {args : α → List PyData} {pre : α → Prop} {res : α → PyData → Prop} (F : Fun K x qual st f fd) (S : FnScope N ps (defScope st))
    (len : ∀ a, (args a).length = ps.length) (r0 : Hp → ρ) (h0 : ∀ G M, R (r0 M) G M)
    (body : ∀ (cdv : Value) (A : Around) (outer : List Env) (s : Shared) (H : Hp) (E : XK), Room k (A.deeper (PyProof.Rows.envOfC qual (defScope st) s.heap.objs.size f cdv)) →
      ∃ t, PSs (cxOf CX0 P w K mg base N qual (defScope st) f cdv A outer s H E).nox (defBody st) t ∧ ∀ (M0 : Hp) a, pre a → SP K R E0 t (startE (args a) (N.length - ps.length)) (r0 M0) ⟨fun _ r' => res a .none ∧ ∀ G M, R r' G M → Same M0 M, fun d r' => res a d ∧ ∀ G M, R r' G M → Same M0 M, fun _ _ => False, fun _ _ => False, fun _ _ => False, fun _ _ => False⟩) :
    FnOk P w K mg base CX0 (k + 1) f fd ps (spD K args pre res) := by
  refine F.ok S (fun vs H Q E h => ?_) (fun cdv A outer s H vs Q E hr h => ?_)
  · obtain ⟨G, M, a, p, hv, hp, _⟩ := h
    rw [hv.length]
    exact len a
  · obtain ⟨t, ht, hb⟩ := body cdv A outer s H E hr
    refine ⟨t, ht, ?_⟩
    obtain ⟨G, M, a, p, hv, hp, q⟩ := h
    have hs : L2.start N vs = vs.map some ++ List.replicate (N.length - ps.length) none := by unfold L2.start; rw [hv.length, len a]
    rw [hs]
    have fin : ∀ {G' M' H' : Hp}, Stp G M H G' M' H' → Same G' H' → Same M' H' → (∀ b, M' b ≠ none → G' b = none) → Same M M' → Al G M H G' H' := fun s1 g1 m1 d1 sm =>
      ⟨⟨s1.gg, s1.th, s1.fr, s1.ng, fun _ _ m => m⟩, g1, sm.trans m1, fun b hb => d1 b (by
        cases z : M b with
        | none => exact absurd z hb
        | some o => exact some_ne (sm b o z))⟩
    refine hb M a hp G M H _ G M H _ (Stp.refl _ _ _) (env_start hv) ⟨p.1, p.2.1, p.2.2, h0 G M⟩ ⟨?_, ?_, fun _ _ _ _ _ _ z => z.elim, fun _ _ _ _ _ _ z => z.elim, fun _ _ _ _ _ z => z.elim, fun _ _ _ _ _ _ _ z => z.elim⟩
    · intro e r σ G' M' H' hp' s' v' w'
      exact q .non .none G' H' hp'.1 (fin s' w'.gh w'.mh w'.dj (hp'.2 _ _ w'.res)) .non
    · intro d r v G' M' H' hp' s' w' hx
      exact q v d G' H' hp'.1 (fin s' w'.gh w'.mh w'.dj (hp'.2 _ _ w'.res)) hx
/-- a pure def that returns a new list -/
theorem ok_new {x qual : Str} {st : Stmt} {f : Addr} {fd : FuncData} {N ps : List Str} {k : Nat} {α : Type} {args : α → List PyData} {pre : α → Prop} {res : α → List PyData} (F : Fun K x qual st f fd) (S : FnScope N ps (defScope st))
    (len : ∀ a, (args a).length = ps.length)
    (body : ∀ (cdv : Value) (A : Around) (outer : List Env) (s : Shared) (H : Hp) (E : XK), Room k (A.deeper (PyProof.Rows.envOfC qual (defScope st) s.heap.objs.size f cdv)) →
      ∃ t, PSs (cxOf CX0 P w K mg base N qual (defScope st) f cdv A outer s H E).nox (defBody st) t ∧ ∀ (M0 : Hp) a, pre a → SPN K (RM M0) t (startE (args a) (N.length - ps.length)) () (fun ds => ds = res a)) :
    FnOk P w K mg base CX0 (k + 1) f fd ps (spN K args pre res) := by
  refine F.ok S (fun vs H Q E h => ?_) (fun cdv A outer s H vs Q E hr h => ?_)
  · obtain ⟨G, M, a, p, hv, hp, _⟩ := h
    rw [hv.length]
    exact len a
  · obtain ⟨t, ht, hb⟩ := body cdv A outer s H E hr
    refine ⟨t, ht, ?_⟩
    obtain ⟨G, M, a, p, hv, hp, q⟩ := h
    have hs : L2.start N vs = vs.map some ++ List.replicate (N.length - ps.length) none := by unfold L2.start; rw [hv.length, len a]
    rw [hs]
    refine hb M a hp G M H _ G M H _ (Stp.refl _ _ _) (env_start hv) ⟨p.1, p.2.1, p.2.2, rfl⟩ fun l ws ds G' M' H' e1 s' w' h1 h2 h3 h4 => ?_
    have e2 : M' = M := w'.res
    subst e1 e2
    exact q l ws G' H' ⟨s', w'.gh, w'.mh, w'.dj⟩ h1 h2 h3 h4
theorem ok_pureX {x qual : Str} {st : Stmt} {f : Addr} {fd : FuncData} {N ps : List Str} {k : Nat} {α : Type} {args : α → List PyData} {pre : α → Prop} {res : α → PyData → Prop} {exc : α → Value → Prop}
    (F : Fun K x qual st f fd) (S : FnScope N ps (defScope st)) (len : ∀ a, (args a).length = ps.length)
    (body : ∀ (cdv : Value) (A : Around) (outer : List Env) (s : Shared) (H : Hp) (E : XK), Room k (A.deeper (PyProof.Rows.envOfC qual (defScope st) s.heap.objs.size f cdv)) →
      ∃ t, PSs (cxOf (L2.CX P w) P w K mg base N qual (defScope st) f cdv A outer s H E) (defBody st) t ∧ ∀ (M0 : Hp) a, pre a → SP K (RM M0) E t (startE (args a) (N.length - ps.length)) () ⟨fun _ _ => res a .none, fun d _ => res a d, fun _ _ => False, fun _ _ => False, fun c _ => exc a c, fun _ _ => False⟩) :
    FnOk P w K mg base (L2.CX P w) (k + 1) f fd ps (spPX K args pre res exc) := by
  refine F.okX S (fun vs H Q E h => ?_) (fun cdv A outer s H vs Q E hr h => ?_)
  · obtain ⟨G, M, a, p, hv, hp, _⟩ := h
    rw [hv.length]
    exact len a
  · obtain ⟨t, ht, hb⟩ := body cdv A outer s H E hr
    refine ⟨t, ht, ?_⟩
    obtain ⟨G, M, a, p, hv, hp, q, qe⟩ := h
    have hs : L2.start N vs = vs.map some ++ List.replicate (N.length - ps.length) none := by unfold L2.start; rw [hv.length, len a]
    rw [hs]
    refine hb M a hp G M H _ G M H _ (Stp.refl _ _ _) (env_start hv) ⟨p.1, p.2.1, p.2.2, rfl⟩ ⟨?_, ?_, fun _ _ _ _ _ _ z => z.elim, fun _ _ _ _ _ _ z => z.elim, ?_, fun _ _ _ _ _ _ _ z => z.elim⟩
    · intro e r σ G' M' H' hp' s' v' w'
      have e1 : M' = M := w'.res
      subst e1
      exact q .non .none G' H' hp' ⟨s', w'.gh, w'.mh, w'.dj⟩ .non
    · intro d r v G' M' H' hp' s' w' hx
      have e1 : M' = M := w'.res
      subst e1
      exact q v d G' H' hp' ⟨s', w'.gh, w'.mh, w'.dj⟩ hx
    · intro c r G' M' H' hp' s' w'
      have e1 : M' = M := w'.res
      subst e1
      exact qe c G' H' hp' ⟨s', w'.gh, w'.mh, w'.dj⟩
/-- raise C(..) -/
theorem sp_raise {ρ : Type} {R : ρ → Hp → Hp → Prop} {r : ρ} {e : SE} {Po : Post ρ} {E : XK} {C : Value} (k : Po.ex C r) : SP K R E (fun _ σ H => (fun σ H (Q : XK) => Q C none H) σ H fun cls d H' => (fun cls d (_ : St) H => E cls d H) cls d σ H') e r Po := fun G0 M0 H0 σ G M H D s v w q => q.ex C r G M H k s w
structure InitAt (K : PySem.W.Frag) (C : Addr) (qual : Str) (st : Stmt) (ps : List Str) where
  a : Addr
  fd : FuncData
  F : Fun K "__init__" qual st a fd
  b : Binds K fd ps []
  m : Mk K C a
end
end Fw

/-! A keeper: its fields, what holds of it. -/
namespace Fw
open PySem L2
structure KS where
  term : Int := 0
  row : List Ent := []
  leads : Bool := false
  settled : Int := 0
  ahead : List Int := []
  held : List Int := []
structure KC where
  dx : Addr
  rw : V
  al : Addr
  hl : Addr
def kf (t : Int) (rw : V) (ld : Bool) (s : Int) (al hl : Addr) : List (Str × V) := [("term", .int t), ("row", rw), ("leads", .bl ld), ("settled", .int s), ("ahead", .ref al), ("held", .ref hl)]
section
theorem ne_tr : (("term" : Str) == "row") = false := by decide +kernel
theorem n_rt : ¬ ("row" : Str) = "term" := by decide +kernel
theorem n_lt : ¬ ("leads" : Str) = "term" := by decide +kernel
theorem n_lr : ¬ ("leads" : Str) = "row" := by decide +kernel
theorem n_st : ¬ ("settled" : Str) = "term" := by decide +kernel
theorem n_sr : ¬ ("settled" : Str) = "row" := by decide +kernel
theorem n_sl : ¬ ("settled" : Str) = "leads" := by decide +kernel
theorem n_at : ¬ ("ahead" : Str) = "term" := by decide +kernel
theorem n_ar : ¬ ("ahead" : Str) = "row" := by decide +kernel
theorem n_al : ¬ ("ahead" : Str) = "leads" := by decide +kernel
theorem n_as : ¬ ("ahead" : Str) = "settled" := by decide +kernel
theorem n_ht : ¬ ("held" : Str) = "term" := by decide +kernel
theorem n_hr : ¬ ("held" : Str) = "row" := by decide +kernel
theorem n_hl : ¬ ("held" : Str) = "leads" := by decide +kernel
theorem n_hs : ¬ ("held" : Str) = "settled" := by decide +kernel
theorem n_ha : ¬ ("held" : Str) = "ahead" := by decide +kernel
variable {t : Int} {rw_ : V} {ld : Bool} {s : Int} {al hl : Addr}
theorem look_cons (f g : Str) (v : V) (r : List (Str × V)) : List.lookup f ((g, v) :: r) = if f = g then some v else List.lookup f r := by
  by_cases h : f = g
  · subst h; rw [if_pos rfl]; simp [List.lookup]
  · rw [if_neg h]
    have : (f == g) = false := by simpa using h
    simp [List.lookup, this]
theorem kf_term : (kf t rw_ ld s al hl).lookup ("term" : Str) = some (.int t) := by unfold kf; rw [look_cons, if_pos rfl]
theorem kf_row : (kf t rw_ ld s al hl).lookup ("row" : Str) = some rw_ := by unfold kf; rw [look_cons, if_neg n_rt, look_cons, if_pos rfl]
theorem kf_leads : (kf t rw_ ld s al hl).lookup ("leads" : Str) = some (.bl ld) := by unfold kf; rw [look_cons, if_neg n_lt, look_cons, if_neg n_lr, look_cons, if_pos rfl]
theorem kf_settled : (kf t rw_ ld s al hl).lookup ("settled" : Str) = some (.int s) := by unfold kf; rw [look_cons, if_neg n_st, look_cons, if_neg n_sr, look_cons, if_neg n_sl, look_cons, if_pos rfl]
theorem kf_ahead : (kf t rw_ ld s al hl).lookup ("ahead" : Str) = some (.ref al) := by unfold kf; rw [look_cons, if_neg n_at, look_cons, if_neg n_ar, look_cons, if_neg n_al, look_cons, if_neg n_as, look_cons, if_pos rfl]
theorem kf_held : (kf t rw_ ld s al hl).lookup ("held" : Str) = some (.ref hl) := by unfold kf; rw [look_cons, if_neg n_ht, look_cons, if_neg n_hr, look_cons, if_neg n_hl, look_cons, if_neg n_hs, look_cons, if_neg n_ha, look_cons, if_pos rfl]
theorem put_cons (f g : Str) (v w : V) (r : List (Str × V)) : putF f v ((g, w) :: r) = if g = f then (g, v) :: r else (g, w) :: putF f v r := by
  show (if g = f then (g, v) :: r else (g, w) :: putF f v r) = _
  rfl
theorem kf_pterm (x : Int) : putF "term" (.int x) (kf t rw_ ld s al hl) = kf x rw_ ld s al hl := by unfold kf; rw [put_cons, if_pos rfl]
theorem kf_prow (x : V) : putF "row" x (kf t rw_ ld s al hl) = kf t x ld s al hl := by unfold kf; rw [put_cons, if_neg (Ne.symm n_rt), put_cons, if_pos rfl]
theorem kf_pleads (x : Bool) : putF "leads" (.bl x) (kf t rw_ ld s al hl) = kf t rw_ x s al hl := by unfold kf; rw [put_cons, if_neg (Ne.symm n_lt), put_cons, if_neg (Ne.symm n_lr), put_cons, if_pos rfl]
theorem kf_psettled (x : Int) : putF "settled" (.int x) (kf t rw_ ld s al hl) = kf t rw_ ld x al hl := by unfold kf; rw [put_cons, if_neg (Ne.symm n_st), put_cons, if_neg (Ne.symm n_sr), put_cons, if_neg (Ne.symm n_sl), put_cons, if_pos rfl]
theorem kf_pahead (x : Addr) : putF "ahead" (.ref x) (kf t rw_ ld s al hl) = kf t rw_ ld s x hl := by unfold kf; rw [put_cons, if_neg (Ne.symm n_at), put_cons, if_neg (Ne.symm n_ar), put_cons, if_neg (Ne.symm n_al), put_cons, if_neg (Ne.symm n_as), put_cons, if_pos rfl]
theorem kf_pheld (x : Addr) : putF "held" (.ref x) (kf t rw_ ld s al hl) = kf t rw_ ld s al x := by unfold kf; rw [put_cons, if_neg (Ne.symm n_ht), put_cons, if_neg (Ne.symm n_hr), put_cons, if_neg (Ne.symm n_hl), put_cons, if_neg (Ne.symm n_hs), put_cons, if_neg (Ne.symm n_ha), put_cons, if_pos rfl]
theorem kf_len : (kf t rw_ ld s al hl).length < 1000 := by show 6 < 1000; decide
theorem kf_no {m : Str} (h1 : ¬ m = "term") (h2 : ¬ m = "row") (h3 : ¬ m = "leads") (h4 : ¬ m = "settled") (h5 : ¬ m = "ahead") (h6 : ¬ m = "held") : (kf t rw_ ld s al hl).lookup m = none := by
  unfold kf; rw [look_cons, if_neg h1, look_cons, if_neg h2, look_cons, if_neg h3, look_cons, if_neg h4, look_cons, if_neg h5, look_cons, if_neg h6]; rfl
theorem kf_hear : (kf t rw_ ld s al hl).lookup ("hear" : Str) = none := kf_no (by decide +kernel) (by decide +kernel) (by decide +kernel) (by decide +kernel) (by decide +kernel) (by decide +kernel)
theorem kf_asked : (kf t rw_ ld s al hl).lookup ("asked" : Str) = none := kf_no (by decide +kernel) (by decide +kernel) (by decide +kernel) (by decide +kernel) (by decide +kernel) (by decide +kernel)
theorem kf_begin : (kf t rw_ ld s al hl).lookup ("begin" : Str) = none := kf_no (by decide +kernel) (by decide +kernel) (by decide +kernel) (by decide +kernel) (by decide +kernel) (by decide +kernel)
theorem kf_all (v1 v2 v3 v4 v5 v6 : V) : putF "held" v6 (putF "ahead" v5 (putF "settled" v4 (putF "leads" v3 (putF "row" v2 (putF "term" v1 []))))) = ([("term", v1), ("row", v2), ("leads", v3), ("settled", v4), ("ahead", v5), ("held", v6)] : List (Str × V)) := by
  have e1 : putF "term" v1 [] = [(("term" : Str), v1)] := rfl
  have e2 : putF "row" v2 [(("term" : Str), v1)] = [(("term" : Str), v1), ("row", v2)] := by rw [put_cons, if_neg (Ne.symm n_rt)]; rfl
  have e3 : putF "leads" v3 [(("term" : Str), v1), ("row", v2)] = [(("term" : Str), v1), ("row", v2), ("leads", v3)] := by rw [put_cons, if_neg (Ne.symm n_lt), put_cons, if_neg (Ne.symm n_lr)]; rfl
  have e4 : putF "settled" v4 [(("term" : Str), v1), ("row", v2), ("leads", v3)] = [(("term" : Str), v1), ("row", v2), ("leads", v3), ("settled", v4)] := by rw [put_cons, if_neg (Ne.symm n_st), put_cons, if_neg (Ne.symm n_sr), put_cons, if_neg (Ne.symm n_sl)]; rfl
  have e5 : putF "ahead" v5 [(("term" : Str), v1), ("row", v2), ("leads", v3), ("settled", v4)] = [(("term" : Str), v1), ("row", v2), ("leads", v3), ("settled", v4), ("ahead", v5)] := by rw [put_cons, if_neg (Ne.symm n_at), put_cons, if_neg (Ne.symm n_ar), put_cons, if_neg (Ne.symm n_al), put_cons, if_neg (Ne.symm n_as)]; rfl
  rw [e1, e2, e3, e4, e5, put_cons, if_neg (Ne.symm n_ht), put_cons, if_neg (Ne.symm n_hr), put_cons, if_neg (Ne.symm n_hl), put_cons, if_neg (Ne.symm n_hs), put_cons, if_neg (Ne.symm n_ha)]; rfl
end
/-- a keeper k at a -/
structure KAt (C : Addr) (r : MF) (a : Addr) (c : KC) (k : KS) : Prop where
  ob : r.m a = some (.ins C c.dx (kf k.term c.rw k.leads k.settled c.al c.hl))
  row : r.f c.rw (rowD k.row)
  al : r.m c.al = some (.lst (k.ahead.map .int))
  hl : r.m c.hl = some (.lst (k.held.map .int))
  ne : c.al ≠ c.hl
def KS.hear (k : KS) (t : Int) : KS := if k.term < t then { k with term := t, leads := false } else k
def KS.begin_ (k : KS) (n : Nat) : KS := { k with leads := true, ahead := List.replicate n (k.row.length : Int), held := List.replicate n 0 }
/-- all but a is as it was -/
structure Fr1 (a : Addr) (r r' : MF) : Prop where
  m : ∀ b, b ≠ a → r'.m b = r.m b
  f : ∀ v d, r.f v d → r'.f v d
section
variable {C a : Addr} {r r' : MF} {c : KC} {k : KS}
theorem KAt.ne_al (h : KAt C r a c k) : c.al ≠ a := ne_of h.al h.ob (by intro z; cases z)
theorem KAt.ne_hl (h : KAt C r a c k) : c.hl ≠ a := ne_of h.hl h.ob (by intro z; cases z)
theorem KAt.upd (h : KAt C r a c k) {k' : KS} (f : Fr1 a r r') (ho : r'.m a = some (.ins C c.dx (kf k'.term c.rw k'.leads k'.settled c.al c.hl))) (e1 : k'.row = k.row) (e2 : k'.ahead = k.ahead) (e3 : k'.held = k.held) : KAt C r' a c k' :=
  ⟨ho, by rw [e1]; exact f.f _ _ h.row, by rw [f.m _ h.ne_al, e2]; exact h.al, by rw [f.m _ h.ne_hl, e3]; exact h.hl, h.ne⟩
end
theorem Fr1.refl (a : Addr) (r : MF) : Fr1 a r r := ⟨fun _ _ => rfl, fun _ _ h => h⟩
theorem Fr1.trans {a : Addr} {r r1 r2 : MF} (x : Fr1 a r r1) (y : Fr1 a r1 r2) : Fr1 a r r2 := ⟨fun b h => (y.m b h).trans (x.m b h), fun v d h => y.f v d (x.f v d h)⟩
end Fw
namespace Fw
open PySem L2
theorem KAt.other {C x y : Addr} {r r' : MF} {cx cy : KC} {kx ky : KS} (h : KAt C r y cy ky) (hx : KAt C r x cx kx) (f : Fr1 x r r') (ne : y ≠ x) : KAt C r' y cy ky :=
  ⟨by rw [f.m _ ne]; exact h.ob, f.f _ _ h.row, by rw [f.m _ (ne_of h.al hx.ob (by intro z; cases z))]; exact h.al, by rw [f.m _ (ne_of h.hl hx.ob (by intro z; cases z))]; exact h.hl, h.ne⟩
theorem KAt.weak {C x : Addr} {m : Hp} {f f' : V → PyData → Prop} {c : KC} {k : KS} (h : KAt C ⟨m, f⟩ x c k) (hf : f' c.rw (rowD k.row)) : KAt C ⟨m, f'⟩ x c k := ⟨h.ob, hf, h.al, h.hl, h.ne⟩
theorem KAt.mono {C x : Addr} {r r' : MF} {c : KC} {k : KS} (h : KAt C r x c k) (hm : ∀ b o, r.m b = some o → r'.m b = some o) (hf : ∀ v d, r.f v d → r'.f v d) : KAt C r' x c k := ⟨hm _ _ h.ob, hf _ _ h.row, hm _ _ h.al, hm _ _ h.hl, h.ne⟩
theorem hear_row (k : KS) (t : Int) : (k.hear t).row = k.row := by unfold KS.hear; split <;> rfl
end Fw

/-! The room as a model: what each deed does, in plain Lean. -/
namespace Fw
open PySem L2
def updS (st : Nat → KS) (i : Nat) (k : KS) : Nat → KS := fun j => if j = i then k else st j
theorem updS_same {st : Nat → KS} {i : Nat} {k : KS} : updS st i k i = k := by unfold updS; rw [if_pos rfl]
theorem updS_ne {st : Nat → KS} {i j : Nat} {k : KS} (h : j ≠ i) : updS st i k j = st j := by unfold updS; rw [if_neg h]
theorem updS_upd {st : Nat → KS} {i : Nat} {k k' : KS} : updS (updS st i k) i k' = updS st i k' := by funext j; unfold updS; split <;> rfl
theorem updS_self {st : Nat → KS} {i : Nat} : updS st i (st i) = st := by
  funext j
  unfold updS
  split
  · rename_i h; rw [h]
  · rfl
structure RSt where
  p : Addr
  n : Nat
  st : Nat → KS
def RSt.up (s : RSt) (i : Nat) (k : KS) : RSt := { s with st := updS s.st i k }
/-- asking for voices: one after the other -/
def askAll (st : Nat → KS) (k : Nat) : List Int → Int → (Nat → KS) × Int
  | [], v => (st, v)
  | o :: os, v => askAll (updS st o.toNat ((st o.toNat).hear (st k).term)) k os (if decide ((st o.toNat).term < (st k).term) && asNew (st k).row (st o.toNat).row then v + 1 else v)
def stand1 (st : Nat → KS) (k : Nat) : Nat → KS := updS st k ((st k).hear ((st k).term + 1))
def standSt (n : Nat) (st : Nat → KS) (k : Nat) (os : List Int) : Nat → KS :=
  if (n : Int) < 2 * (askAll (stand1 st k) k os 1).2 then updS (askAll (stand1 st k) k os 1).1 k (((askAll (stand1 st k) k os 1).1 k).begin_ n) else (askAll (stand1 st k) k os 1).1
def RSt.stand (s : RSt) (k : Nat) (os : List Int) : RSt := { s with st := standSt s.n s.st k os }
def RSt.write (s : RSt) (k : Nat) (w : Str) : RSt := s.up k { s.st k with row := (s.st k).row ++ [((s.st k).term, w)] }
/-- a row filled from a place -/
def fillD : List Ent → List Ent → Option Nat
  | _, [] => none
  | [], _ :: _ => some 0
  | x :: r, y :: s => if x.1 = y.1 then (fillD r s).map (· + 1) else some 0
def fillR (es : List Ent) (at_ : Nat) (some_ : List Ent) : List Ent := match fillD (es.drop at_) some_ with
  | none => es
  | some k => es.take (at_ + k) ++ some_.drop k
def KS.part (k : KS) (at_ many : Int) : List Ent := (k.row.drop at_.toNat).take many.toNat
def KS.aheadAt (k : KS) (o : Nat) : Int := k.ahead.getD o 0
def handOwn (k : KS) (o : Nat) (many : Int) : KS :=
  { k with ahead := k.ahead.set o (k.aheadAt o + ((k.part (k.aheadAt o) many).length : Int)), held := k.held.set o (k.aheadAt o + ((k.part (k.aheadAt o) many).length : Int)) }
def handOne (k one : KS) (o : Nat) (many : Int) : KS :=
  { one with row := fillR one.row (k.aheadAt o).toNat (k.part (k.aheadAt o) many), settled := (let x := (let y := k.aheadAt o + ((k.part (k.aheadAt o) many).length : Int); if y < k.settled then y else k.settled); if x > one.settled then x else one.settled) }
def handTold (st : Nat → KS) (k o : Nat) : Bool := !decide ((st k).term < (st o).term) && agreesB (st o).row ((st k).aheadAt o) (lastT ((st k).row.take ((st k).aheadAt o).toNat))
def handSt (st : Nat → KS) (k o : Nat) (many : Int) : Nat → KS :=
  if (st k).term < (st o).term then updS st k ((st k).hear (st o).term)
  else if agreesB (st o).row ((st k).aheadAt o) (lastT ((st k).row.take ((st k).aheadAt o).toNat)) then
    updS (updS st o (handOne (st k) ((st o).hear (st k).term) o many)) k (handOwn (st k) o many)
  else updS (updS st o ((st o).hear (st k).term)) k { st k with ahead := (st k).ahead.set o ((st k).aheadAt o - 1) }
def RSt.hand (s : RSt) (k o : Nat) (many : Int) : RSt := { s with st := handSt s.st k o many }
def KS.settleN (k : KS) (i : Nat) : Int := (let x := settledBy k.row k.term (k.held.set i (k.row.length : Int)); if x > k.settled then x else k.settled)
def RSt.settle (s : RSt) (k : Nat) : RSt := s.up k { s.st k with settled := (s.st k).settleN k }
def RSt.rest (s : RSt) (k : Nat) : RSt := s.up k { s.st k with leads := false, settled := 0 }
/-- what every reachable keeper is like -/
structure KGood0 (n : Nat) (k : KS) : Prop where
  ok : rowOk k.row
  s0 : 0 ≤ k.settled
  al : k.leads = true → k.ahead.length = n
  hl : k.leads = true → k.held.length = n
  a0 : ∀ i, 0 ≤ k.aheadAt i
structure KGood (n : Nat) (k : KS) : Prop extends KGood0 n k where
  small : k.row.length ≤ 50000
def Good (s : RSt) : Prop := s.n ≤ 9 ∧ ∀ i, i < s.n → KGood s.n (s.st i)
end Fw

/-! The room in the heap. -/
namespace Fw
open PySem L2
def rf (L : Addr) : List (Str × V) := [("keepers", .ref L)]
theorem rf_keepers {L : Addr} : (rf L).lookup ("keepers" : Str) = some (.ref L) := by unfold rf; rw [look_cons, if_pos rfl]
theorem rf_no {L : Addr} {m : Str} (h : ¬ m = "keepers") : (rf L).lookup m = none := by unfold rf; rw [look_cons, if_neg h]; rfl
def updC (c : Nat → KC) (i : Nat) (x : KC) : Nat → KC := fun j => if j = i then x else c j
theorem updC_same {c : Nat → KC} {i : Nat} {x : KC} : updC c i x i = x := by unfold updC; rw [if_pos rfl]
theorem updC_ne {c : Nat → KC} {i j : Nat} {x : KC} (h : j ≠ i) : updC c i x j = c j := by unfold updC; rw [if_neg h]
structure RoomAt (CR CK : Addr) (s : RSt) (L : Addr) (a : Nat → Addr) (c : Nat → KC) (r : MF) : Prop where
  ob : ∃ dp, r.m s.p = some (.ins CR dp (rf L))
  ks : r.f (.ref L) (.list ((List.range s.n).map fun i => objD (a i)))
  at_ : ∀ i, i < s.n → KAt CK r (a i) (c i) (s.st i)
  sep : ∀ i j, i < s.n → j < s.n → i ≠ j → a i ≠ a j ∧ (c i).al ≠ (c j).al ∧ (c i).hl ≠ (c j).hl ∧ (c i).al ≠ (c j).hl
section
variable {CR CK : Addr} {s : RSt} {L : Addr} {a : Nat → Addr} {c : Nat → KC} {r r' : MF}
theorem RoomAt.ne_p (h : RoomAt CR CK s L a c r) {i : Nat} (hi : i < s.n) : s.p ≠ a i := by
  obtain ⟨dp, h1⟩ := h.ob
  refine ne_of h1 (h.at_ i hi).ob fun z => ?_
  injection z with _ _ z
  have := congrArg List.length z
  exact absurd (show (1 : Nat) = 6 from this) (by decide)
theorem RoomAt.at_ks (h : RoomAt CR CK s L a c r) {k : Int} (h0 : 0 ≤ k) (h1 : k < s.n) : L2.atI ((List.range s.n).map fun i => objD (a i)) k = some (objD (a k.toNat)) := by
  have e : k = (k.toNat : Int) := by omega
  have := atI_nat (xs := (List.range s.n).map fun i => objD (a i)) (j := k.toNat) (v := objD (a k.toNat)) (by rw [List.getElem?_map, List.getElem?_range (by omega)]; rfl)
  rw [← e] at this
  exact this
/-- one keeper is put -/
theorem RoomAt.put (h : RoomAt CR CK s L a c r) {i : Nat} (hi : i < s.n) {c' : KC} {k' : KS} (hk : KAt CK r' (a i) c' k') (fm : ∀ b o, r.m b = some o → b ≠ a i → b ≠ (c i).al → b ≠ (c i).hl → r'.m b = some o) (ff : ∀ v d, r.f v d → r'.f v d)
    (hal : c'.al = (c i).al ∨ r.m c'.al = none) (hhl : c'.hl = (c i).hl ∨ r.m c'.hl = none) : RoomAt CR CK (s.up i k') L a (updC c i c') r' := by
  have nal : ∀ j, j < s.n → j ≠ i → c'.al ≠ (c j).al ∧ c'.al ≠ (c j).hl := fun j hj ne => by
    obtain ⟨_, q1, q2, q3⟩ := h.sep i j hi hj ne.symm
    rcases hal with z | z
    · rw [z]; exact ⟨q1, q3⟩
    · exact ⟨(fun e => by rw [e, (h.at_ j hj).al] at z; cases z), (fun e => by rw [e, (h.at_ j hj).hl] at z; cases z)⟩
  have nhl : ∀ j, j < s.n → j ≠ i → c'.hl ≠ (c j).al ∧ c'.hl ≠ (c j).hl := fun j hj ne => by
    obtain ⟨_, q1, q2, q3⟩ := h.sep i j hi hj ne.symm
    obtain ⟨_, _, _, q4⟩ := h.sep j i hj hi ne
    rcases hhl with z | z
    · rw [z]; exact ⟨q4.symm, q2⟩
    · exact ⟨(fun e => by rw [e, (h.at_ j hj).al] at z; cases z), (fun e => by rw [e, (h.at_ j hj).hl] at z; cases z)⟩
  have lst_ne : ∀ {b l : Addr} {C dx : Addr} {fs : List (Str × V)} {xs : List V}, r.m b = some (.ins C dx fs) → r.m l = some (.lst xs) → b ≠ l := fun h1 h2 => ne_of h1 h2 (by intro z; cases z)
  refine ⟨?_, ff _ _ h.ks, fun j hj => ?_, fun j k hj hk' ne => ?_⟩
  · obtain ⟨dp, h1⟩ := h.ob
    exact ⟨dp, fm _ _ h1 (h.ne_p hi) (lst_ne h1 (h.at_ i hi).al) (lst_ne h1 (h.at_ i hi).hl)⟩
  · by_cases e : j = i
    · subst e
      show KAt CK r' (a j) (updC c j c' j) (updS s.st j k' j)
      rw [updC_same, updS_same]; exact hk
    · show KAt CK r' (a j) (updC c i c' j) (updS s.st i k' j)
      rw [updC_ne e, updS_ne e]
      have hj' : j < s.n := hj
      have K := h.at_ j hj'
      have Ki := h.at_ i hi
      obtain ⟨q0, q1, q2, q3⟩ := h.sep j i hj' hi e
      obtain ⟨_, _, _, q4⟩ := h.sep i j hi hj' (Ne.symm e)
      exact ⟨fm _ _ K.ob q0 (lst_ne K.ob Ki.al) (lst_ne K.ob Ki.hl), ff _ _ K.row, fm _ _ K.al (lst_ne Ki.ob K.al).symm q1 q3, fm _ _ K.hl (lst_ne Ki.ob K.hl).symm q4.symm q2, K.ne⟩
  · have hj' : j < s.n := hj
    have hk2 : k < s.n := hk'
    obtain ⟨q0, q1, q2, q3⟩ := h.sep j k hj' hk2 ne
    by_cases e1 : j = i
    · subst e1
      rw [updC_same, updC_ne ne.symm]
      exact ⟨q0, (nal k hk2 ne.symm).1, (nhl k hk2 ne.symm).2, (nal k hk2 ne.symm).2⟩
    · rw [updC_ne e1]
      by_cases e2 : k = i
      · subst e2
        rw [updC_same]
        exact ⟨q0, (nal j hj' e1).1.symm, (nhl j hj' e1).2.symm, (nhl j hj' e1).1.symm⟩
      · rw [updC_ne e2]
        exact ⟨q0, q1, q2, q3⟩
theorem RoomAt.put1 (h : RoomAt CR CK s L a c r) {i : Nat} (hi : i < s.n) {k' : KS} (hk : KAt CK r' (a i) (c i) k') (f : Fr1 (a i) r r') : RoomAt CR CK (s.up i k') L a (updC c i (c i)) r' :=
  h.put hi hk (fun b o hb ne _ _ => by rw [f.m b ne]; exact hb) f.f (.inl rfl) (.inl rfl)
end
/-- the resource: no room yet, or a room -/
def RO (K : PySem.W.Frag) (CR CK : Addr) : Option RSt → Hp → Hp → Prop
  | none, _, M => ∀ b, M b = none
  | some s, G, M => ∃ L a c r, Rmf K r G M ∧ RoomAt CR CK s L a c r
instance {K : PySem.W.Frag} {CR CK : Addr} : Stab (RO K CR CK) := ⟨fun r G G' M s d h => by
  cases r with
  | none => exact h
  | some s' =>
    obtain ⟨L, a, c, r, h1, h2⟩ := h
    exact ⟨L, a, c, r, Stab.out r G G' M s d h1, h2⟩⟩
theorem RO.inst {K : PySem.W.Frag} {CR CK : Addr} {s : RSt} {m : Str} (h : ¬ m = "keepers") : ∀ G M, RO K CR CK (some s) G M → ∃ dx fs, M s.p = some (.ins CR dx fs) ∧ fs.lookup m = none := fun G M ⟨L, a, c, r, h1, h2⟩ => by
  obtain ⟨dp, h3⟩ := h2.ob
  exact ⟨dp, rf L, by rw [h1.1]; exact h3, rf_no h⟩
/-- from the objects to the resource -/
theorem spX_room {K : PySem.W.Frag} {CR CK : Addr} {α : Type} {args : α → List PyData} {pre : α → Option RSt → Prop} {post : α → Option RSt → PyData → Option RSt → Prop} {exc : α → Option RSt → Value → Option RSt → Prop} {z : α → RSt}
    (hz : ∀ a r, pre a r → r = some (z a)) {vs : List V} {H : Hp} {Q : VK} {E : XK} (h : spX K (RO K CR CK) args pre post exc vs H Q E) :
    spX K (Rmf K) (fun x : α × Addr × (Nat → Addr) × (Nat → KC) => args x.1) (fun x r => pre x.1 (some (z x.1)) ∧ RoomAt CR CK (z x.1) x.2.1 x.2.2.1 x.2.2.2 r)
      (fun x _ d r' => ∃ s' L' a' c', post x.1 (some (z x.1)) d (some s') ∧ RoomAt CR CK s' L' a' c' r') (fun x _ e r' => ∃ s' L' a' c', exc x.1 (some (z x.1)) e (some s') ∧ RoomAt CR CK s' L' a' c' r') vs H Q E := by
  obtain ⟨G, M, x, r, wf, hv, hp, q, qe⟩ := h
  have e := hz _ _ hp
  subst e
  obtain ⟨L, a, c, r0, h1, h2⟩ := wf.res
  refine ⟨G, M, (x, L, a, c), r0, ⟨wf.gh, wf.mh, wf.dj, h1⟩, hv, ⟨hp, h2⟩, ?_, ?_⟩
  · rintro v d r' G' M' H' ⟨s', L', a', c', p', h'⟩ st' w'
    intro hx
    exact q v d (some s') G' M' H' p' st' ⟨w'.gh, w'.mh, w'.dj, L', a', c', r', w'.res, h'⟩ hx
  · rintro e r' G' M' H' ⟨s', L', a', c', p', h'⟩ st' w'
    exact qe e (some s') G' M' H' p' st' ⟨w'.gh, w'.mh, w'.dj, L', a', c', r', w'.res, h'⟩
section
variable {P : Program} {w : World} {K : PySem.W.Frag} {mg : Str → Option Value} {base : Heap}
theorem ok_room {CR CK : Addr} {x qual : Str} {st : Stmt} {f : Addr} {fd : FuncData} {N ps : List Str} {k : Nat} {α : Type} {args : α → List PyData} {pre : α → Option RSt → Prop} {post : α → Option RSt → PyData → Option RSt → Prop} {exc : α → Option RSt → Value → Option RSt → Prop} (z : α → RSt)
    (hz : ∀ a r, pre a r → r = some (z a)) (F : Fun K x qual st f fd) (S : FnScope N ps (defScope st)) (len : ∀ a, (args a).length = ps.length)
    (body : ∀ (cdv : Value) (A : Around) (outer : List Env) (s : Shared) (H : Hp) (E : XK), Room k (A.deeper (PyProof.Rows.envOfC qual (defScope st) s.heap.objs.size f cdv)) →
      ∃ t, PSs (cxOf (L2.CX P w) P w K mg base N qual (defScope st) f cdv A outer s H E) (defBody st) t ∧ ∀ a L b c r, pre a (some (z a)) → RoomAt CR CK (z a) L b c r → SP K (Rmf K) E t (startE (args a) (N.length - ps.length)) r
        ⟨fun _ r' => ∃ s' L' a' c', post a (some (z a)) .none (some s') ∧ RoomAt CR CK s' L' a' c' r', fun d r' => ∃ s' L' a' c', post a (some (z a)) d (some s') ∧ RoomAt CR CK s' L' a' c' r', fun _ _ => False, fun _ _ => False, fun e r' => ∃ s' L' a' c', exc a (some (z a)) e (some s') ∧ RoomAt CR CK s' L' a' c' r', fun _ _ => False⟩) :
    FnOk P w K mg base (L2.CX P w) (k + 1) f fd ps (spX K (RO K CR CK) args pre post exc) := by
  refine FnOk.imp (ok_obj (R := Rmf K) (α := α × Addr × (Nat → Addr) × (Nat → KC)) (args := fun x => args x.1) (pre := fun x r => pre x.1 (some (z x.1)) ∧ RoomAt CR CK (z x.1) x.2.1 x.2.2.1 x.2.2.2 r)
    (post := fun x _ d r' => ∃ s' L' a' c', post x.1 (some (z x.1)) d (some s') ∧ RoomAt CR CK s' L' a' c' r') (exc := fun x _ e r' => ∃ s' L' a' c', exc x.1 (some (z x.1)) e (some s') ∧ RoomAt CR CK s' L' a' c' r') F S (fun a => len a.1) ?_) fun vs H Q E h => spX_room hz h
  intro cdv A outer s H E hr
  obtain ⟨t, h1, h2⟩ := body cdv A outer s H E hr
  exact ⟨t, h1, fun a r hp => h2 a.1 a.2.1 a.2.2.1 a.2.2.2 r hp.1 hp.2⟩
end
theorem cut_to {α : Type} (xs : List α) {k : Int} (h : 0 ≤ k) : cutD xs none (some k) = xs.take k.toNat := by
  unfold cutD
  show (xs.drop 0).take ((if k < 0 then (k + (xs.length : Int)).toNat else min k.toNat xs.length) - 0) = _
  rw [if_neg (by omega), List.drop_zero, Nat.sub_zero]
  rcases Nat.le_total k.toNat xs.length with h1 | h1
  · rw [Nat.min_eq_left h1]
  · rw [Nat.min_eq_right h1, List.take_length, List.take_of_length_le h1]
theorem cut_from {α : Type} (xs : List α) {k : Int} (h : 0 ≤ k) : cutD xs (some k) none = xs.drop k.toNat := by
  unfold cutD
  show (xs.drop (if k < 0 then (k + (xs.length : Int)).toNat else min k.toNat xs.length)).take (xs.length - (if k < 0 then (k + (xs.length : Int)).toNat else min k.toNat xs.length)) = _
  rw [if_neg (by omega)]
  rcases Nat.le_total k.toNat xs.length with h1 | h1
  · rw [Nat.min_eq_left h1, List.take_of_length_le (by rw [List.length_drop]; exact Nat.le_refl _)]
  · rw [Nat.min_eq_right h1, List.drop_eq_nil_of_le h1, List.drop_length]; simp
theorem cut_mid {α : Type} (xs : List α) {k m : Int} (h : 0 ≤ k) (hm : 0 ≤ m) : cutD xs (some k) (some (k + m)) = (xs.drop k.toNat).take m.toNat := by
  unfold cutD
  show (xs.drop (if k < 0 then (k + (xs.length : Int)).toNat else min k.toNat xs.length)).take ((if k + m < 0 then (k + m + (xs.length : Int)).toNat else min (k + m).toNat xs.length) - (if k < 0 then (k + (xs.length : Int)).toNat else min k.toNat xs.length)) = _
  rw [if_neg (by omega), if_neg (by omega)]
  rcases Nat.le_total k.toNat xs.length with h1 | h1
  · rw [Nat.min_eq_left h1]
    rcases Nat.le_total (k + m).toNat xs.length with h2 | h2
    · rw [Nat.min_eq_left h2]
      congr 1
      omega
    · rw [Nat.min_eq_right h2, List.take_of_length_le (by rw [List.length_drop]; exact Nat.le_refl _), List.take_of_length_le (by rw [List.length_drop]; omega)]
  · rw [Nat.min_eq_right h1, List.drop_eq_nil_of_le h1, List.drop_length]; simp
end Fw

/-! New lists from defs that change the state or raise; a def whose objects are forgotten; two resources side by side. -/
namespace Fw
open PySem L2
def spXF (K : PySem.W.Frag) {ρ : Type} (R : ρ → Hp → Hp → Prop) {α : Type} (args : α → List PyData) (pre : α → ρ → Prop) (post : α → ρ → List PyData → ρ → Prop) (exc : α → ρ → Value → ρ → Prop) : Sp := fun vs H Q E =>
  ∃ G M a r, Wf R G M H r ∧ RpAll K G vs (args a) ∧ pre a r ∧
    (∀ l ws ds r' G' M' H', post a r ds r' → Stp G M H G' M' H' → Wf R G' M' H' r' → H l = none → G' l = none → M' l = none → H' l = some (.lst ws) → RpAll K G' ws ds → Q (.ref l) H') ∧
    (∀ c r' G' M' H', exc a r c r' → Stp G M H G' M' H' → Wf R G' M' H' r' → E c none H')
def spPXF (K : PySem.W.Frag) {α : Type} (args : α → List PyData) (pre : α → Prop) (res : α → List PyData → Prop) (exc : α → Value → Prop) : Sp := fun vs H Q E =>
  ∃ G M a, Pre G M H ∧ RpAll K G vs (args a) ∧ pre a ∧ (∀ l ws ds G' H', res a ds → Al G M H G' H' → H l = none → G' l = none → H' l = some (.lst ws) → RpAll K G' ws ds → Q (.ref l) H') ∧ (∀ c G' H', exc a c → Al G M H G' H' → E c none H')
section
variable {K : PySem.W.Frag} {ρ : Type} {R : ρ → Hp → Hp → Prop} {e : SE} {r : ρ} {te : TE} {t : TT} {ds : List PyData} {α : Type} {args : α → List PyData} {E : XK}
def EvXF (K : PySem.W.Frag) {ρ : Type} (R : ρ → Hp → Hp → Prop) (E : XK) (te : TE) (e : SE) (r : ρ) (P : List PyData → ρ → Prop) (PE : Value → ρ → Prop) : Prop := ∀ (B : Hp) (σ : St) (G M H : Hp), EnvO K B G M H σ e → Wf R G M H r → ∀ Q : VK,
  (∀ l vs ds r' G' M' H', P ds r' → Stp G M H G' M' H' → Wf R G' M' H' r' → H l = none → G' l = none → M' l = none → H' l = some (.lst vs) → RpAll K G' vs ds → Q (.ref l) H') → (∀ c r' G' M' H', PE c r' → Stp G M H G' M' H' → Wf R G' M' H' r' → E c none H') → te σ H Q
theorem EvXF.f {P : List PyData → ρ → Prop} {PE : Value → ρ → Prop} (h : EvXF K R E te e r P PE) (k : ∀ ds' r', P ds' r' → ds' = ds ∧ r' = r) (n : ∀ c r', ¬ PE c r') : EvF K R te e r ds := fun B σ G M H v w Q q =>
  h B σ G M H v w Q (fun l vs ds' r' G' M' H' p s w' h1 h2 h3 h4 h5 => by
    obtain ⟨e1, e2⟩ := k ds' r' p
    subst e1 e2
    exact q l vs G' M' H' s w' h1 h2 h3 h4 h5) fun c r' _ _ _ p => (n c r' p).elim
theorem EvXF.d [Stab R] {P : List PyData → ρ → Prop} {Pd : PyData → ρ → Prop} {PE : Value → ρ → Prop} (h : EvXF K R E te e r P PE) (k : ∀ ds r', P ds r' → Pd (.list ds) r') : EvX K R E te e r Pd PE := fun B σ G M H v w Q q qe =>
  h B σ G M H v w Q (fun l vs ds r' G' M' H' p s w' h1 h2 h3 h4 h5 => q (.ref l) (.list ds) r' (upd G' l (.lst vs)) M' H' (k ds r' p) (s.freeze h1 h2) (w'.freeze h4 h2 h3) (.lst upd_same (h5.mono (same_new h2)))) qe
theorem EvF.x {P : List PyData → ρ → Prop} {PE : Value → ρ → Prop} (h : EvF K R te e r ds) (k : P ds r) : EvXF K R E te e r P PE := fun B σ G M H v w Q q qe =>
  h B σ G M H v w Q fun l vs G' M' H' s w' h1 h2 h3 h4 h5 => q l vs ds r G' M' H' k s w' h1 h2 h3 h4 h5
theorem evxf_meth {pre : α → ρ → Prop} {post : α → ρ → List PyData → ρ → Prop} {exc : α → ρ → Value → ρ → Prop} {p C : Addr} {m : Str} {ta : TA} (a : α) (ho : EvD K R te e r (objD p)) (hi : ∀ G M, R r G M → ∃ dx fs, M p = some (.ins C dx fs) ∧ fs.lookup m = none)
    (h : EvA K R ta e r ds) (hs : args a = objD p :: ds) (hp : pre a r) : EvXF K R E (tMeth C m (spXF K R args pre post exc) [] E te ta) e r (post a r) (exc a r) := fun B σ G M H v w Q q qe =>
  ho B σ G M H v w _ fun x d' r' G1 M1 H1 ⟨e1, e2⟩ s1 w1 hx => by
    subst e1 e2
    obtain ⟨dx, fs, h1, h2⟩ := hi G1 M1 w1.res
    refine ⟨p, dx, fs, hx.obj_inv, w1.mh _ _ h1, h2, h B σ G1 M1 H1 (v.step s1) w1 _ fun vs G2 M2 H2 s2 w2 hv => ?_⟩
    have s12 := s1.trans s2
    exact ⟨G2, M2, a, _, w2, by rw [hs, List.append_nil]; exact .cons (hx.mono s2.gg) hv, hp, fun l ws ds r' G3 M3 H3 p s3 w3 g1 g2 g3 g4 g5 => q l ws ds r' G3 M3 H3 p (s12.trans s3) w3 (free_back s12 g1) g2 g3 g4 g5, fun c r' G3 M3 H3 p s3 w3 => qe c r' G3 M3 H3 p (s12.trans s3) w3⟩
theorem evxf_callP [Stab R] {ta : TA} {pre : α → Prop} {res : α → List PyData → Prop} {exc : α → Value → Prop} (a : α) (h : EvA K R ta e r (args a)) (hp : pre a) : EvXF K R E (tCall (spPXF K args pre res exc) [] E ta) e r (fun ds r' => res a ds ∧ r' = r) (fun c r' => exc a c ∧ r' = r) := fun B σ G M H v w Q q qe =>
  h B σ G M H v w _ fun vs G' M' H' s w' hv => ⟨G', M', a, w'.pre, by rw [List.append_nil]; exact hv, hp, fun l ws ds G2 H2 p a g1 g2 g4 g5 => q l ws ds r G2 M' H2 ⟨p, rfl⟩ (s.trans a.st) (w'.al a) (free_back s g1) g2 (w'.mn g1) g4 g5, fun c G2 H2 p a => qe c r G2 M' H2 ⟨p, rfl⟩ (s.trans a.st) (w'.al a)⟩
theorem sp_asgXF {i : Nat} {tz : TS} {P : Post ρ} {Pe : List PyData → ρ → Prop} {PE : Value → ρ → Prop} (h : EvXF K R E te e r Pe PE) (k : ∀ ds r', Pe ds r' → SP K R E tz (e.set i (.own ds)) r' P) (kx : ∀ c r', PE c r' → P.ex c r') : SP K R E (tSeq (tAsg te (gName i)) tz) e r P := fun G0 M0 H0 σ G M H D s v w q =>
  h H0 σ G M H v w _ (fun l vs ds r' G' M' H' p s' w' h1 h2 h3 h4 h5 => k ds r' p G0 M0 H0 _ G' M' H' D (s.trans s') ((v.step s').setO (born s h1) h2 h3 h4 h5 fun j es hj => own_new v h1 j es hj) w' q) fun c r' G' M' H' p s' w' => q.ex c r' G' M' H' (kx c r' p) (s.trans s') w'
theorem sp_asgXF1 {i : Nat} {P : Post ρ} {Pe : List PyData → ρ → Prop} {PE : Value → ρ → Prop} (h : EvXF K R E te e r Pe PE) (k : ∀ ds r', Pe ds r' → P.nx (e.set i (.own ds)) r') (kx : ∀ c r', PE c r' → P.ex c r') : SP K R E (tAsg te (gName i)) e r P := fun G0 M0 H0 σ G M H D s v w q =>
  h H0 σ G M H v w _ (fun l vs ds r' G' M' H' p s' w' h1 h2 h3 h4 h5 => q.nx _ r' _ G' M' H' (k ds r' p) (s.trans s') ((v.step s').setO (born s h1) h2 h3 h4 h5 fun j es hj => own_new v h1 j es hj) w') fun c r' G' M' H' p s' w' => q.ex c r' G' M' H' (kx c r' p) (s.trans s') w'
theorem sp_retXF {P : Post ρ} {Pe : List PyData → ρ → Prop} {PE : Value → ρ → Prop} (h : EvXF K R E te e r Pe PE) (k : ∀ ds r', Pe ds r' → P.fr ds r') (kx : ∀ c r', PE c r' → P.ex c r') : SP K R E (tRet te) e r P := fun G0 M0 H0 σ G M H D s v w q =>
  h H0 σ G M H v w _ (fun l vs ds r' G' M' H' p s' w' h1 h2 h3 h4 h5 => q.fr ds r' l vs G' M' H' (k ds r' p) (s.trans s') w' (born s h1) h2 h3 h4 h5) fun c r' G' M' H' p s' w' => q.ex c r' G' M' H' (kx c r' p) (s.trans s') w'
/-- list(e), e may raise: a new list -/
theorem evxf_listD [Stab R] {Pe : PyData → ρ → Prop} {P : List PyData → ρ → Prop} {PE : Value → ρ → Prop} (h : EvX K R E te e r Pe PE) (k : ∀ d r', Pe d r' → ∃ ds, d = .list ds ∧ P ds r') : EvXF K R E (tCB (rListS K) (tCons te tNil)) e r P PE := fun B σ G M H v w Q q qe =>
  h B σ G M H v w _ (fun x d r' G' M' H' p s w' hx => by
    obtain ⟨ds, rfl, p'⟩ := k d r' p
    obtain ⟨a, xs, rfl, h1, h2⟩ := hx.lst_inv
    refine ⟨a, xs, rfl, .inl (SqL.of (w'.gh _ _ h1)), fun l hl => ?_⟩
    exact q l xs ds r' G' M' _ p' (s.hid (free_back s hl) _) (w'.hid (w'.gn hl) (w'.mn hl) _) (free_back s hl) (w'.gn hl) (w'.mn hl) upd_same h2) qe
end
section
variable {P : Program} {w : World} {K : PySem.W.Frag} {mg : Str → Option Value} {base : Heap}
theorem ok_objF {x qual : Str} {st : Stmt} {f : Addr} {fd : FuncData} {N ps : List Str} {k : Nat} {ρ : Type} {R : ρ → Hp → Hp → Prop} {α : Type} {args : α → List PyData} {pre : α → ρ → Prop} {post : α → ρ → List PyData → ρ → Prop} {exc : α → ρ → Value → ρ → Prop}
    (F : Fun K x qual st f fd) (S : FnScope N ps (defScope st)) (len : ∀ a, (args a).length = ps.length)
    (body : ∀ (cdv : Value) (A : Around) (outer : List Env) (s : Shared) (H : Hp) (E : XK), Room k (A.deeper (PyProof.Rows.envOfC qual (defScope st) s.heap.objs.size f cdv)) →
      ∃ t, PSs (cxOf (L2.CX P w) P w K mg base N qual (defScope st) f cdv A outer s H E) (defBody st) t ∧ ∀ a r, pre a r → SP K R E t (startE (args a) (N.length - ps.length)) r ⟨fun _ _ => False, fun _ _ => False, fun _ _ => False, fun _ _ => False, fun c r' => exc a r c r', fun ds r' => post a r ds r'⟩) :
    FnOk P w K mg base (L2.CX P w) (k + 1) f fd ps (spXF K R args pre post exc) := by
  refine F.okX S (fun vs H Q E h => ?_) (fun cdv A outer s H vs Q E hr h => ?_)
  · obtain ⟨G, M, a, r, p, hv, hp, _⟩ := h
    rw [hv.length]
    exact len a
  · obtain ⟨t, ht, hb⟩ := body cdv A outer s H E hr
    refine ⟨t, ht, ?_⟩
    obtain ⟨G, M, a, r, wf, hv, hp, q, qe⟩ := h
    have hs : L2.start N vs = vs.map some ++ List.replicate (N.length - ps.length) none := by unfold L2.start; rw [hv.length, len a]
    rw [hs]
    exact hb a r hp G M H _ G M H _ (Stp.refl _ _ _) (env_start hv) wf ⟨fun _ _ _ _ _ _ z => z.elim, fun _ _ _ _ _ _ z => z.elim, fun _ _ _ _ _ _ z => z.elim, fun _ _ _ _ _ _ z => z.elim, fun c r' G' M' H' hp' s' w' => qe c r' G' M' H' hp' s' w',
      fun ds r' l ws G' M' H' hp' s' w' h1 h2 h3 h4 h5 => q l ws ds r' G' M' H' hp' s' w' h1 h2 h3 h4 h5⟩
theorem ok_pureXF {x qual : Str} {st : Stmt} {f : Addr} {fd : FuncData} {N ps : List Str} {k : Nat} {α : Type} {args : α → List PyData} {pre : α → Prop} {res : α → List PyData → Prop} {exc : α → Value → Prop}
    (F : Fun K x qual st f fd) (S : FnScope N ps (defScope st)) (len : ∀ a, (args a).length = ps.length)
    (body : ∀ (cdv : Value) (A : Around) (outer : List Env) (s : Shared) (H : Hp) (E : XK), Room k (A.deeper (PyProof.Rows.envOfC qual (defScope st) s.heap.objs.size f cdv)) →
      ∃ t, PSs (cxOf (L2.CX P w) P w K mg base N qual (defScope st) f cdv A outer s H E) (defBody st) t ∧ ∀ (M0 : Hp) a, pre a → SP K (RM M0) E t (startE (args a) (N.length - ps.length)) () ⟨fun _ _ => False, fun _ _ => False, fun _ _ => False, fun _ _ => False, fun c _ => exc a c, fun ds _ => res a ds⟩) :
    FnOk P w K mg base (L2.CX P w) (k + 1) f fd ps (spPXF K args pre res exc) := by
  refine F.okX S (fun vs H Q E h => ?_) (fun cdv A outer s H vs Q E hr h => ?_)
  · obtain ⟨G, M, a, p, hv, hp, _⟩ := h
    rw [hv.length]
    exact len a
  · obtain ⟨t, ht, hb⟩ := body cdv A outer s H E hr
    refine ⟨t, ht, ?_⟩
    obtain ⟨G, M, a, p, hv, hp, q, qe⟩ := h
    have hs : L2.start N vs = vs.map some ++ List.replicate (N.length - ps.length) none := by unfold L2.start; rw [hv.length, len a]
    rw [hs]
    refine hb M a hp G M H _ G M H _ (Stp.refl _ _ _) (env_start hv) ⟨p.1, p.2.1, p.2.2, rfl⟩ ⟨fun _ _ _ _ _ _ z => z.elim, fun _ _ _ _ _ _ z => z.elim, fun _ _ _ _ _ _ z => z.elim, fun _ _ _ _ _ _ z => z.elim, ?_, ?_⟩
    · intro c r G' M' H' hp' s' w'
      have e1 : M' = M := w'.res
      subst e1
      exact qe c G' H' hp' ⟨s', w'.gh, w'.mh, w'.dj⟩
    · intro ds r l ws G' M' H' hp' s' w' h1 h2 h3 h4 h5
      have e1 : M' = M := w'.res
      subst e1
      exact q l ws ds G' H' hp' ⟨s', w'.gh, w'.mh, w'.dj⟩ h1 h2 h4 h5
theorem ok_roomF {CR CK : Addr} {x qual : Str} {st : Stmt} {f : Addr} {fd : FuncData} {N ps : List Str} {k : Nat} {α : Type} {args : α → List PyData} {pre : α → Option RSt → Prop} {post : α → Option RSt → List PyData → Option RSt → Prop} {exc : α → Option RSt → Value → Option RSt → Prop} (z : α → RSt)
    (hz : ∀ a r, pre a r → r = some (z a)) (F : Fun K x qual st f fd) (S : FnScope N ps (defScope st)) (len : ∀ a, (args a).length = ps.length)
    (body : ∀ (cdv : Value) (A : Around) (outer : List Env) (s : Shared) (H : Hp) (E : XK), Room k (A.deeper (PyProof.Rows.envOfC qual (defScope st) s.heap.objs.size f cdv)) →
      ∃ t, PSs (cxOf (L2.CX P w) P w K mg base N qual (defScope st) f cdv A outer s H E) (defBody st) t ∧ ∀ a L b c r, pre a (some (z a)) → RoomAt CR CK (z a) L b c r → SP K (Rmf K) E t (startE (args a) (N.length - ps.length)) r
        ⟨fun _ _ => False, fun _ _ => False, fun _ _ => False, fun _ _ => False, fun e r' => ∃ s' L' a' c', exc a (some (z a)) e (some s') ∧ RoomAt CR CK s' L' a' c' r', fun ds r' => ∃ s' L' a' c', post a (some (z a)) ds (some s') ∧ RoomAt CR CK s' L' a' c' r'⟩) :
    FnOk P w K mg base (L2.CX P w) (k + 1) f fd ps (spXF K (RO K CR CK) args pre post exc) := by
  refine F.okX S (fun vs H Q E h => ?_) (fun cdv A outer s H vs Q E hr h => ?_)
  · obtain ⟨G, M, a, r, p, hv, hp, _⟩ := h
    rw [hv.length]
    exact len a
  · obtain ⟨t, ht, hb⟩ := body cdv A outer s H E hr
    refine ⟨t, ht, ?_⟩
    obtain ⟨G, M, a, r, wf, hv, hp, q, qe⟩ := h
    have hs : L2.start N vs = vs.map some ++ List.replicate (N.length - ps.length) none := by unfold L2.start; rw [hv.length, len a]
    rw [hs]
    have e := hz _ _ hp
    subst e
    obtain ⟨L, a1, c1, r0, h1, h2⟩ := wf.res
    refine hb a L a1 c1 r0 hp h2 G M H _ G M H _ (Stp.refl _ _ _) (env_start hv) ⟨wf.gh, wf.mh, wf.dj, h1⟩ ⟨fun _ _ _ _ _ _ z => z.elim, fun _ _ _ _ _ _ z => z.elim, fun _ _ _ _ _ _ z => z.elim, fun _ _ _ _ _ _ z => z.elim, ?_, ?_⟩
    · rintro c r' G' M' H' ⟨s', L', a', c', p', h'⟩ s1 w'
      exact qe c (some s') G' M' H' p' s1 ⟨w'.gh, w'.mh, w'.dj, L', a', c', r', w'.res, h'⟩
    · rintro ds r' l ws G' M' H' ⟨s', L', a', c', p', h'⟩ s1 w' g1 g2 g3 g4 g5
      exact q l ws ds (some s') G' M' H' p' s1 ⟨w'.gh, w'.mh, w'.dj, L', a', c', r', w'.res, h'⟩ g1 g2 g3 g4 g5
/-- a def that makes its own objects and forgets them -/
theorem ok_forget {x qual : Str} {st : Stmt} {f : Addr} {fd : FuncData} {N ps : List Str} {k : Nat} {ρ : Type} {R : ρ → Hp → Hp → Prop} {α : Type} {args : α → List PyData} {pre : α → Prop} {res : α → PyData → Prop} (F : Fun K x qual st f fd) (S : FnScope N ps (defScope st))
    (len : ∀ a, (args a).length = ps.length) (r0 : ρ) (h0 : ∀ G, R r0 G fun _ => none)
    (body : ∀ (cdv : Value) (A : Around) (outer : List Env) (s : Shared) (H : Hp) (E : XK), Room k (A.deeper (PyProof.Rows.envOfC qual (defScope st) s.heap.objs.size f cdv)) →
      ∃ t, PSs (cxOf CX0 P w K mg base N qual (defScope st) f cdv A outer s H E).nox (defBody st) t ∧ ∀ a, pre a → SP K R E0 t (startE (args a) (N.length - ps.length)) r0 ⟨fun _ _ => res a .none, fun d _ => res a d, fun _ _ => False, fun _ _ => False, fun _ _ => False, fun _ _ => False⟩) :
    FnOk P w K mg base CX0 (k + 1) f fd ps (spD K args pre res) := by
  refine F.ok S (fun vs H Q E h => ?_) (fun cdv A outer s H vs Q E hr h => ?_)
  · obtain ⟨G, M, a, p, hv, hp, _⟩ := h
    rw [hv.length]
    exact len a
  · obtain ⟨t, ht, hb⟩ := body cdv A outer s H E hr
    refine ⟨t, ht, ?_⟩
    obtain ⟨G, M, a, p, hv, hp, q⟩ := h
    have hs : L2.start N vs = vs.map some ++ List.replicate (N.length - ps.length) none := by unfold L2.start; rw [hv.length, len a]
    rw [hs]
    have fin : ∀ {G' M' H' : Hp}, Stp G (fun _ => none) H G' M' H' → Same G' H' → Al G M H G' H' := fun s1 g1 =>
      have keep : ∀ b o, H b = some o → _ := fun b o hb => s1.fr b o hb rfl
      ⟨⟨s1.gg, s1.th, fun b o hb _ => keep b o hb, s1.ng, fun _ _ m => m⟩, g1, fun b o hb => keep b o (p.2.1 b o hb), fun b hb => by
        cases z : M b with
        | none => exact absurd z hb
        | some o => exact s1.ng b (some_ne (p.2.1 b o z)) (p.2.2 b hb)⟩
    refine hb a hp G (fun _ => none) H _ G (fun _ => none) H _ (Stp.refl _ _ _) (env_start hv) ⟨p.1, (fun b o z => by cases z), (fun b z => absurd rfl z), h0 G⟩ ⟨?_, ?_, fun _ _ _ _ _ _ z => z.elim, fun _ _ _ _ _ _ z => z.elim, fun _ _ _ _ _ z => z.elim, fun _ _ _ _ _ _ _ z => z.elim⟩
    · intro e r σ G' M' H' hp' s' v' w'
      exact q .non .none G' H' hp' (fin s' w'.gh) .non
    · intro d r v G' M' H' hp' s' w' hx
      exact q v d G' H' hp' (fin s' w'.gh) hx
end

theorem map_set_int (xs : List Int) (n : Nat) (x : Int) : (xs.map V.int).set n (.int x) = (xs.set n x).map V.int := by rw [List.map_set]
section
variable {CR CK : Addr} {s : RSt} {L : Addr} {a : Nat → Addr} {c : Nat → KC} {r : MF}
theorem RoomAt.setA (h : RoomAt CR CK s L a c r) {i : Nat} (hi : i < s.n) (n : Nat) (x : Int) :
    RoomAt CR CK (s.up i { s.st i with ahead := (s.st i).ahead.set n x }) L a (updC c i (c i)) ⟨upd r.m (c i).al (.lst (((s.st i).ahead.map V.int).set n (.int x))), r.f⟩ := by
  have k := h.at_ i hi
  refine h.put hi ⟨?_, k.row, ?_, ?_, k.ne⟩ (fun b o hb h1 h2 h3 => by show upd _ _ _ _ = _; rw [upd_ne h2]; exact hb) (fun _ _ h => h) (.inl rfl) (.inl rfl)
  · show upd _ _ _ _ = _; rw [upd_ne k.ne_al.symm]; exact k.ob
  · show upd _ _ _ _ = _; rw [upd_same, map_set_int]
  · show upd _ _ _ _ = _; rw [upd_ne k.ne.symm]; exact k.hl
theorem RoomAt.setH (h : RoomAt CR CK s L a c r) {i : Nat} (hi : i < s.n) (n : Nat) (x : Int) :
    RoomAt CR CK (s.up i { s.st i with held := (s.st i).held.set n x }) L a (updC c i (c i)) ⟨upd r.m (c i).hl (.lst (((s.st i).held.map V.int).set n (.int x))), r.f⟩ := by
  have k := h.at_ i hi
  refine h.put hi ⟨?_, k.row, ?_, ?_, k.ne⟩ (fun b o hb h1 h2 h3 => by show upd _ _ _ _ = _; rw [upd_ne h3]; exact hb) (fun _ _ h => h) (.inl rfl) (.inl rfl)
  · show upd _ _ _ _ = _; rw [upd_ne k.ne_hl.symm]; exact k.ob
  · show upd _ _ _ _ = _; rw [upd_ne k.ne]; exact k.al
  · show upd _ _ _ _ = _; rw [upd_same, map_set_int]
theorem RoomAt.setR (h : RoomAt CR CK s L a c r) {i : Nat} (hi : i < s.n) (v : V) (es : List Ent) :
    RoomAt CR CK (s.up i { s.st i with row := es }) L a (updC c i { c i with rw := v }) ⟨upd r.m (a i) (.ins CK (c i).dx (putF "row" v (kf (s.st i).term (c i).rw (s.st i).leads (s.st i).settled (c i).al (c i).hl))), addF r.f v (rowD es)⟩ := by
  have k := h.at_ i hi
  refine h.put hi ⟨?_, .inr ⟨rfl, rfl⟩, ?_, ?_, k.ne⟩ (fun b o hb h1 h2 h3 => by show upd _ _ _ _ = _; rw [upd_ne h1]; exact hb) (fun _ _ h => .inl h) (.inl rfl) (.inl rfl)
  · show upd _ _ _ _ = _; rw [upd_same, kf_prow]
  · show upd _ _ _ _ = _; rw [upd_ne k.ne_al]; exact k.al
  · show upd _ _ _ _ = _; rw [upd_ne k.ne_hl]; exact k.hl
theorem RoomAt.setS (h : RoomAt CR CK s L a c r) {i : Nat} (hi : i < s.n) (x : Int) :
    RoomAt CR CK (s.up i { s.st i with settled := x }) L a (updC c i (c i)) ⟨upd r.m (a i) (.ins CK (c i).dx (putF "settled" (.int x) (kf (s.st i).term (c i).rw (s.st i).leads (s.st i).settled (c i).al (c i).hl))), addF r.f (.int x) (.int x)⟩ := by
  have k := h.at_ i hi
  refine h.put hi ⟨?_, .inl k.row, ?_, ?_, k.ne⟩ (fun b o hb h1 h2 h3 => by show upd _ _ _ _ = _; rw [upd_ne h1]; exact hb) (fun _ _ h => .inl h) (.inl rfl) (.inl rfl)
  · show upd _ _ _ _ = _; rw [upd_same, kf_psettled]
  · show upd _ _ _ _ = _; rw [upd_ne k.ne_al]; exact k.al
  · show upd _ _ _ _ = _; rw [upd_ne k.ne_hl]; exact k.hl
end
end Fw

/-! Two resources side by side; lists that a def changes for its caller. -/
namespace Fw
open PySem L2
def un (A B : Hp) : Hp := fun b => match A b with
  | some o => some o
  | none => B b
theorem un_some {A B : Hp} {b : Addr} {o : HO} (h : A b = some o) : un A B b = some o := by unfold un; rw [h]
theorem un_none {A B : Hp} {b : Addr} (h : A b = none) : un A B b = B b := by unfold un; rw [h]
def Rs {ρ1 ρ2 : Type} (R1 : ρ1 → Hp → Hp → Prop) (R2 : ρ2 → Hp → Hp → Prop) : ρ1 × ρ2 → Hp → Hp → Prop := fun r G M => ∃ M1 M2, (∀ b, M b = un M1 M2 b) ∧ (∀ b, M1 b ≠ none → M2 b = none) ∧ R1 r.1 G M1 ∧ R2 r.2 G M2
instance {ρ1 ρ2 : Type} {R1 : ρ1 → Hp → Hp → Prop} {R2 : ρ2 → Hp → Hp → Prop} [Stab R1] [Stab R2] : Stab (Rs R1 R2) := ⟨fun r G G' M s d ⟨M1, M2, h1, h2, h3, h4⟩ =>
  ⟨M1, M2, h1, h2, Stab.out _ G G' M1 s (fun b hb => d b (by
    rw [h1]
    cases z : M1 b with
    | none => exact absurd z hb
    | some o => rw [un_some z]; exact fun q => nomatch q)) h3, Stab.out _ G G' M2 s (fun b hb => d b (by
    rw [h1]
    cases z : M1 b with
    | none => rw [un_none z]; exact hb
    | some o => rw [un_some z]; exact fun q => nomatch q)) h4⟩⟩
theorem Rs.swap {ρ1 ρ2 : Type} {R1 : ρ1 → Hp → Hp → Prop} {R2 : ρ2 → Hp → Hp → Prop} {r1 : ρ1} {r2 : ρ2} {G M : Hp} (h : Rs R1 R2 (r1, r2) G M) : Rs R2 R1 (r2, r1) G M := by
  obtain ⟨M1, M2, h1, h2, h3, h4⟩ := h
  refine ⟨M2, M1, fun b => ?_, fun b hb => ?_, h4, h3⟩
  · rw [h1]
    cases z : M1 b with
    | none =>
      rw [un_none z]
      cases y : M2 b with
      | none => rw [un_none y, z]
      | some o => rw [un_some y]
    | some o => rw [un_some z, un_none (h2 b (by rw [z]; exact fun q => nomatch q)), z]
  · cases z : M1 b with
    | none => rfl
    | some o => exact absurd (h2 b (by rw [z]; exact fun q => nomatch q)) hb
theorem Wf.swap {ρ1 ρ2 : Type} {R1 : ρ1 → Hp → Hp → Prop} {R2 : ρ2 → Hp → Hp → Prop} {r1 : ρ1} {r2 : ρ2} {G M H : Hp} (w : Wf (Rs R1 R2) G M H (r1, r2)) : Wf (Rs R2 R1) G M H (r2, r1) := ⟨w.gh, w.mh, w.dj, w.res.swap⟩
/-- R within R' -/
structure Lift {ρ ρ' : Type} (R : ρ → Hp → Hp → Prop) (R' : ρ' → Hp → Hp → Prop) (g : ρ') (r : ρ) (put : ρ → ρ') : Prop where
  eq : put r = g
  fr : ∀ G M H, Wf R' G M H g → ∃ M1, (∀ b, M b = none → M1 b = none) ∧ Wf R G M1 H r ∧ ∀ G' M1' H' r', Stp G M1 H G' M1' H' → Wf R G' M1' H' r' → ∃ M', Stp G M H G' M' H' ∧ Wf R' G' M' H' (put r') ∧ ∀ b, H b = none → M1' b = none → M' b = none
theorem Lift.id {ρ : Type} {R : ρ → Hp → Hp → Prop} {r : ρ} : Lift R R r r (fun r => r) := ⟨rfl, fun G M H w => ⟨M, fun _ h => h, w, fun G' M' H' r' s w' => ⟨M', s, w', fun _ _ h => h⟩⟩⟩
theorem Lift.trans {ρ1 ρ2 ρ3 : Type} {R1 : ρ1 → Hp → Hp → Prop} {R2 : ρ2 → Hp → Hp → Prop} {R3 : ρ3 → Hp → Hp → Prop} {r1 : ρ1} {r2 : ρ2} {r3 : ρ3} {p : ρ1 → ρ2} {q : ρ2 → ρ3} (a : Lift R1 R2 r2 r1 p) (b : Lift R2 R3 r3 r2 q) : Lift R1 R3 r3 r1 (fun r => q (p r)) :=
  ⟨by rw [a.eq, b.eq], fun G M H w => by
    obtain ⟨M1, h1, w1, k1⟩ := b.fr G M H w
    obtain ⟨M2, h2, w2, k2⟩ := a.fr G M1 H w1
    refine ⟨M2, fun b h => h2 b (h1 b h), w2, fun G' M2' H' r' s w' => ?_⟩
    obtain ⟨M1', s1, w1', e1⟩ := k2 G' M2' H' r' s w'
    obtain ⟨M', s2, w2', e2⟩ := k1 G' M1' H' _ s1 w1'
    exact ⟨M', s2, w2', fun b hb h => e2 b hb (e1 b hb h)⟩⟩
theorem Lift.left {ρ1 ρ2 : Type} {R1 : ρ1 → Hp → Hp → Prop} {R2 : ρ2 → Hp → Hp → Prop} [Stab R2] {r1 : ρ1} {r2 : ρ2} : Lift R1 (Rs R1 R2) (r1, r2) r1 (fun r => (r, r2)) := ⟨rfl, fun G M H w => by
  obtain ⟨M1, M2, h1, h2, h3, h4⟩ := w.res
  have m1 : ∀ b o, M1 b = some o → M b = some o := fun b o z => by rw [h1, un_some z]
  have n1 : ∀ b, M b = none → M1 b = none := fun b z => by
    cases y : M1 b with
    | none => rfl
    | some o => rw [m1 b o y] at z; cases z
  have x1 : ∀ b o, M2 b = some o → M1 b = none := fun b o z => by
    cases y : M1 b with
    | none => rfl
    | some o' => have := h2 b (by rw [y]; exact fun q => nomatch q); rw [this] at z; cases z
  have m2 : ∀ b o, M2 b = some o → M b = some o := fun b o z => by rw [h1, un_none (x1 b o z)]; exact z
  have n2 : ∀ b, M b = none → M2 b = none := fun b z => by
    cases y : M2 b with
    | none => rfl
    | some o => rw [m2 b o y] at z; cases z
  refine ⟨M1, n1, ⟨w.gh, fun b o z => w.mh b o (m1 b o z), fun b hb => w.dj b fun z => hb (n1 b z), h3⟩, fun G' M1' H' r' s w' => ⟨un M1' M2, ⟨s.gg, s.th, fun b o hb z => s.fr b o hb (n1 b z), s.ng, fun b hb z => ?_⟩, ⟨w'.gh, fun b o z => ?_, fun b hb => ?_, M1', M2, fun _ => rfl, fun b hb => ?_, w'.res, ?_⟩, fun b hb z => ?_⟩⟩
  · rw [un_none (s.nm b hb (n1 b z))]; exact n2 b z
  · cases y : M1' b with
    | some o' => rw [un_some y] at z; exact w'.mh b o (by rw [y]; exact z)
    | none =>
      rw [un_none y] at z
      exact s.fr b o (w.mh b o (m2 b o z)) (x1 b o z)
  · cases y : M1' b with
    | some o' => exact w'.dj b (by rw [y]; exact fun q => nomatch q)
    | none =>
      rw [un_none y] at hb
      cases z : M2 b with
      | none => exact absurd z hb
      | some o =>
        have := m2 b o z
        exact s.ng b (some_ne (w.mh b o this)) (w.dj b (some_ne this))
  · cases z : M2 b with
    | none => rfl
    | some o => exact absurd (s.nm b (some_ne (w.mh b o (m2 b o z))) (x1 b o z)) hb
  · refine Stab.out _ G G' M2 s.gg (fun b hb => ?_) h4
    cases z : M2 b with
    | none => exact absurd z hb
    | some o =>
      have := m2 b o z
      exact s.ng b (some_ne (w.mh b o this)) (w.dj b (some_ne this))
  · rw [un_none z]
    cases y : M2 b with
    | none => rfl
    | some o => rw [w.mh b o (m2 b o y)] at hb; cases hb⟩
theorem Lift.right {ρ1 ρ2 : Type} {R1 : ρ1 → Hp → Hp → Prop} {R2 : ρ2 → Hp → Hp → Prop} [Stab R1] {r1 : ρ1} {r2 : ρ2} : Lift R2 (Rs R1 R2) (r1, r2) r2 (fun r => (r1, r)) := ⟨rfl, fun G M H w => by
  obtain ⟨M1, h1, w1, k⟩ := (Lift.left (R1 := R2) (R2 := R1) (r1 := r2) (r2 := r1)).fr G M H w.swap
  refine ⟨M1, h1, w1, fun G' M1' H' r' s w' => ?_⟩
  obtain ⟨M', s', w2, e⟩ := k G' M1' H' r' s w'
  exact ⟨M', s', w2.swap, e⟩⟩
theorem EnvO.less {K : PySem.W.Frag} {B G M M1 H : Hp} {σ : St} {e : SE} (v : EnvO K B G M H σ e) (h : ∀ b, M b = none → M1 b = none) : EnvO K B G M1 H σ e :=
  ⟨v.len, v.dat, fun i ds hi => by
    obtain ⟨l, vs, h1, h2, h3, h4, h5, h6⟩ := v.own i ds hi
    exact ⟨l, vs, h1, h2, h3, h _ h4, h5, h6⟩, v.sep⟩
section
variable {K : PySem.W.Frag} {ρ ρ' : Type} {R : ρ → Hp → Hp → Prop} {R' : ρ' → Hp → Hp → Prop} {e : SE} {r : ρ} {g : ρ'} {put : ρ → ρ'} {te : TE} {t : TT} {ds : List PyData} {d0 : PyData} {E : XK}
theorem EvX.lift {P : PyData → ρ → Prop} {PE : Value → ρ → Prop} (h : EvX K R E te e r P PE) (L : Lift R R' g r put) {P' : PyData → ρ' → Prop} {PE' : Value → ρ' → Prop} (k : ∀ d r', P d r' → P' d (put r')) (kx : ∀ c r', PE c r' → PE' c (put r')) : EvX K R' E te e g P' PE' := fun B σ G M H v w Q q qe => by
  obtain ⟨M1, h1, w1, kk⟩ := L.fr G M H w
  refine h B σ G M1 H (v.less h1) w1 Q (fun x d r' G' M1' H' p s w' hx => ?_) fun c r' G' M1' H' p s w' => ?_
  · obtain ⟨M', s', w2, _⟩ := kk G' M1' H' r' s w'
    exact q x d _ G' M' H' (k d r' p) s' w2 hx
  · obtain ⟨M', s', w2, _⟩ := kk G' M1' H' r' s w'
    exact qe c _ G' M' H' (kx c r' p) s' w2
theorem EvXF.lift {P : List PyData → ρ → Prop} {PE : Value → ρ → Prop} (h : EvXF K R E te e r P PE) (L : Lift R R' g r put) {P' : List PyData → ρ' → Prop} {PE' : Value → ρ' → Prop} (k : ∀ d r', P d r' → P' d (put r')) (kx : ∀ c r', PE c r' → PE' c (put r')) : EvXF K R' E te e g P' PE' := fun B σ G M H v w Q q qe => by
  obtain ⟨M1, h1, w1, kk⟩ := L.fr G M H w
  refine h B σ G M1 H (v.less h1) w1 Q (fun l vs ds r' G' M1' H' p s w' g1 g2 g3 g4 g5 => ?_) fun c r' G' M1' H' p s w' => ?_
  · obtain ⟨M', s', w2, n⟩ := kk G' M1' H' r' s w'
    exact q l vs ds _ G' M' H' (k ds r' p) s' w2 g1 g2 (n l g1 g3) g4 g5
  · obtain ⟨M', s', w2, _⟩ := kk G' M1' H' r' s w'
    exact qe c _ G' M' H' (kx c r' p) s' w2
theorem EvS.lift {P : PyData → ρ → Prop} (h : EvS K R te e r P) (L : Lift R R' g r put) {P' : PyData → ρ' → Prop} (k : ∀ d r', P d r' → P' d (put r')) : EvS K R' te e g P' := fun B σ G M H v w Q q => by
  obtain ⟨M1, h1, w1, kk⟩ := L.fr G M H w
  refine h B σ G M1 H (v.less h1) w1 Q fun x d r' G' M1' H' p s w' hx => ?_
  obtain ⟨M', s', w2, _⟩ := kk G' M1' H' r' s w'
  exact q x d _ G' M' H' (k d r' p) s' w2 hx
theorem EvD.lift (h : EvD K R te e r d0) (L : Lift R R' g r put) : EvD K R' te e g d0 := EvS.lift h L fun d r' ⟨e1, e2⟩ => ⟨e1, by rw [e2, L.eq]⟩
theorem EvTS.lift {P : Bool → ρ → Prop} (h : EvTS K R t e r P) (L : Lift R R' g r put) {P' : Bool → ρ' → Prop} (k : ∀ d r', P d r' → P' d (put r')) : EvTS K R' t e g P' := fun B σ G M H v w Q q => by
  obtain ⟨M1, h1, w1, kk⟩ := L.fr G M H w
  refine h B σ G M1 H (v.less h1) w1 Q fun b r' G' M1' H' p s w' => ?_
  obtain ⟨M', s', w2, _⟩ := kk G' M1' H' r' s w'
  exact q b _ G' M' H' (k b r' p) s' w2
theorem EvX.of {P : PyData → ρ → Prop} {PE : Value → ρ → Prop} (h : EvS K R te e r P) : EvX K R E te e r P PE := fun B σ G M H v w Q q _ => h B σ G M H v w Q q
end
section
variable {K : PySem.W.Frag} {ρ' : Type} {R' : ρ' → Hp → Hp → Prop} {e : SE} {r : MF} {g : ρ'} {put : MF → ρ'} {ta tb te : TE} {ds : List PyData} {d : PyData} {l : Addr} {xs : List V}
/-- a new list that stays one's own, in M -/
def factsOf (f : V → PyData → Prop) (vs : List V) (ds : List PyData) : V → PyData → Prop := fun v d => f v d ∨ ∃ j : Nat, vs[j]? = some v ∧ ds[j]? = some d
theorem EvF.toM (h : EvF K (Rmf K) te e r ds) : EvS K (Rmf K) te e r (fun d r' => ∃ l vs, d = objD l ∧ r.m l = none ∧ vs.length = ds.length ∧ (∃ G, RpAll K G vs ds) ∧ r' = ⟨upd r.m l (.lst vs), factsOf r.f vs ds⟩) := fun B σ G M H v w Q q =>
  h B σ G M H v w Q fun l vs G' M' H' s w' h1 h2 h3 h4 h5 => by
    have hM : M' = r.m := w'.res.1
    have w2 := w'.toM h4 h2
    refine q (.ref l) (objD l) ⟨upd r.m l (.lst vs), factsOf r.f vs ds⟩ G' _ H' ⟨l, vs, rfl, by rw [← hM]; exact h3, h5.length, ⟨G', h5⟩, rfl⟩ (s.toM h1 (.lst vs)) ⟨w2.gh, w2.mh, w2.dj, w2.res.1, fun x y hf => ?_⟩ .obj
    rcases hf with hf | ⟨j, j1, j2⟩
    · exact w'.res.2 x y hf
    · obtain ⟨d', e1, e2⟩ := h5.of_get j1
      rw [j2] at e1
      cases e1
      exact e2
theorem ev_lenM (h : EvD K (Rmf K) ta e r (objD l)) (hm : r.m l = some (.lst xs)) : EvD K (Rmf K) (tCB (rLenS K) (tCons ta tNil)) e r (.int (xs.length : Int)) := fun B σ G M H v w Q q =>
  h B σ G M H v w _ fun x d' r' G1 M1 H1 ⟨e1, e2⟩ s1 w1 hx => by
    subst e1 e2
    exact ⟨l, xs, by rw [hx.obj_inv], .inl (SqL.of (w1.at hm)), q _ _ _ G1 M1 H1 ⟨rfl, rfl⟩ s1 w1 (.int _)⟩
/-- x[j] = e, x a list in M -/
theorem sp_setM {P : Post ρ'} {E : XK} {j : Int} {n : Nat} (L : Lift (Rmf K) R' g r put) (h : EvD K R' te e g d) (ho : EvD K R' ta e g (objD l)) (hj : EvD K R' tb e g (.int j)) (hm : r.m l = some (.lst xs)) (hn : ixN xs.length j = some n)
    (k : ∀ v, (∃ G, Rp K G v d) → P.nx e (put ⟨upd r.m l (.lst (xs.set n v)), addF r.f v d⟩)) : SP K R' E (tAsg te (gSub ta tb rSetL)) e g P := fun G0 M0 H0 σ G M H D s ve w q =>
  h H0 σ G M H ve w _ fun v d' r' G1 M1 H1 ⟨e1, e2⟩ s1 w1 hv => by
    subst e1 e2
    refine ho H0 σ G1 M1 H1 (ve.step s1) w1 _ fun x d2 r2 G2 M2 H2 ⟨e1, e2⟩ s2 w2 hx => ?_
    subst e1 e2
    refine hj H0 σ G2 M2 H2 ((ve.step s1).step s2) w2 _ fun y d3 r3 G3 M3 H3 ⟨e1, e2⟩ s3 w3 hy => ?_
    subst e1 e2
    obtain ⟨M4, n4, w4, k4⟩ := L.fr G3 M3 H3 w3
    have hM : M4 = r.m := w4.res.1
    refine ⟨l, xs, j, n, hx.obj_inv, hy.int_inv, w4.at hm, hn, ?_⟩
    have st : Stp G3 M4 H3 G3 (upd M4 l (.lst (xs.set n v))) (upd H3 l (.lst (xs.set n v))) := Stp.mutM ⟨_, by rw [hM]; exact hm⟩ w4.mh _
    have hv3 : Rp K G3 v d' := hv.mono (s2.gg.trans s3.gg)
    obtain ⟨M5, s5, w5, _⟩ := k4 _ _ _ ⟨upd r.m l (.lst (xs.set n v)), addF r.f v d'⟩ st (w4.mutM hm _ fun x y hf => by
      rcases hf with hf | ⟨e1, e2⟩
      · exact w4.res.2 x y hf
      · rw [e1, e2]; exact hv3)
    have s6 := ((s1.trans s2).trans s3).trans s5
    exact q.nx e _ σ G3 _ _ (k v ⟨_, hv3⟩) (s.trans s6) (ve.step s6) w5
/-- x.append(e), x a list in M -/
theorem sp_appM {P : Post ρ'} {E : XK} (L : Lift (Rmf K) R' g r put) (ho : EvD K R' ta e g (objD l)) (h : EvD K R' te e g d) (hm : r.m l = some (.lst xs)) (hz : xs.length < sizeLine)
    (k : ∀ v, (∃ G, Rp K G v d) → P.nx e (put ⟨upd r.m l (.lst (xs ++ [v])), addF r.f v d⟩)) : SP K R' E (tDrop (tBM K "list" rAppend ta (tCons te tNil))) e g P := fun G0 M0 H0 σ G M H D s ve w q =>
  ho H0 σ G M H ve w _ fun x d2 r2 G1 M1 H1 ⟨e1, e2⟩ s1 w1 hx => by
    subst e1 e2
    obtain ⟨M7, n7, w7, _⟩ := L.fr G1 M1 H1 w1
    rw [hx.obj_inv]
    refine ⟨.inl ⟨rfl, xs, SqL.of (w7.at hm)⟩, h H0 σ G1 M1 H1 (ve.step s1) w1 _ fun v d' r' G2 M2 H2 ⟨e1, e2⟩ s2 w2 hv => ?_⟩
    subst e1 e2
    obtain ⟨M4, n4, w4, k4⟩ := L.fr G2 M2 H2 w2
    have hM : M4 = r.m := w4.res.1
    refine ⟨l, xs, v, rfl, rfl, w4.at hm, hz, ?_⟩
    have st : Stp G2 M4 H2 G2 (upd M4 l (.lst (xs ++ [v]))) (upd H2 l (.lst (xs ++ [v]))) := Stp.mutM ⟨_, by rw [hM]; exact hm⟩ w4.mh _
    obtain ⟨M5, s5, w5, _⟩ := k4 _ _ _ ⟨upd r.m l (.lst (xs ++ [v])), addF r.f v d'⟩ st (w4.mutM hm _ fun x y hf => by
      rcases hf with hf | ⟨e1, e2⟩
      · exact w4.res.2 x y hf
      · rw [e1, e2]; exact hv)
    have s6 := (s1.trans s2).trans s5
    exact q.nx e _ σ G2 _ _ (k v ⟨_, hv⟩) (s.trans s6) (ve.step s6) w5
end
/-- Room(n) -/
theorem ev_room {K : PySem.W.Frag} {CR CK : Addr} {e : SE} {t : TA} {n : Int} {E : XK} {SpI : Sp} (hI : SpI = spX K (Rmf K) (fun a : Addr × Int => [objD a.1, .int a.2]) (fun a r => (∃ dx, r.m a.1 = some (.ins CR dx [])) ∧ 1 ≤ a.2 ∧ a.2 ≤ 9)
    (fun a r d r' => d = .none ∧ ∃ L b c, RoomAt CR CK ⟨a.1, a.2.toNat, fun _ => {}⟩ L b c r') (fun _ _ _ _ => False)) (h : ∀ r, EvA K (Rmf K) t e r [.int n]) (h1 : 1 ≤ n) (h2 : n ≤ 9) :
    EvS K (RO K CR CK) (tMake CR SpI [] E t) e none (fun d r' => ∃ p, d = objD p ∧ r' = some ⟨p, n.toNat, fun _ => {}⟩) := fun B σ G M H v w Q q => by
  subst hI
  have w0 : Wf (Rmf K) G M H ⟨M, fun _ _ => False⟩ := ⟨w.gh, w.mh, w.dj, rfl, fun _ _ z => z.elim⟩
  refine (evx_make (r := ⟨M, fun _ _ => False⟩) (P := fun d r' => ∃ p, d = objD p ∧ ∃ L b c, RoomAt CR CK ⟨p, n.toNat, fun _ => {}⟩ L b c r') (PE := fun _ _ => False) (h _) fun x dx hx => ⟨(x, n), rfl, ⟨⟨dx, upd_same⟩, h1, h2⟩, ?_, fun _ _ z => z⟩).s (fun _ _ z => z) B σ G M H v w0 Q ?_
  · rintro d r' ⟨e1, h⟩
    exact ⟨e1, x, rfl, h⟩
  · rintro y d r' G' M' H' ⟨p, rfl, L, b, c, h⟩ s w' hy
    exact q y _ (some ⟨p, n.toNat, fun _ => {}⟩) G' M' H' ⟨p, rfl, rfl⟩ s ⟨w'.gh, w'.mh, w'.dj, L, b, c, r', w'.res, h⟩ hy
end Fw

/-! What the room laws share, in plain Lean. -/
namespace Fw
open PySem L2
def rgI (n : Nat) : List Int := (List.range n).map fun (k : Nat) => (k : Int)
def osD (os : List Int) : PyData := .list (os.map .int)
def intOf : PyData → Int
  | .int i => i
  | _ => 0
theorem rgI_D (n : Nat) : (rgI n).map PyData.int = rgD n := by unfold rgI rgD; rw [List.map_map]; rfl
theorem rgI_mem {n : Nat} {k : Int} (h : k ∈ rgI n) : 0 ≤ k ∧ k < n := by
  obtain ⟨j, hj, rfl⟩ := List.mem_map.mp h
  have := List.mem_range.mp hj
  omega
theorem rgI_len (n : Nat) : (rgI n).length = n := by unfold rgI; rw [List.length_map, List.length_range]
theorem lcOut_ints (p : PyData → Bool) (g : Int → Int) (is : List Int) : lcOut p (fun d => .int (g (intOf d))) (is.map .int) = (((is.filter fun k => p (.int k)).map g)).map .int := by
  unfold lcOut
  rw [List.filter_map, List.map_map, List.map_map]
  rfl
/-- numbers drawn one after the other -/
def drawnF (x : Int × List Int) (z : Int) : Int × List Int := (x.1 / z, x.2 ++ [x.1 % z])
def drawnL (n : Int) (zs : List Int) : List Int := (zs.foldl drawnF (n, [])).2
def pw9 : List PyData := [.int 1, .int 2, .int 4, .int 8, .int 16, .int 32, .int 64, .int 128, .int 256]
theorem pw9_at {k : Int} (h0 : 0 ≤ k) (h1 : k < 9) : ∃ x, L2.atI pw9 k = some (.int x) ∧ 0 < x ∧ x < 1073741824 := by
  have : k = 0 ∨ k = 1 ∨ k = 2 ∨ k = 3 ∨ k = 4 ∨ k = 5 ∨ k = 6 ∨ k = 7 ∨ k = 8 := by omega
  rcases this with rfl | rfl | rfl | rfl | rfl | rfl | rfl | rfl | rfl
  all_goals exact ⟨_, rfl, by decide, by decide⟩
def bitD (bits : Int) (d : PyData) : Bool := match L2.atI pw9 (intOf d) with
  | some (.int x) => decide (bits / x % 2 = 1)
  | _ => false
/-- lists by place -/
def tl (n : Nat) (t : Nat → Int) : List V := (List.range n).map fun i => .int (t i)
def bl (n : Nat) (b : Nat → Bool) : List V := (List.range n).map fun i => .bl (b i)
def updN {β : Type} (f : Nat → β) (i : Nat) (x : β) : Nat → β := fun j => if j = i then x else f j
theorem updN_same {β : Type} {f : Nat → β} {i : Nat} {x : β} : updN f i x i = x := by unfold updN; rw [if_pos rfl]
theorem updN_ne {β : Type} {f : Nat → β} {i j : Nat} {x : β} (h : j ≠ i) : updN f i x j = f j := by unfold updN; rw [if_neg h]
theorem rgm_set {β γ : Type} (g : β → γ) (n i : Nat) (f : Nat → β) (x : β) : ((List.range n).map fun j => g (f j)).set i (g x) = (List.range n).map fun j => g (updN f i x j) := by
  refine List.ext_getElem? fun j => ?_
  rw [List.getElem?_set, List.getElem?_map, List.getElem?_map]
  by_cases h : i = j
  · subst h
    rw [if_pos rfl, List.length_map, List.length_range]
    by_cases hi : i < n
    · rw [if_pos hi, List.getElem?_range hi]
      show _ = some (g (updN f i x i))
      rw [updN_same]
    · rw [if_neg hi, List.getElem?_eq_none (by rw [List.length_range]; omega)]; rfl
  · rw [if_neg h]
    cases z : (List.range n)[j]? with
    | none => rfl
    | some k =>
      have hk : k = j := by
        obtain ⟨h1, h2⟩ := List.getElem?_eq_some_iff.mp z
        rw [← h2, List.getElem_range]
      show some (g (f k)) = some (g (updN f i x k))
      rw [updN_ne (by omega)]
theorem rgm_at {γ : Type} (f : Nat → γ) {n : Nat} {k : Int} (h0 : 0 ≤ k) (h1 : k < n) : L2.atI ((List.range n).map f) k = some (f k.toNat) := by
  have e : k = (k.toNat : Int) := by omega
  have := atI_nat (xs := (List.range n).map f) (j := k.toNat) (v := f k.toNat) (by rw [List.getElem?_map, List.getElem?_range (by omega)]; rfl)
  rw [← e] at this
  exact this
theorem ixN_rgm {f : Nat → V} {n : Nat} {k : Int} (h0 : 0 ≤ k) (h1 : k < n) : ixN ((List.range n).map f).length k = some k.toNat := by
  unfold ixN
  rw [List.length_map, List.length_range, if_pos h0, if_pos h1]
/-- k06's own lists -/
structure TL (lt ll : Addr) (n : Nat) (t : Nat → Int) (b : Nat → Bool) (r : MF) : Prop where
  t : r.m lt = some (.lst (tl n t))
  b : r.m ll = some (.lst (bl n b))
  ne : lt ≠ ll
theorem TL.setT {lt ll : Addr} {n : Nat} {t : Nat → Int} {b : Nat → Bool} {r : MF} (h : TL lt ll n t b r) (i : Nat) (x : Int) (f : V → PyData → Prop) : TL lt ll n (updN t i x) b ⟨upd r.m lt (.lst ((tl n t).set i (.int x))), f⟩ :=
  ⟨by show upd _ _ _ _ = _; rw [upd_same]; unfold tl; rw [rgm_set V.int], by show upd _ _ _ _ = _; rw [upd_ne h.ne.symm]; exact h.b, h.ne⟩
theorem TL.setB {lt ll : Addr} {n : Nat} {t : Nat → Int} {b : Nat → Bool} {r : MF} (h : TL lt ll n t b r) (i : Nat) (x : Bool) (f : V → PyData → Prop) : TL lt ll n t (updN b i x) ⟨upd r.m ll (.lst ((bl n b).set i (.bl x))), f⟩ :=
  ⟨by show upd _ _ _ _ = _; rw [upd_ne h.ne]; exact h.t, by show upd _ _ _ _ = _; rw [upd_same]; unfold bl; rw [rgm_set V.bl], h.ne⟩
def ask1 (k : Nat) (x : (Nat → KS) × Int) (o : Int) : (Nat → KS) × Int :=
  (updS x.1 o.toNat ((x.1 o.toNat).hear (x.1 k).term), if decide ((x.1 o.toNat).term < (x.1 k).term) && asNew (x.1 k).row (x.1 o.toNat).row then x.2 + 1 else x.2)
theorem askAll_fold (k : Nat) (os : List Int) : ∀ st v, askAll st k os v = os.foldl (ask1 k) (st, v) := by
  induction os with
  | nil => intro st v; rfl
  | cons o os ih => intro st v; exact ih _ _
theorem askAll_row (k : Nat) (os : List Int) : ∀ st v i, ((askAll st k os v).1 i).row = (st i).row := by
  induction os with
  | nil => intro st v i; rfl
  | cons o os ih =>
    intro st v i
    show ((askAll _ k os _).1 i).row = _
    rw [ih]
    unfold updS
    split
    · rename_i h; rw [hear_row, h]
    · rfl
theorem foldl_take_succ {α β : Type} (f : β → α → β) (b : β) (xs : List α) {i : Nat} {x : α} (h : xs[i]? = some x) : (xs.take (i + 1)).foldl f b = f ((xs.take i).foldl f b) x := by
  rw [List.take_add_one, h, List.foldl_append]; rfl
end Fw
namespace Fw
open PySem L2
theorem askAll_settled (k : Nat) (os : List Int) : ∀ st v i, ((askAll st k os v).1 i).settled = (st i).settled := by
  induction os with
  | nil => intro st v i; rfl
  | cons o os ih =>
    intro st v i
    show ((askAll _ k os _).1 i).settled = _
    rw [ih]
    unfold updS
    split
    · rename_i h
      unfold KS.hear
      split
      · rw [h]
      · rw [h]
    · rfl
theorem stand1_row (st : Nat → KS) (k i : Nat) : (stand1 st k i).row = (st i).row := by
  unfold stand1 updS
  split
  · rename_i h; rw [hear_row, h]
  · rfl
theorem stand1_settled (st : Nat → KS) (k i : Nat) : (stand1 st k i).settled = (st i).settled := by
  unfold stand1 updS
  split
  · rename_i h
    unfold KS.hear
    split
    · rw [h]
    · rw [h]
  · rfl
theorem standSt_row (n : Nat) (st : Nat → KS) (k : Nat) (os : List Int) (i : Nat) : (standSt n st k os i).row = (st i).row := by
  unfold standSt
  split
  · by_cases h : i = k
    · rw [h, updS_same]
      show ((askAll (stand1 st k) k os 1).1 k).row = _
      rw [askAll_row, stand1_row]
    · rw [updS_ne h, askAll_row, stand1_row]
  · rw [askAll_row, stand1_row]
theorem standSt_settled (n : Nat) (st : Nat → KS) (k : Nat) (os : List Int) (i : Nat) : (standSt n st k os i).settled = (st i).settled := by
  unfold standSt
  split
  · by_cases h : i = k
    · rw [h, updS_same]
      show ((askAll (stand1 st k) k os 1).1 k).settled = _
      rw [askAll_settled, stand1_settled]
    · rw [updS_ne h, askAll_settled, stand1_settled]
  · rw [askAll_settled, stand1_settled]
theorem flat_rep {α : Type} (n : Nat) (x : α) : (List.replicate n [x]).flatten = List.replicate n x := by
  induction n with
  | zero => rfl
  | succ n ih => rw [List.replicate_succ, List.replicate_succ, List.flatten_cons, ih]; rfl
theorem RpAll.rep_int {K : PySem.W.Frag} {G : Hp} {x : Int} : ∀ {n : Nat} {vs : List V}, RpAll K G vs (List.replicate n (.int x)) → vs = List.replicate n (.int x)
  | 0, vs, h => h.nil_inv
  | n + 1, vs, h => by
    rw [List.replicate_succ] at h
    obtain ⟨v, ws, rfl, h1, h2⟩ := h.cons_inv
    rw [h1.int_inv, rep_int h2, List.replicate_succ]
theorem RpAll.rep_bool {K : PySem.W.Frag} {G : Hp} {x : Bool} : ∀ {n : Nat} {vs : List V}, RpAll K G vs (List.replicate n (.bool x)) → vs = List.replicate n (.bl x)
  | 0, vs, h => h.nil_inv
  | n + 1, vs, h => by
    rw [List.replicate_succ] at h
    obtain ⟨v, ws, rfl, h1, h2⟩ := h.cons_inv
    rw [h1.bl_inv, rep_bool h2, List.replicate_succ]
theorem tl_rep (n : Nat) (x : Int) : tl n (fun _ => x) = List.replicate n (.int x) := by
  unfold tl
  induction n with
  | zero => rfl
  | succ n ih => rw [List.range_succ, List.map_append, ih, List.replicate_succ']; rfl
theorem bl_rep (n : Nat) (x : Bool) : bl n (fun _ => x) = List.replicate n (.bl x) := by
  unfold bl
  induction n with
  | zero => rfl
  | succ n ih => rw [List.range_succ, List.map_append, ih, List.replicate_succ']; rfl
end Fw

/-! try .. except; deeds. -/
namespace Fw
open PySem L2
theorem env_hid {K : PySem.W.Frag} {B G M H : Hp} (σ : St) : EnvO K B G M H σ (List.replicate σ.length .hid) := by
  have no : ∀ (i : Nat) x, (List.replicate σ.length Sk.hid)[i]? = some x → x = .hid := fun i x h => (List.mem_replicate.mp (List.mem_of_getElem? h)).2
  exact ⟨by rw [List.length_replicate], fun i d h => (by cases no i _ h), fun i ds h => (by cases no i _ h), fun i j ds es l h => (by cases no i _ h)⟩
def tTry (K : PySem.W.Frag) (C : Value) (tb : WX → TS) (ts : Addr → Value → Option Addr → TS) (Wout : WX) : TS := fun D σ H => tb (wOnly K C ts Wout D) D σ H
theorem ps_tryO {X : Cx} {x : Str} {c : Value} {body suite : List Stmt} {b₀ : Stmt} {np pos pos' : Pos} {tb : WX → TS} {ts : Addr → Value → Option Addr → TS} {Wout : WX} (hs : X.stack = X.env :: X.outer) (hf : X.env.frame = some X.env.locals) (hc : Names X x c) (tk : Takes X Wout)
    (hb : ∀ (W : WX) (pn : List (Addr × Obj)) (xe : Value → Shared → Prop), Takes (X.tr pn xe) W → PassesOwn (model X.prog X.w) X.A X.env xe → PSs (X.tr pn xe) body (tb W))
    (hsu : ∀ (a : Addr) (oe : Obj) (cls : Value) (d : Option Addr) (pn : List (Addr × Obj)), Zc cls d oe → (∃ vs, oe.data = .fields vs) → PSs (X.suite a ((a, oe) :: pn)) (b₀ :: suite) (ts a cls d)) :
    PS X (.Try body [.ExceptHandler (some (.Name x np)) none (b₀ :: suite) pos'] [] [] pos) (tTry X.K c tb ts Wout) := ps_try_only hs hf hc tk hb hsu
theorem sp_try {K : PySem.W.Frag} {ρ : Type} {R : ρ → Hp → Hp → Prop} {e : SE} {r : ρ} {P : Post ρ} {E : XK} {tb : WX → TS} {ts : Addr → Value → Option Addr → TS} {C : Value} {Wout : WX} (PE : Value → ρ → Prop)
    (h : ∀ W : WX, SP K R (fun cls d H => ∀ σ, W cls d σ H) (tb W) e r { P with ex := PE })
    (hx : ∀ c r', PE c r' → PySem.W.exmOne K c C = some true ∧ ∀ a n, SP K R E (ts a c none) (List.replicate n .hid) r' P) : SP K R E (tTry K C tb ts Wout) e r P := fun G0 M0 H0 σ G M H D s v w q =>
  h (wOnly K C ts Wout D) G0 M0 H0 σ G M H D s v w ⟨q.nx, q.rt, q.bk, q.ct, fun c r' G' M' H' p s' w' σ' => ⟨true, (hx c r' p).1, fun _ a _ => (hx c r' p).2 a σ'.length G0 M0 H0 σ' G' M' H' D s' (env_hid σ') w' q, fun z => nomatch z⟩, q.fr⟩
inductive Deed
  | stand (k : Int) (os : List Int)
  | rest (k : Int)
  | write (k : Int) (w : Str)
  | hand (k o many : Int)
  | settle (k : Int)
def deedD : Deed → PyData
  | .stand k os => .list [.str "stand", .int k, osD os]
  | .rest k => .list [.str "rest", .int k]
  | .write k w => .list [.str "write", .int k, .str w]
  | .hand k o many => .list [.str "hand", .int k, .int o, .int many]
  | .settle k => .list [.str "settle", .int k]
def strOkW (w : Str) : Prop := rowOk [(0, w)]
def DeedOk (n : Nat) : Deed → Prop
  | .stand k os => (0 ≤ k ∧ k < n) ∧ os.length ≤ 1000 ∧ ∀ o, o ∈ os → 0 ≤ o ∧ o < n
  | .rest k => 0 ≤ k ∧ k < n
  | .write k w => (0 ≤ k ∧ k < n) ∧ strOkW w
  | .hand k o many => (0 ≤ k ∧ k < n) ∧ (0 ≤ o ∧ o < n) ∧ o ≠ k ∧ 0 ≤ many
  | .settle k => 0 ≤ k ∧ k < n
def Deed.who : Deed → Int
  | .stand k _ => k
  | .rest k => k
  | .write k _ => k
  | .hand k _ _ => k
  | .settle k => k
def doS (s : RSt) : Deed → RSt
  | .stand k os => s.stand k.toNat os
  | .rest k => s.rest k.toNat
  | .write k w => if (s.st k.toNat).leads = true then s.write k.toNat w else s
  | .hand k o many => if (s.st k.toNat).leads = true then s.hand k.toNat o.toNat many else s
  | .settle k => if (s.st k.toNat).leads = true then s.settle k.toNat else s
def doT (s : RSt) : Deed → PyData
  | .stand k os => .bool ((s.stand k.toNat os).st k.toNat).leads
  | .rest _ => .none
  | .write k _ => if (s.st k.toNat).leads = true then .int ((s.st k.toNat).row.length : Int) else .none
  | .hand k o _ => if (s.st k.toNat).leads = true then .bool (handTold s.st k.toNat o.toNat) else .none
  | .settle k => if (s.st k.toNat).leads = true then .int ((s.st k.toNat).settleN k.toNat) else .none
end Fw
namespace Fw
open PySem L2
def mixedBy (ns : List Int) (k t : Int) : Int := let n := (cellAt ns k + 104729 * k) * t % 2147483647; (n * n + 5 * n + k) % 2147483629
def cnt13 : List PyData := [.int 1, .int 2, .int 3, .int 3, .int 4, .int 5, .int 5, .int 5, .int 5, .int 6, .int 7, .int 8, .int 9]
theorem cnt13_at {k : Int} (h0 : 0 ≤ k) (h1 : k < 13) : ∃ x, L2.atI cnt13 k = some (.int x) ∧ 1 ≤ x ∧ x ≤ 9 := by
  have : k = 0 ∨ k = 1 ∨ k = 2 ∨ k = 3 ∨ k = 4 ∨ k = 5 ∨ k = 6 ∨ k = 7 ∨ k = 8 ∨ k = 9 ∨ k = 10 ∨ k = 11 ∨ k = 12 := by omega
  rcases this with rfl | rfl | rfl | rfl | rfl | rfl | rfl | rfl | rfl | rfl | rfl | rfl | rfl
  all_goals exact ⟨_, rfl, by decide, by decide⟩
theorem beside_ne {n k j : Int} (hk0 : 0 ≤ k) (hk1 : k < n) (hj0 : 0 ≤ j) (hj1 : j < n - 1) : (k + 1 + j) % n ≠ k := by
  intro h
  by_cases c : k + 1 + j < n
  · rw [Int.emod_eq_of_lt (by omega) c] at h; omega
  · have e : (k + 1 + j) % n = (k + 1 + j - n) % n := by rw [Int.sub_emod_right]
    rw [e, Int.emod_eq_of_lt (by omega) (by omega)] at h; omega
/-- a list of deeds, all good -/
def DsOk (n : Nat) (ds : List Deed) : Prop := ∀ d, d ∈ ds → DeedOk n d
theorem DsOk.nil {n : Nat} : DsOk n [] := fun _ h => nomatch h
theorem DsOk.append {n : Nat} {a b : List Deed} (h : DsOk n a) (g : DsOk n b) : DsOk n (a ++ b) := fun d hd => (List.mem_append.mp hd).elim (h d) (g d)
theorem DsOk.one {n : Nat} {d : Deed} (h : DeedOk n d) : DsOk n [d] := fun x hx => by rw [List.mem_singleton.mp hx]; exact h
theorem DsOk.cons {n : Nat} {d : Deed} {ds : List Deed} (h : DeedOk n d) (g : DsOk n ds) : DsOk n (d :: ds) := fun x hx => by
  rcases List.mem_cons.mp hx with rfl | hx
  · exact h
  · exact g x hx
theorem DsOk.rep {n : Nat} {d : Deed} (h : DeedOk n d) (k : Nat) : DsOk n (List.replicate k d) := fun x hx => by rw [(List.mem_replicate.mp hx).2]; exact h
theorem DsOk.sub {n : Nat} {a b : List Deed} (h : DsOk n b) (s : ∀ x, x ∈ a → x ∈ b) : DsOk n a := fun d hd => h d (s d hd)
theorem rep_deed (k : Nat) (d : Deed) : (List.replicate k [deedD d]).flatten = (List.replicate k d).map deedD := by rw [flat_rep, List.map_replicate]
theorem cutD_mem {α : Type} {xs : List α} {lo hi : Option Int} {x : α} (h : x ∈ cutD xs lo hi) : x ∈ xs := by
  unfold cutD at h
  exact List.mem_of_mem_drop (List.mem_of_mem_take h)
theorem cutD_len {α : Type} {xs : List α} {lo hi : Option Int} : (cutD xs lo hi).length ≤ xs.length := by
  unfold cutD
  rw [List.length_take, List.length_drop]; omega
theorem cutD_map {α β : Type} (f : α → β) (xs : List α) (lo hi : Option Int) : cutD (xs.map f) lo hi = (cutD xs lo hi).map f := by
  unfold cutD
  rw [List.length_map, ← List.map_drop, ← List.map_take]
theorem osD_in {n : Nat} : osD (rgI n) = .list (rgD n) := by unfold osD; rw [rgI_D]
end Fw
namespace Fw
open PySem L2
def bigI : Int := 100000000000000000000
theorem bigI_nn : 0 ≤ bigI := by decide
theorem bigI_eq : (10 : Int) ^ (20 : Int).toNat = bigI := by decide
section
variable {K : PySem.W.Frag} {ρ : Type} {R : ρ → Hp → Hp → Prop} [Stab R] {e : SE} {r : ρ} {ta tb tc te : TE}
theorem ev_handD {k o many : Int} (h1 : EvD K R ta e r (.int k)) (h2 : EvD K R tb e r (.int o)) (h3 : EvD K R tc e r (.int many)) : EvD K R (tLst (tCons (tC (.str "hand")) (tCons ta (tCons tb (tCons tc tNil))))) e r (deedD (.hand k o many)) :=
  ev_lst (ea_cons ev_str (ea_cons h1 (ea_cons h2 (ea_cons h3 ea_nil)))) (by show 4 ≤ sizeLine; decide)
theorem ev_standD {k : Int} {os : List Int} (h1 : EvD K R ta e r (.int k)) (h2 : EvD K R tb e r (osD os)) : EvD K R (tLst (tCons (tC (.str "stand")) (tCons ta (tCons tb tNil)))) e r (deedD (.stand k os)) :=
  ev_lst (ea_cons ev_str (ea_cons h1 (ea_cons h2 ea_nil))) (by show 3 ≤ sizeLine; decide)
theorem ev_writeD {k : Int} {w : Str} (h1 : EvD K R ta e r (.int k)) (h2 : EvD K R tb e r (.str w)) : EvD K R (tLst (tCons (tC (.str "write")) (tCons ta (tCons tb tNil)))) e r (deedD (.write k w)) :=
  ev_lst (ea_cons ev_str (ea_cons h1 (ea_cons h2 ea_nil))) (by show 3 ≤ sizeLine; decide)
theorem ev_restD {k : Int} (h1 : EvD K R ta e r (.int k)) : EvD K R (tLst (tCons (tC (.str "rest")) (tCons ta tNil))) e r (deedD (.rest k)) :=
  ev_lst (ea_cons ev_str (ea_cons h1 ea_nil)) (by show 2 ≤ sizeLine; decide)
theorem ev_settleD {k : Int} (h1 : EvD K R ta e r (.int k)) : EvD K R (tLst (tCons (tC (.str "settle")) (tCons ta tNil))) e r (deedD (.settle k)) :=
  ev_lst (ea_cons ev_str (ea_cons h1 ea_nil)) (by show 2 ≤ sizeLine; decide)
/-- [d] -/
theorem ev_oneD {d : Deed} (h : EvD K R te e r (deedD d)) : EvD K R (tLst (tCons te tNil)) e r (.list ([d].map deedD)) := ev_lst (ea_cons h ea_nil) (by show 1 ≤ sizeLine; decide)
/-- [d] * n -/
theorem ev_repD {d : Deed} {n : Int} (h : EvD K R te e r (deedD d)) (hn : EvD K R tb e r (.int n)) (h0 : 0 ≤ n) (h1 : n ≤ 1000) : EvD K R (tOp rRep (tLst (tCons te tNil)) tb) e r (.list ((List.replicate n.toNat d).map deedD)) := by
  rw [← rep_deed]
  exact EvF.ev (evf_op (ev_lst (ds := [deedD d]) (ea_cons h ea_nil) (by show 1 ≤ sizeLine; decide)) hn (opRep (by omega) (by omega) (by rw [sizeLine_eq]; show 1 * n.toNat ≤ _; omega)))
/-- a + b -/
theorem ev_catD {a b : List Deed} (h1 : EvD K R ta e r (.list (a.map deedD))) (h2 : EvD K R tb e r (.list (b.map deedD))) (hl : a.length + b.length ≤ 10000) : EvD K R (tOp rCat ta tb) e r (.list ((a ++ b).map deedD)) := by
  rw [List.map_append]
  exact EvF.ev (evf_op h1 h2 (opCat (by rw [List.length_map, List.length_map, sizeLine_eq]; omega)))
theorem evf_catD {a b : List Deed} (h1 : EvD K R ta e r (.list (a.map deedD))) (h2 : EvD K R tb e r (.list (b.map deedD))) (hl : a.length + b.length ≤ 10000) : EvF K R (tOp rCat ta tb) e r ((a ++ b).map deedD) := by
  rw [List.map_append]
  exact evf_op h1 h2 (opCat (by rw [List.length_map, List.length_map, sizeLine_eq]; omega))
end
end Fw
namespace Fw
open PySem L2
def besideI (n k m : Int) : Int := (k + 1 + m % (if n - 1 > 1 then n - 1 else 1)) % n
theorem besideI_rng {n k m : Int} (h : 1 ≤ n) : 0 ≤ besideI n k m ∧ besideI n k m < n := ⟨Int.emod_nonneg _ (by omega), Int.emod_lt_of_pos _ (by omega)⟩
theorem besideI_ne {n k m : Int} (h3 : 0 ≤ k) (h4 : k < n) (h : 1 < n) : besideI n k m ≠ k := by
  have ez : (if n - 1 > 1 then n - 1 else 1) = n - 1 := by split <;> omega
  unfold besideI
  rw [ez]
  exact beside_ne h3 h4 (Int.emod_nonneg _ (by omega)) (Int.emod_lt_of_pos _ (by omega))
theorem at4w {k : Int} (h0 : 0 ≤ k) (h1 : k < 4) : ∃ x, L2.atI [PyData.int 0, .int 0, .int 1, .int 3] k = some (.int x) ∧ 0 ≤ x ∧ x ≤ 3 := by
  have : k = 0 ∨ k = 1 ∨ k = 2 ∨ k = 3 := by omega
  rcases this with rfl | rfl | rfl | rfl
  all_goals exact ⟨_, rfl, by decide, by decide⟩
theorem at3w {k : Int} (h0 : 0 ≤ k) (h1 : k < 3) : ∃ x, L2.atI [PyData.int 1, .int 2, .int 3] k = some (.int x) ∧ 1 ≤ x ∧ x ≤ 3 := by
  have : k = 0 ∨ k = 1 ∨ k = 2 := by omega
  rcases this with rfl | rfl | rfl
  all_goals exact ⟨_, rfl, by decide, by decide⟩
theorem at4m {k : Int} (h0 : 0 ≤ k) (h1 : k < 4) : ∃ x, L2.atI [PyData.int bigI, .int bigI, .int 1, .int 0] k = some (.int x) ∧ 0 ≤ x := by
  have : k = 0 ∨ k = 1 ∨ k = 2 ∨ k = 3 := by omega
  rcases this with rfl | rfl | rfl | rfl
  · exact ⟨_, rfl, bigI_nn⟩
  · exact ⟨_, rfl, bigI_nn⟩
  · exact ⟨1, rfl, by decide⟩
  · exact ⟨0, rfl, by decide⟩
theorem leg_draws (m : Int) : ∃ q0 q1 q2 q3 q4 q5 q6 q7 : Int, osD (drawnL m [4, 4, 4, 8, 8, 3, 4, 2]) = osD [q0, q1, q2, q3, q4, q5, q6, q7] ∧ (0 ≤ q0 ∧ q0 < 4) ∧ (0 ≤ q5 ∧ q5 < 3) ∧ (0 ≤ q6 ∧ q6 < 4) :=
  ⟨_, _, _, _, _, _, _, _, rfl, ⟨Int.emod_nonneg _ (by decide), Int.emod_lt_of_pos _ (by decide)⟩, ⟨Int.emod_nonneg _ (by decide), Int.emod_lt_of_pos _ (by decide)⟩, ⟨Int.emod_nonneg _ (by decide), Int.emod_lt_of_pos _ (by decide)⟩⟩
theorem wordBy_W (n : Int) : strOkW (wordBy n) := rowOk_one (wordBy_ok n).1
end Fw
namespace Fw
theorem ok_write {n : Nat} {k : Int} {w : PySem.Str} (h : 0 ≤ k ∧ k < n) (g : strOkW w) : DeedOk n (.write k w) := ⟨h, g⟩
theorem ok_settle {n : Nat} {k : Int} (h : 0 ≤ k ∧ k < n) : DeedOk n (.settle k) := h
theorem ok_rest {n : Nat} {k : Int} (h : 0 ≤ k ∧ k < n) : DeedOk n (.rest k) := h
theorem ok_stand {n : Nat} {k : Int} {os : List Int} (h : 0 ≤ k ∧ k < n) (hl : os.length ≤ 1000) (ho : ∀ o, o ∈ os → 0 ≤ o ∧ o < n) : DeedOk n (.stand k os) := ⟨h, hl, ho⟩
theorem ok_hand {n : Nat} {k o m : Int} (h : 0 ≤ k ∧ k < n) (ho : 0 ≤ o ∧ o < n) (hn : o ≠ k) (hm : 0 ≤ m) : DeedOk n (.hand k o m) := ⟨h, ho, hn, hm⟩
end Fw
namespace Fw
open PySem L2
section
variable {K : PySem.W.Frag} {ρ : Type} {R : ρ → Hp → Hp → Prop} [Stab R] {e : SE} {r : ρ} {ta tb tc te : TE} {n : Nat} {L L' : Nat}
/-- a list of good deeds comes of it -/
def EvDs (K : PySem.W.Frag) {ρ : Type} (R : ρ → Hp → Hp → Prop) (te : TE) (e : SE) (r : ρ) (n L : Nat) : Prop := EvS K R te e r fun d r' => (∃ ds, d = .list (ds.map deedD) ∧ DsOk n ds ∧ ds.length ≤ L) ∧ r' = r
theorem EvDs.of {ds : List Deed} (h : EvD K R te e r (.list (ds.map deedD))) (h1 : DsOk n ds) (h2 : ds.length ≤ L) : EvDs K R te e r n L := EvS.imp h fun d r' ⟨e1, e2⟩ => ⟨⟨ds, e1, h1, h2⟩, e2⟩
theorem EvDs.one {d : Deed} (h : EvD K R te e r (deedD d)) (h1 : DeedOk n d) : EvDs K R (tLst (tCons te tNil)) e r n 1 := EvDs.of (ev_oneD h) (DsOk.one h1) (Nat.le_refl _)
theorem EvDs.two {d d' : Deed} (h : EvD K R ta e r (deedD d)) (h' : EvD K R tb e r (deedD d')) (h1 : DeedOk n d) (h2 : DeedOk n d') : EvDs K R (tLst (tCons ta (tCons tb tNil))) e r n 2 :=
  EvDs.of (ds := [d, d']) (ev_lst (ea_cons h (ea_cons h' ea_nil)) (by show 2 ≤ sizeLine; decide)) (DsOk.cons h1 (DsOk.one h2)) (Nat.le_refl _)
theorem EvDs.rep {d : Deed} {m : Int} (h : EvD K R te e r (deedD d)) (hm : EvD K R tb e r (.int m)) (h0 : 0 ≤ m) (h1 : m ≤ L) (hL : L ≤ 1000) (hd : DeedOk n d) : EvDs K R (tOp rRep (tLst (tCons te tNil)) tb) e r n L :=
  EvDs.of (ev_repD h hm h0 (by omega)) (DsOk.rep hd _) (by rw [List.length_replicate]; omega)
theorem EvDs.cat (h1 : EvDs K R ta e r n L) (h2 : EvDs K R tb e r n L') (hl : L + L' ≤ 10000) : EvDs K R (tOp rCat ta tb) e r n (L + L') := fun B σ G M H v w Q q =>
  ev_seq2 (P2 := fun d1 d r' => ((∃ ds, d1 = .list (ds.map deedD) ∧ DsOk n ds ∧ ds.length ≤ L) ∧ ∃ ds, d = .list (ds.map deedD) ∧ DsOk n ds ∧ ds.length ≤ L') ∧ r' = r) h1 (fun d1 r1 p1 => by rw [p1.2]; exact EvS.imp h2 fun d r' z => ⟨⟨p1.1, z.1⟩, z.2⟩) B σ G M H v w (fun x y H' => rCat x y H' Q) fun x y d1 d2 r2 G' M' H' p s w' hx hy => by
    obtain ⟨⟨⟨a, e1, a1, a2⟩, b, e2, b1, b2⟩, e3⟩ := p
    subst e1 e2 e3
    refine opCat (ds := a.map deedD) (es := b.map deedD) (by rw [List.length_map, List.length_map, sizeLine_eq]; omega) x y G' M' H' w'.pre hx hy Q fun l ws H3 k hl h3 hd => ?_
    have hg := w'.gn hl
    have hm := w'.mn hl
    have h0 : H l = none := free_back s hl
    have s3 : Stp G M H G' M' H3 := ⟨s.gg, (fun b hb => by
      cases z : H' b with
      | none => exact absurd z (s.th b hb)
      | some o => exact some_ne (k b o z)), fun b o hb m => k _ _ (s.fr b o hb m), s.ng, s.nm⟩
    have w3 : Wf R G' M' H3 r2 := ⟨w'.gh.trans k, w'.mh.trans k, w'.dj, w'.res⟩
    refine q (.ref l) (.list ((a ++ b).map deedD)) r2 (upd G' l (.lst ws)) M' H3 ⟨⟨a ++ b, rfl, a1.append b1, by rw [List.length_append]; omega⟩, rfl⟩ (s3.freeze h0 hg) (w3.freeze h3 hg hm) ?_
    rw [List.map_append]
    exact .lst upd_same (hd.mono (same_new hg))
/-- xs[lo:hi] -/
theorem EvDs.sl {tl th : TO} {lo hi : Option Int} {ds : List Deed} (h : EvD K R te e r (.list (ds.map deedD))) (g1 : EvO K R tl e r lo) (g2 : EvO K R th e r hi) (h1 : DsOk n ds) (h2 : ds.length ≤ L) : EvDs K R (tSl (rSlL K) te tl th) e r n L :=
  EvDs.of (ds := cutD ds lo hi) ((EvF.ev (evf_sl h g1 g2)).is (by rw [cutD_map])) (DsOk.sub h1 fun x hx => cutD_mem hx) (Nat.le_trans cutD_len h2)
theorem sp_retDs {P : Post ρ} {E : XK} (h : EvDs K R te e r n L) (k : ∀ ds, DsOk n ds → ds.length ≤ L → P.rt (.list (ds.map deedD)) r) : SP K R E (tRet te) e r P := sp_retS h fun d r' ⟨⟨ds, e1, h1, h2⟩, e2⟩ => by rw [e1, e2]; exact k ds h1 h2
end
end Fw
namespace Fw
open PySem L2
theorem deeds_draws (m : Int) : ∃ s0 s1 s2 s3 s4 s5 : Int, osD (drawnL m [12, 9, 8, 6, 512, 4]) = osD [s0, s1, s2, s3, s4, s5] ∧ (0 ≤ s0 ∧ s0 < 12) ∧ (0 ≤ s3 ∧ s3 < 6) :=
  ⟨_, _, _, _, _, _, rfl, ⟨Int.emod_nonneg _ (by decide), Int.emod_lt_of_pos _ (by decide)⟩, ⟨Int.emod_nonneg _ (by decide), Int.emod_lt_of_pos _ (by decide)⟩⟩
theorem at6m {k x : Int} (h0 : 0 ≤ k) (h1 : k < 6) (hx : 0 ≤ x) : ∃ y, L2.atI [PyData.int 0, .int 1, .int 2, .int 3, .int x, .int bigI] k = some (.int y) ∧ 0 ≤ y := by
  have : k = 0 ∨ k = 1 ∨ k = 2 ∨ k = 3 ∨ k = 4 ∨ k = 5 := by omega
  rcases this with rfl | rfl | rfl | rfl | rfl | rfl
  · exact ⟨0, rfl, by decide⟩
  · exact ⟨1, rfl, by decide⟩
  · exact ⟨2, rfl, by decide⟩
  · exact ⟨3, rfl, by decide⟩
  · exact ⟨x, rfl, hx⟩
  · exact ⟨_, rfl, bigI_nn⟩
/-- a comprehension of deeds over a range -/
theorem lcOut_deeds (p : PyData → Bool) (g : Int → Deed) (n : Nat) : lcOut p (fun d => deedD (g (intOf d))) (rgD n) = (((rgI n).filter fun k => p (.int k)).map g).map deedD := by
  unfold lcOut
  rw [← rgI_D, List.filter_map, List.map_map, List.map_map]
  rfl
theorem DsOk.map {n m : Nat} {g : Int → Deed} {q : Int → Bool} (h : ∀ k : Int, 0 ≤ k → k < m → q k = true → DeedOk n (g k)) : DsOk n (((rgI m).filter q).map g) := fun d hd => by
  obtain ⟨k, hk, rfl⟩ := List.mem_map.mp hd
  obtain ⟨h1, h2⟩ := List.mem_filter.mp hk
  exact h k (rgI_mem h1).1 (rgI_mem h1).2 h2
theorem map_len {m : Nat} {g : Int → Deed} {q : Int → Bool} : (((rgI m).filter q).map g).length ≤ m := by
  rw [List.length_map]
  exact Nat.le_trans (List.length_filter_le _ _) (by rw [rgI_len]; exact Nat.le_refl _)
theorem EvDs.less {K : PySem.W.Frag} {ρ : Type} {R : ρ → Hp → Hp → Prop} {e : SE} {r : ρ} {te : TE} {n L L' : Nat} (h : EvDs K R te e r n L) (hl : L ≤ L') : EvDs K R te e r n L' := EvS.imp h fun d r' ⟨⟨ds, e1, h1, h2⟩, e2⟩ => ⟨⟨ds, e1, h1, Nat.le_trans h2 hl⟩, e2⟩
end Fw

/-! Good is kept by each deed. -/
namespace Fw
open PySem L2
theorem KGood0.new (n : Nat) : KGood0 n {} := ⟨rowOk_nil, Int.le_refl 0, (fun h => nomatch h), (fun h => nomatch h), fun i => by show 0 ≤ ([] : List Int).getD i 0; rw [List.getD_nil]; exact Int.le_refl 0⟩
theorem KGood0.hear {n : Nat} {k : KS} (h : KGood0 n k) (t : Int) : KGood0 n (k.hear t) := by
  unfold KS.hear
  split
  · exact ⟨h.ok, h.s0, (fun z => nomatch z), (fun z => nomatch z), h.a0⟩
  · exact h
theorem KGood0.begin_ {n : Nat} {k : KS} (h : KGood0 n k) : KGood0 n (k.begin_ n) := by
  refine ⟨h.ok, h.s0, fun _ => List.length_replicate, fun _ => List.length_replicate, fun i => ?_⟩
  show 0 ≤ (List.replicate n (k.row.length : Int)).getD i 0
  rw [List.getD_eq_getElem?_getD, List.getElem?_replicate]
  split
  · exact Int.natCast_nonneg _
  · exact Int.le_refl 0
def G0 (n : Nat) (st : Nat → KS) : Prop := ∀ i, KGood0 n (st i)
theorem G0.up {n : Nat} {st : Nat → KS} (h : G0 n st) {i : Nat} {k : KS} (hk : KGood0 n k) : G0 n (updS st i k) := fun j => by
  unfold updS
  split
  · exact hk
  · exact h j
theorem G0.askAll {n : Nat} (k : Nat) (os : List Int) : ∀ {st : Nat → KS} (v : Int), G0 n st → G0 n (askAll st k os v).1 := by
  induction os with
  | nil => intro st v h; exact h
  | cons o os ih => intro st v h; exact ih _ (h.up ((h _).hear _))
theorem G0.stand {n : Nat} {st : Nat → KS} (h : G0 n st) (k : Nat) (os : List Int) : G0 n (standSt n st k os) := by
  have h1 : G0 n (stand1 st k) := h.up ((h k).hear _)
  have h2 := G0.askAll k os 1 h1
  unfold standSt
  split
  · exact h2.up (h2 k).begin_
  · exact h2
theorem aheadAt_set {k : KS} {o : Nat} {x : Int} (hx : 0 ≤ x) (h : ∀ i, 0 ≤ k.aheadAt i) (i : Nat) : 0 ≤ (k.ahead.set o x).getD i 0 := by
  rw [List.getD_eq_getElem?_getD, List.getElem?_set]
  split
  · split
    · exact hx
    · exact Int.le_refl 0
  · have := h i
    unfold KS.aheadAt at this
    rw [List.getD_eq_getElem?_getD] at this
    exact this
theorem fillR_mem {es ss : List Ent} {a : Nat} {x : Ent} (h : x ∈ fillR es a ss) : x ∈ es ∨ x ∈ ss := by
  unfold fillR at h
  split at h
  · exact .inl h
  · rcases List.mem_append.mp h with h | h
    · exact .inl (List.mem_of_mem_take h)
    · exact .inr (List.mem_of_mem_drop h)
theorem part_mem {k : KS} {a m : Int} {x : Ent} (h : x ∈ k.part a m) : x ∈ k.row := List.mem_of_mem_drop (List.mem_of_mem_take h)
theorem fillD_le : ∀ {es ss : List Ent} {j : Nat}, fillD es ss = some j → j ≤ ss.length ∧ j ≤ es.length
  | _, [], j, h => by unfold fillD at h; cases h
  | [], _ :: _, j, h => by unfold fillD at h; cases h; exact ⟨Nat.zero_le _, Nat.zero_le _⟩
  | x :: r, y :: s, j, h => by
    unfold fillD at h
    split at h
    · cases hz : fillD r s with
      | none => rw [hz] at h; cases h
      | some j' =>
        rw [hz] at h
        have h : some (j' + 1) = some j := h
        injection h with h
        have := fillD_le hz
        rw [List.length_cons, List.length_cons]; omega
    · cases h; exact ⟨Nat.zero_le _, Nat.zero_le _⟩
theorem fillR_len {es ss : List Ent} {a : Nat} : (fillR es a ss).length ≤ max es.length (a + ss.length) := by
  unfold fillR
  split
  · omega
  · rename_i j hj
    have := fillD_le hj
    rw [List.length_append, List.length_take, List.length_drop]
    omega
theorem G0.hand {n : Nat} {st : Nat → KS} (h : G0 n st) (k o : Nat) (m : Int) : G0 n (handSt st k o m) := by
  have hk := h k
  have ho := h o
  unfold handSt
  split
  · exact h.up (hk.hear _)
  · split
    · refine (h.up ?_).up ?_
      · have hh := ho.hear (st k).term
        refine ⟨fun x hx => ?_, ?_, hh.al, hh.hl, hh.a0⟩
        · rcases fillR_mem hx with hx | hx
          · exact hh.ok x hx
          · exact hk.ok x (part_mem hx)
        · show 0 ≤ (let x := _; if x > ((st o).hear (st k).term).settled then x else ((st o).hear (st k).term).settled)
          have := hh.s0
          dsimp only
          split <;> split <;> omega
      · refine ⟨hk.ok, hk.s0, fun z => ?_, fun z => ?_, fun i => ?_⟩
        · show ((st k).ahead.set o _).length = n
          rw [List.length_set]; exact hk.al z
        · show ((st k).held.set o _).length = n
          rw [List.length_set]; exact hk.hl z
        · exact aheadAt_set (by have := hk.a0 o; omega) hk.a0 i
    · rename_i hag
      refine (h.up (ho.hear _)).up ⟨hk.ok, hk.s0, fun z => ?_, hk.hl, fun i => ?_⟩
      · show ((st k).ahead.set o _).length = n
        rw [List.length_set]; exact hk.al z
      · have h0 := hk.a0 o
        have h1 : (st k).aheadAt o ≠ 0 := fun z => hag (by unfold agreesB; rw [if_pos z])
        exact aheadAt_set (by omega) hk.a0 i
/-- rows are at most of this length -/
def Sz (B : Nat) (st : Nat → KS) : Prop := ∀ i, (st i).row.length ≤ B
theorem part_len {k : KS} {a m : Int} (h : 0 ≤ a) : (k.part a m).length + a.toNat ≤ max k.row.length a.toNat := by
  unfold KS.part
  rw [List.length_take, List.length_drop]; omega
theorem Sz.hand {B : Nat} {st : Nat → KS} (h : Sz B st) (g : ∀ i, 0 ≤ (st i).aheadAt i → True) (k o : Nat) (m : Int) (a0 : 0 ≤ (st k).aheadAt o) : Sz B (handSt st k o m) := fun i => by
  unfold handSt
  split
  · unfold updS
    split
    · rw [hear_row]; exact h k
    · exact h i
  · rename_i ht
    split
    · rename_i hag
      unfold updS
      split
      · exact h k
      · split
        · show (fillR ((st o).hear (st k).term).row _ _).length ≤ B
          rw [hear_row]
          have h1 := fillR_len (es := (st o).row) (ss := (st k).part ((st k).aheadAt o) m) (a := ((st k).aheadAt o).toNat)
          have h2 := part_len (k := st k) (m := m) a0
          have h3 : (st k).aheadAt o ≤ (st o).row.length := by
            unfold agreesB at hag
            by_cases hz : (st k).aheadAt o = 0
            · omega
            · rw [if_neg hz] at hag
              cases hx : (st o).row[((st k).aheadAt o - 1).toNat]? with
              | none => rw [hx] at hag; cases hag
              | some x =>
                obtain ⟨hx, _⟩ := List.getElem?_eq_some_iff.mp hx
                omega
          have := h o
          have := h k
          omega
        · exact h i
    · unfold updS
      split
      · exact h k
      · split
        · rw [hear_row]; exact h o
        · exact h i
theorem settleN_nn {k : KS} (h : 0 ≤ k.settled) (i : Nat) : 0 ≤ k.settleN i := by
  unfold KS.settleN
  dsimp only
  split <;> omega
structure GB (B : Nat) (s : RSt) : Prop where
  n9 : s.n ≤ 9
  g : G0 s.n s.st
  z : Sz B s.st
theorem GB.good {B : Nat} {s : RSt} (h : GB B s) (hB : B ≤ 50000) : Good s := ⟨h.n9, fun i _ => { h.g i with small := Nat.le_trans (h.z i) hB }⟩
theorem GB.do {B : Nat} {s : RSt} (h : GB B s) {d : Deed} (hd : DeedOk s.n d) : GB (B + 1) (doS s d) := by
  have mono : Sz (B + 1) s.st := fun i => Nat.le_succ_of_le (h.z i)
  cases d with
  | stand k os => exact ⟨h.n9, h.g.stand _ _, fun i => by show (standSt _ _ _ _ i).row.length ≤ _; rw [standSt_row]; exact mono i⟩
  | rest k =>
    refine ⟨h.n9, h.g.up ⟨(h.g _).ok, Int.le_refl 0, (fun z => nomatch z), (fun z => nomatch z), (h.g _).a0⟩, fun i => ?_⟩
    show (updS s.st k.toNat _ i).row.length ≤ _
    unfold updS
    split
    · exact mono _
    · exact mono i
  | write k w =>
    show GB (B + 1) (if _ then _ else _)
    split
    · refine ⟨h.n9, h.g.up ⟨rowOk_append (h.g _).ok (rowOk_one (hd.2 (0, w) List.mem_cons_self)), (h.g _).s0, (h.g _).al, (h.g _).hl, (h.g _).a0⟩, fun i => ?_⟩
      show (updS s.st k.toNat _ i).row.length ≤ _
      unfold updS
      split
      · show ((s.st k.toNat).row ++ [_]).length ≤ _
        rw [List.length_append]
        have := h.z k.toNat
        show _ + 1 ≤ _
        omega
      · exact mono i
    · exact ⟨h.n9, h.g, mono⟩
  | hand k o m =>
    show GB (B + 1) (if _ then _ else _)
    split
    · exact ⟨h.n9, h.g.hand _ _ _, mono.hand (fun _ _ => trivial) _ _ _ ((h.g _).a0 _)⟩
    · exact ⟨h.n9, h.g, mono⟩
  | settle k =>
    show GB (B + 1) (if _ then _ else _)
    split
    · refine ⟨h.n9, h.g.up ⟨(h.g _).ok, settleN_nn (h.g _).s0 _, (h.g _).al, (h.g _).hl, (h.g _).a0⟩, fun i => ?_⟩
      show (updS s.st k.toNat _ i).row.length ≤ _
      unfold updS
      split
      · exact mono _
      · exact mono i
    · exact ⟨h.n9, h.g, mono⟩
theorem doS_n (s : RSt) (d : Deed) : (doS s d).n = s.n := by
  cases d with
  | stand k os => rfl
  | rest k => rfl
  | write k w => show (if _ then _ else _ : RSt).n = _; split <;> rfl
  | hand k o m => show (if _ then _ else _ : RSt).n = _; split <;> rfl
  | settle k => show (if _ then _ else _ : RSt).n = _; split <;> rfl
theorem doS_p (s : RSt) (d : Deed) : (doS s d).p = s.p := by
  cases d with
  | stand k os => rfl
  | rest k => rfl
  | write k w => show (if _ then _ else _ : RSt).p = _; split <;> rfl
  | hand k o m => show (if _ then _ else _ : RSt).p = _; split <;> rfl
  | settle k => show (if _ then _ else _ : RSt).p = _; split <;> rfl
theorem GB.new (p : Addr) {n : Nat} (h : n ≤ 9) : GB 0 ⟨p, n, fun _ => {}⟩ := ⟨h, fun _ => KGood0.new n, fun _ => Nat.le_refl 0⟩
end Fw

/-! Safety of the room, in plain Lean. -/
namespace Fw
open PySem L2
def Ag {α : Type} (n : Nat) (a b : List α) : Prop := ∀ p, p < n → a[p]? = b[p]?
theorem Ag.refl {α : Type} (n : Nat) (a : List α) : Ag n a a := fun _ _ => rfl
theorem Ag.symm {α : Type} {n : Nat} {a b : List α} (h : Ag n a b) : Ag n b a := fun p hp => (h p hp).symm
theorem Ag.trans {α : Type} {n : Nat} {a b c : List α} (h : Ag n a b) (g : Ag n b c) : Ag n a c := fun p hp => (h p hp).trans (g p hp)
theorem Ag.less {α : Type} {n m : Nat} {a b : List α} (h : Ag n a b) (l : m ≤ n) : Ag m a b := fun p hp => h p (by omega)
theorem Ag.len {α : Type} {n : Nat} {a b : List α} (h : Ag n a b) (l : n ≤ a.length) : n ≤ b.length := by
  by_cases z : n = 0
  · omega
  · have := h (n - 1) (by omega)
    rw [List.getElem?_eq_getElem (by omega)] at this
    have := (List.getElem?_eq_some_iff.mp this.symm).1
    omega
theorem Ag.app {α : Type} {n : Nat} {a : List α} (b : List α) (l : n ≤ a.length) : Ag n a (a ++ b) := fun p hp => by rw [List.getElem?_append_left (by omega)]
theorem Ag.take {α : Type} {n : Nat} {a : List α} : Ag n a (a.take n) := fun p hp => by rw [List.getElem?_take, if_pos hp]
theorem Ag.eq_take {α : Type} {n : Nat} {a b : List α} (h : Ag n a b) : a.take n = b.take n := List.ext_getElem? fun p => by
  rw [List.getElem?_take, List.getElem?_take]
  split
  · rename_i hp; exact h p hp
  · rfl
structure Gh where
  lg : Int → Option (List Ent)
  V : Int → Nat → Bool
  ack : Int → Nat → Nat
  who : Int → Nat
def Agr (g : Gh) (l : List Ent) (U : Int) (n : Nat) : Prop := ∃ m, g.lg U = some m ∧ n ≤ m.length ∧ Ag n l m
/-- more than half -/
def cntB (n : Nat) (f : Nat → Bool) : Nat := ((List.range n).filter f).length
def Maj (n : Nat) (f : Nat → Bool) : Prop := n < 2 * cntB n f
theorem cntB_succ (n : Nat) (f : Nat → Bool) : cntB (n + 1) f = cntB n f + if f n = true then 1 else 0 := by
  unfold cntB
  rw [List.range_succ, List.filter_append, List.length_append]
  congr 1
  by_cases h : f n = true
  · rw [if_pos h]; simp [h]
  · rw [if_neg h]; simp [h]
theorem cnt_both (n : Nat) (f g : Nat → Bool) (h : ∀ i, i < n → f i = true → g i = true → False) : cntB n f + cntB n g ≤ n := by
  induction n with
  | zero => exact Nat.le_refl 0
  | succ n ih =>
    have := ih fun i hi => h i (by omega)
    rw [cntB_succ, cntB_succ]
    by_cases h1 : f n = true
    · by_cases h2 : g n = true
      · exact (h n (by omega) h1 h2).elim
      · rw [if_pos h1, if_neg h2]; omega
    · rw [if_neg h1]
      split <;> omega
theorem Maj.meet {n : Nat} {f g : Nat → Bool} (h : Maj n f) (k : Maj n g) : ∃ i, i < n ∧ f i = true ∧ g i = true := by
  by_cases q : ∃ i, i < n ∧ f i = true ∧ g i = true
  · exact q
  · have := cnt_both n f g fun i hi h1 h2 => q ⟨i, hi, h1, h2⟩
    unfold Maj at h k
    omega
def Sorted (es : List Ent) : Prop := ∀ (p q : Nat) (x y : Ent), p ≤ q → es[p]? = some x → es[q]? = some y → x.1 ≤ y.1
structure RowG (g : Gh) (t : Int) (es : List Ent) : Prop where
  at_ : ∀ (p : Nat) (x : Ent), es[p]? = some x → x.1 ≤ t ∧ ∃ l, g.lg x.1 = some l ∧ Ag (p + 1) es l
  so : Sorted es
theorem RowG.up {g : Gh} {t t' : Int} {es : List Ent} (h : RowG g t es) (l : t ≤ t') : RowG g t' es := ⟨fun p x hx => ⟨Int.le_trans (h.at_ p x hx).1 l, (h.at_ p x hx).2⟩, h.so⟩
theorem RowG.take {g : Gh} {t : Int} {es : List Ent} (h : RowG g t es) (n : Nat) : RowG g t (es.take n) := by
  have e : ∀ {p : Nat} {x : Ent}, (es.take n)[p]? = some x → p < n ∧ es[p]? = some x := fun {p x} hx => by
    rw [List.getElem?_take] at hx
    split at hx
    · exact ⟨by assumption, hx⟩
    · cases hx
  refine ⟨fun p x hx => ?_, fun p q x y pq hx hy => h.so p q x y pq (e hx).2 (e hy).2⟩
  obtain ⟨h1, l, h2, h3⟩ := h.at_ p x (e hx).2
  exact ⟨h1, l, h2, (Ag.take.less (e hx).1).symm.trans h3⟩
/-- an entry of its own term stands at the place -/
def Own (l : List Ent) (T : Int) (n : Nat) : Prop := ∃ x, 0 < n ∧ l[n - 1]? = some x ∧ x.1 = T
structure Inv (n : Nat) (st : Nat → KS) (g : Gh) : Prop where
  t0 : ∀ i, i < n → 0 ≤ (st i).term
  e0 : ∀ T l, g.lg T = some l → 1 ≤ T
  rows : ∀ i, i < n → RowG g (st i).term (st i).row
  logs : ∀ T l, g.lg T = some l → RowG g T l
  own : ∀ i, i < n → (st i).leads = true → g.lg (st i).term = some (st i).row
  wh : ∀ i, i < n → (st i).leads = true → g.who (st i).term = i
  maj : ∀ T l, g.lg T = some l → Maj n (g.V T)
  vt : ∀ T l v, g.lg T = some l → v < n → g.V T v = true → T ≤ (st v).term
  ak : ∀ T o, o < n → 0 < g.ack T o → T ≤ (st o).term ∧ ∃ l, g.lg T = some l ∧ g.ack T o ≤ l.length
  hd : ∀ i, i < n → (st i).leads = true → (∀ o, o < n → o ≠ i → ((st i).held.getD o 0 ≤ g.ack (st i).term o ∧ (st i).aheadAt o ≤ (st i).row.length)) ∧ (st i).row.length ≤ g.ack (st i).term i
  j1 : ∀ T l o m, g.lg T = some l → o < n → m ≤ g.ack T o → Own l T m → (∀ U, T < U → U ≤ (st o).term → g.lg U ≠ none → Agr g l U m) → m ≤ (st o).row.length ∧ Ag m l (st o).row
  j2 : ∀ T l T' l' v m, g.lg T = some l → g.lg T' = some l' → T < T' → v < n → g.V T' v = true → m ≤ g.ack T v → Own l T m → (∀ U, T < U → U < T' → g.lg U ≠ none → Agr g l U m) → Agr g l T' m
  se : ∀ i, i < n → 0 < (st i).settled → ∃ T l m, g.lg T = some l ∧ Own l T m ∧ Maj n (fun o => decide (m ≤ g.ack T o)) ∧ (st i).settled.toNat ≤ m ∧ T ≤ (st i).term ∧ (st i).settled.toNat ≤ (st i).row.length ∧ Ag (st i).settled.toNat l (st i).row
/-- hearing -/
theorem Inv.raise {n : Nat} {st : Nat → KS} {g : Gh} (h : Inv n st g) {i : Nat} {t : Int} (ht : (st i).term ≤ t) : Inv n (updS st i { st i with term := t, leads := false }) g := by
  have T1 : ∀ j, (st j).term ≤ (updS st i { st i with term := t, leads := false } j).term := fun j => by
    unfold updS
    split
    · rename_i e; rw [e]; exact ht
    · exact Int.le_refl _
  have R1 : ∀ j, (updS st i { st i with term := t, leads := false } j).row = (st j).row := fun j => by
    unfold updS
    split
    · rename_i e; rw [e]
    · rfl
  have S1 : ∀ j, (updS st i { st i with term := t, leads := false } j).settled = (st j).settled := fun j => by
    unfold updS
    split
    · rename_i e; rw [e]
    · rfl
  have L1 : ∀ j, (updS st i { st i with term := t, leads := false } j).leads = true → updS st i { st i with term := t, leads := false } j = st j := fun j hl => by
    unfold updS at hl ⊢
    split
    · rename_i e; rw [if_pos e] at hl; cases hl
    · rfl
  generalize updS st i { st i with term := t, leads := false } = st' at T1 R1 S1 L1
  refine ⟨fun j hj => Int.le_trans (h.t0 j hj) (T1 j), h.e0, fun j hj => by rw [R1]; exact (h.rows j hj).up (T1 j), h.logs, fun j hj hl => ?_, fun j hj hl => ?_, h.maj, fun T l v h1 h2 h3 => Int.le_trans (h.vt T l v h1 h2 h3) (T1 v), fun T o h1 h2 => ⟨Int.le_trans (h.ak T o h1 h2).1 (T1 o), (h.ak T o h1 h2).2⟩, fun j hj hl => ?_, fun T l o m h1 h2 h3 h4 h5 => ?_, h.j2, fun j hj hs => ?_⟩
  · have e1 := L1 j hl
    rw [e1] at hl ⊢; exact h.own j hj hl
  · have e1 := L1 j hl
    rw [e1] at hl ⊢; exact h.wh j hj hl
  · have e1 := L1 j hl
    rw [e1] at hl ⊢; exact h.hd j hj hl
  · rw [R1]; exact h.j1 T l o m h1 h2 h3 h4 fun U u1 u2 u3 => h5 U u1 (Int.le_trans u2 (T1 o)) u3
  · rw [S1] at hs ⊢
    obtain ⟨T, l, m, a1, a2, a3, a4, a5, a6, a7⟩ := h.se j hj hs
    exact ⟨T, l, m, a1, a2, a3, a4, Int.le_trans a5 (T1 j), by rw [R1]; exact a6, by rw [R1]; exact a7⟩
theorem Inv.hear {n : Nat} {st : Nat → KS} {g : Gh} (h : Inv n st g) (i : Nat) (t : Int) : Inv n (updS st i ((st i).hear t)) g := by
  unfold KS.hear
  split
  · exact h.raise (by omega)
  · rw [updS_self]; exact h
theorem Inv.askAll {n : Nat} (k : Nat) (os : List Int) : ∀ {st : Nat → KS} {g : Gh} (v : Int), Inv n st g → Inv n (askAll st k os v).1 g := by
  induction os with
  | nil => intro st g v h; exact h
  | cons o os ih => intro st g v h; exact ih _ (h.hear _ _)
theorem Inv.rest {n : Nat} {st : Nat → KS} {g : Gh} (h : Inv n st g) (i : Nat) : Inv n (updS st i { st i with leads := false, settled := 0 }) g := by
  have h1 := h.raise (i := i) (Int.le_refl (st i).term)
  have e : ∀ j, (updS st i { st i with leads := false, settled := 0 } j) = if j = i then { st i with leads := false, settled := 0 } else st j := fun j => rfl
  have T1 : ∀ j, (updS st i { st i with leads := false, settled := 0 } j).term = (st j).term := fun j => by unfold updS; split; (rename_i e; rw [e]); rfl
  have R1 : ∀ j, (updS st i { st i with leads := false, settled := 0 } j).row = (st j).row := fun j => by unfold updS; split; (rename_i e; rw [e]); rfl
  have L1 : ∀ j, (updS st i { st i with leads := false, settled := 0 } j).leads = true → updS st i { st i with leads := false, settled := 0 } j = st j := fun j hl => by
    unfold updS at hl ⊢
    split
    · rename_i e; rw [if_pos e] at hl; cases hl
    · rfl
  have S1 : ∀ j, 0 < (updS st i { st i with leads := false, settled := 0 } j).settled → updS st i { st i with leads := false, settled := 0 } j = st j := fun j hl => by
    unfold updS at hl ⊢
    split
    · rename_i e; rw [if_pos e] at hl; exact absurd hl (Int.lt_irrefl 0)
    · rfl
  generalize updS st i { st i with leads := false, settled := 0 } = st' at T1 R1 S1 L1
  refine ⟨fun j hj => by rw [T1]; exact h.t0 j hj, h.e0, fun j hj => by rw [R1, T1]; exact h.rows j hj, h.logs, fun j hj hl => ?_, fun j hj hl => ?_, h.maj, fun T l v h1 h2 h3 => by rw [T1]; exact h.vt T l v h1 h2 h3, fun T o h1 h2 => by rw [T1]; exact h.ak T o h1 h2, fun j hj hl => ?_, fun T l o m h1 h2 h3 h4 h5 => ?_, h.j2, fun j hj hs => ?_⟩
  · have e1 := L1 j hl
    rw [e1] at hl ⊢; exact h.own j hj hl
  · have e1 := L1 j hl
    rw [e1] at hl ⊢; exact h.wh j hj hl
  · have e1 := L1 j hl
    rw [e1] at hl ⊢; exact h.hd j hj hl
  · rw [R1]; rw [T1] at h5; exact h.j1 T l o m h1 h2 h3 h4 h5
  · have e1 := S1 j hs
    rw [e1] at hs ⊢; exact h.se j hj hs
end Fw
namespace Fw
open PySem L2
theorem RowG.mono {g g' : Gh} {t : Int} {es : List Ent} (h : RowG g t es) (e : ∀ T l, g.lg T = some l → g'.lg T = some l) : RowG g' t es := ⟨fun p x hx => by
  obtain ⟨h1, l, h2, h3⟩ := h.at_ p x hx
  exact ⟨h1, l, e _ _ h2, h3⟩, h.so⟩
theorem lastT_get {es : List Ent} {x : Ent} (h : es[es.length - 1]? = some x) : lastT es = x.1 := by
  unfold lastT
  rw [← List.getLast?_eq_getElem?] at h
  first
    | rw [h]
    | simp [h]
theorem vote_agree {g : Gh} {T T' : Int} {l rk rv : List Ent} {tk tv : Int} {m : Nat} (hl : g.lg T = some l) (hT : 1 ≤ T) (gl : RowG g T l) (gk : RowG g tk rk) (gv : RowG g tv rv) (el : ∀ U, g.lg U ≠ none → U < T')
    (hn : asNew rk rv = true) (ow : Own l T m) (h1 : m ≤ rv.length) (h2 : Ag m l rv) (pr : ∀ U, T < U → U < T' → g.lg U ≠ none → Agr g l U m) : m ≤ rk.length ∧ Ag m l rk := by
  obtain ⟨x0, m0, hx0, ex0⟩ := ow
  have hv0 : rv[m - 1]? = some x0 := by rw [← h2 (m - 1) (by omega)]; exact hx0
  have hvl : rv.length - 1 < rv.length := by omega
  have hxv : rv[rv.length - 1]? = some rv[rv.length - 1] := List.getElem?_eq_getElem hvl
  generalize rv[rv.length - 1] = xv at hxv
  have hs := gv.so (m - 1) (rv.length - 1) x0 xv (by omega) hv0 hxv
  have ev := lastT_get hxv
  have hk0 : rk ≠ [] := fun z => by
    rw [z] at hn
    have e0 : lastT [] = 0 := rfl
    unfold asNew at hn
    rw [e0, ev] at hn
    split at hn
    · rw [decide_eq_true_eq] at hn; omega
    · omega
  have hkl : rk.length - 1 < rk.length := by
    have := List.length_pos_iff.mpr hk0
    omega
  have hxk : rk[rk.length - 1]? = some rk[rk.length - 1] := List.getElem?_eq_getElem hkl
  generalize rk[rk.length - 1] = xk at hxk
  have ek := lastT_get hxk
  obtain ⟨_, lu, hlu, agk⟩ := gk.at_ _ _ hxk
  obtain ⟨_, lv, hlv, agv⟩ := gv.at_ _ _ hxv
  have agk : Ag rk.length rk lu := agk.less (by omega)
  have agv : Ag rv.length rv lv := agv.less (by omega)
  unfold asNew at hn
  rw [ek, ev] at hn
  by_cases c : xk.1 = xv.1
  · rw [if_neg (by omega)] at hn
    have hn : rv.length ≤ rk.length := by
      have := of_decide_eq_true hn
      omega
    rw [c, hlv] at hlu
    injection hlu with hlu
    subst hlu
    exact ⟨by omega, (h2.trans (agv.less h1)).trans (agk.less (by omega)).symm⟩
  · rw [if_pos c] at hn
    have hn : xk.1 > xv.1 := of_decide_eq_true hn
    obtain ⟨lu', e1, e2, e3⟩ := pr xk.1 (by omega) (el _ (by rw [hlu]; exact fun q => nomatch q)) (by rw [hlu]; exact fun q => nomatch q)
    rw [hlu] at e1
    injection e1 with e1
    subst e1
    have hkm : m ≤ rk.length := by
      by_cases q : m ≤ rk.length
      · exact q
      · have a1 := agk (rk.length - 1) hkl
        have a2 := e3 (rk.length - 1) (by omega)
        rw [hxk] at a1
        rw [← a1] at a2
        have := (gl.at_ _ _ a2).1
        omega
    exact ⟨hkm, e3.trans (agk.less hkm).symm⟩
end Fw

namespace Fw
open PySem L2
def updI {β : Type} (f : Int → β) (T : Int) (x : β) : Int → β := fun U => if U = T then x else f U
theorem updI_same {β : Type} {f : Int → β} {T : Int} {x : β} : updI f T x T = x := by unfold updI; rw [if_pos rfl]
theorem updI_ne {β : Type} {f : Int → β} {T U : Int} {x : β} (h : U ≠ T) : updI f T x U = f U := by unfold updI; rw [if_neg h]
def Gh.win (g : Gh) (T : Int) (row : List Ent) (W : Nat → Bool) (k : Nat) : Gh := ⟨updI g.lg T (some row), updI g.V T W, updI g.ack T fun o => if o = k then row.length else 0, updI g.who T k⟩
theorem rep_getD (n o : Nat) (x : Int) (h : o < n) : (List.replicate n x).getD o 0 = x := by
  rw [List.getD_eq_getElem?_getD, List.getElem?_replicate, if_pos h]; rfl
theorem Inv.win {n : Nat} {st0 st : Nat → KS} {g : Gh} (h0 : Inv n st0 g) (h : Inv n st g) {k : Nat} (hk : k < n) (rw_ : ∀ i, (st i).row = (st0 i).row) {W : Nat → Bool} (mj : Maj n W) (wk : W k = true)
    (hv : ∀ v, v < n → W v = true → (st0 v).term < (st k).term ∧ (st k).term ≤ (st v).term ∧ (v = k ∨ asNew (st k).row (st v).row = true)) :
    Inv n (updS st k ((st k).begin_ n)) (g.win (st k).term (st k).row W k) := by
  have el : ∀ U, g.lg U ≠ none → U < (st k).term := fun U hU => by
    cases z : g.lg U with
    | none => exact absurd z hU
    | some l =>
      obtain ⟨v, v1, v2, v3⟩ := (h0.maj U l z).meet mj
      have := h0.vt U l v z v1 v2
      have := (hv v v1 v3).1
      omega
  have ne : ∀ {U l}, g.lg U = some l → U ≠ (st k).term := fun {U l} hU z => by
    have := el U (by rw [hU]; exact fun q => nomatch q)
    omega
  have lgo : ∀ T l, g.lg T = some l → (g.win (st k).term (st k).row W k).lg T = some l := fun T l hT => by
    show updI g.lg _ _ T = some l
    rw [updI_ne (ne hT)]; exact hT
  have lgk : (g.win (st k).term (st k).row W k).lg (st k).term = some (st k).row := updI_same
  have lgi : ∀ {T l}, (g.win (st k).term (st k).row W k).lg T = some l → (T = (st k).term ∧ l = (st k).row) ∨ (T ≠ (st k).term ∧ g.lg T = some l) := fun {T l} hT => by
    by_cases c : T = (st k).term
    · subst c
      rw [lgk] at hT
      injection hT with hT
      exact .inl ⟨rfl, hT.symm⟩
    · have hT : updI g.lg _ _ T = some l := hT
      rw [updI_ne c] at hT
      exact .inr ⟨c, hT⟩
  have T1 : ∀ j, (updS st k ((st k).begin_ n) j).term = (st j).term := fun j => by unfold updS; split; (rename_i e; rw [e]; rfl); rfl
  have R1 : ∀ j, (updS st k ((st k).begin_ n) j).row = (st j).row := fun j => by unfold updS; split; (rename_i e; rw [e]; rfl); rfl
  have S1 : ∀ j, (updS st k ((st k).begin_ n) j).settled = (st j).settled := fun j => by unfold updS; split; (rename_i e; rw [e]; rfl); rfl
  have agr : ∀ {l U m}, U ≠ (st k).term → Agr (g.win (st k).term (st k).row W k) l U m → Agr g l U m := fun {l U m} hU ⟨a, a1, a2⟩ => by
    rcases lgi a1 with ⟨z, _⟩ | ⟨_, a1⟩
    · exact absurd z hU
    · exact ⟨a, a1, a2⟩
  have agr' : ∀ {l U m}, Agr g l U m → Agr (g.win (st k).term (st k).row W k) l U m := fun ⟨a, a1, a2⟩ => ⟨a, lgo _ _ a1, a2⟩
  have nn : ∀ {U l}, g.lg U = some l → g.lg U ≠ none := fun hU => by rw [hU]; exact fun q => nomatch q
  have nn' : ∀ {U}, g.lg U ≠ none → (g.win (st k).term (st k).row W k).lg U ≠ none := fun {U} hU => by
    cases z : g.lg U with
    | none => exact absurd z hU
    | some l => rw [lgo U l z]; exact fun q => nomatch q
  refine ⟨fun j hj => by rw [T1]; exact h.t0 j hj, fun T l hT => ?_, fun j hj => by rw [R1, T1]; exact (h.rows j hj).mono lgo, fun T l hT => ?_, fun j hj hl => ?_, fun j hj hl => ?_, fun T l hT => ?_, fun T l v hT hvn hV => ?_, fun T o ho ha => ?_, fun j hj hl => ?_, fun T l o m hT ho hm ow pr => ?_, fun T l T' l' v m hT hT' lt hvn hV hm ow pr => ?_, fun j hj hs => ?_⟩
  · rcases lgi hT with ⟨rfl, _⟩ | ⟨_, hT⟩
    · have := h0.t0 k hk
      have := (hv k hk wk).1
      omega
    · exact h.e0 T l hT
  · rcases lgi hT with ⟨rfl, rfl⟩ | ⟨_, hT⟩
    · exact (h.rows k hk).mono lgo
    · exact (h.logs T l hT).mono lgo
  · rw [T1, R1]
    by_cases c : j = k
    · rw [c]; exact lgk
    · rw [updS_ne c] at hl
      exact lgo _ _ (h.own j hj hl)
  · rw [T1]
    show updI g.who _ k _ = j
    by_cases c : j = k
    · rw [c, updI_same]
    · rw [updS_ne c] at hl
      rw [updI_ne (ne (h.own j hj hl))]
      exact h.wh j hj hl
  · rcases lgi hT with ⟨rfl, _⟩ | ⟨c, hT⟩
    · show Maj n (updI g.V _ W _)
      rw [updI_same]; exact mj
    · show Maj n (updI g.V _ W _)
      rw [updI_ne c]; exact h.maj T l hT
  · rw [T1]
    have hV : updI g.V _ W T v = true := hV
    rcases lgi hT with ⟨rfl, _⟩ | ⟨c, hT⟩
    · rw [updI_same] at hV
      exact (hv v hvn hV).2.1
    · rw [updI_ne c] at hV
      exact h.vt T l v hT hvn hV
  · rw [T1]
    have ha : 0 < updI g.ack _ _ T o := ha
    show _ ∧ ∃ l, _ ∧ updI g.ack _ _ T o ≤ _
    by_cases c : T = (st k).term
    · subst c
      rw [updI_same] at ha ⊢
      by_cases c2 : o = k
      · rw [if_pos c2, c2]
        exact ⟨Int.le_refl _, _, lgk, Nat.le_refl _⟩
      · rw [if_neg c2] at ha; exact absurd ha (Nat.lt_irrefl 0)
    · rw [updI_ne c] at ha ⊢
      obtain ⟨a1, l, a2, a3⟩ := h.ak T o ho ha
      exact ⟨a1, l, lgo _ _ a2, a3⟩
  · rw [T1, R1]
    show (∀ o, o < n → o ≠ j → (_ ≤ ((updI g.ack _ _ (st j).term o : Nat) : Int) ∧ _)) ∧ _ ≤ updI g.ack _ _ (st j).term j
    by_cases c : j = k
    · subst c
      rw [updI_same, updS_same, if_pos rfl]
      refine ⟨fun o ho hne => ⟨?_, ?_⟩, Nat.le_refl _⟩
      · show (List.replicate n (0 : Int)).getD o 0 ≤ _
        rw [rep_getD n o 0 ho]; exact Int.natCast_nonneg _
      · show (List.replicate n ((st j).row.length : Int)).getD o 0 ≤ _
        rw [rep_getD n o _ ho]; exact Int.le_refl _
    · rw [updS_ne c] at hl ⊢
      have c2 : (st j).term ≠ (st k).term := ne (h.own j hj hl)
      rw [updI_ne c2]
      exact h.hd j hj hl
  · rw [R1]
    rw [T1] at pr
    have hm : m ≤ updI g.ack _ _ T o := hm
    rcases lgi hT with ⟨rfl, rfl⟩ | ⟨c, hT⟩
    · rw [updI_same] at hm
      by_cases c2 : o = k
      · rw [if_pos c2] at hm
        rw [c2]; exact ⟨hm, Ag.refl _ _⟩
      · rw [if_neg c2] at hm
        obtain ⟨_, m0, _⟩ := ow
        omega
    · rw [updI_ne c] at hm
      exact h.j1 T l o m hT ho hm ow fun U u1 u2 u3 => agr (fun z => by
        have := el U u3
        omega) (pr U u1 u2 (nn' u3))
  · have hm : m ≤ updI g.ack _ _ T v := hm
    have hV : updI g.V _ W T' v = true := hV
    rcases lgi hT with ⟨rfl, rfl⟩ | ⟨c, hT⟩
    · rcases lgi hT' with ⟨z, _⟩ | ⟨_, hT'⟩
      · omega
      · have := el T' (nn hT'); omega
    · rw [updI_ne c] at hm
      rcases lgi hT' with ⟨rfl, rfl⟩ | ⟨c', hT'⟩
      · rw [updI_same] at hV
        obtain ⟨v1, v2, v3⟩ := hv v hvn hV
        have prg : ∀ U, T < U → U < (st k).term → g.lg U ≠ none → Agr g l U m := fun U u1 u2 u3 => agr (by omega) (pr U u1 u2 (nn' u3))
        obtain ⟨b1, b2⟩ := h0.j1 T l v m hT hvn hm ow fun U u1 u2 u3 => prg U u1 (by omega) u3
        rw [← rw_ v] at b1 b2
        rcases v3 with rfl | v3
        · exact ⟨_, lgk, b1, b2⟩
        · obtain ⟨b3, b4⟩ := vote_agree hT (h.e0 T l hT) (h.logs T l hT) (h.rows k hk) (h.rows v hvn) el v3 ow b1 b2 prg
          exact ⟨_, lgk, b3, b4⟩
      · rw [updI_ne c'] at hV
        exact agr' (h.j2 T l T' l' v m hT hT' lt hvn hV hm ow fun U u1 u2 u3 => agr (fun z => by
          have := el T' (nn hT')
          omega) (pr U u1 u2 (nn' u3)))
  · rw [S1] at hs ⊢
    rw [T1, R1]
    obtain ⟨T, l, m, a1, a2, a3, a4, a5, a6, a7⟩ := h.se j hj hs
    refine ⟨T, l, m, lgo _ _ a1, a2, ?_, a4, a5, a6, a7⟩
    show Maj n fun o => decide (m ≤ updI g.ack _ _ T o)
    rw [updI_ne (ne a1)]; exact a3
theorem cntB_ins {W : Nat → Bool} {o : Nat} (hw : W o = false) : ∀ n, cntB n (fun i => W i || decide (i = o)) = cntB n W + if o < n then 1 else 0
  | 0 => rfl
  | n + 1 => by
    rw [cntB_succ, cntB_succ, cntB_ins hw n]
    by_cases c : n = o
    · subst c
      rw [if_neg (Nat.lt_irrefl n), if_pos (by simp), if_neg (by rw [hw]; decide), if_pos (Nat.lt_succ_self n)]
    · have e : (W n || decide (n = o)) = W n := by rw [decide_eq_false c, Bool.or_false]
      rw [e]
      by_cases d : o < n
      · rw [if_pos d, if_pos (show o < n + 1 by omega)]; omega
      · rw [if_neg d, if_neg (show ¬ o < n + 1 by omega)]; omega
theorem hear_term_self (k : KS) : k.hear k.term = k := by unfold KS.hear; rw [if_neg (Int.lt_irrefl _)]
theorem hear_le (k : KS) (t : Int) : k.term ≤ (k.hear t).term := by
  unfold KS.hear
  split
  · show k.term ≤ t; omega
  · exact Int.le_refl _
theorem askAll_vote {n k : Nat} (hk : k < n) (os : List Int) : ∀ (st : Nat → KS) (v : Int) (W : Nat → Bool), (∀ o, o ∈ os → 0 ≤ o ∧ o < n) → (∀ i, i < n → W i = true → (st k).term ≤ (st i).term) → v = (cntB n W : Int) →
    ∃ W', (askAll st k os v).2 = (cntB n W' : Int) ∧ ((askAll st k os v).1 k).term = (st k).term ∧ (∀ i, (st i).term ≤ ((askAll st k os v).1 i).term) ∧ (∀ i, W i = true → W' i = true) ∧ ∀ i, i < n → W' i = true → (st k).term ≤ ((askAll st k os v).1 i).term ∧ (W i = true ∨ ((st i).term < (st k).term ∧ asNew (st k).row (st i).row = true)) := by
  induction os with
  | nil => intro st v W _ hW hv; exact ⟨W, hv, rfl, fun _ => Int.le_refl _, fun _ h => h, fun i hi h => ⟨hW i hi h, .inl h⟩⟩
  | cons o os ih =>
    intro st v W ho hW hv
    obtain ⟨o0, o1⟩ := ho o List.mem_cons_self
    have hon : o.toNat < n := by omega
    have ho' : ∀ o, o ∈ os → 0 ≤ o ∧ o < n := fun x hx => ho x (List.mem_cons_of_mem _ hx)
    have ek : (updS st o.toNat ((st o.toNat).hear (st k).term) k).term = (st k).term := by
      by_cases c : k = o.toNat
      · rw [← c, updS_same, hear_term_self]
      · rw [updS_ne c]
    have er : ∀ i, (updS st o.toNat ((st o.toNat).hear (st k).term) i).row = (st i).row := fun i => by
      unfold updS; split
      · rename_i e; rw [hear_row, e]
      · rfl
    have et : ∀ i, (st i).term ≤ (updS st o.toNat ((st o.toNat).hear (st k).term) i).term := fun i => by
      unfold updS; split
      · rename_i e; rw [e]; exact hear_le _ _
      · exact Int.le_refl _
    have ee : askAll st k (o :: os) v = askAll (updS st o.toNat ((st o.toNat).hear (st k).term)) k os (if (decide ((st o.toNat).term < (st k).term) && asNew (st k).row (st o.toNat).row) = true then v + 1 else v) := rfl
    rw [ee]
    by_cases c : (decide ((st o.toNat).term < (st k).term) && asNew (st k).row (st o.toNat).row) = true
    · rw [if_pos c]
      rw [Bool.and_eq_true, decide_eq_true_eq] at c
      have hwo : W o.toNat = false := by
        cases z : W o.toNat with
        | false => rfl
        | true => have := hW _ hon z; omega
      obtain ⟨W', a1, a2, a3, a4, a5⟩ := ih _ (v + 1) (fun i => W i || decide (i = o.toNat)) ho' (fun i hi hw => by
        rw [ek]
        rcases Bool.or_eq_true_iff.mp hw with hw | hw
        · exact Int.le_trans (hW i hi hw) (et i)
        · rw [decide_eq_true_eq] at hw
          rw [hw, updS_same]
          unfold KS.hear
          rw [if_pos c.1]; exact Int.le_refl _) (by rw [cntB_ins hwo, if_pos hon, hv]; omega)
      refine ⟨W', a1, by rw [a2, ek], fun i => Int.le_trans (et i) (a3 i), fun i hw => a4 i (by rw [hw]; rfl), fun i hi hw => ?_⟩
      obtain ⟨b1, b2⟩ := a5 i hi hw
      rw [ek] at b1 b2
      refine ⟨b1, ?_⟩
      rcases b2 with b2 | ⟨b2, b3⟩
      · rcases Bool.or_eq_true_iff.mp b2 with b2 | b2
        · exact .inl b2
        · rw [decide_eq_true_eq] at b2
          rw [b2]; exact .inr c
      · rw [er, er] at b3
        exact .inr ⟨Int.lt_of_le_of_lt (et i) b2, b3⟩
    · rw [if_neg c]
      obtain ⟨W', a1, a2, a3, a4, a5⟩ := ih _ v W ho' (fun i hi hw => by rw [ek]; exact Int.le_trans (hW i hi hw) (et i)) hv
      refine ⟨W', a1, by rw [a2, ek], fun i => Int.le_trans (et i) (a3 i), a4, fun i hi hw => ?_⟩
      obtain ⟨b1, b2⟩ := a5 i hi hw
      rw [ek] at b1 b2
      refine ⟨b1, ?_⟩
      rcases b2 with b2 | ⟨b2, b3⟩
      · exact .inl b2
      · rw [er, er] at b3
        exact .inr ⟨Int.lt_of_le_of_lt (et i) b2, b3⟩
end Fw

namespace Fw
open PySem L2
theorem stand1_term (st : Nat → KS) (k : Nat) : (stand1 st k k).term = (st k).term + 1 ∧ ∀ i, i ≠ k → stand1 st k i = st i := by
  unfold stand1
  refine ⟨?_, fun i h => updS_ne h⟩
  rw [updS_same]
  unfold KS.hear
  rw [if_pos (by omega)]
theorem cntB_one {n k : Nat} (h : k < n) : cntB n (fun i => decide (i = k)) = 1 := by
  have := cntB_ins (W := fun _ => false) (o := k) rfl n
  rw [if_pos h] at this
  have e : cntB n (fun _ => false) = 0 := by
    unfold cntB
    rw [List.filter_eq_nil_iff.mpr fun _ _ => by decide]; rfl
  rw [e] at this
  have e2 : (fun i => (fun _ : Nat => false) i || decide (i = k)) = fun i => decide (i = k) := by funext i; rw [Bool.false_or]
  rw [e2] at this
  exact this
/-- what an election brings: the old logs stay; a new leader's term is above all -/
structure Won (st : Nat → KS) (g : Gh) (n k : Nat) (st' : Nat → KS) (g' : Gh) : Prop where
  inv : Inv n st' g'
  lead : (st' k).leads = true → (∀ U, g.lg U ≠ none → U < (st' k).term) ∧ g' = g.win (st' k).term (st' k).row (g'.V (st' k).term) k ∧ g'.lg (st' k).term = some (st' k).row
  not : (st' k).leads = false → g' = g
theorem Inv.stand {n : Nat} {st : Nat → KS} {g : Gh} (h : Inv n st g) {k : Nat} (hk : k < n) {os : List Int} (ho : ∀ o, o ∈ os → 0 ≤ o ∧ o < n) : ∃ g', Won st g n k (standSt n st k os) g' := by
  have h1 : Inv n (stand1 st k) g := h.hear _ _
  obtain ⟨t1, t2⟩ := stand1_term st k
  obtain ⟨W, a1, a2, a3, a4, a5⟩ := askAll_vote hk os (stand1 st k) 1 (fun i => decide (i = k)) ho (fun i hi hw => by rw [of_decide_eq_true hw]; exact Int.le_refl _) (by rw [cntB_one hk]; rfl)
  have h2 := Inv.askAll k os 1 h1
  have hr : ∀ i, ((Fw.askAll (stand1 st k) k os 1).1 i).row = (st i).row := fun i => by rw [askAll_row, stand1_row]
  have hl : ((Fw.askAll (stand1 st k) k os 1).1 k).leads = false := by
    have : ∀ (os : List Int) (s : Nat → KS) (v : Int), (s k).leads = false → ((Fw.askAll s k os v).1 k).leads = false := fun os => by
      induction os with
      | nil => intro s v hs; exact hs
      | cons o os ih =>
        intro s v hs
        refine ih _ _ ?_
        unfold updS
        split
        · rename_i e
          rw [← e, hear_term_self]; exact hs
        · exact hs
    refine this os _ _ ?_
    unfold stand1
    rw [updS_same]
    unfold KS.hear
    rw [if_pos (by omega)]
  unfold standSt
  by_cases c : (n : Int) < 2 * (Fw.askAll (stand1 st k) k os 1).2
  · rw [if_pos c]
    rw [a1] at c
    have mj : Maj n W := by unfold Maj; omega
    generalize (Fw.askAll (stand1 st k) k os 1).1 = st2 at h2 hr hl a2 a3 a5
    have hv : ∀ v, v < n → W v = true → (st v).term < (st2 k).term ∧ (st2 k).term ≤ (st2 v).term ∧ (v = k ∨ asNew (st2 k).row (st2 v).row = true) := fun v hvn hw => by
      obtain ⟨b1, b2⟩ := a5 v hvn hw
      rw [a2, t1] at *
      by_cases q : v = k
      · subst q
        exact ⟨by omega, b1, .inl rfl⟩
      · rcases b2 with b2 | ⟨b2, b3⟩
        · exact absurd (of_decide_eq_true b2) q
        · rw [t2 v q] at b2 b3
          rw [stand1_row] at b3
          exact ⟨b2, b1, .inr (by rw [hr, hr]; exact b3)⟩
    have hw := Inv.win h h2 hk hr mj (a4 k (by rw [decide_eq_true rfl])) hv
    have T1 : (updS st2 k ((st2 k).begin_ n) k).term = (st2 k).term := by rw [updS_same]; rfl
    have R1 : (updS st2 k ((st2 k).begin_ n) k).row = (st2 k).row := by rw [updS_same]; rfl
    refine ⟨g.win (st2 k).term (st2 k).row W k, hw, fun _ => ⟨fun U hU => ?_, ?_, ?_⟩, fun z => ?_⟩
    · rw [T1]
      cases z : g.lg U with
      | none => exact absurd z hU
      | some l =>
        obtain ⟨v, v1, v2, v3⟩ := (h.maj U l z).meet mj
        have := h.vt U l v z v1 v2
        have := (hv v v1 v3).1
        omega
    · rw [T1, R1]
      show _ = g.win _ _ (updI g.V _ W _) k
      rw [updI_same]
    · rw [T1, R1]; exact updI_same
    · rw [updS_same] at z; cases z
  · rw [if_neg c]
    exact ⟨g, h2, (fun z => by rw [hl] at z; cases z), fun _ => rfl⟩
/-- a word is written -/
def Gh.write (g : Gh) (T : Int) (row : List Ent) (k : Nat) : Gh := ⟨updI g.lg T (some row), g.V, updI g.ack T fun o => if o = k then row.length else g.ack T o, g.who⟩
theorem cntB_mono {f f' : Nat → Bool} : ∀ {n : Nat}, (∀ i, i < n → f i = true → f' i = true) → cntB n f ≤ cntB n f'
  | 0, _ => Nat.le_refl _
  | n + 1, h => by
    have := cntB_mono (n := n) fun i hi => h i (by omega)
    rw [cntB_succ, cntB_succ]
    by_cases c : f n = true
    · rw [if_pos c, if_pos (h n (by omega) c)]; omega
    · rw [if_neg c]; omega
theorem Maj.mono {n : Nat} {f f' : Nat → Bool} (h : Maj n f) (k : ∀ i, i < n → f i = true → f' i = true) : Maj n f' := by
  have := cntB_mono k
  unfold Maj at h ⊢
  omega
theorem own_lt {l : List Ent} {T : Int} {m : Nat} (h : Own l T m) : 0 < m ∧ m ≤ l.length := by
  obtain ⟨x, h0, h1, _⟩ := h
  have := (List.getElem?_eq_some_iff.mp h1).1
  omega
theorem Own.ag {l l' : List Ent} {T : Int} {m : Nat} (h : Own l T m) (a : Ag m l l') : Own l' T m := by
  obtain ⟨x, h0, h1, h2⟩ := h
  exact ⟨x, h0, by rw [← a (m - 1) (by omega)]; exact h1, h2⟩
theorem Inv.one_leads {n : Nat} {st : Nat → KS} {g : Gh} (h : Inv n st g) {i j : Nat} (hi : i < n) (hj : j < n) (li : (st i).leads = true) (lj : (st j).leads = true) (e : (st i).term = (st j).term) : i = j := by
  have a := h.wh i hi li
  rw [e, h.wh j hj lj] at a
  exact a.symm
theorem Inv.write {n : Nat} {st : Nat → KS} {g : Gh} (h : Inv n st g) {k : Nat} (hk : k < n) (hl : (st k).leads = true) (w : PySem.Str) :
    Inv n (updS st k { st k with row := (st k).row ++ [((st k).term, w)] }) (g.write (st k).term ((st k).row ++ [((st k).term, w)]) k) := by
  have hr := h.own k hk hl
  have gk := h.rows k hk
  generalize hT : (st k).term = T0 at hr gk
  generalize hR : (st k).row = r at hr gk
  have lgk : (g.write T0 (r ++ [(T0, w)]) k).lg T0 = some (r ++ [(T0, w)]) := updI_same
  have lgo : ∀ {T}, T ≠ T0 → (g.write T0 (r ++ [(T0, w)]) k).lg T = g.lg T := fun c => updI_ne c
  have lgi : ∀ {T l}, (g.write T0 (r ++ [(T0, w)]) k).lg T = some l → (T = T0 ∧ l = r ++ [(T0, w)]) ∨ (T ≠ T0 ∧ g.lg T = some l) := fun {T l} hT => by
    by_cases c : T = T0
    · subst c
      rw [lgk] at hT
      injection hT with hT
      exact .inl ⟨rfl, hT.symm⟩
    · rw [lgo c] at hT; exact .inr ⟨c, hT⟩
  have lgm : ∀ {T l}, g.lg T = some l → ∃ l', (g.write T0 (r ++ [(T0, w)]) k).lg T = some l' ∧ Ag l.length l l' ∧ l.length ≤ l'.length := fun {T l} hTl => by
    by_cases c : T = T0
    · subst c
      rw [hr] at hTl
      injection hTl with hTl
      subst hTl
      exact ⟨_, lgk, Ag.app _ (Nat.le_refl _), by rw [List.length_append]; omega⟩
    · exact ⟨l, by rw [lgo c]; exact hTl, Ag.refl _ _, Nat.le_refl _⟩
  have RG : ∀ {t es}, RowG g t es → RowG (g.write T0 (r ++ [(T0, w)]) k) t es := fun {t es} hes => ⟨fun p x hx => by
    obtain ⟨b1, l, b2, b3⟩ := hes.at_ p x hx
    obtain ⟨l', c1, c2, _⟩ := lgm b2
    have : p + 1 ≤ l.length := b3.len (by have := (List.getElem?_eq_some_iff.mp hx).1; omega)
    exact ⟨b1, l', c1, b3.trans (c2.less this)⟩, hes.so⟩
  have snoc : ∀ {p x}, (r ++ [(T0, w)])[p]? = some x → (p < r.length ∧ r[p]? = some x) ∨ (p = r.length ∧ x = (T0, w)) := fun {p x} hx => by
    by_cases c : p < r.length
    · rw [List.getElem?_append_left c] at hx; exact .inl ⟨c, hx⟩
    · rw [List.getElem?_append_right (by omega)] at hx
      by_cases d : p - r.length = 0
      · rw [d] at hx
        injection hx with hx
        exact .inr ⟨by omega, hx.symm⟩
      · rw [List.getElem?_eq_none (by show 1 ≤ _; omega)] at hx; cases hx
  have gR : RowG (g.write T0 (r ++ [(T0, w)]) k) T0 (r ++ [(T0, w)]) := by
    refine ⟨fun p x hx => ?_, fun p q x y pq hx hy => ?_⟩
    · rcases snoc hx with ⟨c, hx⟩ | ⟨c, rfl⟩
      · obtain ⟨b1, l, b2, b3⟩ := (RG gk).at_ p x hx
        exact ⟨b1, l, b2, (Ag.app _ (by omega)).symm.trans b3⟩
      · exact ⟨Int.le_refl _, _, lgk, Ag.refl _ _⟩
    · rcases snoc hy with ⟨c, hy⟩ | ⟨c, rfl⟩
      · rcases snoc hx with ⟨_, hx⟩ | ⟨c2, _⟩
        · exact gk.so p q x y pq hx hy
        · omega
      · rcases snoc hx with ⟨_, hx⟩ | ⟨_, rfl⟩
        · exact (gk.at_ p x hx).1
        · exact Int.le_refl _
  have T1 : ∀ j, (updS st k { st k with row := r ++ [(T0, w)] } j).term = (st j).term := fun j => by unfold updS; split; (rename_i e; rw [e]); rfl
  have R1 : ∀ j, Ag (st j).row.length (st j).row (updS st k { st k with row := r ++ [(T0, w)] } j).row ∧ (st j).row.length ≤ (updS st k { st k with row := r ++ [(T0, w)] } j).row.length := fun j => by
    unfold updS
    split
    · rename_i e
      rw [e, hR]
      exact ⟨Ag.app _ (Nat.le_refl _), by show _ ≤ (r ++ [_]).length; rw [List.length_append]; omega⟩
    · exact ⟨Ag.refl _ _, Nat.le_refl _⟩
  have Rk : (updS st k { st k with row := r ++ [(T0, w)] } k).row = r ++ [(T0, w)] := by rw [updS_same]
  have Ro : ∀ {j}, j ≠ k → updS st k { st k with row := r ++ [(T0, w)] } j = st j := fun c => updS_ne c
  have S1 : ∀ j, (updS st k { st k with row := r ++ [(T0, w)] } j).settled = (st j).settled := fun j => by unfold updS; split; (rename_i e; rw [e]); rfl
  have nt : ∀ {j}, j < n → j ≠ k → (st j).leads = true → (st j).term ≠ T0 := fun {j} hj hne lj z => hne (h.one_leads hj hk lj hl (by rw [z, hT]))
  have ackle : ∀ o, o < n → g.ack T0 o ≤ r.length := fun o ho => by
    by_cases z : 0 < g.ack T0 o
    · obtain ⟨_, l, e1, e2⟩ := h.ak T0 o ho z
      rw [hr] at e1
      injection e1 with e1
      rw [e1]; exact e2
    · omega
  have aU : ∀ {l T U m}, T < U → T ≠ T0 → Own l T m → Agr (g.write T0 (r ++ [(T0, w)]) k) l U m → Agr g l U m := fun {l T U m} lt c ow ⟨a, a1, a2, a3⟩ => by
    rcases lgi a1 with ⟨rfl, rfl⟩ | ⟨c2, a1⟩
    · have hm : m ≤ r.length := by
        by_cases q : m ≤ r.length
        · exact q
        · rw [List.length_append] at a2
          have a2 : m ≤ r.length + 1 := a2
          obtain ⟨x, b0, b1, b2⟩ := ow
          have := a3 (m - 1) (by omega)
          rw [b1] at this
          rcases snoc this.symm with ⟨d, _⟩ | ⟨_, d⟩
          · omega
          · rw [d] at b2
            have b2 : U = T := b2
            omega
      exact ⟨r, hr, hm, a3.trans (Ag.app _ hm).symm⟩
    · exact ⟨a, a1, a2, a3⟩
  have nn' : ∀ {U}, g.lg U ≠ none → (g.write T0 (r ++ [(T0, w)]) k).lg U ≠ none := fun {U} hU => by
    cases z : g.lg U with
    | none => exact absurd z hU
    | some l =>
      obtain ⟨l', e, _⟩ := lgm z
      rw [e]; exact fun q => nomatch q
  have aU0 : ∀ {U m}, T0 < U → m ≤ r.length → Agr (g.write T0 (r ++ [(T0, w)]) k) (r ++ [(T0, w)]) U m → Agr g r U m := fun {U m} lt hm ⟨a, a1, a2, a3⟩ => by
    rcases lgi a1 with ⟨z, _⟩ | ⟨c2, a1⟩
    · omega
    · exact ⟨a, a1, a2, (Ag.app _ hm).trans a3⟩
  refine ⟨fun j hj => by rw [T1]; exact h.t0 j hj, fun T l hT' => ?_, fun j hj => ?_, fun T l hT' => ?_, fun j hj lj => ?_, fun j hj lj => ?_, fun T l hT' => ?_, fun T l v hT' hvn hV => ?_, fun T o ho ha => ?_, fun j hj lj => ?_, fun T l o m hT' ho hm ow pr => ?_, fun T l T' l' v m hT1 hT2 lt hvn hV hm ow pr => ?_, fun j hj hs => ?_⟩
  · rcases lgi hT' with ⟨rfl, _⟩ | ⟨_, hT'⟩
    · exact h.e0 _ _ hr
    · exact h.e0 _ _ hT'
  · rw [T1]
    by_cases c : j = k
    · rw [c, Rk, hT]; exact gR
    · rw [Ro c]; exact RG (h.rows j hj)
  · rcases lgi hT' with ⟨rfl, rfl⟩ | ⟨_, hT'⟩
    · exact gR
    · exact RG (h.logs _ _ hT')
  · rw [T1]
    by_cases c : j = k
    · rw [c, Rk, hT]; exact lgk
    · rw [Ro c] at lj ⊢
      rw [lgo (nt hj c lj)]; exact h.own j hj lj
  · rw [T1]
    show g.who _ = j
    by_cases c : j = k
    · rw [c]; exact h.wh k hk hl
    · rw [Ro c] at lj; exact h.wh j hj lj
  · show Maj n (g.V T)
    rcases lgi hT' with ⟨rfl, _⟩ | ⟨_, hT'⟩
    · exact h.maj _ _ hr
    · exact h.maj _ _ hT'
  · rw [T1]
    rcases lgi hT' with ⟨rfl, _⟩ | ⟨_, hT'⟩
    · exact h.vt _ _ v hr hvn hV
    · exact h.vt _ _ v hT' hvn hV
  · rw [T1]
    have ha : 0 < updI g.ack _ _ T o := ha
    show _ ∧ ∃ l, _ ∧ updI g.ack _ _ T o ≤ _
    by_cases c : T = T0
    · subst c
      rw [updI_same] at ha ⊢
      by_cases c2 : o = k
      · rw [if_pos c2, c2, hT]
        exact ⟨Int.le_refl _, _, lgk, Nat.le_refl _⟩
      · rw [if_neg c2] at ha ⊢
        exact ⟨(h.ak T o ho ha).1, _, lgk, by have := ackle o ho; rw [List.length_append]; omega⟩
    · rw [updI_ne c] at ha ⊢
      rw [lgo c]
      exact h.ak T o ho ha
  · rw [T1]
    show (∀ o, o < n → o ≠ j → (_ ≤ ((updI g.ack _ _ (st j).term o : Nat) : Int) ∧ _)) ∧ _ ≤ updI g.ack _ _ (st j).term j
    by_cases c : j = k
    · subst c
      rw [hT, updI_same, if_pos rfl, Rk]
      refine ⟨fun o ho hne => ?_, Nat.le_refl _⟩
      rw [if_neg hne]
      obtain ⟨b1, b2⟩ := (h.hd j hj hl).1 o ho hne
      rw [hT] at b1
      rw [hR] at b2
      rw [updS_same]
      refine ⟨b1, Int.le_trans b2 ?_⟩
      rw [List.length_append]; omega
    · rw [Ro c] at lj ⊢
      rw [updI_ne (nt hj c lj)]
      exact h.hd j hj lj
  · rw [T1] at pr
    have hm : m ≤ updI g.ack _ _ T o := hm
    rcases lgi hT' with ⟨rfl, rfl⟩ | ⟨c, hT'⟩
    · rw [updI_same] at hm
      by_cases c2 : o = k
      · rw [if_pos c2] at hm
        rw [c2, Rk]; exact ⟨hm, Ag.refl _ _⟩
      · rw [if_neg c2] at hm
        have hm2 : m ≤ r.length := Nat.le_trans hm (ackle o ho)
        have ow' := ow.ag (Ag.app _ hm2).symm
        obtain ⟨b1, b2⟩ := h.j1 T r o m hr ho hm ow' fun U u1 u2 u3 => aU0 u1 hm2 (pr U u1 u2 (nn' u3))
        rw [Ro c2]
        exact ⟨b1, (Ag.app _ hm2).symm.trans b2⟩
    · rw [updI_ne c] at hm
      obtain ⟨b1, b2⟩ := h.j1 T l o m hT' ho hm ow fun U u1 u2 u3 => aU u1 c ow (pr U u1 u2 (nn' u3))
      exact ⟨Nat.le_trans b1 (R1 o).2, b2.trans ((R1 o).1.less b1)⟩
  · have hm : m ≤ updI g.ack _ _ T v := hm
    have hV : g.V T' v = true := hV
    rcases lgi hT1 with ⟨rfl, rfl⟩ | ⟨c, hT1⟩
    · rcases lgi hT2 with ⟨z, _⟩ | ⟨c2, hT2⟩
      · omega
      · rw [updI_same] at hm
        have hvk : v ≠ k := fun z => by
          have := h.vt T' l' v hT2 hvn hV
          rw [z, hT] at this
          omega
        rw [if_neg hvk] at hm
        have hm2 : m ≤ r.length := Nat.le_trans hm (ackle v hvn)
        obtain ⟨a, a1, a2, a3⟩ := h.j2 T r T' l' v m hr hT2 lt hvn hV hm (ow.ag (Ag.app _ hm2).symm) fun U u1 u2 u3 => aU0 u1 hm2 (pr U u1 u2 (nn' u3))
        exact ⟨a, by rw [lgo c2]; exact a1, a2, (Ag.app _ hm2).symm.trans a3⟩
    · rw [updI_ne c] at hm
      have prg : ∀ U, T < U → U < T' → g.lg U ≠ none → Agr g l U m := fun U u1 u2 u3 => aU u1 c ow (pr U u1 u2 (nn' u3))
      have e : ∃ lo, g.lg T' = some lo := by
        rcases lgi hT2 with ⟨rfl, _⟩ | ⟨_, hT2⟩
        · exact ⟨_, hr⟩
        · exact ⟨_, hT2⟩
      obtain ⟨lo, hlo⟩ := e
      obtain ⟨a, a1, a2, a3⟩ := h.j2 T l T' lo v m hT1 hlo lt hvn hV hm ow prg
      obtain ⟨a', b1, b2, b3⟩ := lgm a1
      exact ⟨a', b1, Nat.le_trans a2 b3, a3.trans (b2.less a2)⟩
  · rw [S1] at hs ⊢
    rw [T1]
    obtain ⟨T, l, m, a1, a2, a3, a4, a5, a6, a7⟩ := h.se j hj hs
    obtain ⟨l', b1, b2, b3⟩ := lgm a1
    have hml := (own_lt a2).2
    refine ⟨T, l', m, b1, a2.ag (b2.less hml), a3.mono fun o ho hd => ?_, a4, a5, Nat.le_trans a6 (R1 j).2, (b2.less (by omega)).symm.trans (a7.trans ((R1 j).1.less a6))⟩
    have hd := of_decide_eq_true hd
    refine decide_eq_true ?_
    show m ≤ updI g.ack _ _ T o
    by_cases c : T = T0
    · subst c
      rw [updI_same]
      by_cases c2 : o = k
      · rw [if_pos c2, List.length_append]
        have := ackle o ho
        omega
      · rw [if_neg c2]; exact hd
    · rw [updI_ne c]; exact hd
end Fw

namespace Fw
open PySem L2
theorem list_rg (hs : List Int) : hs = (List.range hs.length).map fun o => hs.getD o 0 := List.ext_getElem? fun o => by
  rw [List.getElem?_map]
  by_cases c : o < hs.length
  · rw [List.getElem?_range c, List.getElem?_eq_getElem c]
    show _ = some (hs.getD o 0)
    rw [List.getD_eq_getElem?_getD, List.getElem?_eq_getElem c]; rfl
  · rw [List.getElem?_eq_none (by omega), List.getElem?_eq_none (by rw [List.length_range]; omega)]; rfl
theorem cnt_B (hs : List Int) (x : Int) : cnt hs x = cntB hs.length fun o => decide (x ≤ hs.getD o 0) := by
  unfold cnt cntB
  conv => lhs; rw [list_rg hs]
  rw [List.filter_map, List.length_map]; rfl
theorem settledUp_own {es : List Ent} {t : Int} {hs : List Int} : ∀ {N : Nat}, 0 < settledUp es t hs N → ∃ j : Nat, settledUp es t hs N = (j : Int) + 1 ∧ (hs.length : Int) < 2 * (cnt hs ((j : Int) + 1) : Int) ∧ (es[j]?.map (·.1)) = some t
  | 0, h => absurd h (Int.lt_irrefl 0)
  | N + 1, h => by
    unfold settledUp at h ⊢
    split
    · rename_i c; exact ⟨N, rfl, c.1, c.2⟩
    · rename_i c
      rw [if_neg c] at h
      exact settledUp_own h
theorem Inv.settle {n : Nat} {st : Nat → KS} {g : Gh} (h : Inv n st g) {k : Nat} (hk : k < n) (hl : (st k).leads = true) (hlen : (st k).held.length = n) : Inv n (updS st k { st k with settled := (st k).settleN k }) g := by
  have T1 : ∀ j, (updS st k { st k with settled := (st k).settleN k } j).term = (st j).term := fun j => by unfold updS; split; (rename_i e; rw [e]); rfl
  have R1 : ∀ j, (updS st k { st k with settled := (st k).settleN k } j).row = (st j).row := fun j => by unfold updS; split; (rename_i e; rw [e]); rfl
  have L1 : ∀ j, (updS st k { st k with settled := (st k).settleN k } j).leads = (st j).leads := fun j => by unfold updS; split; (rename_i e; rw [e]); rfl
  have H1 : ∀ j, (updS st k { st k with settled := (st k).settleN k } j).held = (st j).held := fun j => by unfold updS; split; (rename_i e; rw [e]); rfl
  have A1 : ∀ j o, (updS st k { st k with settled := (st k).settleN k } j).aheadAt o = (st j).aheadAt o := fun j o => by unfold updS; split; (rename_i e; rw [e]; rfl); rfl
  refine ⟨fun j hj => by rw [T1]; exact h.t0 j hj, h.e0, fun j hj => by rw [R1, T1]; exact h.rows j hj, h.logs, fun j hj lj => by rw [L1] at lj; rw [T1, R1]; exact h.own j hj lj, fun j hj lj => by rw [L1] at lj; rw [T1]; exact h.wh j hj lj, h.maj, fun T l v h1 h2 h3 => by rw [T1]; exact h.vt T l v h1 h2 h3, fun T o h1 h2 => by rw [T1]; exact h.ak T o h1 h2,
    fun j hj lj => ?_, fun T l o m h1 h2 h3 h4 h5 => by rw [T1] at h5; rw [R1]; exact h.j1 T l o m h1 h2 h3 h4 h5, h.j2, fun j hj hs => ?_⟩
  · rw [L1] at lj
    rw [T1, R1, H1]
    refine ⟨fun o ho hne => ?_, (h.hd j hj lj).2⟩
    rw [A1]
    exact (h.hd j hj lj).1 o ho hne
  · rw [T1, R1]
    by_cases c : j = k
    · subst c
      rw [updS_same] at hs ⊢
      have hs : 0 < (st j).settleN j := hs
      show ∃ T l m, _ ∧ _ ∧ _ ∧ ((st j).settleN j).toNat ≤ m ∧ _ ∧ ((st j).settleN j).toNat ≤ _ ∧ Ag ((st j).settleN j).toNat l _
      unfold KS.settleN at hs ⊢
      dsimp only at hs ⊢
      by_cases q : settledBy (st j).row (st j).term ((st j).held.set j ((st j).row.length : Int)) > (st j).settled
      · rw [if_pos q] at hs ⊢
        obtain ⟨N, e1, e2, e3⟩ := settledUp_own hs
        have e1 : settledBy (st j).row (st j).term ((st j).held.set j ((st j).row.length : Int)) = (N : Int) + 1 := e1
        rw [e1]
        cases hx : (st j).row[N]? with
        | none => rw [hx] at e3; cases e3
        | some x =>
          rw [hx] at e3
          have e3 : some x.1 = some (st j).term := e3
          injection e3 with e3
          have hN := (List.getElem?_eq_some_iff.mp hx).1
          refine ⟨(st j).term, (st j).row, N + 1, h.own j hj hl, ⟨x, by omega, hx, e3⟩, ?_, by omega, Int.le_refl _, by omega, Ag.refl _ _⟩
          rw [cnt_B, List.length_set, hlen] at e2
          have mj : Maj n fun o => decide ((N : Int) + 1 ≤ ((st j).held.set j ((st j).row.length : Int)).getD o 0) := by unfold Maj; omega
          refine mj.mono fun o ho hd => ?_
          have hd := of_decide_eq_true hd
          refine decide_eq_true ?_
          by_cases c : o = j
          · subst c
            have := (h.hd o hj hl).2
            omega
          · have b := ((h.hd j hj hl).1 o ho c).1
            rw [List.getD_eq_getElem?_getD, List.getElem?_set_ne (fun z => c z.symm), ← List.getD_eq_getElem?_getD] at hd
            omega
      · rw [if_neg q] at hs ⊢
        exact h.se j hj hs
    · rw [updS_ne c] at hs ⊢
      exact h.se j hj hs
end Fw

namespace Fw
open PySem L2
theorem fillD_none : ∀ {es ss : List Ent}, fillD es ss = none → ss.length ≤ es.length ∧ ∀ (i : Nat) (x y : Ent), es[i]? = some x → ss[i]? = some y → x.1 = y.1
  | es, [], _ => ⟨Nat.zero_le _, fun i x y _ hy => by rw [List.getElem?_nil] at hy; cases hy⟩
  | [], _ :: _, h => by unfold fillD at h; cases h
  | a :: r, b :: s, h => by
    unfold fillD at h
    split at h
    · rename_i c
      cases hz : fillD r s with
      | some j' => rw [hz] at h; cases h
      | none =>
        obtain ⟨h1, h2⟩ := fillD_none hz
        refine ⟨Nat.succ_le_succ h1, fun i x y hx hy => ?_⟩
        cases i with
        | zero =>
          have hx : some a = some x := hx
          have hy : some b = some y := hy
          injection hx with hx
          injection hy with hy
          rw [← hx, ← hy]; exact c
        | succ i => exact h2 i x y hx hy
    · cases h
theorem fillD_some : ∀ {es ss : List Ent} {j : Nat}, fillD es ss = some j → j < ss.length ∧ j ≤ es.length ∧ (∀ (i : Nat) (x y : Ent), i < j → es[i]? = some x → ss[i]? = some y → x.1 = y.1) ∧ ∀ (x y : Ent), es[j]? = some x → ss[j]? = some y → x.1 ≠ y.1
  | _, [], j, h => by unfold fillD at h; cases h
  | [], b :: s, j, h => by
    unfold fillD at h; cases h
    exact ⟨Nat.succ_pos _, Nat.le_refl _, fun i _ _ hi => absurd hi (Nat.not_lt_zero i), fun x y hx => by rw [List.getElem?_nil] at hx; cases hx⟩
  | a :: r, b :: s, j, h => by
    unfold fillD at h
    split at h
    · rename_i c
      cases hz : fillD r s with
      | none => rw [hz] at h; cases h
      | some j' =>
        rw [hz] at h
        have h : some (j' + 1) = some j := h
        injection h with h
        subst h
        obtain ⟨h1, h2, h3, h4⟩ := fillD_some hz
        refine ⟨Nat.succ_lt_succ h1, Nat.succ_le_succ h2, fun i x y hi hx hy => ?_, fun x y hx hy => h4 x y hx hy⟩
        cases i with
        | zero =>
          have hx : some a = some x := hx
          have hy : some b = some y := hy
          injection hx with hx
          injection hy with hy
          rw [← hx, ← hy]; exact c
        | succ i => exact h3 i x y (by omega) hx hy
    · rename_i c
      cases h
      refine ⟨Nat.succ_pos _, Nat.zero_le _, fun i _ _ hi => absurd hi (Nat.not_lt_zero i), fun x y hx hy => ?_⟩
      have hx : some a = some x := hx
      have hy : some b = some y := hy
      injection hx with hx
      injection hy with hy
      rw [← hx, ← hy]; exact c
/-- log matching -/
theorem RowG.mtch {g : Gh} {t t' : Int} {a b : List Ent} (h : RowG g t a) (k : RowG g t' b) {p : Nat} {x y : Ent} (hx : a[p]? = some x) (hy : b[p]? = some y) (e : x.1 = y.1) : Ag (p + 1) a b := by
  obtain ⟨_, l, h1, h2⟩ := h.at_ p x hx
  obtain ⟨_, m, k1, k2⟩ := k.at_ p y hy
  rw [e, k1] at h1
  injection h1 with h1
  rw [← h1] at h2
  exact h2.trans k2.symm
/-- the part of a settled entry's log stands in all later ones -/
theorem Inv.commit {n : Nat} {st : Nat → KS} {g : Gh} (h : Inv n st g) {T : Int} {l : List Ent} {m : Nat} (hT : g.lg T = some l) (ow : Own l T m) (mj : Maj n fun o => decide (m ≤ g.ack T o)) : ∀ (d : Nat) (T' : Int), (T' - T).toNat ≤ d → T < T' → g.lg T' ≠ none → Agr g l T' m
  | 0, T', hd, lt, _ => by omega
  | d + 1, T', hd, lt, el => by
    cases hT' : g.lg T' with
    | none => exact absurd hT' el
    | some l' =>
      obtain ⟨v, v1, v2, v3⟩ := (h.maj T' l' hT').meet mj
      exact h.j2 T l T' l' v m hT hT' lt v1 v2 (of_decide_eq_true v3) ow fun U u1 u2 u3 => h.commit hT ow mj d U (by omega) u1 u3
/-- what filling makes of a row -/
theorem fill_spec {g : Gh} {t t' : Int} {E R : List Ent} (hE : RowG g t E) (hR : RowG g t' R) {a m : Nat} (ha : a ≤ R.length) (hE0 : a ≤ E.length) (ag : Ag a E R) {ps : List Ent} (hp : ps = (R.drop a).take m) :
    (fillR E a ps = E ∨ fillR E a ps = R.take (a + ps.length)) ∧ a + ps.length ≤ R.length ∧ a + ps.length ≤ (fillR E a ps).length ∧ Ag (a + ps.length) (fillR E a ps) R ∧ ∀ q, q ≤ E.length → Ag q E R → q ≤ (fillR E a ps).length ∧ Ag q (fillR E a ps) E := by
  have hc : a + ps.length ≤ R.length := by rw [hp, List.length_take, List.length_drop]; omega
  have hps : ∀ i, i < ps.length → ps[i]? = R[a + i]? := fun i hi => by
    have : i < m := by rw [hp, List.length_take] at hi; omega
    rw [hp, List.getElem?_take, if_pos this, List.getElem?_drop]
  have hEd : ∀ i, (E.drop a)[i]? = E[a + i]? := fun i => List.getElem?_drop
  cases hf : fillD (E.drop a) ps with
  | none =>
    obtain ⟨f1, f2⟩ := fillD_none hf
    rw [List.length_drop] at f1
    have e : fillR E a ps = E := by unfold fillR; rw [hf]
    have agc : Ag (a + ps.length) E R := by
      by_cases z : ps.length = 0
      · rw [z]; exact ag
      · have hi : ps.length - 1 < ps.length := by omega
        have hx : E[a + (ps.length - 1)]? = some E[a + (ps.length - 1)] := List.getElem?_eq_getElem (by omega)
        have hy : R[a + (ps.length - 1)]? = some R[a + (ps.length - 1)] := List.getElem?_eq_getElem (by omega)
        have := hE.mtch hR hx hy (f2 (ps.length - 1) _ _ (by rw [hEd]; exact hx) (by rw [hps _ hi]; exact hy))
        exact this.less (by omega)
    rw [e]
    exact ⟨.inl rfl, hc, by omega, agc, fun q h1 _ => ⟨h1, Ag.refl _ _⟩⟩
  | some j =>
    obtain ⟨f1, f2, f3, f4⟩ := fillD_some hf
    rw [List.length_drop] at f2
    have agj : Ag (a + j) E R := by
      by_cases z : j = 0
      · rw [z]; exact ag
      · have hx : E[a + (j - 1)]? = some E[a + (j - 1)] := List.getElem?_eq_getElem (by omega)
        have hy : R[a + (j - 1)]? = some R[a + (j - 1)] := List.getElem?_eq_getElem (by omega)
        have := hE.mtch hR hx hy (f3 (j - 1) _ _ (by omega) (by rw [hEd]; exact hx) (by rw [hps _ (by omega)]; exact hy))
        exact this.less (by omega)
    have e : fillR E a ps = R.take (a + ps.length) := by
      have : fillR E a ps = E.take (a + j) ++ ps.drop j := by unfold fillR; rw [hf]
      rw [this, agj.eq_take]
      refine List.ext_getElem? fun p => ?_
      by_cases c : p < a + j
      · rw [List.getElem?_append_left (by rw [List.length_take]; omega), List.getElem?_take, if_pos c, List.getElem?_take, if_pos (by omega)]
      · rw [List.getElem?_append_right (by rw [List.length_take]; omega), List.length_take, Nat.min_eq_left (by omega), List.getElem?_drop, List.getElem?_take]
        by_cases d : p < a + ps.length
        · rw [if_pos d, hps _ (by omega)]
          congr 1; omega
        · rw [if_neg d, List.getElem?_eq_none (by omega)]
    have hlen : (R.take (a + ps.length)).length = a + ps.length := by rw [List.length_take]; omega
    rw [e]
    refine ⟨.inr rfl, hc, by omega, Ag.take.symm, fun q h1 h2 => ?_⟩
    have hq : q ≤ a + j := by
      by_cases c : q ≤ a + j
      · exact c
      · have h3 := h2 (a + j) (by omega)
        have hx : E[a + j]? = some E[a + j] := List.getElem?_eq_getElem (by omega)
        exact absurd rfl (f4 E[a + j] E[a + j] (by rw [hEd]; exact hx) (by rw [hps _ f1, ← h3]; exact hx))
    exact ⟨by omega, (Ag.take.less (by omega)).symm.trans h2.symm⟩
end Fw

namespace Fw
open PySem L2
/-- ahead changes at a keeper -/
theorem Inv.setAhead {n : Nat} {st : Nat → KS} {g : Gh} (h : Inv n st g) {k : Nat} (a' : List Int) (ha : (st k).leads = true → ∀ o, o < n → o ≠ k → a'.getD o 0 ≤ (st k).row.length) : Inv n (updS st k { st k with ahead := a' }) g := by
  have T1 : ∀ j, (updS st k { st k with ahead := a' } j).term = (st j).term := fun j => by unfold updS; split; (rename_i e; rw [e]); rfl
  have R1 : ∀ j, (updS st k { st k with ahead := a' } j).row = (st j).row := fun j => by unfold updS; split; (rename_i e; rw [e]); rfl
  have L1 : ∀ j, (updS st k { st k with ahead := a' } j).leads = (st j).leads := fun j => by unfold updS; split; (rename_i e; rw [e]); rfl
  have H1 : ∀ j, (updS st k { st k with ahead := a' } j).held = (st j).held := fun j => by unfold updS; split; (rename_i e; rw [e]); rfl
  have S1 : ∀ j, (updS st k { st k with ahead := a' } j).settled = (st j).settled := fun j => by unfold updS; split; (rename_i e; rw [e]); rfl
  refine ⟨fun j hj => by rw [T1]; exact h.t0 j hj, h.e0, fun j hj => by rw [R1, T1]; exact h.rows j hj, h.logs, fun j hj lj => by rw [L1] at lj; rw [T1, R1]; exact h.own j hj lj, fun j hj lj => by rw [L1] at lj; rw [T1]; exact h.wh j hj lj, h.maj, fun T l v h1 h2 h3 => by rw [T1]; exact h.vt T l v h1 h2 h3, fun T o h1 h2 => by rw [T1]; exact h.ak T o h1 h2,
    fun j hj lj => ?_, fun T l o m h1 h2 h3 h4 h5 => by rw [T1] at h5; rw [R1]; exact h.j1 T l o m h1 h2 h3 h4 h5, h.j2, fun j hj hs => by rw [S1] at hs ⊢; rw [T1, R1]; exact h.se j hj hs⟩
  rw [L1] at lj
  rw [T1, R1, H1]
  refine ⟨fun o ho hne => ⟨((h.hd j hj lj).1 o ho hne).1, ?_⟩, (h.hd j hj lj).2⟩
  by_cases c : j = k
  · subst c
    rw [updS_same]
    exact ha lj o ho hne
  · rw [updS_ne c]
    exact ((h.hd j hj lj).1 o ho hne).2
theorem lastT_take {R : List Ent} {a : Nat} (h0 : 0 < a) (h1 : a ≤ R.length) : ∃ x, R[a - 1]? = some x ∧ lastT (R.take a) = x.1 := by
  have hx : R[a - 1]? = some R[a - 1] := List.getElem?_eq_getElem (by omega)
  refine ⟨_, hx, lastT_get ?_⟩
  have : (R.take a).length = a := by rw [List.length_take]; omega
  rw [this, List.getElem?_take, if_pos (by omega)]; exact hx
theorem hear_up {k : KS} {t : Int} (h : k.term ≤ t) : (k.hear t).term = t := by
  unfold KS.hear
  split
  · rfl
  · omega
def Gh.acked (g : Gh) (T : Int) (o c : Nat) : Gh := ⟨g.lg, g.V, updI g.ack T fun p => if p = o then max (g.ack T o) c else g.ack T p, g.who⟩
theorem acked_ge (g : Gh) (T : Int) (o c : Nat) (U : Int) (p : Nat) : g.ack U p ≤ (g.acked T o c).ack U p := by
  show _ ≤ updI g.ack T _ U p
  unfold updI
  split
  · rename_i e
    rw [e]
    show _ ≤ if p = o then _ else _
    split
    · rename_i e2; rw [e2]; omega
    · exact Nat.le_refl _
  · exact Nat.le_refl _
theorem Inv.put {n : Nat} {st : Nat → KS} {g : Gh} (h : Inv n st g) {k o : Nat} (hk : k < n) (ho : o < n) (hne : o ≠ k) (hl : (st k).leads = true) (ht : (st o).term = (st k).term) (lo : (st o).leads = false)
    {r' : List Ent} {c : Nat} (hr1 : r' = (st o).row ∨ r' = (st k).row.take c) (hc : c ≤ (st k).row.length) (hc2 : c ≤ r'.length) (hag : Ag c r' (st k).row) (hq : ∀ q, q ≤ (st o).row.length → Ag q (st o).row (st k).row → q ≤ r'.length ∧ Ag q r' (st o).row)
    {s' : Int} (hs' : s' = (st o).settled ∨ (s' ≤ (st k).settled ∧ s' ≤ c)) {O2 K2 : KS} (o1 : O2.term = (st o).term) (o2 : O2.row = r') (o3 : O2.leads = false) (o4 : O2.settled = s') (k1 : K2.term = (st k).term) (k2 : K2.row = (st k).row) (k3 : K2.leads = true) (k4 : K2.settled = (st k).settled)
    (k5 : ∀ p, p < n → p ≠ k → K2.aheadAt p ≤ (st k).row.length) (k6 : ∀ p, p < n → p ≠ k → K2.held.getD p 0 ≤ if p = o then (c : Int) else (g.ack (st k).term p : Int)) :
    Inv n (updS (updS st o O2) k K2) (g.acked (st k).term o c) := by
  have hR := h.own k hk hl
  have gR := h.rows k hk
  have gO := h.rows o ho
  generalize hst : updS (updS st o O2) k K2 = st'
  have ek : st' k = K2 := by rw [← hst, updS_same]
  have eo : st' o = O2 := by rw [← hst, updS_ne hne, updS_same]
  have ej : ∀ j, j ≠ k → j ≠ o → st' j = st j := fun j a b => by rw [← hst, updS_ne a, updS_ne b]
  have T1 : ∀ j, (st' j).term = (st j).term := fun j => by
    by_cases a : j = k
    · rw [a, ek, k1]
    · by_cases b : j = o
      · rw [b, eo, o1]
      · rw [ej j a b]
  have R1 : ∀ j, j ≠ o → (st' j).row = (st j).row := fun j b => by
    by_cases a : j = k
    · rw [a, ek, k2]
    · rw [ej j a b]
  have L1 : ∀ j, (st' j).leads = true → j ≠ o ∧ (st j).leads = true := fun j lj => by
    by_cases b : j = o
    · rw [b, eo, o3] at lj; cases lj
    · refine ⟨b, ?_⟩
      by_cases a : j = k
      · rw [a]; exact hl
      · rw [ej j a b] at lj; exact lj
  have S1 : ∀ j, j ≠ o → (st' j).settled = (st j).settled := fun j b => by
    by_cases a : j = k
    · rw [a, ek, k4]
    · rw [ej j a b]
  have ackT : (g.acked (st k).term o c).ack (st k).term o = max (g.ack (st k).term o) c := by
    show updI g.ack _ _ _ o = _
    rw [updI_same, if_pos rfl]
  have acko : ∀ {T p}, ¬ (T = (st k).term ∧ p = o) → (g.acked (st k).term o c).ack T p = g.ack T p := fun {T p} z => by
    show updI g.ack _ _ T p = _
    by_cases a : T = (st k).term
    · rw [a, updI_same, if_neg fun b => z ⟨a, b⟩]
    · rw [updI_ne a]
  have mjm : ∀ {T m}, Maj n (fun p => decide (m ≤ g.ack T p)) → Maj n fun p => decide (m ≤ (g.acked (st k).term o c).ack T p) := fun {T m} mj => mj.mono fun p _ hd => decide_eq_true (Nat.le_trans (of_decide_eq_true hd) (acked_ge g _ o c T p))
  have agrO : ∀ {T l m}, g.lg T = some l → Own l T m → Maj n (fun p => decide (m ≤ g.ack T p)) → T ≤ (st k).term → Ag m l (st k).row := fun {T l m} hT ow mj le => by
    by_cases z : T = (st k).term
    · subst z
      rw [hR] at hT
      injection hT with hT
      rw [hT]; exact Ag.refl _ _
    · obtain ⟨a, a1, a2, a3⟩ := h.commit hT ow mj _ (st k).term (Nat.le_refl _) (by omega) (by rw [hR]; exact fun q => nomatch q)
      rw [hR] at a1
      injection a1 with a1
      rw [a1]; exact a3
  refine ⟨fun j hj => by rw [T1]; exact h.t0 j hj, h.e0, fun j hj => ?_, fun T l hT => (h.logs T l hT).mono fun _ _ z => z, fun j hj lj => ?_, fun j hj lj => ?_, h.maj, fun T l v h1 h2 h3 => by rw [T1]; exact h.vt T l v h1 h2 h3, fun T p hp ha => ?_, fun j hj lj => ?_, fun T l p m hT hp hm ow pr => ?_, fun T l T' l' v m hT hT' lt hvn hV hm ow pr => ?_, fun j hj hs => ?_⟩
  · rw [T1]
    by_cases b : j = o
    · rw [b, eo, o2, ht]
      rcases hr1 with z | z
      · rw [z, ← ht]; rw [ht] at gO ⊢; exact gO.mono fun _ _ z => z
      · rw [z]; exact (gR.take c).mono fun _ _ z => z
    · rw [R1 j b]; exact (h.rows j hj).mono fun _ _ z => z
  · obtain ⟨b, lj⟩ := L1 j lj
    rw [T1, R1 j b]; exact h.own j hj lj
  · obtain ⟨b, lj⟩ := L1 j lj
    rw [T1]; exact h.wh j hj lj
  · rw [T1]
    by_cases z : T = (st k).term ∧ p = o
    · obtain ⟨rfl, rfl⟩ := z
      rw [ackT]
      refine ⟨by omega, _, hR, ?_⟩
      by_cases y : 0 < g.ack (st k).term p
      · obtain ⟨_, l, e1, e2⟩ := h.ak _ p hp y
        have e1 : g.lg (st k).term = some l := e1
        rw [hR] at e1
        injection e1 with e1
        rw [← e1] at e2
        omega
      · omega
    · rw [acko z] at ha ⊢
      exact h.ak T p hp ha
  · obtain ⟨b, lj'⟩ := L1 j lj
    rw [T1, R1 j b]
    by_cases a : j = k
    · subst a
      rw [ek]
      refine ⟨fun p hp hpk => ⟨?_, k5 p hp hpk⟩, ?_⟩
      · have := k6 p hp hpk
        by_cases y : p = o
        · rw [if_pos y] at this
          rw [y] at this ⊢
          rw [ackT]; omega
        · rw [if_neg y] at this
          rw [acko fun z => y z.2]; exact this
      · rw [acko fun z => hne z.2.symm]
        exact (h.hd j hj lj').2
    · rw [ej j a b]
      have tn : (st j).term ≠ (st k).term := fun z => a (h.one_leads hj hk lj' hl z)
      refine ⟨fun p hp hpk => ?_, ?_⟩
      · rw [acko fun z => tn z.1]; exact (h.hd j hj lj').1 p hp hpk
      · rw [acko fun z => tn z.1]; exact (h.hd j hj lj').2
  · rw [T1] at pr
    replace hT : g.lg T = some l := hT
    by_cases b : p = o
    · subst b
      rw [eo, o2]
      have big : m ≤ g.ack T p → m ≤ r'.length ∧ Ag m l r' := fun hm' => by
        obtain ⟨b1, b2⟩ := h.j1 T l p m hT hp hm' ow pr
        have hle := (h.ak T p hp (by have := (own_lt ow).1; omega)).1
        have aR : Ag m l (st k).row := by
          by_cases z : T = (st k).term
          · subst z
            rw [hR] at hT
            injection hT with hT
            rw [hT]; exact Ag.refl _ _
          · obtain ⟨a, a1, a2, a3⟩ := pr (st k).term (by omega) (by omega) (by show g.lg (st k).term ≠ none; rw [hR]; exact fun q => nomatch q)
            have a1 : g.lg (st k).term = some a := a1
            rw [hR] at a1
            injection a1 with a1
            rw [a1]; exact a3
        obtain ⟨c1, c2'⟩ := hq m b1 (b2.symm.trans aR)
        exact ⟨c1, b2.trans c2'.symm⟩
      by_cases z : T = (st k).term
      · subst z
        rw [ackT] at hm
        by_cases y : m ≤ c
        · have hT : g.lg (st k).term = some l := hT
          rw [hR] at hT
          injection hT with hT
          rw [← hT]
          exact ⟨by omega, (hag.less y).symm⟩
        · exact big (by omega)
      · rw [acko fun y => z y.1] at hm
        exact big hm
    · rw [acko fun y => b y.2] at hm
      rw [R1 p b]
      exact h.j1 T l p m hT hp hm ow pr
  · by_cases z : T = (st k).term ∧ v = o
    · obtain ⟨rfl, rfl⟩ := z
      have hT' : g.lg T' = some l' := hT'
      have hV : g.V T' v = true := hV
      have := h.vt T' l' v hT' hvn hV
      omega
    · rw [acko z] at hm
      exact h.j2 T l T' l' v m hT hT' lt hvn hV hm ow pr
  · rw [T1]
    by_cases b : j = o
    · subst b
      rw [eo, o4] at hs ⊢
      rw [o2]
      rcases hs' with rfl | ⟨z1, z2⟩
      · obtain ⟨T, l, m, a1, a2, a3, a4, a5, a6, a7⟩ := h.se j hj hs
        have aR := agrO a1 a2 a3 (by omega)
        obtain ⟨c1, c2'⟩ := hq _ a6 (a7.symm.trans (aR.less a4))
        exact ⟨T, l, m, a1, a2, mjm a3, a4, a5, c1, a7.trans c2'.symm⟩
      · obtain ⟨T, l, m, a1, a2, a3, a4, a5, a6, a7⟩ := h.se k hk (by omega)
        exact ⟨T, l, m, a1, a2, mjm a3, by omega, by omega, by omega, (a7.less (by omega)).trans (hag.less (by omega)).symm⟩
    · rw [S1 j b] at hs ⊢
      rw [R1 j b]
      obtain ⟨T, l, m, a1, a2, a3, a4, a5, a6, a7⟩ := h.se j hj hs
      exact ⟨T, l, m, a1, a2, mjm a3, a4, a5, a6, a7⟩
theorem maxmin (a x b c : Int) (h1 : x ≤ b) (h2 : x ≤ c) : (if x > a then x else a) = a ∨ ((if x > a then x else a) ≤ b ∧ (if x > a then x else a) ≤ c) := by
  split
  · exact .inr ⟨h1, h2⟩
  · exact .inl rfl
theorem Inv.hand {n : Nat} {st : Nat → KS} {g : Gh} (h : Inv n st g) {k o : Nat} (hk : k < n) (ho : o < n) (hne : o ≠ k) (hl : (st k).leads = true) (m : Int) (a0 : 0 ≤ (st k).aheadAt o) : ∃ g', Inv n (handSt st k o m) g' ∧ g'.lg = g.lg ∧ g'.who = g.who ∧ g'.V = g.V ∧ ∀ T p, g.ack T p ≤ g'.ack T p := by
  unfold handSt
  by_cases ht : (st k).term < (st o).term
  · rw [if_pos ht]; exact ⟨g, h.hear _ _, rfl, rfl, rfl, fun _ _ => Nat.le_refl _⟩
  rw [if_neg ht]
  have h1 : Inv n (updS st o ((st o).hear (st k).term)) g := h.hear _ _
  have ek : updS st o ((st o).hear (st k).term) k = st k := updS_ne hne.symm
  have hah := ((h.hd k hk hl).1 o ho hne).2
  by_cases hag : agreesB (st o).row ((st k).aheadAt o) (lastT ((st k).row.take ((st k).aheadAt o).toNat)) = true
  · rw [if_pos hag]
    have gR := h.rows k hk
    have gE := h1.rows o ho
    have eo : updS st o ((st o).hear (st k).term) o = (st o).hear (st k).term := updS_same
    rw [eo] at gE
    have eT : ((st o).hear (st k).term).term = (st k).term := hear_up (by omega)
    have eR : ((st o).hear (st k).term).row = (st o).row := hear_row _ _
    have lo : ((st o).hear (st k).term).leads = false := by
      cases z : ((st o).hear (st k).term).leads with
      | false => rfl
      | true =>
        have z' : (updS st o ((st o).hear (st k).term) o).leads = true := by rw [eo]; exact z
        exact absurd (h1.one_leads ho hk z' (by rw [ek]; exact hl) (by rw [eo, ek]; exact eT)) hne
    have hf : ((st k).aheadAt o).toNat ≤ ((st o).hear (st k).term).row.length ∧ Ag ((st k).aheadAt o).toNat ((st o).hear (st k).term).row (st k).row := by
      unfold agreesB at hag
      by_cases z : (st k).aheadAt o = 0
      · rw [z]; exact ⟨Nat.zero_le _, fun p hp => absurd hp (Nat.not_lt_zero p)⟩
      · rw [if_neg z] at hag
        cases hx : (st o).row[((st k).aheadAt o - 1).toNat]? with
        | none => rw [hx] at hag; cases hag
        | some x =>
          rw [hx] at hag
          have hag := of_decide_eq_true hag
          obtain ⟨y, hy, ey⟩ := lastT_take (R := (st k).row) (a := ((st k).aheadAt o).toNat) (by omega) (by omega)
          rw [show ((st k).aheadAt o - 1).toNat = ((st k).aheadAt o).toNat - 1 by omega, ← eR] at hx
          have := gE.mtch gR hx hy (by rw [hag, ey])
          have hx1 := (List.getElem?_eq_some_iff.mp hx).1
          exact ⟨by omega, this.less (by omega)⟩
    obtain ⟨f1, f2, f3, f4, f5⟩ := fill_spec gE gR (a := ((st k).aheadAt o).toNat) (m := m.toNat) (by omega) hf.1 hf.2 (ps := (st k).part ((st k).aheadAt o) m) rfl
    refine ⟨g.acked (st k).term o (((st k).aheadAt o).toNat + ((st k).part ((st k).aheadAt o) m).length), ?_, rfl, rfl, rfl, fun T p => acked_ge g _ o _ T p⟩
    have hx : (st k).aheadAt o + ((st k).part ((st k).aheadAt o) m).length = ((((st k).aheadAt o).toNat + ((st k).part ((st k).aheadAt o) m).length : Nat) : Int) := by omega
    have P := Inv.put h1 hk ho hne (by rw [ek]; exact hl) (by rw [eo, ek]; exact eT) (by rw [eo]; exact lo) (r' := fillR ((st o).hear (st k).term).row ((st k).aheadAt o).toNat ((st k).part ((st k).aheadAt o) m)) (c := ((st k).aheadAt o).toNat + ((st k).part ((st k).aheadAt o) m).length)
      (by rw [eo, ek]; exact f1) (by rw [ek]; exact f2) f3 (by rw [ek]; exact f4) (by rw [eo, ek]; exact f5) (s' := (handOne (st k) ((st o).hear (st k).term) o m).settled) (by
        rw [eo, ek, ← hx]
        exact maxmin _ _ _ _ (by dsimp only; split <;> omega) (by dsimp only; split <;> omega)) (O2 := handOne (st k) ((st o).hear (st k).term) o m) (K2 := handOwn (st k) o m) (by rw [eo]; rfl) rfl lo rfl (by rw [ek]; rfl) (by rw [ek]; rfl) hl (by rw [ek]; rfl) (fun p hp hpk => by
        rw [ek]
        show ((st k).ahead.set o _).getD p 0 ≤ _
        rw [List.getD_eq_getElem?_getD, List.getElem?_set]
        split
        · split
          · show (st k).aheadAt o + _ ≤ _
            omega
          · exact Int.natCast_nonneg _
        · rw [← List.getD_eq_getElem?_getD]
          exact ((h.hd k hk hl).1 p hp hpk).2) (fun p hp hpk => by
        rw [ek]
        show ((st k).held.set o _).getD p 0 ≤ _
        rw [List.getD_eq_getElem?_getD, List.getElem?_set]
        split
        · rename_i e
          rw [if_pos e.symm]
          split
          · show (st k).aheadAt o + _ ≤ _
            omega
          · exact Int.natCast_nonneg _
        · rename_i e
          rw [if_neg fun z => e z.symm, ← List.getD_eq_getElem?_getD]
          exact ((h.hd k hk hl).1 p hp hpk).1)
    rw [updS_upd, ek] at P
    exact P
  · rw [if_neg hag]
    refine ⟨g, ?_, rfl, rfl, rfl, fun _ _ => Nat.le_refl _⟩
    have := h1.setAhead (k := k) ((st k).ahead.set o ((st k).aheadAt o - 1)) fun _ p hp hpk => ?_
    · rw [ek] at this; exact this
    · rw [ek, List.getD_eq_getElem?_getD, List.getElem?_set]
      split
      · split
        · show (st k).aheadAt o - 1 ≤ _; omega
        · exact Int.natCast_nonneg _
      · rw [← List.getD_eq_getElem?_getD]
        exact ((h.hd k hk hl).1 p hp hpk).2
end Fw

namespace Fw
open PySem L2
def Gh.new : Gh := ⟨fun _ => none, fun _ _ => false, fun _ _ => 0, fun _ => 0⟩
theorem Inv.new (n : Nat) : Inv n (fun _ => {}) Gh.new :=
  ⟨fun _ _ => Int.le_refl 0, fun T l h => (by cases h), fun i _ => ⟨fun p x h => (by cases h), fun p q x y _ h => (by cases h)⟩, fun T l h => (by cases h), fun i _ h => (by cases h), fun i _ h => (by cases h), fun T l h => (by cases h), fun T l v h => (by cases h), fun T o _ h => absurd h (Nat.lt_irrefl 0), fun i _ h => (by cases h), fun T l o m h => (by cases h), fun T l T' l' v m h => (by cases h), fun i _ h => absurd h (Int.lt_irrefl 0)⟩
theorem Inv.do {s : RSt} {g : Gh} (h : Inv s.n s.st g) (h0 : G0 s.n s.st) {d : Deed} (hd : DeedOk s.n d) : ∃ g', Inv s.n (doS s d).st g' := by
  cases d with
  | stand k os =>
    obtain ⟨⟨a, b⟩, _, c⟩ := hd
    obtain ⟨g', w⟩ := h.stand (k := k.toNat) (by omega) c
    exact ⟨g', w.inv⟩
  | rest k => exact ⟨g, h.rest _⟩
  | write k w =>
    obtain ⟨⟨a, b⟩, _⟩ := hd
    unfold doS
    dsimp only
    split
    · rename_i hl; exact ⟨_, h.write (k := k.toNat) (by omega) hl w⟩
    · exact ⟨g, h⟩
  | hand k o m =>
    obtain ⟨⟨a, b⟩, ⟨c, e⟩, f, _⟩ := hd
    unfold doS
    dsimp only
    split
    · rename_i hl
      obtain ⟨g', w, _⟩ := h.hand (k := k.toNat) (o := o.toNat) (by omega) (by omega) (by omega) hl m ((h0 _).a0 _)
      exact ⟨g', w⟩
    · exact ⟨g, h⟩
  | settle k =>
    obtain ⟨a, b⟩ := hd
    unfold doS
    dsimp only
    split
    · rename_i hl; exact ⟨g, h.settle (k := k.toNat) (by omega) hl ((h0 _).hl hl)⟩
    · exact ⟨g, h⟩
end Fw

namespace Fw
open PySem L2
/-- logs only grow -/
def Grow (g g' : Gh) : Prop := ∀ T l, g.lg T = some l → (∃ l', g'.lg T = some l' ∧ l.length ≤ l'.length ∧ Ag l.length l l') ∧ (∀ p, g.ack T p ≤ g'.ack T p) ∧ g'.who T = g.who T
theorem Grow.refl (g : Gh) : Grow g g := fun T l h => ⟨⟨l, h, Nat.le_refl _, Ag.refl _ _⟩, fun _ => Nat.le_refl _, rfl⟩
theorem Grow.trans {a b c : Gh} (h : Grow a b) (k : Grow b c) : Grow a c := fun T l hl => by
  obtain ⟨⟨l1, e1, e2, e3⟩, f1, f2⟩ := h T l hl
  obtain ⟨⟨l2, d1, d2, d3⟩, c1, c2⟩ := k T l1 e1
  exact ⟨⟨l2, d1, Nat.le_trans e2 d2, e3.trans (d3.less e2)⟩, fun p => Nat.le_trans (f1 p) (c1 p), c2.trans f2⟩
/-- es is settled, once and for all -/
def Known (n : Nat) (g : Gh) (es : List Ent) : Prop := es = [] ∨ ∃ T l m, g.lg T = some l ∧ Own l T m ∧ Maj n (fun o => decide (m ≤ g.ack T o)) ∧ es.length ≤ m ∧ Ag es.length es l
theorem Known.grow {n : Nat} {g g' : Gh} {es : List Ent} (h : Known n g es) (k : Grow g g') : Known n g' es := by
  rcases h with h | ⟨T, l, m, h1, h2, h3, h4, h5⟩
  · exact .inl h
  · obtain ⟨⟨l', e1, e2, e3⟩, f, _⟩ := k T l h1
    have := (own_lt h2).2
    exact .inr ⟨T, l', m, e1, h2.ag (e3.less this), h3.mono fun o _ d => decide_eq_true (Nat.le_trans (of_decide_eq_true d) (f o)), h4, h5.trans (e3.less (by omega))⟩
theorem Known.agree {n : Nat} {st : Nat → KS} {g : Gh} (h : Inv n st g) {a b : List Ent} (ha : Known n g a) (hb : Known n g b) : Ag (min a.length b.length) a b := by
  rcases ha with rfl | ⟨T, l, m, h1, h2, h3, h4, h5⟩
  · exact fun p hp => absurd hp (by show ¬ p < min 0 _; omega)
  · rcases hb with rfl | ⟨U, k, q, k1, k2, k3, k4, k5⟩
    · exact fun p hp => absurd hp (by show ¬ p < min _ 0; omega)
    · have key : Ag (min m q) l k := by
        rcases Int.lt_trichotomy T U with c | c | c
        · obtain ⟨x, e1, e2, e3⟩ := h.commit h1 h2 h3 _ U (Nat.le_refl _) c (by rw [k1]; exact fun z => nomatch z)
          rw [k1] at e1
          injection e1 with e1
          rw [e1]; exact e3.less (by omega)
        · subst c
          rw [h1] at k1
          injection k1 with k1
          rw [k1]; exact Ag.refl _ _
        · obtain ⟨x, e1, e2, e3⟩ := h.commit k1 k2 k3 _ T (Nat.le_refl _) c (by rw [h1]; exact fun z => nomatch z)
          rw [h1] at e1
          injection e1 with e1
          rw [e1]; exact (e3.less (by omega)).symm
      exact ((h5.less (by omega)).trans (key.less (by omega))).trans (k5.less (by omega)).symm
theorem Inv.part {n : Nat} {st : Nat → KS} {g : Gh} (h : Inv n st g) {i : Nat} (hi : i < n) : Known n g ((st i).row.take (st i).settled.toNat) := by
  by_cases c : 0 < (st i).settled
  · obtain ⟨T, l, m, a1, a2, a3, a4, a5, a6, a7⟩ := h.se i hi c
    have e : ((st i).row.take (st i).settled.toNat).length = (st i).settled.toNat := by rw [List.length_take]; omega
    exact .inr ⟨T, l, m, a1, a2, a3, by rw [e]; exact a4, by rw [e]; exact Ag.take.symm.trans a7.symm⟩
  · exact .inl (by rw [show (st i).settled.toNat = 0 by omega]; rfl)
end Fw

namespace Fw
open PySem L2
theorem Won.grow {st st' : Nat → KS} {g g' : Gh} {n k : Nat} (w : Won st g n k st' g') : Grow g g' := by
  cases c : (st' k).leads with
  | false => rw [w.not c]; exact Grow.refl g
  | true =>
    obtain ⟨h1, h2, _⟩ := w.lead c
    rw [h2]
    intro T l hT
    have ne : T ≠ (st' k).term := fun z => by
      have := h1 T (by rw [hT]; exact fun q => nomatch q)
      omega
    refine ⟨⟨l, by show updI g.lg _ _ T = _; rw [updI_ne ne]; exact hT, Nat.le_refl _, Ag.refl _ _⟩, fun p => by show _ ≤ updI g.ack _ _ T p; rw [updI_ne ne]; exact Nat.le_refl _, by show updI g.who _ _ T = _; rw [updI_ne ne]⟩
theorem Inv.growW {n : Nat} {st : Nat → KS} {g : Gh} (h : Inv n st g) {k : Nat} (hk : k < n) (hl : (st k).leads = true) (w : PySem.Str) : Grow g (g.write (st k).term ((st k).row ++ [((st k).term, w)]) k) := fun T l hT => by
  have hr := h.own k hk hl
  by_cases c : T = (st k).term
  · subst c
    rw [hr] at hT
    injection hT with hT
    subst hT
    refine ⟨⟨_, updI_same, by rw [List.length_append]; omega, Ag.app _ (Nat.le_refl _)⟩, fun p => ?_, rfl⟩
    show _ ≤ updI g.ack _ _ _ p
    rw [updI_same]
    split
    · rename_i e
      rw [e, List.length_append]
      by_cases z : 0 < g.ack (st k).term k
      · obtain ⟨_, l, e1, e2⟩ := h.ak _ k hk z
        rw [hr] at e1
        injection e1 with e1
        rw [← e1] at e2
        omega
      · omega
    · exact Nat.le_refl _
  · exact ⟨⟨l, by show updI g.lg _ _ T = _; rw [updI_ne c]; exact hT, Nat.le_refl _, Ag.refl _ _⟩, fun p => by show _ ≤ updI g.ack _ _ T p; rw [updI_ne c]; exact Nat.le_refl _, rfl⟩
end Fw
namespace Fw
theorem Inv.step {s : RSt} {g : Gh} (h : Inv s.n s.st g) (h0 : G0 s.n s.st) {d : Deed} (hd : DeedOk s.n d) : ∃ g', Inv s.n (doS s d).st g' ∧ Grow g g' := by
  cases d with
  | stand k os =>
    obtain ⟨⟨a, b⟩, _, c⟩ := hd
    obtain ⟨g', w⟩ := h.stand (k := k.toNat) (by omega) c
    exact ⟨g', w.inv, w.grow⟩
  | rest k => exact ⟨g, h.rest _, Grow.refl g⟩
  | write k w =>
    obtain ⟨⟨a, b⟩, _⟩ := hd
    unfold doS
    dsimp only
    split
    · rename_i hl; exact ⟨_, h.write (k := k.toNat) (by omega) hl w, h.growW (by omega) hl w⟩
    · exact ⟨g, h, Grow.refl g⟩
  | hand k o m =>
    obtain ⟨⟨a, b⟩, ⟨c, e⟩, f, _⟩ := hd
    unfold doS
    dsimp only
    split
    · rename_i hl
      obtain ⟨g', w, e1, e2, _, e4⟩ := h.hand (k := k.toNat) (o := o.toNat) (by omega) (by omega) (by omega) hl m ((h0 _).a0 _)
      exact ⟨g', w, fun T l hT => ⟨⟨l, by rw [e1]; exact hT, Nat.le_refl _, Ag.refl _ _⟩, fun p => e4 T p, by rw [e2]⟩⟩
    · exact ⟨g, h, Grow.refl g⟩
  | settle k =>
    obtain ⟨a, b⟩ := hd
    unfold doS
    dsimp only
    split
    · rename_i hl; exact ⟨g, h.settle (k := k.toNat) (by omega) hl ((h0 _).hl hl), Grow.refl g⟩
    · exact ⟨g, h, Grow.refl g⟩
end Fw

namespace Fw
open PySem L2
/-- the first stand in a new room of n -/
theorem live_stand : ∀ n : Fin 10, 1 ≤ n.val → ∀ i : Fin 10, i.val < n.val → let k := (standSt n.val (fun _ => {}) 0 (rgI n.val)) i.val;
    k.term = 1 ∧ k.row = [] ∧ k.settled = 0 ∧ (k.leads = true ↔ i.val = 0) ∧ (i.val = 0 → k.ahead = List.replicate n.val 0 ∧ k.held = List.replicate n.val 0) := by decide +kernel
end Fw
namespace Fw
open PySem L2
/-- a new room where 0 leads, has written w and handed it to 1 .. j -/
structure Live (n : Nat) (w : PySem.Str) (j : Nat) (st : Nat → KS) : Prop where
  t : ∀ i, i < n → (st i).term = 1
  r0 : (st 0).row = [(1, w)]
  l0 : (st 0).leads = true
  s0 : (st 0).settled = 0
  al : (st 0).ahead.length = n
  hl : (st 0).held.length = n
  a : ∀ o, j < o → o < n → (st 0).aheadAt o = 0
  h : ∀ o, 0 < o → o ≤ j → o < n → (st 0).held.getD o 0 = 1
  r : ∀ o, 0 < o → o < n → (st o).row = if o ≤ j then [(1, w)] else []
end Fw
namespace Fw
open PySem L2
theorem Live.next {n : Nat} {w : PySem.Str} {j : Nat} {st : Nat → KS} (h : Live n w j st) (hj : j + 1 < n) : Live n w (j + 1) (handSt st 0 (j + 1) 5) ∧ handTold st 0 (j + 1) = true := by
  have ha : (st 0).aheadAt (j + 1) = 0 := h.a _ (by omega) hj
  have hag : agreesB (st (j + 1)).row ((st 0).aheadAt (j + 1)) (lastT ((st 0).row.take ((st 0).aheadAt (j + 1)).toNat)) = true := by rw [ha]; rfl
  have ht : ¬ (st 0).term < (st (j + 1)).term := by rw [h.t 0 (by omega), h.t _ hj]; omega
  have hr : (st (j + 1)).row = [] := by rw [h.r _ (by omega) hj, if_neg (by omega)]
  have hh : (st (j + 1)).hear (st 0).term = st (j + 1) := by unfold KS.hear; rw [if_neg (by rw [h.t 0 (by omega), h.t _ hj]; omega)]
  have hp : (st 0).part ((st 0).aheadAt (j + 1)) 5 = [(1, w)] := by unfold KS.part; rw [ha, h.r0]; rfl
  refine ⟨?_, by unfold handTold; rw [hag, decide_eq_false ht]; rfl⟩
  have e : handSt st 0 (j + 1) 5 = updS (updS st (j + 1) (handOne (st 0) (st (j + 1)) (j + 1) 5)) 0 (handOwn (st 0) (j + 1) 5) := by
    unfold handSt
    rw [if_neg ht, if_pos hag, hh]
  rw [e]
  have e0 : (updS (updS st (j + 1) (handOne (st 0) (st (j + 1)) (j + 1) 5)) 0 (handOwn (st 0) (j + 1) 5)) 0 = handOwn (st 0) (j + 1) 5 := updS_same
  have e1 : (updS (updS st (j + 1) (handOne (st 0) (st (j + 1)) (j + 1) 5)) 0 (handOwn (st 0) (j + 1) 5)) (j + 1) = handOne (st 0) (st (j + 1)) (j + 1) 5 := (updS_ne (by omega)).trans updS_same
  have e2 : ∀ i, i ≠ 0 → i ≠ j + 1 → (updS (updS st (j + 1) (handOne (st 0) (st (j + 1)) (j + 1) 5)) 0 (handOwn (st 0) (j + 1) 5)) i = st i := fun i a b => (updS_ne a).trans (updS_ne b)
  have own : handOwn (st 0) (j + 1) 5 = { st 0 with ahead := (st 0).ahead.set (j + 1) 1, held := (st 0).held.set (j + 1) 1 } := by
    unfold handOwn
    rw [hp, ha]; rfl
  have one : (handOne (st 0) (st (j + 1)) (j + 1) 5).row = [(1, w)] := by
    unfold handOne
    rw [hp, ha, hr]; rfl
  generalize (updS (updS st (j + 1) (handOne (st 0) (st (j + 1)) (j + 1) 5)) 0 (handOwn (st 0) (j + 1) 5)) = st' at e0 e1 e2
  rw [own] at e0
  refine ⟨fun i hi => ?_, by rw [e0]; exact h.r0, by rw [e0]; exact h.l0, by rw [e0]; exact h.s0, by rw [e0]; exact (List.length_set ..).trans h.al, by rw [e0]; exact (List.length_set ..).trans h.hl, fun o h1 h2 => ?_, fun o h0 h1 h2 => ?_, fun o h0 h1 => ?_⟩
  · by_cases a : i = 0
    · rw [a, e0]; exact h.t 0 (by omega)
    · by_cases b : i = j + 1
      · rw [b, e1]; exact h.t _ hj
      · rw [e2 i a b]; exact h.t i hi
  · rw [e0]
    show ((st 0).ahead.set (j + 1) 1).getD o 0 = 0
    rw [List.getD_eq_getElem?_getD, List.getElem?_set_ne (by omega), ← List.getD_eq_getElem?_getD]
    exact h.a o (by omega) h2
  · rw [e0]
    show ((st 0).held.set (j + 1) 1).getD o 0 = 1
    rw [List.getD_eq_getElem?_getD]
    by_cases b : j + 1 = o
    · rw [b, List.getElem?_set_self (by rw [h.hl]; exact h2)]; rfl
    · rw [List.getElem?_set_ne b, ← List.getD_eq_getElem?_getD]
      exact h.h o h0 (by omega) h2
  · by_cases b : o = j + 1
    · rw [b, e1, one, if_pos (Nat.le_refl _)]
    · rw [e2 o (by omega) b, h.r o h0 h1]
      by_cases c : o ≤ j
      · rw [if_pos c, if_pos (by omega)]
      · rw [if_neg c, if_neg (by omega)]
end Fw
namespace Fw
open PySem L2
theorem Live.settle {n : Nat} {w : PySem.Str} {st : Nat → KS} (h : Live n w (n - 1) st) (hn : 1 ≤ n) : (st 0).settleN 0 = 1 := by
  have hc : cnt ((st 0).held.set 0 1) 1 = n := by
    rw [cnt_B, List.length_set, h.hl]
    unfold cntB
    rw [List.filter_eq_self.mpr fun o ho => ?_, List.length_range]
    have ho := List.mem_range.mp ho
    refine decide_eq_true ?_
    rw [List.getD_eq_getElem?_getD]
    by_cases b : 0 = o
    · rw [← b, List.getElem?_set_self (by rw [h.hl]; omega)]; exact Int.le_refl 1
    · rw [List.getElem?_set_ne b, ← List.getD_eq_getElem?_getD, h.h o (by omega) (by omega) ho]; exact Int.le_refl 1
  have hs : settledBy (st 0).row (st 0).term ((st 0).held.set 0 ((st 0).row.length : Int)) = 1 := by
    rw [h.r0, h.t 0 (by omega)]
    show settledUp [((1 : Int), w)] 1 ((st 0).held.set 0 1) 1 = 1
    unfold settledUp
    rw [if_pos ⟨by rw [List.length_set, h.hl]; show (n : Int) < 2 * (cnt ((st 0).held.set 0 1) 1 : Int); rw [hc]; omega, rfl⟩]; rfl
  unfold KS.settleN
  dsimp only
  rw [hs, h.s0]; rfl
end Fw
namespace Fw
open PySem L2
section
variable {K : PySem.W.Frag} {ρ : Type} {R : ρ → Hp → Hp → Prop} [Stab R] {e : SE} {r r1 : ρ} {ta tb : TE} {t u : TT} {d1 d2 d3 : PyData}
/-- a value that comes with a change of the state, then an operator -/
theorem evs_opS {r2 : R2} (ha : EvS K R ta e r (fun d r' => d = d1 ∧ r' = r1)) (hb : EvD K R tb e r1 d2) (hr : OpD K r2 d1 d2 d3) : EvS K R (tOp r2 ta tb) e r (fun d r' => d = d3 ∧ r' = r1) :=
  evs_op (P2 := fun x y r' => x = d1 ∧ y = d2 ∧ r' = r1) ha (fun _ _ ⟨e1, e2⟩ => by rw [e1, e2]; exact hb.imp fun _ _ ⟨e3, e4⟩ => ⟨rfl, e3, e4⟩) fun _ _ _ ⟨e1, e2, e3⟩ => by rw [e1, e2, e3]; exact ⟨d3, hr, rfl, rfl⟩
theorem ets_test {b : Bool} (h : EvS K R ta e r (fun d r' => d = .bool b ∧ r' = r1)) : EvTS K R (tTest ta) e r (fun c r' => c = b ∧ r' = r1) := evts_test h fun d r' ⟨e1, e2⟩ => ⟨b, e1, rfl, e2⟩
theorem ets_orF {Pb : Bool → ρ → Prop} (h1 : EvTS K R t e r (fun c r' => c = false ∧ r' = r1)) (h2 : EvTS K R u e r1 Pb) : EvTS K R (tOr t u) e r Pb := fun B σ G M H v w Q q =>
  h1 B σ G M H v w _ fun c r' G' M' H' ⟨e1, e2⟩ s w' => by
    subst e1 e2
    show u σ H' Q
    exact h2 B σ G' M' H' (v.step s) w' Q fun c r2 G2 M2 H2 p s2 w2 => q c r2 G2 M2 H2 p (s.trans s2) w2
end
end Fw
namespace Fw
open PySem L2
theorem live_stand' {n : Nat} (h1 : 1 ≤ n) (h9 : n ≤ 9) {i : Nat} (hi : i < n) : let k := (standSt n (fun _ => {}) 0 (rgI n)) i;
    k.term = 1 ∧ k.row = [] ∧ k.settled = 0 ∧ (k.leads = true ↔ i = 0) ∧ (i = 0 → k.ahead = List.replicate n 0 ∧ k.held = List.replicate n 0) :=
  live_stand ⟨n, by omega⟩ h1 ⟨i, by omega⟩ hi
theorem Live.start {n : Nat} (h1 : 1 ≤ n) (h9 : n ≤ 9) (w : PySem.Str) : Live n w 0 (updS (standSt n (fun _ => {}) 0 (rgI n)) 0 { standSt n (fun _ => {}) 0 (rgI n) 0 with row := (standSt n (fun _ => {}) 0 (rgI n) 0).row ++ [((standSt n (fun _ => {}) 0 (rgI n) 0).term, w)] }) := by
  have L := fun {i : Nat} (hi : i < n) => live_stand' h1 h9 hi
  generalize standSt n (fun _ => {}) 0 (rgI n) = st at L
  obtain ⟨a1, a2, a3, a4, a5⟩ := L (i := 0) (by omega)
  obtain ⟨a6, a7⟩ := a5 rfl
  refine ⟨fun i hi => ?_, ?_, ?_, ?_, ?_, ?_, fun o ho hon => ?_, fun o h0 h1' _ => ?_, fun o h0 hon => ?_⟩
  · by_cases c : i = 0
    · rw [c, updS_same]; exact a1
    · rw [updS_ne c]; exact (L hi).1
  · rw [updS_same]
    show (st 0).row ++ [((st 0).term, w)] = _
    rw [a1, a2]; rfl
  · rw [updS_same]; exact a4.mpr rfl
  · rw [updS_same]; exact a3
  · rw [updS_same]
    show (st 0).ahead.length = n
    rw [a6]; exact List.length_replicate
  · rw [updS_same]
    show (st 0).held.length = n
    rw [a7]; exact List.length_replicate
  · rw [updS_same]
    show (st 0).ahead.getD o 0 = 0
    rw [a6]; exact rep_getD n o 0 hon
  · omega
  · rw [updS_ne (by omega), if_neg (by omega)]; exact (L hon).2.1
section
variable {K : PySem.W.Frag} {ρ : Type} {R : ρ → Hp → Hp → Prop} {e : SE} {r r1 : ρ} {ta tb : TE}
theorem evs_andT {P : PyData → ρ → Prop} (h1 : EvS K R ta e r (fun d r' => d = .bool true ∧ r' = r1)) (h2 : EvS K R tb e r1 P) : EvS K R (tAndV ta tb) e r P := fun B σ G M H v w Q q =>
  h1 B σ G M H v w _ fun x d r' G' M' H' ⟨e1, e2⟩ s w' hx => by
    subst e1 e2
    refine ⟨true, hx.bl_inv, ?_⟩
    show (if true = true then tb σ H' Q else Q (.bl false) H')
    rw [if_pos rfl]
    exact h2 B σ G' M' H' (v.step s) w' Q fun y d2 r2 G2 M2 H2 p s2 w2 hy => q y d2 r2 G2 M2 H2 p (s.trans s2) w2 hy
end
end Fw

/-! What each deed does to terms, settled parts, leaders; what stands behind each deed. -/
namespace Fw
open PySem L2
theorem hear_settled (k : KS) (t : Int) : (k.hear t).settled = k.settled := by unfold KS.hear; split <;> rfl
theorem askAll_term (k : Nat) (os : List Int) : ∀ st v i, (st i).term ≤ ((askAll st k os v).1 i).term := by
  induction os with
  | nil => intro st v i; exact Int.le_refl _
  | cons o os ih =>
    intro st v i
    refine Int.le_trans ?_ (ih _ _ i)
    unfold updS
    split
    · rename_i e; rw [e]; exact hear_le _ _
    · exact Int.le_refl _
theorem standSt_term (n : Nat) (st : Nat → KS) (k : Nat) (os : List Int) (i : Nat) : (st i).term ≤ (standSt n st k os i).term := by
  have h1 : (st i).term ≤ (stand1 st k i).term := by
    unfold stand1 updS
    split
    · rename_i e; rw [e]; exact hear_le _ _
    · exact Int.le_refl _
  have h2 := Int.le_trans h1 (askAll_term k os (stand1 st k) 1 i)
  unfold standSt
  split
  · unfold updS
    split
    · rename_i e; rw [e] at h2 ⊢; exact h2
    · exact h2
  · exact h2
theorem handSt_settled (st : Nat → KS) (k o : Nat) (m : Int) (i : Nat) : (st i).settled ≤ (handSt st k o m i).settled := by
  unfold handSt
  split
  · unfold updS
    split
    · rename_i e; rw [e, hear_settled]; exact Int.le_refl _
    · exact Int.le_refl _
  · split
    · unfold updS
      split
      · rename_i e; rw [e]; exact Int.le_refl _
      · split
        · rename_i e
          rw [e]
          show _ ≤ (let x := _; if x > ((st o).hear (st k).term).settled then x else ((st o).hear (st k).term).settled)
          have := hear_settled (st o) (st k).term
          dsimp only
          split <;> split <;> omega
        · exact Int.le_refl _
    · unfold updS
      split
      · rename_i e; rw [e]; exact Int.le_refl _
      · split
        · rename_i e; rw [e, hear_settled]; exact Int.le_refl _
        · exact Int.le_refl _
theorem handSt_term (st : Nat → KS) (k o : Nat) (m : Int) (i : Nat) : (st i).term ≤ (handSt st k o m i).term := by
  unfold handSt
  split
  · unfold updS
    split
    · rename_i e; rw [e]; exact hear_le _ _
    · exact Int.le_refl _
  · split
    · unfold updS
      split
      · rename_i e; rw [e]; exact Int.le_refl _
      · split
        · rename_i e; rw [e]; exact hear_le (st o) (st k).term
        · exact Int.le_refl _
    · unfold updS
      split
      · rename_i e; rw [e]; exact Int.le_refl _
      · split
        · rename_i e; rw [e]; exact hear_le _ _
        · exact Int.le_refl _
theorem settleN_le (k : KS) (i : Nat) : k.settled ≤ k.settleN i := by
  unfold KS.settleN
  dsimp only
  split <;> omega
theorem updS_term {st : Nat → KS} {k : Nat} {x : KS} (h : (st k).term ≤ x.term) (i : Nat) : (st i).term ≤ (updS st k x i).term := by
  unfold updS
  split
  · rename_i e; rw [e]; exact h
  · exact Int.le_refl _
theorem updS_settled {st : Nat → KS} {k : Nat} {x : KS} (h : (st k).settled ≤ x.settled) (i : Nat) : (st i).settled ≤ (updS st k x i).settled := by
  unfold updS
  split
  · rename_i e; rw [e]; exact h
  · exact Int.le_refl _
theorem doS_term (s : RSt) (d : Deed) (i : Nat) : (s.st i).term ≤ ((doS s d).st i).term := by
  cases d with
  | stand k os => exact standSt_term _ _ _ _ _
  | rest k => exact updS_term (by exact Int.le_refl _) i
  | write k w =>
    show _ ≤ ((if _ then _ else _ : RSt).st i).term
    split
    · exact updS_term (by exact Int.le_refl _) i
    · exact Int.le_refl _
  | hand k o m =>
    show _ ≤ ((if _ then _ else _ : RSt).st i).term
    split
    · exact handSt_term _ _ _ _ _
    · exact Int.le_refl _
  | settle k =>
    show _ ≤ ((if _ then _ else _ : RSt).st i).term
    split
    · exact updS_term (by exact Int.le_refl _) i
    · exact Int.le_refl _
/-- wakes anew -/
def isRest (i : Nat) : Deed → Bool
  | .rest k => decide (k.toNat = i)
  | _ => false
theorem doS_settled (s : RSt) (d : Deed) (i : Nat) (h : isRest i d = false) : (s.st i).settled ≤ ((doS s d).st i).settled := by
  cases d with
  | stand k os => show _ ≤ (standSt _ _ _ _ i).settled; rw [standSt_settled]; exact Int.le_refl _
  | rest k =>
    have h : decide (k.toNat = i) = false := h
    have h := of_decide_eq_false h
    show _ ≤ (updS _ _ _ i).settled
    rw [updS_ne (fun e => h e.symm)]; exact Int.le_refl _
  | write k w =>
    show _ ≤ ((if _ then _ else _ : RSt).st i).settled
    split
    · exact updS_settled (by exact Int.le_refl _) i
    · exact Int.le_refl _
  | hand k o m =>
    show _ ≤ ((if _ then _ else _ : RSt).st i).settled
    split
    · exact handSt_settled _ _ _ _ _
    · exact Int.le_refl _
  | settle k =>
    show _ ≤ ((if _ then _ else _ : RSt).st i).settled
    split
    · exact updS_settled (settleN_le _ _) i
    · exact Int.le_refl _
/-- one is told to lead -/
def toldStand (s : RSt) : Deed → Bool
  | .stand k os => ((s.stand k.toNat os).st k.toNat).leads
  | _ => false
structure Stood (s : RSt) (d : Deed) (g g' : Gh) : Prop where
  yes : toldStand s d = true → (∀ U, g.lg U ≠ none → U < ((doS s d).st d.who.toNat).term) ∧ g'.lg ((doS s d).st d.who.toNat).term ≠ none ∧ ∀ U, g'.lg U ≠ none → U = ((doS s d).st d.who.toNat).term ∨ g.lg U ≠ none
  no : toldStand s d = false → ∀ U, g'.lg U ≠ none → g.lg U ≠ none
theorem Inv.step' {s : RSt} {g : Gh} (h : Inv s.n s.st g) (h0 : G0 s.n s.st) {d : Deed} (hd : DeedOk s.n d) : ∃ g', Inv s.n (doS s d).st g' ∧ Grow g g' ∧ Stood s d g g' := by
  cases d with
  | stand k os =>
    obtain ⟨⟨a, b⟩, _, c⟩ := hd
    obtain ⟨g', w⟩ := h.stand (k := k.toNat) (by omega) c
    refine ⟨g', w.inv, w.grow, ⟨fun q => ?_, fun q => ?_⟩⟩
    · obtain ⟨a1, a2, a3⟩ := w.lead q
      refine ⟨a1, fun z => ?_, fun U hU => ?_⟩
      · have z : g'.lg (standSt s.n s.st k.toNat os k.toNat).term = none := z
        rw [a3] at z; cases z
      · by_cases e : U = (standSt s.n s.st k.toNat os k.toNat).term
        · exact .inl e
        · have e2 : g'.lg U = updI g.lg (standSt s.n s.st k.toNat os k.toNat).term _ U := congrArg (fun x => x.lg U) a2
          rw [updI_ne e] at e2
          rw [e2] at hU
          exact .inr hU
    · have e := w.not q
      rw [e]; exact fun U hU => hU
  | rest k => exact ⟨g, h.rest _, Grow.refl g, ⟨(fun q => nomatch (show false = true from q)), fun _ U hU => hU⟩⟩
  | write k w =>
    obtain ⟨⟨a, b⟩, _⟩ := hd
    unfold doS
    dsimp only
    split
    · rename_i hl
      refine ⟨_, h.write (k := k.toNat) (by omega) hl w, h.growW (by omega) hl w, ⟨(fun q => nomatch (show false = true from q)), fun _ U hU => ?_⟩⟩
      by_cases e : U = (s.st k.toNat).term
      · rw [e, h.own k.toNat (by omega) hl]; exact fun z => nomatch z
      · have hU : updI g.lg (s.st k.toNat).term _ U ≠ none := hU
        rw [updI_ne e] at hU; exact hU
    · exact ⟨g, h, Grow.refl g, ⟨(fun q => nomatch (show false = true from q)), fun _ U hU => hU⟩⟩
  | hand k o m =>
    obtain ⟨⟨a, b⟩, ⟨c, e⟩, f, _⟩ := hd
    unfold doS
    dsimp only
    split
    · rename_i hl
      obtain ⟨g', w, e1, e2, _, e4⟩ := h.hand (k := k.toNat) (o := o.toNat) (by omega) (by omega) (by omega) hl m ((h0 _).a0 _)
      exact ⟨g', w, fun T l hT => ⟨⟨l, by rw [e1]; exact hT, Nat.le_refl _, Ag.refl _ _⟩, fun p => e4 T p, by rw [e2]⟩, ⟨(fun q => nomatch (show false = true from q)), fun _ U hU => by rw [e1] at hU; exact hU⟩⟩
    · exact ⟨g, h, Grow.refl g, ⟨(fun q => nomatch (show false = true from q)), fun _ U hU => hU⟩⟩
  | settle k =>
    obtain ⟨a, b⟩ := hd
    unfold doS
    dsimp only
    split
    · rename_i hl; exact ⟨g, h.settle (k := k.toNat) (by omega) hl ((h0 _).hl hl), Grow.refl g, ⟨(fun q => nomatch (show false = true from q)), fun _ U hU => hU⟩⟩
    · exact ⟨g, h, Grow.refl g, ⟨(fun q => nomatch (show false = true from q)), fun _ U hU => hU⟩⟩
end Fw
namespace Fw
open PySem L2
theorem GB.mono {B C : Nat} {s : RSt} (h : GB B s) (l : B ≤ C) : GB C s := ⟨h.n9, h.g, fun i => Nat.le_trans (h.z i) l⟩
/-- what stands behind each deed -/
structure W (p : Addr) (n B : Nat) (s : RSt) (g : Gh) : Prop where
  gb : GB B s
  inv : Inv n s.st g
  p : s.p = p
  n : s.n = n
section
variable {p : Addr} {n B C : Nat} {s : RSt} {g : Gh} {d : Deed}
theorem W.new (p : Addr) {n : Nat} (h : n ≤ 9) : W p n 0 ⟨p, n, fun _ => {}⟩ Gh.new := ⟨GB.new p h, Inv.new n, rfl, rfl⟩
theorem W.mono (h : W p n B s g) (l : B ≤ C) : W p n C s g := ⟨h.gb.mono l, h.inv, h.p, h.n⟩
theorem W.step (h : W p n B s g) (hd : DeedOk n d) : ∃ g', W p n (B + 1) (doS s d) g' ∧ Grow g g' ∧ Stood s d g g' := by
  obtain ⟨g', h1, h2, h3⟩ := Inv.step' (s := s) (g := g) (by rw [h.n]; exact h.inv) h.gb.g (d := d) (by rw [h.n]; exact hd)
  exact ⟨g', ⟨h.gb.do (by rw [h.n]; exact hd), by rw [h.n] at h1; exact h1, (doS_p s d).trans h.p, (doS_n s d).trans h.n⟩, h2, h3⟩
theorem who_rng (h : DeedOk n d) : 0 ≤ d.who ∧ d.who < n := by
  cases d with
  | stand k os => exact h.1
  | rest k => exact h
  | write k w => exact h.1
  | hand k o m => exact h.1
  | settle k => exact h
theorem who_at (d : Deed) : ∃ ds, deedD d = .list ds ∧ L2.atI ds 1 = some (.int d.who) := by
  cases d <;> exact ⟨_, rfl, rfl⟩
def kindS : Deed → Str
  | .stand _ _ => "stand"
  | .rest _ => "rest"
  | .write _ _ => "write"
  | .hand _ _ _ => "hand"
  | .settle _ => "settle"
theorem kind_at (d : Deed) : ∃ ds, deedD d = .list ds ∧ L2.atI ds 0 = some (.str (kindS d)) := by
  cases d <;> exact ⟨_, rfl, rfl⟩
end
section
variable {K : PySem.W.Frag} {ρ : Type} {R : ρ → Hp → Hp → Prop} [Stab R] {e : SE} {r : ρ} {ta tb te : TE} {d : Deed} {P : Post ρ} {E : XK}
theorem ev_kind (h : EvD K R ta e r (deedD d)) : EvD K R (tOp (rIxL K) ta (tC (.int 0))) e r (.str (kindS d)) := by
  obtain ⟨ds, e1, e2⟩ := kind_at d
  rw [e1] at h
  exact ev_op h ev_int (opIxL e2)
theorem ev_who (h : EvD K R ta e r (deedD d)) : EvD K R (tOp (rIxL K) ta (tC (.int 1))) e r (.int d.who) := by
  obtain ⟨ds, e1, e2⟩ := who_at d
  rw [e1] at h
  exact ev_op h ev_int (opIxL e2)
theorem et_kind {x : Str} (h : EvD K R ta e r (deedD d)) : EvT K R (tTest (tOp rEq (tOp (rIxL K) ta (tC (.int 0))) (tC (.str x)))) e r (decide (kindS d = x)) := et_test (ev_op (ev_kind h) ev_str opEqS)
theorem et_stood {s : RSt} (h : EvD K R ta e r (deedD d)) (ht : EvD K R tb e r (doT s d)) : EvT K R (tAnd (tTest (tOp rEq (tOp (rIxL K) ta (tC (.int 0))) (tC (.str "stand")))) (tTest (tOp rIsB tb (tC (.bl true))))) e r (toldStand s d) := by
  cases d with
  | stand k os =>
    refine (et_and (a := true) (b := toldStand s (.stand k os)) ((et_kind h).is (decide_eq_true rfl)) fun _ => et_test ((ev_op (d1 := .bool (toldStand s (.stand k os))) ht ev_bl opIsB).is ?_)).is (Bool.true_and _)
    cases toldStand s (.stand k os) <;> rfl
  | rest k => exact et_and (a := false) (b := false) ((et_kind h).is (decide_eq_false (show ¬ ("rest" : Str) = "stand" by decide +kernel))) fun z => nomatch z
  | write k w => exact et_and (a := false) (b := false) ((et_kind h).is (decide_eq_false (show ¬ ("write" : Str) = "stand" by decide +kernel))) fun z => nomatch z
  | hand k o m => exact et_and (a := false) (b := false) ((et_kind h).is (decide_eq_false (show ¬ ("hand" : Str) = "stand" by decide +kernel))) fun z => nomatch z
  | settle k => exact et_and (a := false) (b := false) ((et_kind h).is (decide_eq_false (show ¬ ("settle" : Str) = "stand" by decide +kernel))) fun z => nomatch z
/-- for deed in deeds -/
theorem sp_forDs {n L : Nat} {i : Nat} {tl : TE} {tu : TS} (h : EvDs K R tl e r n L) (I : Nat → SE → ρ → Prop) (h0 : I 0 e r)
    (hs : ∀ k d e' r', k < L → DeedOk n d → I k e' r' → SP K R E tu (e'.set i (.dat (deedD d))) r' ⟨I (k + 1), P.rt, P.nx, I (k + 1), P.ex, P.fr⟩) (hd : ∀ m e' r', m ≤ L → I m e' r' → P.nx e' r') : SP K R E (tFor (iList K tl) (gName i) tu) e r P := fun G0 M0 H0 σ G M H D s v w q =>
  h H0 σ G M H v w _ fun x d r' G' M' H' ⟨⟨ds, e1, hok, hle⟩, e2⟩ s' w' hx => by
    subst e1 e2
    obtain ⟨a, xs, rfl, ha, rr⟩ := hx.lst_inv
    have s0 := s.trans s'
    refine ⟨a, rfl, ⟨xs, SqL.of (w'.gh _ _ ha)⟩, for_list (K := K) (a := a) (xs := xs) (fun k σ1 H1 => ∃ e1 r1 G1 M1, I k e1 r1 ∧ Stp G' M0 H0 G1 M1 H1 ∧ EnvO K H0 G1 M1 H1 σ1 e1 ∧ Wf R G1 M1 H1 r1)
      ⟨e, _, G', M', h0, s0.rebase, v.step s', w'⟩ (fun k σ1 H1 _ ⟨e1, r1, G1, M1, _, s1, _, w1⟩ => SqL.of (w1.gh _ _ (s1.gg _ _ ha))) ?_ ?_⟩
    · rintro k y σ1 H1 hy ⟨e1, r1, G1, M1, p, s1, v1, w1⟩
      obtain ⟨d, hd', ry⟩ := rr.of_get hy
      rw [List.getElem?_map] at hd'
      obtain ⟨dd, hdd, rfl⟩ := Option.map_eq_some_iff.mp hd'
      obtain ⟨hk, hm⟩ := List.getElem?_eq_some_iff.mp hdd
      exact hs k dd e1 r1 (by omega) (hok dd (hm ▸ List.getElem_mem hk)) p G' M0 H0 _ G1 M1 H1 _ s1 (v1.setD (ry.mono s1.gg)) w1
        ⟨fun e2 r2 σ2 G2 M2 H2 p2 s2 v2 w2 => ⟨e2, r2, G2, M2, p2, s2, v2, w2⟩, fun d r x G M H n t => q.rt d r x G M H n (s0.unbase t), fun e r σ G M H n t => q.nx e r σ G M H n (s0.unbase t), fun e2 r2 σ2 G2 M2 H2 p2 s2 v2 w2 => ⟨e2, r2, G2, M2, p2, s2, v2, w2⟩, fun c r G M H n t => q.ex c r G M H n (s0.unbase t), fun ds r l ws G M H n t => q.fr ds r l ws G M H n (s0.unbase t)⟩
    · rintro σ1 H1 ⟨e1, r1, G1, M1, p, s1, v1, w1⟩
      rw [rr.length, List.length_map] at p
      exact q.nx e1 r1 σ1 G1 M1 H1 (hd _ e1 r1 hle p) (s0.unbase s1) v1 w1
/-- x[i], x one's own -/
theorem ev_ixO {i : Nat} {j : Int} {ds : List PyData} {d : PyData} (hi : e[i]? = some (.own ds)) (hj : EvD K R tb e r (.int j)) (ha : L2.atI ds j = some d) : EvD K R (tOp (rIxL K) (tVar i) tb) e r d := fun B σ G M H v w Q q => by
  obtain ⟨l, vs, h1, h2, h3, h4, h5, h6⟩ := v.own i ds hi
  refine ⟨.ref l, h1, hj B σ G M H v w _ fun y d2 r2 G2 M2 H2 ⟨e1, e2⟩ s2 w2 hy => ?_⟩
  subst e1 e2
  obtain ⟨z, hz, hr⟩ := h6.atI ha
  exact ⟨l, vs, j, z, rfl, hy.int_inv, SqL.of (s2.fr l _ h5 h4), hz, q z _ _ G2 M2 H2 ⟨rfl, rfl⟩ s2 w2 (hr.mono s2.gg)⟩
theorem ev_takeR {es : List Ent} {m : Nat} (h : EvD K R ta e r (rowD es)) (hm : EvD K R tb e r (.int (m : Int))) : EvD K R (tSl (rSlL K) ta tNoPart (tPart tb)) e r (rowD (es.take m)) :=
  (EvF.ev (evf_sl (ds := es.map entD) h eo_none (eo_some hm))).is (by rw [cut_to _ (Int.natCast_nonneg m), Int.toNat_natCast, ← List.map_take]; rfl)
theorem ev_lenR {es : List Ent} (h : EvD K R ta e r (rowD es)) : EvD K R (tCB (rLenS K) (tCons ta tNil)) e r (.int (es.length : Int)) := (ev_cb (ea_cons h ea_nil) cbLen).is (by rw [List.length_map])
end
end Fw

namespace Fw
open PySem L2
theorem Known.lead {n : Nat} {st : Nat → KS} {g : Gh} {es : List Ent} {i : Nat} (hk : Known n g es) (h : Inv n st g) (hi : i < n) (hl : (st i).leads = true) (ht : ∀ U, g.lg U ≠ none → U ≤ (st i).term) : (st i).row.take es.length = es := by
  have ho := h.own i hi hl
  rcases hk with rfl | ⟨T, l, m, h1, h2, h3, h4, h5⟩
  · rfl
  · have key : Ag es.length es (st i).row := by
      rcases Int.lt_or_le T (st i).term with c | c
      · obtain ⟨x, e1, e2, e3⟩ := h.commit h1 h2 h3 _ _ (Nat.le_refl _) c (by rw [ho]; exact fun z => nomatch z)
        rw [ho] at e1
        injection e1 with e1
        rw [e1]; exact h5.trans (e3.less h4)
      · have e : T = (st i).term := Int.le_antisymm (ht T (by rw [h1]; exact fun z => nomatch z)) c
        rw [e, ho] at h1
        injection h1 with h1
        rw [h1]; exact h5
    rw [← key.eq_take, List.take_length]
theorem RowG.grow {g g' : Gh} {t : Int} {es : List Ent} (h : RowG g t es) (k : Grow g g') : RowG g' t es := ⟨fun p x hx => by
  obtain ⟨h1, l, h2, h3⟩ := h.at_ p x hx
  obtain ⟨⟨l', e1, e2, e3⟩, _⟩ := k x.1 l h2
  have hp := (List.getElem?_eq_some_iff.mp hx).1
  have := h3.len (by omega)
  exact ⟨h1, l', e1, h3.trans (e3.less this)⟩, h.so⟩
theorem Inv.part_len {n : Nat} {st : Nat → KS} {g : Gh} (h : Inv n st g) {i : Nat} (hi : i < n) (h0 : 0 ≤ (st i).settled) : (((st i).row.take (st i).settled.toNat).length : Int) = (st i).settled := by
  rw [List.length_take]
  by_cases c : 0 < (st i).settled
  · obtain ⟨T, l, m, a1, a2, a3, a4, a5, a6, a7⟩ := h.se i hi c
    omega
  · omega
theorem ixN_rg {γ : Type} {f : Nat → γ} {n : Nat} {k : Int} (h0 : 0 ≤ k) (h1 : k < n) : ixN ((List.range n).map f).length k = some k.toNat := by
  unfold ixN
  rw [List.length_map, List.length_range, if_pos h0, if_pos h1]
theorem rg_out {γ : Type} (n : Nat) (x : PyData) : lcOut (fun _ => true) (fun _ => x) (rgD n) = (List.range n).map fun _ => x := by
  rw [lcOut_all, rgD_map]
/-- how a deed tells -/
theorem kind_rest (d : Deed) (h : kindS d = "rest") : ∃ k, d = .rest k := by
  cases d with
  | rest k => exact ⟨k, rfl⟩
  | stand k os => exact absurd (show ("stand" : Str) = _ from h) (by decide +kernel)
  | write k w => exact absurd (show ("write" : Str) = _ from h) (by decide +kernel)
  | hand k o m => exact absurd (show ("hand" : Str) = _ from h) (by decide +kernel)
  | settle k => exact absurd (show ("settle" : Str) = _ from h) (by decide +kernel)
theorem kind_settle (d : Deed) (h : kindS d = "settle") : ∃ k, d = .settle k := by
  cases d with
  | settle k => exact ⟨k, rfl⟩
  | stand k os => exact absurd (show ("stand" : Str) = _ from h) (by decide +kernel)
  | write k w => exact absurd (show ("write" : Str) = _ from h) (by decide +kernel)
  | hand k o m => exact absurd (show ("hand" : Str) = _ from h) (by decide +kernel)
  | rest k => exact absurd (show ("rest" : Str) = _ from h) (by decide +kernel)
theorem kind_write (d : Deed) (h : kindS d = "write") : ∃ k w, d = .write k w := by
  cases d with
  | write k w => exact ⟨k, w, rfl⟩
  | stand k os => exact absurd (show ("stand" : Str) = _ from h) (by decide +kernel)
  | settle k => exact absurd (show ("settle" : Str) = _ from h) (by decide +kernel)
  | hand k o m => exact absurd (show ("hand" : Str) = _ from h) (by decide +kernel)
  | rest k => exact absurd (show ("rest" : Str) = _ from h) (by decide +kernel)
theorem doS_settle_rest (s : RSt) (k : Int) : ((doS s (.rest k)).st k.toNat).settled = 0 := by
  show (updS _ _ _ k.toNat).settled = 0
  rw [updS_same]
theorem doT_settle (s : RSt) (k : Int) : doT s (.settle k) = .none ∨ doT s (.settle k) = .int ((doS s (.settle k)).st k.toNat).settled := by
  show (if _ then _ else _) = _ ∨ (if _ then _ else _) = PyData.int (((if _ then _ else _ : RSt).st k.toNat).settled)
  split
  · right
    show _ = PyData.int (updS _ _ _ k.toNat).settled
    rw [updS_same]
  · exact .inl rfl
end Fw

namespace Fw
open PySem L2
def partOf (s : RSt) (i : Nat) : List Ent := (s.st i).row.take (s.st i).settled.toNat
theorem W.right {p : Addr} {n B C : Nat} {s : RSt} {g g' : Gh} {d : Deed} (hW : W p n B s g) (hW' : W p n C (doS s d) g') (hG : Grow g g') (hd : DeedOk n d) {k : Int} (hk : 0 ≤ k ∧ k < n) :
    (d = .rest k → partOf (doS s d) k.toNat = []) ∧ (d = .settle k → doT s d = .none ∨ doT s d = .int ((partOf (doS s d) k.toNat).length : Int)) ∧ (d ≠ .rest k → (partOf (doS s d) k.toNat).take (partOf s k.toNat).length = partOf s k.toNat) := by
  have l0 : ((partOf s k.toNat).length : Int) = (s.st k.toNat).settled := hW.inv.part_len (by omega) (hW.gb.g _).s0
  have l1 : ((partOf (doS s d) k.toNat).length : Int) = ((doS s d).st k.toNat).settled := hW'.inv.part_len (by omega) (hW'.gb.g _).s0
  refine ⟨fun e => ?_, fun e => ?_, fun e => ?_⟩
  · subst e
    unfold partOf
    rw [doS_settle_rest]; rfl
  · subst e
    rw [l1]
    exact doT_settle s k
  · have hr : isRest k.toNat d = false := by
      cases d with
      | rest k' =>
        refine decide_eq_false fun z => e ?_
        have : 0 ≤ k' := hd.1
        rw [show k' = k by omega]
      | stand k os => rfl
      | write k w => rfl
      | hand k o m => rfl
      | settle k => rfl
    have hs := doS_settled s d k.toNat hr
    have a := Known.agree hW'.inv ((hW.inv.part (i := k.toNat) (by omega)).grow hG) (hW'.inv.part (i := k.toNat) (by omega))
    have a : Ag (min (partOf s k.toNat).length (partOf (doS s d) k.toNat).length) (partOf s k.toNat) (partOf (doS s d) k.toNat) := a
    rw [Nat.min_eq_left (by omega)] at a
    rw [← a.eq_take, List.take_length]
end Fw

/-! Dicts that change, in M; how a leader's row changes. -/
namespace Fw
open PySem L2
section
variable {K : PySem.W.Frag} {e : SE} {r : MF} {ta tb tc : TE} {l : Addr} {kvs : List (Key × V)} {t k : Int}
theorem evs_dnew : EvS K (Rmf K) tDNewK e r (fun d r' => ∃ l, d = objD l ∧ r.m l = none ∧ r' = ⟨upd r.m l (.dK []), r.f⟩) := fun B σ G M H v w Q q p hp => by
  have hM : M = r.m := w.res.1
  exact q (.ref p) (objD p) _ G _ _ ⟨p, rfl, by rw [← hM]; exact w.mn hp, rfl⟩ (Stp.newM hp _) (w.newM hp _) .obj
theorem evs_setd (ho : EvD K (Rmf K) ta e r (objD l)) (ht : EvD K (Rmf K) tb e r (.int t)) (hk : EvD K (Rmf K) tc e r (.int k)) (hm : r.m l = some (.dK kvs)) (hl : kvs.length < sizeLine) (hi : ∀ v, valV kvs (.inl t) = some v → v = .int k) :
    EvS K (Rmf K) (tDSetd ta tb tc) e r (fun d r' => d = .int k ∧ ((r' = r ∧ ∃ v, valV kvs (.inl t) = some v) ∨ (valV kvs (.inl t) = none ∧ r' = ⟨upd r.m l (.dK (putK kvs (.inl t) (.int k))), r.f⟩))) := fun B σ G M H v w Q q =>
  ho B σ G M H v w _ fun x d r1 G1 M1 H1 ⟨e1, e2⟩ s1 w1 hx => by
    subst e1 e2
    refine ⟨l, hx.obj_inv, .inl ⟨kvs, .inl (w1.at hm)⟩, ht B σ G1 M1 H1 (v.step s1) w1 _ fun y d r2 G2 M2 H2 ⟨e1, e2⟩ s2 w2 hy => ?_⟩
    subst e1 e2
    refine hk B σ G2 M2 H2 ((v.step s1).step s2) w2 _ fun z d r3 G3 M3 H3 ⟨e1, e2⟩ s3 w3 hz => ?_
    subst e1 e2
    have s := (s1.trans s2).trans s3
    refine ⟨kvs, .inl t, w3.at hm, hy.int_inv, hl, fun u hu => ?_, fun hn => ?_⟩
    · exact q u _ _ G3 M3 H3 ⟨rfl, .inl ⟨rfl, u, hu⟩⟩ s w3 (by rw [hi u hu]; exact .int k)
    · rw [hz.int_inv]
      have hM : M3 = _ := w3.res.1
      exact q (.int k) _ ⟨upd _ l (.dK (putK kvs (.inl t) (.int k))), _⟩ G3 _ _ ⟨rfl, .inr ⟨hn, rfl⟩⟩ (s.trans (Stp.mutM ⟨_, by rw [hM]; exact hm⟩ w3.mh _)) (w3.mutM hm _ w3.res.2) (.int k)
end
theorem cut_last {α : Type} (xs : List α) (x : α) : cutD (xs ++ [x]) none (some (-1)) = xs := by
  unfold cutD
  show ((xs ++ [x]).drop 0).take ((if (-1 : Int) < 0 then ((-1 : Int) + ((xs ++ [x]).length : Int)).toNat else min (-1 : Int).toNat (xs ++ [x]).length) - 0) = xs
  rw [if_pos (by decide), List.drop_zero, Nat.sub_zero, List.length_append]
  have : ((-1 : Int) + ((xs.length + [x].length : Nat) : Int)).toNat = xs.length := by
    show ((-1 : Int) + ((xs.length + 1 : Nat) : Int)).toNat = xs.length
    omega
  rw [this, List.take_left']
  rfl
theorem cut_most {α : Type} (xs : List α) (x : α) (h : x ∈ cutD xs none (some (-1))) : x ∈ xs := cutD_mem h
/-- the row of one that leads, as it did ahead of the deed, in the same term -/
theorem doS_row {n : Nat} {s : RSt} {g : Gh} (hn : s.n = n) (h : Inv n s.st g) {d : Deed} (hd : DeedOk n d) {k : Nat} (hk : k < n) (hl : ((doS s d).st k).leads = true) (ht : ((doS s d).st k).term = (s.st k).term) :
    ((doS s d).st k).row = (s.st k).row ∨ ∃ kk w, d = .write kk w ∧ kk.toNat = k ∧ ((doS s d).st k).row = (s.st k).row ++ [((s.st k).term, w)] := by
  cases d with
  | stand kk os => exact .inl (standSt_row _ _ _ _ _)
  | rest kk =>
    left
    show (updS _ _ _ k).row = _
    unfold updS
    split
    · rename_i e; rw [e]
    · rfl
  | write kk w =>
    by_cases c : (s.st kk.toNat).leads = true
    · have e : doS s (.write kk w) = s.write kk.toNat w := by unfold doS; dsimp only; rw [if_pos c]
      rw [e]
      by_cases e2 : k = kk.toNat
      · right
        refine ⟨kk, w, rfl, e2.symm, ?_⟩
        show (updS _ _ _ k).row = _
        rw [e2, updS_same]
      · left
        show (updS _ _ _ k).row = _
        rw [updS_ne e2]
    · left
      have e : doS s (.write kk w) = s := by unfold doS; dsimp only; rw [if_neg c]
      rw [e]
  | hand kk o m =>
    left
    by_cases c : (s.st kk.toNat).leads = true
    · have e : doS s (.hand kk o m) = s.hand kk.toNat o.toNat m := by unfold doS; dsimp only; rw [if_pos c]
      rw [e] at hl ht ⊢
      have hl : (handSt s.st kk.toNat o.toNat m k).leads = true := hl
      have ht : (handSt s.st kk.toNat o.toNat m k).term = (s.st k).term := ht
      show (handSt s.st kk.toNat o.toNat m k).row = _
      obtain ⟨⟨a, b⟩, ⟨a', b'⟩, ne, _⟩ := hd
      unfold handSt at hl ht ⊢
      split
      · unfold updS
        split
        · rename_i e; rw [hear_row, e]
        · rfl
      · rename_i c1
        rw [if_neg c1] at hl ht
        split
        · rename_i c2
          rw [if_pos c2] at hl ht
          by_cases e1 : k = kk.toNat
          · rw [e1, updS_same]; rfl
          · rw [updS_ne e1] at hl ht ⊢
            by_cases e2 : k = o.toNat
            · rw [e2, updS_same] at hl ht
              exfalso
              have hl : ((s.st o.toNat).hear (s.st kk.toNat).term).leads = true := hl
              unfold KS.hear at hl
              split at hl
              · cases hl
              · rename_i c3
                have := h.one_leads (i := o.toNat) (j := kk.toNat) (by omega) (by omega) hl c (by omega)
                omega
            · rw [updS_ne e2]
        · unfold updS
          split
          · rename_i e; rw [e]
          · split
            · rename_i e; rw [hear_row, e]
            · rfl
    · have e : doS s (.hand kk o m) = s := by unfold doS; dsimp only; rw [if_neg c]
      rw [e]
  | settle kk =>
    left
    by_cases c : (s.st kk.toNat).leads = true
    · have e : doS s (.settle kk) = s.settle kk.toNat := by unfold doS; dsimp only; rw [if_pos c]
      rw [e]
      show (updS _ _ _ k).row = _
      unfold updS
      split
      · rename_i e; rw [e]
      · rfl
    · have e : doS s (.settle kk) = s := by unfold doS; dsimp only; rw [if_neg c]
      rw [e]
/-- who led first in a term -/
def LedOk (g : Gh) (kvs : List (Key × V)) : Prop := ∀ (t : Int) v, valV kvs (.inl t) = some v → v = .int (g.who t : Int) ∧ g.lg t ≠ none
theorem LedOk.grow {g g' : Gh} {kvs : List (Key × V)} (h : LedOk g kvs) (k : Grow g g') : LedOk g' kvs := fun t v hv => by
  obtain ⟨h1, h2⟩ := h t v hv
  cases z : g.lg t with
  | none => exact absurd z h2
  | some l =>
    obtain ⟨⟨l', e, _⟩, _, e2⟩ := k t l z
    exact ⟨by rw [e2]; exact h1, by rw [e]; exact fun q => nomatch q⟩
theorem LedOk.put {g : Gh} {kvs : List (Key × V)} (h : LedOk g kvs) {t : Int} (hl : g.lg t ≠ none) {k : Int} (e : (g.who t : Int) = k) : LedOk g (putK kvs (.inl t) (.int k)) := fun u v hv => by
  rw [valV_put] at hv
  split at hv
  · rename_i c
    injection c with c
    injection hv with hv
    rw [← hv, c, e]; exact ⟨rfl, hl⟩
  · exact h u v hv
end Fw
namespace Fw
open PySem L2
theorem OpD.isO {K : PySem.W.Frag} {r2 : R2} {d1 d2 d3 d3' : PyData} (h : OpD K r2 d1 d2 d3) (e : d3 = d3') : OpD K r2 d1 d2 d3' := e ▸ h
section
variable {K : PySem.W.Frag} {ρ : Type} {R : ρ → Hp → Hp → Prop} {e : SE} {r r1 : ρ} {t u : TT}
theorem ets_andT {Pb : Bool → ρ → Prop} (h1 : EvTS K R t e r (fun c r' => c = true ∧ r' = r1)) (h2 : EvTS K R u e r1 Pb) : EvTS K R (tAnd t u) e r Pb := fun B σ G M H v w Q q =>
  h1 B σ G M H v w _ fun c r' G' M' H' ⟨e1, e2⟩ s w' => by
    subst e1 e2
    show u σ H' Q
    exact h2 B σ G' M' H' (v.step s) w' Q fun c r2 G2 M2 H2 p s2 w2 => q c r2 G2 M2 H2 p (s.trans s2) w2
end
end Fw

/-! [a, b] > [c, d] and >= of whole numbers. -/
namespace L2
open PySem PySem.Spec PyProof.Rows
theorem dataLt_pair (a b c d : Int) : PySem.W.dataLt (.list [.int a, .int b]) (.list [.int c, .int d]) = decide (a < c ∨ (a = c ∧ b < d)) := by
  show PyProof.Rows.lexLt PyProof.Rows.itemOrd [.inl 1, .inl a, .inl 1, .inl b, .inl 0] [.inl 1, .inl c, .inl 1, .inl d, .inl 0] = _
  rw [PyProof.Rows.lex_self]
  by_cases h : a = c
  · subst h
    rw [PyProof.Rows.lex_self, PyProof.Rows.lex_self]
    by_cases k : b = d
    · subst k
      rw [PyProof.Rows.lex_self, PyProof.Rows.lex_self]
      show false = _
      refine (decide_eq_false ?_).symm
      omega
    · rw [PyProof.Rows.lex_diff (fun z => k (Sum.inl.inj z))]
      show decide (b < d) = _
      exact decide_eq_decide.mpr ⟨fun z => .inr ⟨rfl, z⟩, fun z => by omega⟩
  · rw [PyProof.Rows.lex_diff (fun z => h (Sum.inl.inj z))]
    show decide (a < c) = _
    exact decide_eq_decide.mpr ⟨fun z => .inl z, fun z => by omega⟩
def rGtP (K : PySem.W.Frag) : R2 := fun x y H Q => ∃ a b c d : Int, Dp K H x (.list [.int a, .int b]) ∧ Dp K H y (.list [.int c, .int d]) ∧ Q (.bl (decide (c < a ∨ (c = a ∧ d < b)))) H
def rGeP (K : PySem.W.Frag) : R2 := fun x y H Q => ∃ a b c d : Int, Dp K H x (.list [.int a, .int b]) ∧ Dp K H y (.list [.int c, .int d]) ∧ Q (.bl (!decide (a < c ∨ (a = c ∧ b < d)))) H
section
variable {X : Cx}
theorem op_gtL (hu : X.A.units + 64 < cLine) : OpR X (compareOp .Gt) (rGtP X.K) := by
  intro pins s σ H x y v u Q I rx ry h
  obtain ⟨a, b, c, d, hd, he, q⟩ := h
  obtain ⟨as, r1⟩ := Dp.reads I _ x v hd rx
  obtain ⟨bs, r2⟩ := Dp.reads I _ y u he ry
  refine PySem.W.gt_data r1 r2 rfl (fun z => nomatch z) ?_ ⟨.bl _, H, I, rfl, ?_⟩
  · have : min (PyData.depth (.list [.int a, .int b])) (PyData.depth (.list [.int c, .int d])) ≤ 64 := Nat.le_trans (Nat.min_le_left _ _) (by show 1 ≤ 64; decide)
    omega
  · rw [dataLt_pair]; exact q
theorem op_geL (hu : X.A.units + 64 < cLine) : OpR X (compareOp .GtE) (rGeP X.K) := by
  intro pins s σ H x y v u Q I rx ry h
  obtain ⟨a, b, c, d, hd, he, q⟩ := h
  obtain ⟨as, r1⟩ := Dp.reads I _ x v hd rx
  obtain ⟨bs, r2⟩ := Dp.reads I _ y u he ry
  refine PySem.W.ge_data r1 r2 rfl (fun z => nomatch z) ?_ ⟨.bl _, H, I, rfl, ?_⟩
  · have : min (PyData.depth (.list [.int a, .int b])) (PyData.depth (.list [.int c, .int d])) ≤ 64 := Nat.le_trans (Nat.min_le_left _ _) (by show 1 ≤ 64; decide)
    omega
  · rw [dataLt_pair]; exact q
end
end L2
namespace Fw
open PySem L2
section
variable {K : PySem.W.Frag} {a b c d : Int}
theorem opGtP : OpD K (rGtP K) (.list [.int a, .int b]) (.list [.int c, .int d]) (.bool (decide (c < a ∨ (c = a ∧ d < b)))) := fun x y G M H p h1 h2 Q q =>
  ⟨a, b, c, d, Rp.dp p.1 _ _ rfl h1, Rp.dp p.1 _ _ rfl h2, q _ G H (Al.refl p) (.bl _)⟩
theorem opGeP : OpD K (rGeP K) (.list [.int a, .int b]) (.list [.int c, .int d]) (.bool (!decide (a < c ∨ (a = c ∧ b < d)))) := fun x y G M H p h1 h2 Q q =>
  ⟨a, b, c, d, Rp.dp p.1 _ _ rfl h1, Rp.dp p.1 _ _ rfl h2, q _ G H (Al.refl p) (.bl _)⟩
end
/-- a is as new as b -/
theorem asNew_iff (a b : List Ent) : asNew a b = true ↔ (lastT b < lastT a ∨ (lastT b = lastT a ∧ b.length ≤ a.length)) := by
  unfold asNew
  split
  · rename_i h
    rw [decide_eq_true_iff]
    constructor
    · exact fun z => .inl z
    · rintro (z | ⟨z, _⟩)
      · exact z
      · exact absurd z.symm h
  · rename_i h
    have h : lastT a = lastT b := Classical.not_not.mp h
    rw [decide_eq_true_iff]
    constructor
    · exact fun z => .inr ⟨h.symm, z⟩
    · rintro (z | ⟨_, z⟩)
      · omega
      · exact z
/-! ### terms stay small -/
theorem hear_termB {k : KS} {t M : Int} (h : k.term ≤ M) (ht : t ≤ M) : (k.hear t).term ≤ M := by
  unfold KS.hear
  split
  · exact ht
  · exact h
theorem updS_termB {st : Nat → KS} {M : Int} (h : ∀ i, (st i).term ≤ M) {i : Nat} {k : KS} (hk : k.term ≤ M) (j : Nat) : (updS st i k j).term ≤ M := by
  unfold updS
  split
  · exact hk
  · exact h j
theorem askAll_termB (k : Nat) (os : List Int) {M : Int} : ∀ st v, (∀ i, (st i).term ≤ M) → ∀ i, ((askAll st k os v).1 i).term ≤ M := by
  induction os with
  | nil => intro st v h i; exact h i
  | cons o os ih => intro st v h i; exact ih _ _ (updS_termB h (hear_termB (h _) (h k))) i
theorem standSt_termB (n : Nat) {st : Nat → KS} (k : Nat) (os : List Int) {M : Int} (h : ∀ i, (st i).term ≤ M) (hk : (st k).term + 1 ≤ M) (i : Nat) : (standSt n st k os i).term ≤ M := by
  have h1 : ∀ i, (stand1 st k i).term ≤ M := updS_termB h (hear_termB (h k) hk)
  have h2 := askAll_termB k os (stand1 st k) 1 h1
  unfold standSt
  split
  · exact updS_termB h2 (by exact h2 k) i
  · exact h2 i
theorem doS_termB {s : RSt} {M : Int} (h : ∀ i, (s.st i).term ≤ M) (d : Deed) (i : Nat) : ((doS s d).st i).term ≤ M + 1 := by
  have h' : ∀ i, (s.st i).term ≤ M + 1 := fun i => by have := h i; omega
  cases d with
  | stand k os => exact standSt_termB _ _ _ h' (by have := h k.toNat; omega) i
  | rest k => exact updS_termB h' (by exact h' _) i
  | write k w =>
    show ((if _ then _ else _ : RSt).st i).term ≤ _
    split
    · exact updS_termB h' (by exact h' _) i
    · exact h' i
  | hand k o m =>
    show ((if _ then _ else _ : RSt).st i).term ≤ _
    split
    · show (handSt _ _ _ _ i).term ≤ _
      unfold handSt
      split
      · exact updS_termB h' (hear_termB (h' _) (h' _)) i
      · split
        · exact updS_termB (updS_termB h' (by exact hear_termB (h' _) (h' _))) (by exact h' _) i
        · exact updS_termB (updS_termB h' (hear_termB (h' _) (h' _))) (by exact h' _) i
    · exact h' i
  | settle k =>
    show ((if _ then _ else _ : RSt).st i).term ≤ _
    split
    · exact updS_termB h' (by exact h' _) i
    · exact h' i
/-! ### the one that all are asked for, above all terms -/
theorem askAll_k (k : Nat) (os : List Int) : ∀ st v, (askAll st k os v).1 k = st k := by
  induction os with
  | nil => intro st v; rfl
  | cons o os ih =>
    intro st v
    show (askAll _ k os _).1 k = _
    rw [ih]
    unfold updS
    split
    · rename_i h; rw [← h, hear_term_self]
    · rfl
theorem stand_k_term (n : Nat) (st : Nat → KS) (k : Nat) (os : List Int) : (standSt n st k os k).term = (st k).term + 1 := by
  have h1 := (stand1_term st k).1
  have h2 := askAll_k k os (stand1 st k) 1
  unfold standSt
  split
  · rw [updS_same]
    show ((askAll (stand1 st k) k os 1).1 k).term = _
    rw [h2, h1]
  · rw [h2, h1]
/-- all that are asked give their voices -/
theorem askAll_all {k : Nat} : ∀ (os : List Int) (st : Nat → KS) (v : Int), (os.map Int.toNat).Nodup → (∀ o, o ∈ os → o.toNat = k ∨ ((st o.toNat).term < (st k).term ∧ asNew (st k).row (st o.toNat).row = true)) →
    (askAll st k os v).2 = v + ((os.filter fun o => !decide (o.toNat = k)).length : Int) ∧ (∀ o, o ∈ os → ((askAll st k os v).1 o.toNat).term = (st k).term) ∧ ∀ i, i ∉ os.map Int.toNat → (askAll st k os v).1 i = st i
  | [], st, v, _, _ => ⟨by show v = v + 0; omega, (fun o h => nomatch h), fun _ _ => rfl⟩
  | o :: os, st, v, nd, h => by
    rw [List.map_cons, List.nodup_cons] at nd
    have hk : updS st o.toNat ((st o.toNat).hear (st k).term) k = st k := by
      unfold updS
      split
      · rename_i e; rw [← e, hear_term_self]
      · rfl
    obtain ⟨a1, a2, a3⟩ := askAll_all os (updS st o.toNat ((st o.toNat).hear (st k).term)) (if decide ((st o.toNat).term < (st k).term) && asNew (st k).row (st o.toNat).row then v + 1 else v) nd.2 fun o' ho' => by
      have ne : o'.toNat ≠ o.toNat := fun z => nd.1 (by rw [← z]; exact List.mem_map.mpr ⟨o', ho', rfl⟩)
      rw [hk, updS_ne ne]
      exact h o' (List.mem_cons_of_mem _ ho')
    rw [hk] at a2
    refine ⟨?_, fun o' ho' => ?_, fun i hi => ?_⟩
    · show (askAll _ k os _).2 = _
      rw [a1]
      rcases h o List.mem_cons_self with z | ⟨z1, z2⟩
      · rw [if_neg (by rw [z, decide_eq_false (Int.lt_irrefl _), Bool.false_and]; decide), List.filter_cons, if_neg (by rw [decide_eq_true z]; decide)]
      · have z3 : o.toNat ≠ k := fun e => by rw [e] at z1; exact Int.lt_irrefl _ z1
        rw [if_pos (by rw [decide_eq_true z1, z2]; rfl), List.filter_cons, if_pos (by rw [decide_eq_false z3]; rfl), List.length_cons]
        omega
    · rcases List.mem_cons.mp ho' with e | e
      · show ((askAll _ k os _).1 o'.toNat).term = _
        rw [e, a3 o.toNat nd.1, updS_same]
        rcases h o List.mem_cons_self with z | ⟨z1, z2⟩
        · rw [z, hear_term_self]
        · exact hear_up (Int.le_of_lt z1)
      · exact a2 o' e
    · rw [List.map_cons, List.mem_cons, not_or] at hi
      show (askAll _ k os _).1 i = _
      rw [a3 i hi.2, updS_ne hi.1]
theorem rgI_nat (n : Nat) : (rgI n).map Int.toNat = List.range n := by
  unfold rgI
  rw [List.map_map]
  exact List.map_id _
theorem filter_ne {k : Nat} : ∀ {n : Nat}, k < n → ((List.range n).filter fun o => !decide (o = k)).length + 1 = n
  | 0, h => absurd h (Nat.not_lt_zero k)
  | n + 1, h => by
    rw [List.range_succ, List.filter_append, List.length_append]
    by_cases e : k = n
    · have : (List.range n).filter (fun o => !decide (o = k)) = List.range n := List.filter_eq_self.mpr fun x hx => by
        have := List.mem_range.mp hx
        rw [decide_eq_false (by omega)]; rfl
      rw [this, List.length_range, e]
      simp
    · have := filter_ne (n := n) (k := k) (by omega)
      have e2 : [n].filter (fun o => !decide (o = k)) = [n] := List.filter_eq_self.mpr fun x hx => by
        rw [List.mem_singleton.mp hx, decide_eq_false (by omega)]; rfl
      rw [e2]
      show _ + 1 + 1 = n + 1
      omega
theorem askAll_or (k : Nat) (os : List Int) : ∀ st v i, ((askAll st k os v).1 i).term = (st i).term ∨ ((askAll st k os v).1 i).term = (st k).term := by
  induction os with
  | nil => intro st v i; exact .inl rfl
  | cons o os ih =>
    intro st v i
    have hk : updS st o.toNat ((st o.toNat).hear (st k).term) k = st k := by
      unfold updS
      split
      · rename_i e; rw [← e, hear_term_self]
      · rfl
    rcases ih (updS st o.toNat ((st o.toNat).hear (st k).term)) (if decide ((st o.toNat).term < (st k).term) && asNew (st k).row (st o.toNat).row then v + 1 else v) i with z | z
    · show ((askAll _ k os _).1 i).term = _ ∨ ((askAll _ k os _).1 i).term = _
      rw [z]
      unfold updS
      split
      · rename_i e
        unfold KS.hear
        split
        · exact .inr rfl
        · rw [e]; exact .inl rfl
      · exact .inl rfl
    · show _ ∨ ((askAll _ k os _).1 i).term = _
      rw [z, hk]; exact .inr rfl
theorem standSt_or (n : Nat) (st : Nat → KS) (k : Nat) (os : List Int) (i : Nat) : (standSt n st k os i).term = (st i).term ∨ (standSt n st k os i).term = (st k).term + 1 := by
  have s1 := stand1_term st k
  have h : ((askAll (stand1 st k) k os 1).1 i).term = (st i).term ∨ ((askAll (stand1 st k) k os 1).1 i).term = (st k).term + 1 := by
    rcases askAll_or k os (stand1 st k) 1 i with z | z
    · by_cases e : i = k
      · rw [z, e, s1.1]; exact .inr rfl
      · rw [z, s1.2 i e]; exact .inl rfl
    · rw [z, s1.1]; exact .inr rfl
  unfold standSt
  split
  · unfold updS
    split
    · rename_i e; rw [e] at h ⊢; exact h
    · exact h
  · exact h
/-- told to lead: all stand in its term -/
theorem stand_top {n k : Nat} {st : Nat → KS} (hk : k < n) (ha : ∀ i, i < n → asNew (st k).row (st i).row = true) (h : ∀ i, i < n → (st i).term < (st k).term + 1) :
    (standSt n st k (rgI n) k).leads = true ∧ (∀ i, i < n → (standSt n st k (rgI n) i).term = (st k).term + 1) ∧ (standSt n st k (rgI n) k).ahead = List.replicate n ((st k).row.length : Int) ∧ (standSt n st k (rgI n) k).held = List.replicate n 0 := by
  have s1 := stand1_term st k
  have hr := stand1_row st k
  obtain ⟨a1, a2, a3⟩ := askAll_all (k := k) (rgI n) (stand1 st k) 1 (by rw [rgI_nat]; exact List.nodup_range) fun o ho => by
    obtain ⟨o1, o2⟩ := rgI_mem ho
    by_cases e : o.toNat = k
    · exact .inl e
    · right
      rw [hr, hr, s1.1, s1.2 _ e]
      exact ⟨h _ (by omega), ha _ (by omega)⟩
  have hv : (n : Int) < 2 * (askAll (stand1 st k) k (rgI n) 1).2 := by
    rw [a1]
    have e : ((rgI n).filter fun o => !decide (o.toNat = k)).length = ((List.range n).filter fun o => !decide (o = k)).length := by
      unfold rgI
      rw [List.filter_map, List.length_map]; rfl
    have := filter_ne hk
    rw [e]; omega
  have ek := askAll_k k (rgI n) (stand1 st k) 1
  unfold standSt
  rw [if_pos hv]
  refine ⟨by rw [updS_same]; rfl, fun i hi => ?_, ?_, ?_⟩
  · by_cases e : i = k
    · rw [e, updS_same]
      show ((askAll (stand1 st k) k (rgI n) 1).1 k).term = _
      rw [ek, s1.1]
    · rw [updS_ne e]
      have := a2 (i : Int) (List.mem_map.mpr ⟨i, List.mem_range.mpr hi, rfl⟩)
      rw [s1.1] at this
      exact this
  · rw [updS_same]
    show List.replicate n (((askAll (stand1 st k) k (rgI n) 1).1 k).row.length : Int) = _
    rw [ek, hr]
  · rw [updS_same]; rfl
end Fw

/-! One that leads hands on until all rows are alike. -/
namespace Fw
open PySem L2
theorem agrees_ag {g : Gh} {t t' : Int} {E R : List Ent} (hE : RowG g t E) (hR : RowG g t' R) {a : Int} (h0 : 0 ≤ a) (ha : a.toNat ≤ R.length) (h : agreesB E a (lastT (R.take a.toNat)) = true) : a.toNat ≤ E.length ∧ Ag a.toNat E R := by
  unfold agreesB at h
  by_cases z : a = 0
  · rw [z]; exact ⟨Nat.zero_le _, fun p hp => absurd hp (Nat.not_lt_zero p)⟩
  · rw [if_neg z] at h
    cases hx : E[(a - 1).toNat]? with
    | none => rw [hx] at h; cases h
    | some x =>
      rw [hx] at h
      have h := of_decide_eq_true h
      obtain ⟨y, hy, ey⟩ := lastT_take (R := R) (a := a.toNat) (by omega) (by omega)
      rw [show (a - 1).toNat = a.toNat - 1 by omega] at hx
      have := hE.mtch hR hx hy (by rw [h, ey])
      have hx1 := (List.getElem?_eq_some_iff.mp hx).1
      exact ⟨by omega, this.less (by omega)⟩
/-- what is missing comes all at once -/
theorem catch_up {g : Gh} {t t' T : Int} {w : PySem.Str} {E R R0 : List Ent} (hE : RowG g t E) (hR : RowG g t' R) (e : R = R0 ++ [(T, w)]) (hlt : ∀ x, x ∈ E → x.1 < T) {a m : Int} (h0 : 0 ≤ a) (ha : a.toNat ≤ R0.length) (hm : (R.length : Int) ≤ m) (h : agreesB E a (lastT (R.take a.toNat)) = true) :
    fillR E a.toNat ((R.drop a.toNat).take m.toNat) = R ∧ a + (((R.drop a.toNat).take m.toNat).length : Int) = R.length := by
  have hRl : R.length = R0.length + 1 := by rw [e, List.length_append]; rfl
  have h1 := agrees_ag hE hR h0 (by omega) h
  obtain ⟨f1, f2, f3, f4, _⟩ := fill_spec hE hR (a := a.toNat) (m := m.toNat) (by omega) h1.1 h1.2 (ps := (R.drop a.toNat).take m.toNat) rfl
  have hl : a.toNat + ((R.drop a.toNat).take m.toNat).length = R.length := by rw [List.length_take, List.length_drop]; omega
  rw [hl] at f1 f3 f4
  refine ⟨?_, by omega⟩
  rcases f1 with f | f
  · exfalso
    rw [f] at f3 f4
    have h2 := f4 R0.length (by omega)
    have h3 : R[R0.length]? = some (T, w) := by rw [e, List.getElem?_append_right (Nat.le_refl _), Nat.sub_self]; rfl
    rw [h3] at h2
    have := hlt _ (List.mem_of_getElem? h2)
    exact Int.lt_irrefl _ this
  · rw [f, List.take_length]
structure Lv (n k : Nat) (T : Int) (R : List Ent) (z : Int) (row : Nat → List Ent) (ah hl : Nat → Int) (s : RSt) : Prop where
  l : (s.st k).leads = true
  r : (s.st k).row = R
  z : (s.st k).settled = z
  t : ∀ i, i < n → (s.st i).term = T
  row : ∀ i, i < n → i ≠ k → (s.st i).row = row i
  ah : ∀ o, o < n → o ≠ k → (s.st k).aheadAt o = ah o
  hl : ∀ o, o < n → o ≠ k → (s.st k).held.getD o 0 = hl o
  al : (s.st k).ahead.length = n
  hn : (s.st k).held.length = n
def maxS (a z c : Int) : Int := let x := (if c < z then c else z); if x > a then x else a
section
variable {n k o : Nat} {T z : Int} {R : List Ent} {row : Nat → List Ent} {ah hl : Nat → Int} {s : RSt}
theorem setD {xs : List Int} {n o p : Nat} {x : Int} (h : xs.length = n) (ho : o < n) : (xs.set o x).getD p 0 = if p = o then x else xs.getD p 0 := by
  rw [List.getD_eq_getElem?_getD]
  by_cases e : p = o
  · rw [if_pos e, e, List.getElem?_set_self (by omega)]; rfl
  · rw [if_neg e, List.getElem?_set_ne (fun q => e q.symm), ← List.getD_eq_getElem?_getD]
theorem Lv.yes (h : Lv n k T R z row ah hl s) (hk : k < n) (ho : o < n) (hne : o ≠ k) (m : Int) (hag : agreesB (row o) (ah o) (lastT (R.take (ah o).toNat)) = true) {c : Int} (hc : c = ah o + (((R.drop (ah o).toNat).take m.toNat).length : Int)) :
    Lv n k T R z (updN row o (fillR (row o) (ah o).toNat ((R.drop (ah o).toNat).take m.toNat))) (updN ah o c) (updN hl o c) (s.hand k o m) ∧ handTold s.st k o = true ∧
      ((s.hand k o m).st o).settled = maxS (s.st o).settled z c ∧ ∀ i, i ≠ o → ((s.hand k o m).st i).settled = (s.st i).settled := by
  have ht : ¬ (s.st k).term < (s.st o).term := by rw [h.t k hk, h.t o ho]; exact Int.lt_irrefl _
  have hh : (s.st o).hear (s.st k).term = s.st o := by rw [h.t k hk, ← h.t o ho]; exact hear_term_self _
  have ea := h.ah o ho hne
  have er := h.row o ho hne
  have hag' : agreesB (s.st o).row ((s.st k).aheadAt o) (lastT ((s.st k).row.take ((s.st k).aheadAt o).toNat)) = true := by rw [ea, er, h.r]; exact hag
  have hp : (s.st k).part ((s.st k).aheadAt o) m = (R.drop (ah o).toNat).take m.toNat := by unfold KS.part; rw [ea, h.r]
  have hc' : (s.st k).aheadAt o + (((s.st k).part ((s.st k).aheadAt o) m).length : Int) = c := by rw [hp, ea, hc]
  have e : (s.hand k o m).st = updS (updS s.st o (handOne (s.st k) (s.st o) o m)) k (handOwn (s.st k) o m) := by
    show handSt s.st k o m = _
    unfold handSt
    rw [if_neg ht, if_pos hag', hh]
  have ek : (s.hand k o m).st k = handOwn (s.st k) o m := by rw [e, updS_same]
  have eo : (s.hand k o m).st o = handOne (s.st k) (s.st o) o m := by rw [e, updS_ne hne, updS_same]
  have ei : ∀ i, i ≠ k → i ≠ o → (s.hand k o m).st i = s.st i := fun i a b => by rw [e, updS_ne a, updS_ne b]
  have own : handOwn (s.st k) o m = { s.st k with ahead := (s.st k).ahead.set o c, held := (s.st k).held.set o c } := by unfold handOwn; rw [hc']
  rw [own] at ek
  refine ⟨⟨by rw [ek]; exact h.l, by rw [ek]; exact h.r, by rw [ek]; exact h.z, fun i hi => ?_, fun i hi hik => ?_, fun p hp2 hpk => ?_, fun p hp2 hpk => ?_, by rw [ek]; exact (List.length_set ..).trans h.al, by rw [ek]; exact (List.length_set ..).trans h.hn⟩, ?_, ?_, fun i hi => ?_⟩
  · by_cases a : i = k
    · rw [a, ek]; exact h.t k hk
    · by_cases b : i = o
      · rw [b, eo]; exact h.t o ho
      · rw [ei i a b]; exact h.t i hi
  · by_cases b : i = o
    · rw [b, eo, updN_same]
      show fillR (s.st o).row ((s.st k).aheadAt o).toNat ((s.st k).part ((s.st k).aheadAt o) m) = _
      rw [hp, ea, er]
    · rw [ei i hik b, updN_ne b]; exact h.row i hi hik
  · rw [ek]
    show ((s.st k).ahead.set o c).getD p 0 = _
    rw [setD h.al ho]
    unfold updN
    split
    · rfl
    · exact h.ah p hp2 hpk
  · rw [ek]
    show ((s.st k).held.set o c).getD p 0 = _
    rw [setD h.hn ho]
    unfold updN
    split
    · rfl
    · exact h.hl p hp2 hpk
  · unfold handTold
    rw [hag', decide_eq_false ht]; rfl
  · rw [eo]
    unfold handOne maxS
    dsimp only
    rw [hc', h.z]
  · by_cases a : i = k
    · rw [a, ek]
    · rw [ei i a hi]
theorem Lv.no (h : Lv n k T R z row ah hl s) (hk : k < n) (ho : o < n) (hne : o ≠ k) (m : Int) (hag : agreesB (row o) (ah o) (lastT (R.take (ah o).toNat)) = false) :
    Lv n k T R z row (updN ah o (ah o - 1)) hl (s.hand k o m) ∧ handTold s.st k o = false ∧ ∀ i, ((s.hand k o m).st i).settled = (s.st i).settled := by
  have ht : ¬ (s.st k).term < (s.st o).term := by rw [h.t k hk, h.t o ho]; exact Int.lt_irrefl _
  have hh : (s.st o).hear (s.st k).term = s.st o := by rw [h.t k hk, ← h.t o ho]; exact hear_term_self _
  have ea := h.ah o ho hne
  have er := h.row o ho hne
  have hag' : agreesB (s.st o).row ((s.st k).aheadAt o) (lastT ((s.st k).row.take ((s.st k).aheadAt o).toNat)) = false := by rw [ea, er, h.r]; exact hag
  have e : (s.hand k o m).st = updS s.st k { s.st k with ahead := (s.st k).ahead.set o (ah o - 1) } := by
    show handSt s.st k o m = _
    unfold handSt
    rw [if_neg ht, if_neg (by rw [hag']; decide), hh, ea, updS_self]
  have ek : (s.hand k o m).st k = { s.st k with ahead := (s.st k).ahead.set o (ah o - 1) } := by rw [e, updS_same]
  have ei : ∀ i, i ≠ k → (s.hand k o m).st i = s.st i := fun i a => by rw [e, updS_ne a]
  refine ⟨⟨by rw [ek]; exact h.l, by rw [ek]; exact h.r, by rw [ek]; exact h.z, fun i hi => ?_, fun i hi hik => by rw [ei i hik]; exact h.row i hi hik, fun p hp2 hpk => ?_, fun p hp2 hpk => by rw [ek]; exact h.hl p hp2 hpk, by rw [ek]; exact (List.length_set ..).trans h.al, by rw [ek]; exact h.hn⟩, ?_, fun i => ?_⟩
  · by_cases a : i = k
    · rw [a, ek]; exact h.t k hk
    · rw [ei i a]; exact h.t i hi
  · rw [ek]
    show ((s.st k).ahead.set o (ah o - 1)).getD p 0 = _
    rw [setD h.al ho]
    unfold updN
    split
    · rfl
    · exact h.ah p hp2 hpk
  · unfold handTold
    rw [hag', decide_eq_false ht]; rfl
  · by_cases a : i = k
    · rw [a, ek]
    · rw [ei i a]
/-- all hold all: it is settled -/
theorem Lv.settle (h : Lv n k T R z row ah hl s) (hk : k < n) {R0 : List Ent} {w : PySem.Str} (e : R = R0 ++ [(T, w)]) (hh : ∀ o, o < n → o ≠ k → hl o = (R.length : Int)) (hz : z ≤ R.length) : (s.st k).settleN k = (R.length : Int) := by
  have hRl : R.length = R0.length + 1 := by rw [e, List.length_append]; rfl
  have hc : cnt ((s.st k).held.set k (R.length : Int)) (R.length : Int) = n := by
    rw [cnt_B, List.length_set, h.hn]
    unfold cntB
    rw [List.filter_eq_self.mpr fun o ho => ?_, List.length_range]
    have ho := List.mem_range.mp ho
    refine decide_eq_true ?_
    rw [setD h.hn hk]
    split
    · exact Int.le_refl _
    · rename_i c; rw [h.hl o ho c, hh o ho c]; exact Int.le_refl _
  have hs : settledBy (s.st k).row (s.st k).term ((s.st k).held.set k ((s.st k).row.length : Int)) = (R.length : Int) := by
    rw [h.r, h.t k hk]
    unfold settledBy
    rw [hRl] at hc ⊢
    unfold settledUp
    rw [if_pos ⟨by rw [List.length_set, h.hn]; have hc' : cnt ((s.st k).held.set k (((R0.length + 1 : Nat)) : Int)) ((R0.length : Int) + 1) = n := hc; rw [hc']; omega, by rw [e, List.getElem?_append_right (Nat.le_refl _), Nat.sub_self]; rfl⟩]
    omega
  unfold KS.settleN
  dsimp only
  rw [hs, h.z]
  split <;> omega
theorem fill_nil (E : List Ent) (a : Nat) : fillR E a [] = E := by
  unfold fillR
  have : fillD (E.drop a) [] = none := by cases E.drop a <;> rfl
  rw [this]
theorem agrees_full {R0 R : List Ent} {T : Int} {w : PySem.Str} (e : R = R0 ++ [(T, w)]) : agreesB R (R.length : Int) (lastT (R.take (R.length : Int).toNat)) = true := by
  have hRl : R.length = R0.length + 1 := by rw [e, List.length_append]; rfl
  rw [Int.toNat_natCast, List.take_length]
  rw [agreesB_at (e := (T, w)) (by omega) (by rw [hRl, show (((R0.length + 1 : Nat) : Int) - 1).toNat = R0.length by omega, e, List.getElem?_append_right (Nat.le_refl _), Nat.sub_self]; rfl)]
  refine decide_eq_true ?_
  rw [e, lastT_snoc]
end
end Fw
namespace Fw
open PySem L2
section
variable {n k o : Nat} {T z : Int} {R : List Ent} {row row' : Nat → List Ent} {ah ah' hl hl' : Nat → Int} {s : RSt}
theorem Lv.congr (h : Lv n k T R z row ah hl s) (h1 : ∀ i, i < n → i ≠ k → row i = row' i) (h2 : ∀ i, i < n → i ≠ k → ah i = ah' i) (h3 : ∀ i, i < n → i ≠ k → hl i = hl' i) : Lv n k T R z row' ah' hl' s :=
  ⟨h.l, h.r, h.z, h.t, fun i a b => (h.row i a b).trans (h1 i a b), fun i a b => (h.ah i a b).trans (h2 i a b), fun i a b => (h.hl i a b).trans (h3 i a b), h.al, h.hn⟩
theorem Lv.write (h : Lv n k T R z row ah hl s) (hk : k < n) (w : PySem.Str) : Lv n k T (R ++ [(T, w)]) z row ah hl (s.write k w) := by
  have ek : (s.write k w).st k = { s.st k with row := (s.st k).row ++ [((s.st k).term, w)] } := updS_same
  have ei : ∀ i, i ≠ k → (s.write k w).st i = s.st i := fun i a => updS_ne a
  refine ⟨by rw [ek]; exact h.l, ?_, by rw [ek]; exact h.z, fun i hi => ?_, fun i hi hik => by rw [ei i hik]; exact h.row i hi hik, fun o a b => by rw [ek]; exact h.ah o a b, fun o a b => by rw [ek]; exact h.hl o a b, by rw [ek]; exact h.al, by rw [ek]; exact h.hn⟩
  · rw [ek]
    show (s.st k).row ++ [((s.st k).term, w)] = _
    rw [h.r, h.t k hk]
  · by_cases a : i = k
    · rw [a, ek]; exact h.t k hk
    · rw [ei i a]; exact h.t i hi
theorem Lv.settled (h : Lv n k T R z row ah hl s) (hk : k < n) {x : Int} (hx : (s.st k).settleN k = x) : Lv n k T R x row ah hl (s.settle k) := by
  have ek : (s.settle k).st k = { s.st k with settled := (s.st k).settleN k } := updS_same
  have ei : ∀ i, i ≠ k → (s.settle k).st i = s.st i := fun i a => updS_ne a
  refine ⟨by rw [ek]; exact h.l, by rw [ek]; exact h.r, by rw [ek]; exact hx, fun i hi => ?_, fun i hi hik => by rw [ei i hik]; exact h.row i hi hik, fun o a b => by rw [ek]; exact h.ah o a b, fun o a b => by rw [ek]; exact h.hl o a b, by rw [ek]; exact h.al, by rw [ek]; exact h.hn⟩
  by_cases a : i = k
  · rw [a, ek]; exact h.t k hk
  · rw [ei i a]; exact h.t i hi
end
section
variable {p : Addr} {n B : Nat} {s : RSt} {g : Gh} {k : Nat}
theorem W.hand (h : W p n B s g) {o : Nat} {m : Int} (hk : k < n) (ho : o < n) (hne : o ≠ k) (hm : 0 ≤ m) (hl : (s.st k).leads = true) : ∃ g', W p n (B + 1) (s.hand k o m) g' := by
  obtain ⟨g', h1, _⟩ := h.step (d := .hand (k : Int) (o : Int) m) (ok_hand ⟨by omega, by omega⟩ ⟨by omega, by omega⟩ (by omega) hm)
  have e : doS s (.hand (k : Int) (o : Int) m) = s.hand k o m := by
    unfold doS
    dsimp only
    exact if_pos hl
  rw [e] at h1
  exact ⟨g', h1⟩
theorem W.write (h : W p n B s g) {w : PySem.Str} (hk : k < n) (hw : strOkW w) (hl : (s.st k).leads = true) : ∃ g', W p n (B + 1) (s.write k w) g' := by
  obtain ⟨g', h1, _⟩ := h.step (d := .write (k : Int) w) (ok_write ⟨by omega, by omega⟩ hw)
  have e : doS s (.write (k : Int) w) = s.write k w := by
    unfold doS
    dsimp only
    exact if_pos hl
  rw [e] at h1
  exact ⟨g', h1⟩
theorem W.settle (h : W p n B s g) (hk : k < n) (hl : (s.st k).leads = true) : ∃ g', W p n (B + 1) (s.settle k) g' := by
  obtain ⟨g', h1, _⟩ := h.step (d := .settle (k : Int)) (ok_settle ⟨by omega, by omega⟩)
  have e : doS s (.settle (k : Int)) = s.settle k := by
    unfold doS
    dsimp only
    exact if_pos hl
  rw [e] at h1
  exact ⟨g', h1⟩
theorem W.stand (h : W p n B s g) (hk : k < n) : ∃ g', W p n (B + 1) (s.stand k (rgI n)) g' := by
  have h9 := h.gb.n9
  rw [h.n] at h9
  obtain ⟨g', h1, _⟩ := h.step (d := .stand (k : Int) (rgI n)) (ok_stand ⟨by omega, by omega⟩ (by rw [rgI_len]; omega) fun o ho => rgI_mem ho)
  exact ⟨g', h1⟩
end
/-- told to lead, all others in its term, none of which has an entry -/
structure Led (s0 : RSt) (k : Nat) (T : Int) (s : RSt) : Prop where
  w : ∃ g, W s0.p s0.n 3300 s g
  rows : ∀ i, (s.st i).row = (s0.st i).row
  lv : Lv s0.n k T (s0.st k).row (s0.st k).settled (fun i => (s0.st i).row) (fun _ => ((s0.st k).row.length : Int)) (fun _ => 0) s
  lt : ∀ i, i < s0.n → ∀ x, x ∈ (s0.st i).row → x.1 < T
theorem Led.of {s0 s : RSt} {k : Nat} {M : Int} {g g' : Gh} {B : Nat} (hk : k < s0.n) (hW : W s0.p s0.n B s g) (hW' : W s0.p s0.n 3300 (s.stand k (rgI s0.n)) g') (hr : ∀ i, (s.st i).row = (s0.st i).row) (hz : ∀ i, (s.st i).settled = (s0.st i).settled) (hm : (s.st k).term = M) (hM : ∀ i, i < s0.n → (s.st i).term ≤ M) (ha : ∀ i, i < s0.n → asNew (s0.st k).row (s0.st i).row = true) :
    Led s0 k (M + 1) (s.stand k (rgI s0.n)) := by
  have hn := hW.n
  have e : (s.stand k (rgI s0.n)).st = standSt s0.n s.st k (rgI s0.n) := by show standSt s.n _ _ _ = _; rw [hn]
  obtain ⟨a1, a2, a3, a4⟩ := stand_top (st := s.st) hk (fun i hi => by rw [hr, hr]; exact ha i hi) fun i hi => by have := hM i hi; omega
  rw [← e] at a1 a2 a3 a4
  have er : ∀ i, ((s.stand k (rgI s0.n)).st i).row = (s0.st i).row := fun i => by rw [e, standSt_row]; exact hr i
  refine ⟨⟨g', hW'⟩, er, ⟨a1, er k, by rw [e, standSt_settled]; exact hz k, fun i hi => by rw [a2 i hi, hm], fun i _ _ => er i, fun o ho _ => ?_, fun o ho _ => ?_, by rw [a3]; exact List.length_replicate, by rw [a4]; exact List.length_replicate⟩, fun i hi x hx => ?_⟩
  · unfold KS.aheadAt
    rw [a3, rep_getD _ _ _ ho, hr]
  · rw [a4, rep_getD _ _ _ ho]
  · rw [← hr] at hx
    obtain ⟨p, hp, hx⟩ := List.mem_iff_getElem.mp hx
    have := ((hW.inv.rows i hi).at_ p x (by rw [List.getElem?_eq_getElem hp, hx])).1
    have := hM i hi
    omega
end Fw
namespace Fw
open PySem L2
theorem evts_not {K : PySem.W.Frag} {ρ : Type} {R : ρ → Hp → Hp → Prop} {e : SE} {r : ρ} {t : TT} {P P' : Bool → ρ → Prop} (h : EvTS K R t e r P) (k : ∀ b r', P b r' → P' (!b) r') : EvTS K R (tNot t) e r P' := fun B σ G M H v w Q q =>
  h B σ G M H v w _ fun c r' G' M' H' p s w' => q (!c) r' G' M' H' (k c r' p) s w'
end Fw

/-! k12's own lists, that mirror a room. -/
namespace Fw
open PySem L2
def kl (k : KS) (v : V) (x y : Addr) : List V := [.int k.term, v, .bl k.leads, .int k.settled, .ref x, .ref y]
def pairD (es : List Ent) : PyData := .list [rowD es, rowD es]
def allD (A : Nat → Addr) (n : Nat) : PyData := .list ((List.range n).map fun i => objD (A (3 * i)))
structure Mir (n : Nat) (A : Nat → Addr) (lk : Addr) (ks : List V) (st : Nat → KS) (r : MF) : Prop where
  at_ : ∀ i, i < n → ∃ v, r.m (A (3 * i)) = some (.lst (kl (st i) v (A (3 * i + 1)) (A (3 * i + 2)))) ∧ r.f v (rowD (st i).row)
  al : ∀ i, i < n → r.m (A (3 * i + 1)) = some (.lst ((st i).ahead.map .int))
  hl : ∀ i, i < n → r.m (A (3 * i + 2)) = some (.lst ((st i).held.map .int))
  inj : ∀ x y, x < 3 * n → y < 3 * n → A x = A y → x = y
  kp : r.m lk = some (.lst ks)
  nk : ∀ x, x < 3 * n → A x ≠ lk
  kf : ∀ v, v ∈ ks → ∃ es, rowOk es ∧ r.f v (pairD es)
section
variable {n : Nat} {A : Nat → Addr} {lk : Addr} {ks : List V} {st : Nat → KS} {r : MF} {i : Nat}
theorem Mir.some_ (h : Mir n A lk ks st r) {x : Nat} (hx : x < 3 * n) : r.m (A x) ≠ none := by
  have : x = 3 * (x / 3) ∨ x = 3 * (x / 3) + 1 ∨ x = 3 * (x / 3) + 2 := by omega
  have hi : x / 3 < n := by omega
  rcases this with e | e | e
  · obtain ⟨v, h1, _⟩ := h.at_ _ hi
    rw [e, h1]; exact fun z => nomatch z
  · rw [e, h.al _ hi]; exact fun z => nomatch z
  · rw [e, h.hl _ hi]; exact fun z => nomatch z
theorem Mir.mono (h : Mir n A lk ks st r) {r' : MF} (hm : ∀ b o, r.m b = some o → r'.m b = some o) (hf : ∀ v d, r.f v d → r'.f v d) : Mir n A lk ks st r' :=
  ⟨fun i hi => by
    obtain ⟨v, h1, h2⟩ := h.at_ i hi
    exact ⟨v, hm _ _ h1, hf _ _ h2⟩, fun i hi => hm _ _ (h.al i hi), fun i hi => hm _ _ (h.hl i hi), h.inj, hm _ _ h.kp, h.nk, fun v hv => by
    obtain ⟨es, h1, h2⟩ := h.kf v hv
    exact ⟨es, h1, hf _ _ h2⟩⟩
theorem Mir.put (h : Mir n A lk ks st r) (hi : i < n) {k' : KS} (e1 : k'.ahead = (st i).ahead) (e2 : k'.held = (st i).held) {v : V} {f' : V → PyData → Prop} (hv : f' v (rowD k'.row)) (fs : ∀ v d, r.f v d → f' v d) :
    Mir n A lk ks (updS st i k') ⟨upd r.m (A (3 * i)) (.lst (kl k' v (A (3 * i + 1)) (A (3 * i + 2)))), f'⟩ := by
  have ne : ∀ x, x < 3 * n → x ≠ 3 * i → A x ≠ A (3 * i) := fun x hx hne z => hne (h.inj x _ hx (by omega) z)
  refine ⟨fun j hj => ?_, fun j hj => ?_, fun j hj => ?_, h.inj, by show upd _ _ _ _ = _; rw [upd_ne (h.nk _ (by omega)).symm]; exact h.kp, h.nk, fun v hv => by
    obtain ⟨es, h1, h2⟩ := h.kf v hv
    exact ⟨es, h1, fs _ _ h2⟩⟩
  · by_cases c : j = i
    · rw [c, updS_same]; exact ⟨v, upd_same, hv⟩
    · obtain ⟨w, w1, w2⟩ := h.at_ j hj
      rw [updS_ne c]
      exact ⟨w, by show upd _ _ _ _ = _; rw [upd_ne (ne _ (by omega) (by omega))]; exact w1, fs _ _ w2⟩
  · show upd _ _ _ _ = _
    rw [upd_ne (ne _ (by omega) (by omega)), h.al j hj]
    by_cases c : j = i
    · rw [c, updS_same, e1]
    · rw [updS_ne c]
  · show upd _ _ _ _ = _
    rw [upd_ne (ne _ (by omega) (by omega)), h.hl j hj]
    by_cases c : j = i
    · rw [c, updS_same, e2]
    · rw [updS_ne c]
theorem Mir.putA (h : Mir n A lk ks st r) (hi : i < n) (xs : List Int) {f' : V → PyData → Prop} (fs : ∀ v d, r.f v d → f' v d) : Mir n A lk ks (updS st i { st i with ahead := xs }) ⟨upd r.m (A (3 * i + 1)) (.lst (xs.map .int)), f'⟩ := by
  have ne : ∀ x, x < 3 * n → x ≠ 3 * i + 1 → A x ≠ A (3 * i + 1) := fun x hx hne z => hne (h.inj x _ hx (by omega) z)
  refine ⟨fun j hj => ?_, fun j hj => ?_, fun j hj => ?_, h.inj, by show upd _ _ _ _ = _; rw [upd_ne (h.nk _ (by omega)).symm]; exact h.kp, h.nk, fun v hv => by
    obtain ⟨es, h1, h2⟩ := h.kf v hv
    exact ⟨es, h1, fs _ _ h2⟩⟩
  · obtain ⟨w, w1, w2⟩ := h.at_ j hj
    refine ⟨w, ?_, ?_⟩
    · show upd _ _ _ _ = _
      rw [upd_ne (ne _ (by omega) (by omega)), w1]
      by_cases c : j = i
      · rw [c, updS_same]; rfl
      · rw [updS_ne c]
    · by_cases c : j = i
      · rw [c] at w2 ⊢; rw [updS_same]; exact fs _ _ w2
      · rw [updS_ne c]; exact fs _ _ w2
  · show upd _ _ _ _ = _
    by_cases c : j = i
    · rw [c, upd_same, updS_same]
    · rw [upd_ne (ne _ (by omega) (by omega)), updS_ne c]; exact h.al j hj
  · show upd _ _ _ _ = _
    rw [upd_ne (ne _ (by omega) (by omega)), h.hl j hj]
    by_cases c : j = i
    · rw [c, updS_same]
    · rw [updS_ne c]
theorem Mir.putH (h : Mir n A lk ks st r) (hi : i < n) (xs : List Int) {f' : V → PyData → Prop} (fs : ∀ v d, r.f v d → f' v d) : Mir n A lk ks (updS st i { st i with held := xs }) ⟨upd r.m (A (3 * i + 2)) (.lst (xs.map .int)), f'⟩ := by
  have ne : ∀ x, x < 3 * n → x ≠ 3 * i + 2 → A x ≠ A (3 * i + 2) := fun x hx hne z => hne (h.inj x _ hx (by omega) z)
  refine ⟨fun j hj => ?_, fun j hj => ?_, fun j hj => ?_, h.inj, by show upd _ _ _ _ = _; rw [upd_ne (h.nk _ (by omega)).symm]; exact h.kp, h.nk, fun v hv => by
    obtain ⟨es, h1, h2⟩ := h.kf v hv
    exact ⟨es, h1, fs _ _ h2⟩⟩
  · obtain ⟨w, w1, w2⟩ := h.at_ j hj
    refine ⟨w, ?_, ?_⟩
    · show upd _ _ _ _ = _
      rw [upd_ne (ne _ (by omega) (by omega)), w1]
      by_cases c : j = i
      · rw [c, updS_same]; rfl
      · rw [updS_ne c]
    · by_cases c : j = i
      · rw [c] at w2 ⊢; rw [updS_same]; exact fs _ _ w2
      · rw [updS_ne c]; exact fs _ _ w2
  · show upd _ _ _ _ = _
    rw [upd_ne (ne _ (by omega) (by omega)), h.al j hj]
    by_cases c : j = i
    · rw [c, updS_same]
    · rw [updS_ne c]
  · show upd _ _ _ _ = _
    by_cases c : j = i
    · rw [c, upd_same, updS_same]
    · rw [upd_ne (ne _ (by omega) (by omega)), updS_ne c]; exact h.hl j hj
/-- a new list stands in the place of an old one -/
theorem Mir.newA (h : Mir n A lk ks st r) (hi : i < n) (xs : List Int) {l : Addr} (hl : r.m l = none) {v : V} (hv : r.f v (rowD (st i).row)) {f' : V → PyData → Prop} (fs : ∀ v d, r.f v d → f' v d) :
    Mir n (updN A (3 * i + 1) l) lk ks (updS st i { st i with ahead := xs }) ⟨upd (upd r.m l (.lst (xs.map .int))) (A (3 * i)) (.lst (kl (st i) v l (A (3 * i + 2)))), f'⟩ := by
  have ne : ∀ x, x < 3 * n → x ≠ 3 * i → A x ≠ A (3 * i) := fun x hx hne z => hne (h.inj x _ hx (by omega) z)
  have nl : ∀ x, x < 3 * n → A x ≠ l := fun x hx z => h.some_ hx (by rw [z]; exact hl)
  have nlk : lk ≠ l := fun z => by have := h.kp; rw [z, hl] at this; cases this
  have old : ∀ x, x < 3 * n → x ≠ 3 * i → upd (upd r.m l (.lst (xs.map .int))) (A (3 * i)) (.lst (kl (st i) v l (A (3 * i + 2)))) (A x) = r.m (A x) := fun x hx hne => by rw [upd_ne (ne x hx hne), upd_ne (nl x hx)]
  refine ⟨fun j hj => ?_, fun j hj => ?_, fun j hj => ?_, fun x y hx hy e => ?_, by show upd _ _ _ _ = _; rw [upd_ne (h.nk _ (by omega)).symm, upd_ne nlk]; exact h.kp, fun x hx => ?_, fun v hv => by
    obtain ⟨es, h1, h2⟩ := h.kf v hv
    exact ⟨es, h1, fs _ _ h2⟩⟩
  · rw [updN_ne (show 3 * j ≠ 3 * i + 1 by omega), updN_ne (show 3 * j + 2 ≠ 3 * i + 1 by omega)]
    by_cases c : j = i
    · rw [c, updN_same, updS_same]; exact ⟨v, upd_same, fs _ _ hv⟩
    · rw [updN_ne (show 3 * j + 1 ≠ 3 * i + 1 by omega), updS_ne c]
      obtain ⟨w, w1, w2⟩ := h.at_ j hj
      exact ⟨w, (old _ (by omega) (by omega)).trans w1, fs _ _ w2⟩
  · by_cases c : j = i
    · rw [c, updN_same, updS_same]
      show upd _ _ _ _ = _
      rw [upd_ne (nl _ (by omega)).symm, upd_same]
    · rw [updN_ne (show 3 * j + 1 ≠ 3 * i + 1 by omega), updS_ne c]
      exact (old _ (by omega) (by omega)).trans (h.al j hj)
  · rw [updN_ne (show 3 * j + 2 ≠ 3 * i + 1 by omega)]
    refine (old _ (by omega) (by omega)).trans ((h.hl j hj).trans ?_)
    by_cases c : j = i
    · rw [c, updS_same]
    · rw [updS_ne c]
  · by_cases c : x = 3 * i + 1
    · by_cases d : y = 3 * i + 1
      · rw [c, d]
      · rw [c, updN_same, updN_ne d] at e
        exact absurd e.symm (nl y hy)
    · by_cases d : y = 3 * i + 1
      · rw [d, updN_same, updN_ne c] at e
        exact absurd e (nl x hx)
      · rw [updN_ne c, updN_ne d] at e
        exact h.inj x y hx hy e
  · by_cases c : x = 3 * i + 1
    · rw [c, updN_same]; exact nlk.symm
    · rw [updN_ne c]; exact h.nk x hx
theorem Mir.newH (h : Mir n A lk ks st r) (hi : i < n) (xs : List Int) {l : Addr} (hl : r.m l = none) {v : V} (hv : r.f v (rowD (st i).row)) {f' : V → PyData → Prop} (fs : ∀ v d, r.f v d → f' v d) :
    Mir n (updN A (3 * i + 2) l) lk ks (updS st i { st i with held := xs }) ⟨upd (upd r.m l (.lst (xs.map .int))) (A (3 * i)) (.lst (kl (st i) v (A (3 * i + 1)) l)), f'⟩ := by
  have ne : ∀ x, x < 3 * n → x ≠ 3 * i → A x ≠ A (3 * i) := fun x hx hne z => hne (h.inj x _ hx (by omega) z)
  have nl : ∀ x, x < 3 * n → A x ≠ l := fun x hx z => h.some_ hx (by rw [z]; exact hl)
  have nlk : lk ≠ l := fun z => by have := h.kp; rw [z, hl] at this; cases this
  have old : ∀ x, x < 3 * n → x ≠ 3 * i → upd (upd r.m l (.lst (xs.map .int))) (A (3 * i)) (.lst (kl (st i) v (A (3 * i + 1)) l)) (A x) = r.m (A x) := fun x hx hne => by rw [upd_ne (ne x hx hne), upd_ne (nl x hx)]
  refine ⟨fun j hj => ?_, fun j hj => ?_, fun j hj => ?_, fun x y hx hy e => ?_, by show upd _ _ _ _ = _; rw [upd_ne (h.nk _ (by omega)).symm, upd_ne nlk]; exact h.kp, fun x hx => ?_, fun v hv => by
    obtain ⟨es, h1, h2⟩ := h.kf v hv
    exact ⟨es, h1, fs _ _ h2⟩⟩
  · rw [updN_ne (show 3 * j ≠ 3 * i + 2 by omega), updN_ne (show 3 * j + 1 ≠ 3 * i + 2 by omega)]
    by_cases c : j = i
    · rw [c, updN_same, updS_same]; exact ⟨v, upd_same, fs _ _ hv⟩
    · rw [updN_ne (show 3 * j + 2 ≠ 3 * i + 2 by omega), updS_ne c]
      obtain ⟨w, w1, w2⟩ := h.at_ j hj
      exact ⟨w, (old _ (by omega) (by omega)).trans w1, fs _ _ w2⟩
  · rw [updN_ne (show 3 * j + 1 ≠ 3 * i + 2 by omega)]
    refine (old _ (by omega) (by omega)).trans ((h.al j hj).trans ?_)
    by_cases c : j = i
    · rw [c, updS_same]
    · rw [updS_ne c]
  · by_cases c : j = i
    · rw [c, updN_same, updS_same]
      show upd _ _ _ _ = _
      rw [upd_ne (nl _ (by omega)).symm, upd_same]
    · rw [updN_ne (show 3 * j + 2 ≠ 3 * i + 2 by omega), updS_ne c]
      exact (old _ (by omega) (by omega)).trans (h.hl j hj)
  · by_cases c : x = 3 * i + 2
    · by_cases d : y = 3 * i + 2
      · rw [c, d]
      · rw [c, updN_same, updN_ne d] at e
        exact absurd e.symm (nl y hy)
    · by_cases d : y = 3 * i + 2
      · rw [d, updN_same, updN_ne c] at e
        exact absurd e (nl x hx)
      · rw [updN_ne c, updN_ne d] at e
        exact h.inj x y hx hy e
  · by_cases c : x = 3 * i + 2
    · rw [c, updN_same]; exact nlk.symm
    · rw [updN_ne c]; exact h.nk x hx
end
section
variable {K : PySem.W.Frag} {e : SE} {r : MF} {ta tb te : TE} {d : PyData} {P : Post MF} {E : XK} {l : Addr} {es : List Ent}
/-- x[j] = e, e with a change of the state -/
theorem sp_setMS {j : Int} {Pe : PyData → MF → Prop} (h : EvS K (Rmf K) te e r Pe) (ho : ∀ r1, EvD K (Rmf K) ta e r1 (objD l)) (hj : ∀ r1, EvD K (Rmf K) tb e r1 (.int j))
    (k : ∀ d r1, Pe d r1 → ∃ xs n, r1.m l = some (.lst xs) ∧ ixN xs.length j = some n ∧ ∀ v, (∃ G, Rp K G v d) → P.nx e ⟨upd r1.m l (.lst (xs.set n v)), addF r1.f v d⟩) : SP K (Rmf K) E (tAsg te (gSub ta tb rSetL)) e r P := fun G0 M0 H0 σ G M H D s ve w q =>
  h H0 σ G M H ve w _ fun v d r1 G1 M1 H1 hp s1 w1 hv => by
    obtain ⟨xs, n, hm, hn, kk⟩ := k d r1 hp
    refine ho r1 H0 σ G1 M1 H1 (ve.step s1) w1 _ fun x d2 r2 G2 M2 H2 ⟨e1, e2⟩ s2 w2 hx => ?_
    subst e1 e2
    refine hj _ H0 σ G2 M2 H2 ((ve.step s1).step s2) w2 _ fun y d3 r3 G3 M3 H3 ⟨e1, e2⟩ s3 w3 hy => ?_
    subst e1 e2
    have hM : M3 = _ := w3.res.1
    refine ⟨l, xs, j, n, hx.obj_inv, hy.int_inv, w3.at hm, hn, ?_⟩
    have hv3 : Rp K G3 v d := hv.mono (s2.gg.trans s3.gg)
    have s6 := ((s1.trans s2).trans s3).trans (Stp.mutM (G := G3) (M := M3) (H := H3) (a := l) ⟨_, by rw [hM]; exact hm⟩ w3.mh (.lst (xs.set n v)))
    exact q.nx e _ σ G3 _ _ (kk v ⟨_, hv3⟩) (s.trans s6) (ve.step s6) (w3.mutM hm _ fun x y hf => by
      rcases hf with hf | ⟨e1, e2⟩
      · exact w3.res.2 x y hf
      · rw [e1, e2]; exact hv3)
/-- for x in a list in M, that stays -/
theorem sp_forM {i : Nat} {tu : TS} {xs : List V} (ho : EvD K (Rmf K) ta e r (objD l)) (hm : r.m l = some (.lst xs)) (dd : V → PyData → Prop) (hx : ∀ v, v ∈ xs → ∃ d, dd v d ∧ VF K r v d) (I : SE → Prop) (h0 : I e)
    (hs : ∀ v d e', v ∈ xs → dd v d → I e' → SP K (Rmf K) E tu (e'.set i (.dat d)) r ⟨fun e r' => r' = r ∧ I e, P.rt, P.nx, fun e r' => r' = r ∧ I e, P.ex, P.fr⟩) (hd : ∀ e', I e' → P.nx e' r) : SP K (Rmf K) E (tFor (iList K ta) (gName i) tu) e r P := fun G0 M0 H0 σ G M H D s v w q =>
  ho H0 σ G M H v w _ fun x d r' G' M' H' ⟨e1, e2⟩ s' w' hxx => by
    subst e1 e2
    have s0 := s.trans s'
    refine ⟨l, hxx.obj_inv, ⟨xs, SqL.of (w'.at hm)⟩, for_list (K := K) (a := l) (xs := xs) (fun k σ1 H1 => ∃ e1 G1 M1, I e1 ∧ Stp G' M0 H0 G1 M1 H1 ∧ EnvO K H0 G1 M1 H1 σ1 e1 ∧ Wf (Rmf K) G1 M1 H1 _)
      ⟨e, G', M', h0, s0.rebase, v.step s', w'⟩ (fun k σ1 H1 _ ⟨e1, G1, M1, _, s1, _, w1⟩ => SqL.of (w1.at hm)) ?_ ?_⟩
    · rintro k y σ1 H1 hy ⟨e1, G1, M1, p, s1, v1, w1⟩
      have hmem := List.mem_of_getElem? hy
      obtain ⟨d, hd1, hd2⟩ := hx y hmem
      exact hs y d e1 hmem hd1 p G' M0 H0 _ G1 M1 H1 _ s1 (v1.setD (hd2 G1 M1 w1.res)) w1
        ⟨fun e2 r2 σ2 G2 M2 H2 ⟨p1, p2⟩ s2 v2 w2 => ⟨e2, G2, M2, p2, s2, v2, by rw [← p1]; exact w2⟩, fun d r x G M H n t => q.rt d r x G M H n (s0.unbase t), fun e r σ G M H n t => q.nx e r σ G M H n (s0.unbase t), fun e2 r2 σ2 G2 M2 H2 ⟨p1, p2⟩ s2 v2 w2 => ⟨e2, G2, M2, p2, s2, v2, by rw [← p1]; exact w2⟩, fun c r G M H n t => q.ex c r G M H n (s0.unbase t), fun ds r l ws G M H n t => q.fr ds r l ws G M H n (s0.unbase t)⟩
    · rintro σ1 H1 ⟨e1, G1, M1, p, s1, v1, w1⟩
      exact q.nx e1 _ σ1 G1 M1 H1 (hd e1 p) (s0.unbase s1) v1 w1
/-- [t, row, b, 0, [], []], in M -/
theorem evs_six {t : Int} {b : Bool} (h : EvD K (Rmf K) ta e r (rowD es)) : EvS K (Rmf K) (tLst (tCons (tC (.int t)) (tCons ta (tCons (tC (.bl b)) (tCons (tC (.int 0)) (tCons (tLst tNil) (tCons (tLst tNil) tNil))))))) e r
    (fun d r' => ∃ p x y v, d = objD p ∧ r.m p = none ∧ r.m x = none ∧ r.m y = none ∧ p ≠ x ∧ p ≠ y ∧ x ≠ y ∧ r' = ⟨upd (upd (upd r.m x (.lst [])) y (.lst [])) p (.lst [.int t, v, .bl b, .int 0, .ref x, .ref y]), addF r.f v (rowD es)⟩) := fun B σ G M H v w Q q =>
  h B σ G M H v w _ fun u d r1 G1 M1 H1 ⟨e1, e2⟩ s1 w1 hu => by
    subst e1 e2
    refine ⟨by show 0 ≤ sizeLine; decide, fun x hx => ⟨by show 0 ≤ sizeLine; decide, fun y hy => ⟨by show 6 ≤ sizeLine; decide, fun p hp => ?_⟩⟩⟩
    have hM : M1 = _ := w1.res.1
    have n1 := fun {b : Addr} (hb : H1 b = none) => w1.mn hb
    have xy : y ≠ x := fun z => by rw [z, upd_same] at hy; cases hy
    have py : p ≠ y := fun z => by rw [z, upd_same] at hp; cases hp
    rw [upd_ne xy] at hy
    have px : p ≠ x := fun z => by rw [z, upd_ne xy.symm, upd_same] at hp; cases hp
    rw [upd_ne py, upd_ne px] at hp
    have w2 := w1.newM hx (.lst [])
    have w3 := w2.newM (a := y) (by rw [upd_ne xy]; exact hy) (.lst [])
    have w4 := w3.newM (a := p) (by rw [upd_ne py, upd_ne px]; exact hp) (.lst [.int t, u, .bl b, .int 0, .ref x, .ref y])
    have s4 := ((s1.trans (Stp.newM (G := G1) (M := M1) hx (.lst []))).trans (Stp.newM (G := G1) (a := y) (by rw [upd_ne xy]; exact hy) (.lst []))).trans (Stp.newM (G := G1) (a := p) (by rw [upd_ne py, upd_ne px]; exact hp) (.lst [.int t, u, .bl b, .int 0, .ref x, .ref y]))
    refine q (.ref p) (objD p) ⟨_, addF _ u (rowD es)⟩ G1 _ _ ⟨p, x, y, u, rfl, by rw [← hM]; exact n1 hp, by rw [← hM]; exact n1 hx, by rw [← hM]; exact n1 hy, px, py, xy.symm, rfl⟩ s4 ⟨w4.gh, w4.mh, w4.dj, w4.res.1, fun a c hf => ?_⟩ .obj
    rcases hf with hf | ⟨e1, e2⟩
    · exact w4.res.2 a c hf
    · rw [e1, e2]; exact hu
end
/-- the same resource seen otherwise -/
theorem Lift.iso {ρ ρ' : Type} {R : ρ → Hp → Hp → Prop} {R' : ρ' → Hp → Hp → Prop} {g : ρ'} (φ : ρ' → ρ) (ψ : ρ → ρ') (e : ψ (φ g) = g) (h1 : ∀ G M, R' g G M → R (φ g) G M) (h2 : ∀ x G M, R x G M → R' (ψ x) G M) : Lift R R' g (φ g) ψ :=
  ⟨e, fun G M H w => ⟨M, fun _ h => h, ⟨w.gh, w.mh, w.dj, h1 G M w.res⟩, fun G' M' H' r' s w' => ⟨M', s, ⟨w'.gh, w'.mh, w'.dj, h2 _ _ _ w'.res⟩, fun _ _ h => h⟩⟩⟩
theorem un_assoc_swap {A B C : Hp} (hAB : ∀ b, A b ≠ none → B b = none) (b : Addr) : un A (un B C) b = un B (un A C) b := by
  cases z : A b with
  | none =>
    rw [un_none z]
    cases y : B b with
    | none => rw [un_none y, un_none y, un_none z]
    | some o => rw [un_some y, un_some y]
  | some o =>
    have := hAB b (by rw [z]; exact fun q => nomatch q)
    rw [un_some z, un_none this, un_some z]
theorem Rs.rot {ρ1 ρ2 ρ3 : Type} {R1 : ρ1 → Hp → Hp → Prop} {R2 : ρ2 → Hp → Hp → Prop} {R3 : ρ3 → Hp → Hp → Prop} {x : ρ1} {y : ρ2} {z : ρ3} {G M : Hp} (h : Rs R1 (Rs R2 R3) (x, (y, z)) G M) : Rs R2 (Rs R1 R3) (y, (x, z)) G M := by
  obtain ⟨M1, M2, h1, h2, h3, N1, N2, k1, k2, k3, k4⟩ := h
  have a1 : ∀ b, M1 b ≠ none → N1 b = none := fun b hb => by
    cases q : N1 b with
    | none => rfl
    | some o => have := h2 b hb; rw [k1, un_some q] at this; cases this
  have a2 : ∀ b, M1 b ≠ none → N2 b = none := fun b hb => by
    cases q : N2 b with
    | none => rfl
    | some o => have := h2 b hb; rw [k1, un_none (a1 b hb), q] at this; cases this
  refine ⟨N1, un M1 N2, fun b => ?_, fun b hb => ?_, k3, M1, N2, fun _ => rfl, a2, h3, k4⟩
  · have e : un M1 M2 b = un M1 (un N1 N2) b := by
      cases q : M1 b with
      | none => rw [un_none q, un_none q, k1]
      | some o => rw [un_some q, un_some q]
    rw [h1, e, un_assoc_swap a1]
  · have c1 : M1 b = none := by
      cases q : M1 b with
      | none => rfl
      | some o => exact absurd (a1 b (by rw [q]; exact fun z => nomatch z)) hb
    rw [un_none c1]; exact k2 b hb
theorem Lift.rot {ρ1 ρ2 ρ3 : Type} {R1 : ρ1 → Hp → Hp → Prop} {R2 : ρ2 → Hp → Hp → Prop} {R3 : ρ3 → Hp → Hp → Prop} {x : ρ1} {y : ρ2} {z : ρ3} : Lift (Rs R2 (Rs R1 R3)) (Rs R1 (Rs R2 R3)) (x, (y, z)) (y, (x, z)) (fun r => (r.2.1, (r.1, r.2.2))) :=
  Lift.iso (R := Rs R2 (Rs R1 R3)) (R' := Rs R1 (Rs R2 R3)) (g := (x, (y, z))) (fun r => (r.2.1, (r.1, r.2.2))) (fun r => (r.2.1, (r.1, r.2.2))) rfl (fun G M h => h.rot) fun ⟨a, b, c⟩ G M h => Rs.rot h
end Fw

namespace Fw
open PySem L2
section
variable {K : PySem.W.Frag} {n : Nat} {A : Nat → Addr} {lk : Addr} {ks : List V} {st : Nat → KS} {r : MF} {i : Nat} {e : SE} {ta tb te : TE} {P : Post MF} {E : XK}
theorem Mir.rAll (h : Mir n A lk ks st r) (ha : EvD K (Rmf K) ta e r (allD A n)) {k : Int} (hb : EvD K (Rmf K) tb e r (.int k)) (h0 : 0 ≤ k) (h1 : k < n) : EvD K (Rmf K) (tOp (rIxL K) ta tb) e r (objD (A (3 * k.toNat))) :=
  ev_op ha hb (opIxL (rgm_at (fun i => objD (A (3 * i))) h0 h1))
theorem Mir.rT (h : Mir n A lk ks st r) (hi : i < n) (ha : EvD K (Rmf K) ta e r (objD (A (3 * i)))) : EvD K (Rmf K) (tOp (rIxL K) ta (tC (.int 0))) e r (.int (st i).term) := by
  obtain ⟨v, h1, _⟩ := h.at_ i hi
  exact ev_ixM ha ev_int h1 rfl .int
theorem Mir.rR (h : Mir n A lk ks st r) (hi : i < n) (ha : EvD K (Rmf K) ta e r (objD (A (3 * i)))) : EvD K (Rmf K) (tOp (rIxL K) ta (tC (.int 1))) e r (rowD (st i).row) := by
  obtain ⟨v, h1, h2⟩ := h.at_ i hi
  exact ev_ixM ha ev_int h1 rfl (.fact h2)
theorem Mir.rL (h : Mir n A lk ks st r) (hi : i < n) (ha : EvD K (Rmf K) ta e r (objD (A (3 * i)))) : EvD K (Rmf K) (tOp (rIxL K) ta (tC (.int 2))) e r (.bool (st i).leads) := by
  obtain ⟨v, h1, h2⟩ := h.at_ i hi
  exact ev_ixM ha ev_int h1 rfl .bl
theorem Mir.rS (h : Mir n A lk ks st r) (hi : i < n) (ha : EvD K (Rmf K) ta e r (objD (A (3 * i)))) : EvD K (Rmf K) (tOp (rIxL K) ta (tC (.int 3))) e r (.int (st i).settled) := by
  obtain ⟨v, h1, h2⟩ := h.at_ i hi
  exact ev_ixM ha ev_int h1 rfl .int
theorem Mir.rA (h : Mir n A lk ks st r) (hi : i < n) (ha : EvD K (Rmf K) ta e r (objD (A (3 * i)))) : EvD K (Rmf K) (tOp (rIxL K) ta (tC (.int 4))) e r (objD (A (3 * i + 1))) := by
  obtain ⟨v, h1, h2⟩ := h.at_ i hi
  exact ev_ixM ha ev_int h1 rfl .obj
theorem Mir.rH (h : Mir n A lk ks st r) (hi : i < n) (ha : EvD K (Rmf K) ta e r (objD (A (3 * i)))) : EvD K (Rmf K) (tOp (rIxL K) ta (tC (.int 5))) e r (objD (A (3 * i + 2))) := by
  obtain ⟨v, h1, h2⟩ := h.at_ i hi
  exact ev_ixM ha ev_int h1 rfl .obj
theorem atI_ints {xs : List Int} {n : Nat} {o : Int} (h0 : 0 ≤ o) (h1 : o < n) (hl : xs.length = n) : L2.atI (xs.map V.int) o = some (.int (xs.getD o.toNat 0)) := by
  have e : o = (o.toNat : Int) := by omega
  have h2 : o.toNat < xs.length := by omega
  have := atI_nat (xs := xs.map V.int) (j := o.toNat) (v := .int (xs.getD o.toNat 0)) (by rw [List.getElem?_map, List.getElem?_eq_getElem h2, List.getD_eq_getElem?_getD, List.getElem?_eq_getElem h2]; rfl)
  rw [← e] at this
  exact this
theorem Mir.rAx (h : Mir n A lk ks st r) (hi : i < n) (ha : EvD K (Rmf K) ta e r (objD (A (3 * i)))) {o : Int} (hb : EvD K (Rmf K) tb e r (.int o)) (h0 : 0 ≤ o) (h1 : o < n) (hl : (st i).ahead.length = n) : EvD K (Rmf K) (tOp (rIxL K) (tOp (rIxL K) ta (tC (.int 4))) tb) e r (.int ((st i).aheadAt o.toNat)) :=
  ev_ixM (h.rA hi ha) hb (h.al i hi) (atI_ints h0 h1 hl) .int
theorem Mir.rHx (h : Mir n A lk ks st r) (hi : i < n) (ha : EvD K (Rmf K) ta e r (objD (A (3 * i)))) {o : Int} (hb : EvD K (Rmf K) tb e r (.int o)) (h0 : 0 ≤ o) (h1 : o < n) (hl : (st i).held.length = n) : EvD K (Rmf K) (tOp (rIxL K) (tOp (rIxL K) ta (tC (.int 5))) tb) e r (.int ((st i).held.getD o.toNat 0)) :=
  ev_ixM (h.rH hi ha) hb (h.hl i hi) (atI_ints h0 h1 hl) .int
theorem Mir.setT (h : Mir n A lk ks st r) (hi : i < n) {t : Int} (hv : EvD K (Rmf K) te e r (.int t)) (ha : EvD K (Rmf K) ta e r (objD (A (3 * i)))) (k : ∀ r', Mir n A lk ks (updS st i { st i with term := t }) r' → P.nx e r') : SP K (Rmf K) E (tAsg te (gSub ta (tC (.int 0)) rSetL)) e r P := by
  obtain ⟨v, h1, h2⟩ := h.at_ i hi
  refine sp_setM (n := 0) Lift.id hv ha ev_int h1 rfl fun u ⟨G, hu⟩ => k _ ?_
  rw [hu.int_inv]
  exact h.put hi (k' := { st i with term := t }) rfl rfl (.inl h2) fun _ _ z => .inl z
theorem Mir.setL (h : Mir n A lk ks st r) (hi : i < n) {t : Bool} (hv : EvD K (Rmf K) te e r (.bool t)) (ha : EvD K (Rmf K) ta e r (objD (A (3 * i)))) (k : ∀ r', Mir n A lk ks (updS st i { st i with leads := t }) r' → P.nx e r') : SP K (Rmf K) E (tAsg te (gSub ta (tC (.int 2)) rSetL)) e r P := by
  obtain ⟨v, h1, h2⟩ := h.at_ i hi
  refine sp_setM (n := 2) Lift.id hv ha ev_int h1 rfl fun u ⟨G, hu⟩ => k _ ?_
  rw [hu.bl_inv]
  exact h.put hi (k' := { st i with leads := t }) rfl rfl (.inl h2) fun _ _ z => .inl z
theorem Mir.setS (h : Mir n A lk ks st r) (hi : i < n) {t : Int} (hv : EvD K (Rmf K) te e r (.int t)) (ha : EvD K (Rmf K) ta e r (objD (A (3 * i)))) (k : ∀ r', Mir n A lk ks (updS st i { st i with settled := t }) r' → P.nx e r') : SP K (Rmf K) E (tAsg te (gSub ta (tC (.int 3)) rSetL)) e r P := by
  obtain ⟨v, h1, h2⟩ := h.at_ i hi
  refine sp_setM (n := 3) Lift.id hv ha ev_int h1 rfl fun u ⟨G, hu⟩ => k _ ?_
  rw [hu.int_inv]
  exact h.put hi (k' := { st i with settled := t }) rfl rfl (.inl h2) fun _ _ z => .inl z
theorem Mir.setR (h : Mir n A lk ks st r) (hi : i < n) {es : List Ent} (hv : EvD K (Rmf K) te e r (rowD es)) (ha : EvD K (Rmf K) ta e r (objD (A (3 * i)))) (k : ∀ r', Mir n A lk ks (updS st i { st i with row := es }) r' → P.nx e r') : SP K (Rmf K) E (tAsg te (gSub ta (tC (.int 1)) rSetL)) e r P := by
  obtain ⟨v, h1, h2⟩ := h.at_ i hi
  refine sp_setM (n := 1) Lift.id hv ha ev_int h1 rfl fun u ⟨G, hu⟩ => k _ ?_
  exact h.put hi (k' := { st i with row := es }) rfl rfl (.inr ⟨rfl, rfl⟩) fun _ _ z => .inl z
theorem Mir.setAx (h : Mir n A lk ks st r) (hi : i < n) {o x : Int} (hv : EvD K (Rmf K) te e r (.int x)) (ha : EvD K (Rmf K) ta e r (objD (A (3 * i)))) (hb : EvD K (Rmf K) tb e r (.int o)) (h0 : 0 ≤ o) (h1 : o < n) (hl : (st i).ahead.length = n) (k : ∀ r', Mir n A lk ks (updS st i { st i with ahead := (st i).ahead.set o.toNat x }) r' → P.nx e r') :
    SP K (Rmf K) E (tAsg te (gSub (tOp (rIxL K) ta (tC (.int 4))) tb rSetL)) e r P := by
  refine sp_setM (n := o.toNat) Lift.id hv (h.rA hi ha) hb (h.al i hi) (by unfold ixN; rw [List.length_map, hl, if_pos h0, if_pos h1]) fun u ⟨G, hu⟩ => k _ ?_
  rw [hu.int_inv, map_set_int]
  exact h.putA hi _ fun _ _ z => .inl z
theorem Mir.setHx (h : Mir n A lk ks st r) (hi : i < n) {o x : Int} (hv : EvD K (Rmf K) te e r (.int x)) (ha : EvD K (Rmf K) ta e r (objD (A (3 * i)))) (hb : EvD K (Rmf K) tb e r (.int o)) (h0 : 0 ≤ o) (h1 : o < n) (hl : (st i).held.length = n) (k : ∀ r', Mir n A lk ks (updS st i { st i with held := (st i).held.set o.toNat x }) r' → P.nx e r') :
    SP K (Rmf K) E (tAsg te (gSub (tOp (rIxL K) ta (tC (.int 5))) tb rSetL)) e r P := by
  refine sp_setM (n := o.toNat) Lift.id hv (h.rH hi ha) hb (h.hl i hi) (by unfold ixN; rw [List.length_map, hl, if_pos h0, if_pos h1]) fun u ⟨G, hu⟩ => k _ ?_
  rw [hu.int_inv, map_set_int]
  exact h.putH hi _ fun _ _ z => .inl z
theorem Mir.setA (h : Mir n A lk ks st r) (hi : i < n) {xs : List Int} (hF : EvF K (Rmf K) te e r (xs.map .int)) (ha : ∀ r1, EvD K (Rmf K) ta e r1 (objD (A (3 * i)))) (k : ∀ A' r', (∀ j, A' (3 * j) = A (3 * j)) → Mir n A' lk ks (updS st i { st i with ahead := xs }) r' → P.nx e r') : SP K (Rmf K) E (tAsg te (gSub ta (tC (.int 4)) rSetL)) e r P := by
  obtain ⟨v, h1, h2⟩ := h.at_ i hi
  refine sp_setMS (EvF.toM hF) ha (fun _ => ev_int) ?_
  rintro d r1 ⟨l, vs, rfl, hl, hlen, ⟨G, hG⟩, rfl⟩
  have hne : A (3 * i) ≠ l := fun z => by rw [z, hl] at h1; cases h1
  refine ⟨_, 4, by show upd _ _ _ _ = _; rw [upd_ne hne]; exact h1, rfl, fun u ⟨G', hu⟩ => k (updN A (3 * i + 1) l) _ (fun j => updN_ne (by omega)) ?_⟩
  rw [hu.obj_inv, hG.ints]
  exact h.newA hi xs hl h2 fun _ _ z => .inl (.inl z)
theorem Mir.setH (h : Mir n A lk ks st r) (hi : i < n) {xs : List Int} (hF : EvF K (Rmf K) te e r (xs.map .int)) (ha : ∀ r1, EvD K (Rmf K) ta e r1 (objD (A (3 * i)))) (k : ∀ A' r', (∀ j, A' (3 * j) = A (3 * j)) → Mir n A' lk ks (updS st i { st i with held := xs }) r' → P.nx e r') : SP K (Rmf K) E (tAsg te (gSub ta (tC (.int 5)) rSetL)) e r P := by
  obtain ⟨v, h1, h2⟩ := h.at_ i hi
  refine sp_setMS (EvF.toM hF) ha (fun _ => ev_int) ?_
  rintro d r1 ⟨l, vs, rfl, hl, hlen, ⟨G, hG⟩, rfl⟩
  have hne : A (3 * i) ≠ l := fun z => by rw [z, hl] at h1; cases h1
  refine ⟨_, 5, by show upd _ _ _ _ = _; rw [upd_ne hne]; exact h1, rfl, fun u ⟨G', hu⟩ => k (updN A (3 * i + 2) l) _ (fun j => updN_ne (by omega)) ?_⟩
  rw [hu.obj_inv, hG.ints]
  exact h.newH hi xs hl h2 fun _ _ z => .inl (.inl z)
theorem allD_congr {A A' : Nat → Addr} {n : Nat} (h : ∀ j, A' (3 * j) = A (3 * j)) : allD A' n = allD A n := by
  unfold allD
  congr 1
  exact List.map_congr_left fun i _ => by rw [h]
theorem ev_lenAll (ha : EvD K (Rmf K) ta e r (allD A n)) : EvD K (Rmf K) (tCB (rLenS K) (tCons ta tNil)) e r (.int (n : Int)) := (ev_cb (ea_cons ha ea_nil) cbLen).is (by rw [List.length_map, List.length_range])
end
/-- agrees, as k12 says it -/
theorem agrees_alt {es : List Ent} {a t : Int} (h0 : 0 ≤ a) (ht : a = 0 → t = 0) : agreesB es a t = !(decide ((es.length : Int) < a) || !decide (t = lastT (es.take a.toNat))) := by
  by_cases z : a = 0
  · rw [z, ht z]
    have e1 : agreesB es 0 0 = true := by unfold agreesB; rw [if_pos rfl]
    rw [e1, decide_eq_false (by omega)]
    rfl
  · by_cases c : (es.length : Int) < a
    · rw [agreesB_out (by omega) c, decide_eq_true c]; rfl
    · obtain ⟨x, hx, ex⟩ := lastT_take (R := es) (a := a.toNat) (by omega) (by omega)
      rw [agreesB_at (by omega) (show es[(a - 1).toNat]? = some x by rw [show (a - 1).toNat = a.toNat - 1 by omega]; exact hx), decide_eq_false c, ex, Bool.false_or, Bool.not_not]
      exact decide_eq_decide.mpr ⟨fun z => z.symm, fun z => z.symm⟩
/-- settling, one number after the other -/
def setUp (es : List Ent) (t : Int) (hs : List Int) (s0 : Int) (N : Nat) : Int := if s0 < settledUp es t hs N then settledUp es t hs N else s0
theorem setUp_start (es : List Ent) (t : Int) (hs : List Int) {s0 : Int} {N : Nat} (h : (N : Int) ≤ s0) : setUp es t hs s0 N = s0 := by
  have := settledUp_rng es t hs N
  unfold setUp
  rw [if_neg (by omega)]
theorem setUp_next (es : List Ent) (t : Int) (hs : List Int) {s0 : Int} {N : Nat} (h : s0 ≤ N) : setUp es t hs s0 (N + 1) = if (hs.length : Int) < 2 * (cnt hs ((N : Int) + 1) : Int) ∧ (es[N]?.map (·.1)) = some t then (N : Int) + 1 else setUp es t hs s0 N := by
  unfold setUp
  show (if s0 < (if _ then (N : Int) + 1 else settledUp es t hs N) then (if _ then (N : Int) + 1 else settledUp es t hs N) else s0) = _
  by_cases c : (hs.length : Int) < 2 * (cnt hs ((N : Int) + 1) : Int) ∧ (es[N]?.map (·.1)) = some t
  · rw [if_pos c, if_pos (by omega), if_pos c]
  · rw [if_neg c, if_neg c]
/-- how many others hold so much, and oneself -/
theorem cnt_self {hs : List Int} {n k : Nat} {len x : Int} (hl : hs.length = n) (hk : k < n) (hx : x ≤ len) : cnt (hs.set k len) x = cntB n fun o => decide (o = k) || decide (x ≤ hs.getD o 0) := by
  rw [cnt_B, List.length_set, hl]
  congr 1
  funext o
  rw [setD hl hk]
  by_cases c : o = k
  · rw [if_pos c, decide_eq_true hx, decide_eq_true c]; rfl
  · rw [if_neg c, decide_eq_false c]; rfl
/-- counted from 1, without oneself -/
def cntX (k : Nat) (f : Nat → Bool) (m : Nat) : Nat := cntB m fun o => !decide (o = k) && f o
theorem cntX_full {n k : Nat} (f : Nat → Bool) (hk : k < n) : cntB n (fun o => decide (o = k) || f o) = 1 + cntX k f n := by
  have key : ∀ m, cntB m (fun o => decide (o = k) || f o) = (if k < m then 1 else 0) + cntX k f m := fun m => by
    unfold cntX
    induction m with
    | zero => rfl
    | succ m ih =>
      rw [cntB_succ, cntB_succ, ih]
      by_cases c : m = k
      · rw [c, if_neg (Nat.lt_irrefl k), if_pos (Nat.lt_succ_self k), decide_eq_true rfl]
        simp
        omega
      · have e1 : (if k < m + 1 then 1 else 0 : Nat) = if k < m then 1 else 0 := by split <;> split <;> omega
        rw [e1, decide_eq_false c]
        simp only [Bool.false_or, Bool.not_false, Bool.true_and]
        omega
  rw [key, if_pos hk]
end Fw

namespace Fw
open PySem L2
theorem asNew_ge (a b : List Ent) : asNew a b = !decide (lastT a < lastT b ∨ (lastT a = lastT b ∧ (a.length : Int) < b.length)) := by
  cases h : asNew a b with
  | true =>
    have := (asNew_iff a b).mp h
    rw [decide_eq_false (by omega)]; rfl
  | false =>
    have : ¬ (lastT b < lastT a ∨ (lastT b = lastT a ∧ b.length ≤ a.length)) := fun z => by rw [(asNew_iff a b).mpr z] at h; cases h
    rw [decide_eq_true (by omega)]; rfl
theorem Mir.eq {n : Nat} {A : Nat → Addr} {lk : Addr} {ks : List V} {st st' : Nat → KS} {r : MF} (h : Mir n A lk ks st r) (e : ∀ j, st j = st' j) : Mir n A lk ks st' r := by
  have : st = st' := funext e
  rw [← this]; exact h
theorem Mir.keep {n : Nat} {A : Nat → Addr} {lk : Addr} {ks : List V} {st : Nat → KS} {r : MF} (h : Mir n A lk ks st r) {ks' : List V} {f' : V → PyData → Prop} (hk : ∀ v, v ∈ ks' → ∃ es, rowOk es ∧ f' v (pairD es)) (hf : ∀ v d, r.f v d → f' v d) : Mir n A lk ks' st ⟨upd r.m lk (.lst ks'), f'⟩ :=
  ⟨fun i hi => by
    obtain ⟨v, h1, h2⟩ := h.at_ i hi
    exact ⟨v, by show upd _ _ _ _ = _; rw [upd_ne (h.nk _ (by omega))]; exact h1, hf _ _ h2⟩, fun i hi => by show upd _ _ _ _ = _; rw [upd_ne (h.nk _ (by omega))]; exact h.al i hi, fun i hi => by show upd _ _ _ _ = _; rw [upd_ne (h.nk _ (by omega))]; exact h.hl i hi, h.inj, upd_same, h.nk, hk⟩
/-- lists being made -/
structure Mi0 (n : Nat) (A : Nat → Addr) (st : Nat → KS) (r : MF) : Prop where
  at_ : ∀ i, i < n → ∃ v, r.m (A (3 * i)) = some (.lst (kl (st i) v (A (3 * i + 1)) (A (3 * i + 2)))) ∧ r.f v (rowD (st i).row)
  al : ∀ i, i < n → r.m (A (3 * i + 1)) = some (.lst ((st i).ahead.map .int))
  hl : ∀ i, i < n → r.m (A (3 * i + 2)) = some (.lst ((st i).held.map .int))
  inj : ∀ x y, x < 3 * n → y < 3 * n → A x = A y → x = y
section
variable {n : Nat} {A : Nat → Addr} {st : Nat → KS} {r : MF}
theorem Mi0.zero : Mi0 0 A st r := ⟨fun i h => absurd h (Nat.not_lt_zero i), fun i h => absurd h (Nat.not_lt_zero i), fun i h => absurd h (Nat.not_lt_zero i), fun x y h => absurd h (Nat.not_lt_zero x)⟩
theorem Mi0.some_ (h : Mi0 n A st r) {x : Nat} (hx : x < 3 * n) : r.m (A x) ≠ none := by
  have : x = 3 * (x / 3) ∨ x = 3 * (x / 3) + 1 ∨ x = 3 * (x / 3) + 2 := by omega
  have hi : x / 3 < n := by omega
  rcases this with e | e | e
  · obtain ⟨v, h1, _⟩ := h.at_ _ hi
    rw [e, h1]; exact fun z => nomatch z
  · rw [e, h.al _ hi]; exact fun z => nomatch z
  · rw [e, h.hl _ hi]; exact fun z => nomatch z
theorem Mi0.mir (h : Mi0 n A st r) {lk : Addr} {ks : List V} (hk : r.m lk = some (.lst ks)) (nk : ∀ x, x < 3 * n → A x ≠ lk) (kf : ∀ v, v ∈ ks → ∃ es, rowOk es ∧ r.f v (pairD es)) : Mir n A lk ks st r := ⟨h.at_, h.al, h.hl, h.inj, hk, nk, kf⟩
theorem Mi0.mono (h : Mi0 n A st r) {r' : MF} (hm : ∀ b o, r.m b = some o → r'.m b = some o) (hf : ∀ v d, r.f v d → r'.f v d) : Mi0 n A st r' :=
  ⟨fun i hi => by
    obtain ⟨v, h1, h2⟩ := h.at_ i hi
    exact ⟨v, hm _ _ h1, hf _ _ h2⟩, fun i hi => hm _ _ (h.al i hi), fun i hi => hm _ _ (h.hl i hi), h.inj⟩
def addA (A : Nat → Addr) (n : Nat) (p x y : Addr) : Nat → Addr := updN (updN (updN A (3 * n) p) (3 * n + 1) x) (3 * n + 2) y
theorem addA_old {p x y : Addr} {z : Nat} (h : z < 3 * n) : addA A n p x y z = A z := by unfold addA; rw [updN_ne (by omega), updN_ne (by omega), updN_ne (by omega)]
theorem addA_0 {p x y : Addr} : addA A n p x y (3 * n) = p := by unfold addA; rw [updN_ne (by omega), updN_ne (by omega), updN_same]
theorem addA_1 {p x y : Addr} : addA A n p x y (3 * n + 1) = x := by unfold addA; rw [updN_ne (by omega), updN_same]
theorem addA_2 {p x y : Addr} : addA A n p x y (3 * n + 2) = y := by unfold addA; rw [updN_same]
theorem Mi0.next (h : Mi0 n A st r) {t : Int} {b : Bool} {es : List Ent} (hs : st n = { term := t, row := es, leads := b }) {p x y : Addr} {v : V} (hp : r.m p = none) (hx : r.m x = none) (hy : r.m y = none) (px : p ≠ x) (py : p ≠ y) (xy : x ≠ y) :
    Mi0 (n + 1) (addA A n p x y) st ⟨upd (upd (upd r.m x (.lst [])) y (.lst [])) p (.lst [.int t, v, .bl b, .int 0, .ref x, .ref y]), addF r.f v (rowD es)⟩ := by
  have np : ∀ z, z < 3 * n → A z ≠ p ∧ A z ≠ x ∧ A z ≠ y := fun z hz => ⟨fun q => h.some_ hz (by rw [q]; exact hp), fun q => h.some_ hz (by rw [q]; exact hx), fun q => h.some_ hz (by rw [q]; exact hy)⟩
  have old : ∀ z, z < 3 * n → upd (upd (upd r.m x (.lst [])) y (.lst [])) p (.lst [.int t, v, .bl b, .int 0, .ref x, .ref y]) (A z) = r.m (A z) := fun z hz => by
    obtain ⟨a1, a2, a3⟩ := np z hz
    rw [upd_ne a1, upd_ne a3, upd_ne a2]
  refine ⟨fun i hi => ?_, fun i hi => ?_, fun i hi => ?_, fun z w hz hw e => ?_⟩
  · by_cases c : i = n
    · subst c
      rw [addA_0, addA_1, addA_2, hs]
      exact ⟨v, upd_same, .inr ⟨rfl, rfl⟩⟩
    · obtain ⟨u, u1, u2⟩ := h.at_ i (by omega)
      rw [addA_old (by omega), addA_old (by omega), addA_old (by omega)]
      exact ⟨u, (old _ (by omega)).trans u1, .inl u2⟩
  · by_cases c : i = n
    · subst c
      rw [addA_1, hs]
      show upd _ _ _ _ = _
      rw [upd_ne px.symm, upd_ne xy, upd_same]; rfl
    · rw [addA_old (by omega)]; exact (old _ (by omega)).trans (h.al i (by omega))
  · by_cases c : i = n
    · subst c
      rw [addA_2, hs]
      show upd _ _ _ _ = _
      rw [upd_ne py.symm, upd_same]; rfl
    · rw [addA_old (by omega)]; exact (old _ (by omega)).trans (h.hl i (by omega))
  · have val : ∀ z, z < 3 * (n + 1) → (z < 3 * n ∧ addA A n p x y z = A z) ∨ (z = 3 * n ∧ addA A n p x y z = p) ∨ (z = 3 * n + 1 ∧ addA A n p x y z = x) ∨ (z = 3 * n + 2 ∧ addA A n p x y z = y) := fun z hz => by
      by_cases c : z < 3 * n
      · exact .inl ⟨c, addA_old c⟩
      · by_cases c1 : z = 3 * n
        · exact .inr (.inl ⟨c1, by rw [c1, addA_0]⟩)
        · by_cases c2 : z = 3 * n + 1
          · exact .inr (.inr (.inl ⟨c2, by rw [c2, addA_1]⟩))
          · have c3 : z = 3 * n + 2 := by omega
            exact .inr (.inr (.inr ⟨c3, by rw [c3, addA_2]⟩))
    rcases val z hz with ⟨a1, a2⟩ | ⟨a1, a2⟩ | ⟨a1, a2⟩ | ⟨a1, a2⟩ <;> rcases val w hw with ⟨b1, b2⟩ | ⟨b1, b2⟩ | ⟨b1, b2⟩ | ⟨b1, b2⟩ <;> rw [a2, b2] at e
    · exact h.inj z w a1 b1 e
    · exact absurd e (np z a1).1
    · exact absurd e (np z a1).2.1
    · exact absurd e (np z a1).2.2
    · exact absurd e.symm (np w b1).1
    · omega
    · exact absurd e px
    · exact absurd e py
    · exact absurd e.symm (np w b1).2.1
    · exact absurd e.symm px
    · omega
    · exact absurd e xy
    · exact absurd e.symm (np w b1).2.2
    · exact absurd e.symm py
    · exact absurd e.symm xy
    · omega
end
section
variable {K : PySem.W.Frag} {ρ : Type} {R : ρ → Hp → Hp → Prop} [Stab R] {e : SE} {r : ρ} {ta tb : TE}
/-- [a, b], both with a change of the state -/
theorem evs_lst2 {P1 : PyData → ρ → Prop} {P2 : PyData → PyData → ρ → Prop} (h1 : EvS K R ta e r P1) (h2 : ∀ d1 r1, P1 d1 r1 → EvS K R tb e r1 (P2 d1)) : EvS K R (tLst (tCons ta (tCons tb tNil))) e r (fun d r' => ∃ d1 d2, d = .list [d1, d2] ∧ P2 d1 d2 r') := fun B σ G M H v w Q q =>
  ev_seq2 (P2 := fun d1 d2 r' => P2 d1 d2 r') h1 h2 B σ G M H v w (fun x y H' => [x, y].length ≤ sizeLine ∧ ∀ p, H' p = none → Q (.ref p) (upd H' p (.lst [x, y]))) fun x y d1 d2 r2 G' M' H' p s w' hx hy => ⟨by show 2 ≤ sizeLine; decide, fun a ha =>
    q (.ref a) (.list [d1, d2]) r2 (upd G' a (.lst [x, y])) M' _ ⟨d1, d2, rfl, p⟩ (s.trans (Stp.alloc (w'.gn ha) ha _)) (w'.alloc ha _) (.lst upd_same (.cons (hx.mono (same_new (w'.gn ha))) (.cons (hy.mono (same_new (w'.gn ha))) .nil)))⟩
end
end Fw
namespace Fw
open PySem L2
theorem evts_orS {K : PySem.W.Frag} {ρ : Type} {R : ρ → Hp → Hp → Prop} {e : SE} {r : ρ} {t u : TT} {P P' : Bool → ρ → Prop} (h1 : EvTS K R t e r P) (hT : ∀ r', P true r' → P' true r') (h2 : ∀ r', P false r' → EvTS K R u e r' P') : EvTS K R (tOr t u) e r P' := fun B σ G M H v w Q q =>
  h1 B σ G M H v w _ fun c r' G' M' H' p s w' => by
    cases c with
    | true =>
      show Q true H'
      exact q true r' G' M' H' (hT r' p) s w'
    | false =>
      show u σ H' Q
      exact h2 r' p B σ G' M' H' (v.step s) w' Q fun c r2 G2 M2 H2 p s2 w2 => q c r2 G2 M2 H2 p (s.trans s2) w2
end Fw

/-! Suites that read slots; defs called where an exception is handled. -/
namespace Fw
open PySem L2
section
variable {P : Program} {w : World} {K : PySem.W.Frag} {mg : Str → Option Value} {base : Heap}
theorem takesN0 {X : Cx} : L2N.Takes X (fun _ _ _ _ => False) := fun _ _ x => by
  obtain ⟨_, _, _, _, _, _, _, _, _, _, _, _, _, _, _, _, z⟩ := x
  exact z.elim
theorem passLN {X : Cx} : Passes (L2N.CX X.prog X.w) X E0 := fun _ _ _ _ _ _ _ h => by
  obtain ⟨_, _, _, _, _, _, _, _, _, _, _, _, z⟩ := h
  exact z.elim
theorem passAt0 {X : Cx} {σ : St} : PassesAt CX0 X σ E0 := fun _ _ _ _ _ _ h => h.elim
/-- as Fun.okX, where nothing is handled -/
theorem okXN {x qual : Str} {st : Stmt} {f : Addr} {fd : FuncData} {N ps : List Str} {k : Nat} {sp : Sp} (F : Fun K x qual st f fd) (S : FnScope N ps (defScope st)) (len : ∀ vs H Q E, sp vs H Q E → vs.length = ps.length)
    (hbody : ∀ (cdv : Value) (A : Around) (outer : List Env) (s : Shared) (H : Hp) (vs : List V) (Q : VK) (E : XK), Room k (A.deeper (PyProof.Rows.envOfC qual (defScope st) s.heap.objs.size f cdv)) → sp vs H Q E →
      ∃ t, PSs (cxOf (L2N.CX P w) P w K mg base N qual (defScope st) f cdv A outer s H E) (defBody st) t ∧ t { nx := fun _ H' => Q .non H', rt := Q } (start N vs) H) : FnOk P w K mg base (L2N.CX P w) (k + 1) f fd ps sp := by
  obtain ⟨oc, od, kV, doc, pm, an, cdv, ct, osl, rfl, lk, hcd⟩ := F.ex
  exact fn_of lk hcd S len fun A outer s H vs Q E hr hsp => hbody cdv A outer s H vs Q E hr hsp
theorem okXH {CX : CXT} {x qual : Str} {st : Stmt} {f : Addr} {fd : FuncData} {N ps : List Str} {k : Nat} {sp : Sp} (F : Fun K x qual st f fd) (S : FnScope N ps (defScope st)) (len : ∀ vs H Q E, sp vs H Q E → vs.length = ps.length)
    (hbody : ∀ (cdv : Value) (A : Around) (outer : List Env) (s : Shared) (H : Hp) (vs : List V) (Q : VK) (E : XK) (p : Addr × Obj), L2H.Hot1 A p → L2H.RoomH k (A.deeper (PyProof.Rows.envOfC qual (defScope st) s.heap.objs.size f cdv)) → sp vs H Q E →
      ∃ t, PSs (L2H.cxH CX P w K mg base N qual (defScope st) f cdv A outer s H E p) (defBody st) t ∧ t { nx := fun _ H' => Q .non H', rt := Q } (start N vs) H) : L2H.FnH P w K mg base CX (k + 1) f fd ps sp := by
  obtain ⟨oc, od, kV, doc, pm, an, cdv, ct, osl, rfl, lk, hcd⟩ := F.ex
  exact L2H.fn_ofH lk hcd S len fun A outer s H vs Q E p hot hr hsp => hbody cdv A outer s H vs Q E p hot hr hsp
theorem ok_pureXFN {x qual : Str} {st : Stmt} {f : Addr} {fd : FuncData} {N ps : List Str} {k : Nat} {α : Type} {args : α → List PyData} {pre : α → Prop} {res : α → List PyData → Prop} {exc : α → Value → Prop}
    (F : Fun K x qual st f fd) (S : FnScope N ps (defScope st)) (len : ∀ a, (args a).length = ps.length)
    (body : ∀ (cdv : Value) (A : Around) (outer : List Env) (s : Shared) (H : Hp) (E : XK), Room k (A.deeper (PyProof.Rows.envOfC qual (defScope st) s.heap.objs.size f cdv)) →
      ∃ t, PSs (cxOf (L2N.CX P w) P w K mg base N qual (defScope st) f cdv A outer s H E) (defBody st) t ∧ ∀ (M0 : Hp) a, pre a → SP K (RM M0) E t (startE (args a) (N.length - ps.length)) () ⟨fun _ _ => False, fun _ _ => False, fun _ _ => False, fun _ _ => False, fun c _ => exc a c, fun ds _ => res a ds⟩) :
    FnOk P w K mg base (L2N.CX P w) (k + 1) f fd ps (spPXF K args pre res exc) := by
  refine okXN F S (fun vs H Q E h => ?_) (fun cdv A outer s H vs Q E hr h => ?_)
  · obtain ⟨G, M, a, p, hv, hp, _⟩ := h
    rw [hv.length]
    exact len a
  · obtain ⟨t, ht, hb⟩ := body cdv A outer s H E hr
    refine ⟨t, ht, ?_⟩
    obtain ⟨G, M, a, p, hv, hp, q, qe⟩ := h
    have hs : L2.start N vs = vs.map some ++ List.replicate (N.length - ps.length) none := by unfold L2.start; rw [hv.length, len a]
    rw [hs]
    refine hb M a hp G M H _ G M H _ (Stp.refl _ _ _) (env_start hv) ⟨p.1, p.2.1, p.2.2, rfl⟩ ⟨fun _ _ _ _ _ _ z => z.elim, fun _ _ _ _ _ _ z => z.elim, fun _ _ _ _ _ _ z => z.elim, fun _ _ _ _ _ _ z => z.elim, ?_, ?_⟩
    · intro c r G' M' H' hp' s' w'
      have e1 : M' = M := w'.res
      subst e1
      exact qe c G' H' hp' ⟨s', w'.gh, w'.mh, w'.dj⟩
    · intro ds r l ws G' M' H' hp' s' w' h1 h2 h3 h4 h5
      have e1 : M' = M := w'.res
      subst e1
      exact q l ws ds G' H' hp' ⟨s', w'.gh, w'.mh, w'.dj⟩ h1 h2 h4 h5
theorem ok_pureXFH {CX : CXT} {x qual : Str} {st : Stmt} {f : Addr} {fd : FuncData} {N ps : List Str} {k : Nat} {α : Type} {args : α → List PyData} {pre : α → Prop} {res : α → List PyData → Prop} {exc : α → Value → Prop}
    (F : Fun K x qual st f fd) (S : FnScope N ps (defScope st)) (len : ∀ a, (args a).length = ps.length)
    (body : ∀ (cdv : Value) (A : Around) (outer : List Env) (s : Shared) (H : Hp) (E : XK) (p : Addr × Obj), L2H.Hot1 A p → L2H.RoomH k (A.deeper (PyProof.Rows.envOfC qual (defScope st) s.heap.objs.size f cdv)) →
      ∃ t, PSs (L2H.cxH CX P w K mg base N qual (defScope st) f cdv A outer s H E p) (defBody st) t ∧ ∀ (M0 : Hp) a, pre a → SP K (RM M0) E t (startE (args a) (N.length - ps.length)) () ⟨fun _ _ => False, fun _ _ => False, fun _ _ => False, fun _ _ => False, fun c _ => exc a c, fun ds _ => res a ds⟩) :
    L2H.FnH P w K mg base CX (k + 1) f fd ps (spPXF K args pre res exc) := by
  refine okXH F S (fun vs H Q E h => ?_) (fun cdv A outer s H vs Q E p hot hr h => ?_)
  · obtain ⟨G, M, a, p, hv, hp, _⟩ := h
    rw [hv.length]
    exact len a
  · obtain ⟨t, ht, hb⟩ := body cdv A outer s H E p hot hr
    refine ⟨t, ht, ?_⟩
    obtain ⟨G, M, a, p, hv, hp, q, qe⟩ := h
    have hs : L2.start N vs = vs.map some ++ List.replicate (N.length - ps.length) none := by unfold L2.start; rw [hv.length, len a]
    rw [hs]
    refine hb M a hp G M H _ G M H _ (Stp.refl _ _ _) (env_start hv) ⟨p.1, p.2.1, p.2.2, rfl⟩ ⟨fun _ _ _ _ _ _ z => z.elim, fun _ _ _ _ _ _ z => z.elim, fun _ _ _ _ _ _ z => z.elim, fun _ _ _ _ _ _ z => z.elim, ?_, ?_⟩
    · intro c r G' M' H' hp' s' w'
      have e1 : M' = M := w'.res
      subst e1
      exact qe c G' H' hp' ⟨s', w'.gh, w'.mh, w'.dj⟩
    · intro ds r l ws G' M' H' hp' s' w' h1 h2 h3 h4 h5
      have e1 : M' = M := w'.res
      subst e1
      exact q l ws ds G' H' hp' ⟨s', w'.gh, w'.mh, w'.dj⟩ h1 h2 h4 h5
theorem ok_pureH {x qual : Str} {st : Stmt} {f : Addr} {fd : FuncData} {N ps : List Str} {k : Nat} {α : Type} {args : α → List PyData} {pre : α → Prop} {res : α → PyData → Prop} (F : Fun K x qual st f fd) (S : FnScope N ps (defScope st)) (len : ∀ a, (args a).length = ps.length)
    (body : ∀ (cdv : Value) (A : Around) (outer : List Env) (s : Shared) (H : Hp) (E : XK) (p : Addr × Obj), L2H.Hot1 A p → L2H.RoomH k (A.deeper (PyProof.Rows.envOfC qual (defScope st) s.heap.objs.size f cdv)) →
      ∃ t, PSs (L2H.cxH CX0 P w K mg base N qual (defScope st) f cdv A outer s H E p) (defBody st) t ∧ ∀ (M0 : Hp) a, pre a → SP K (RM M0) E t (startE (args a) (N.length - ps.length)) () ⟨fun _ _ => False, fun d _ => res a d, fun _ _ => False, fun _ _ => False, fun _ _ => False, fun _ _ => False⟩) :
    L2H.FnH P w K mg base CX0 (k + 1) f fd ps (spD K args pre res) := by
  refine okXH F S (fun vs H Q E h => ?_) (fun cdv A outer s H vs Q E p hot hr h => ?_)
  · obtain ⟨G, M, a, p, hv, hp, _⟩ := h
    rw [hv.length]
    exact len a
  · obtain ⟨t, ht, hb⟩ := body cdv A outer s H E p hot hr
    refine ⟨t, ht, ?_⟩
    obtain ⟨G, M, a, p, hv, hp, q⟩ := h
    have hs : L2.start N vs = vs.map some ++ List.replicate (N.length - ps.length) none := by unfold L2.start; rw [hv.length, len a]
    rw [hs]
    refine hb M a hp G M H _ G M H _ (Stp.refl _ _ _) (env_start hv) ⟨p.1, p.2.1, p.2.2, rfl⟩ ⟨fun _ _ _ _ _ _ z => z.elim, ?_, fun _ _ _ _ _ _ z => z.elim, fun _ _ _ _ _ _ z => z.elim, fun _ _ _ _ _ z => z.elim, fun _ _ _ _ _ _ _ z => z.elim⟩
    intro d r v G' M' H' hp' s' w' hx
    have e1 : M' = M := w'.res
    subst e1
    exact q v d G' H' hp' ⟨s', w'.gh, w'.mh, w'.dj⟩ hx
end
/-! ### readings -/
theorem pss_false {X : Cx} {ss : List Stmt} : PSs X ss (fun _ _ _ => False) := ⟨fun _ _ _ _ _ _ h => h.elim⟩
def tGuard (p : Prop) (t : TS) : TS := fun D σ H => p ∧ t D σ H
theorem pss_guard {X : Cx} {ss : List Stmt} {p : Prop} {t : TS} (h : p → PSs X ss t) : PSs X ss (tGuard p t) := ⟨fun pins s σ H D I g => (h g.1).run pins s σ H D I g.2⟩
section
variable {K : PySem.W.Frag} {ρ : Type} {R : ρ → Hp → Hp → Prop} {e : SE} {r : ρ} {P : Post ρ} {E : XK} {t : TS} {ta : TA} {te : TE} {α : Type} {args : α → List PyData} {pre : α → Prop} {res : α → List PyData → Prop} {exc : α → Value → Prop} {C : Value} {i : Nat} {ts : Addr → Value → Option Addr → TS} {Wout : WX}
theorem sp_guard {p : Prop} (hp : p) (h : SP K R E t e r P) : SP K R E (tGuard p t) e r P := fun G0 M0 H0 σ G M H D s v w q => ⟨hp, h G0 M0 H0 σ G M H D s v w q⟩
theorem sp_void {tu : TS} {b : Bool} {tt : TT} (h : EvT K R tt e r b) (hb : b = true) (k : SP K R E tu e r { P with nx := fun _ _ => False }) : SP K R E (tSeq (tIfS tt tu tNext) (fun _ _ _ => False)) e r P := fun G0 M0 H0 σ G M H D s v w q =>
  h H0 σ G M H v w _ fun c r' G' M' H' ⟨e1, e2⟩ s' w' => by
    subst e1 e2
    rw [hb]
    exact k G0 M0 H0 σ G' M' H' _ (s.trans s') (v.step s') w' ⟨fun _ _ _ _ _ _ z => z.elim, q.rt, q.bk, q.ct, q.ex, q.fr⟩
/-- x = f(..) in a try, one clause -/
theorem sp_tryF [Stab R] (a : α) (hA : EvA K R ta e r (args a)) (hp : pre a) (k : ∀ ds, res a ds → P.nx (e.set i (.own ds)) r) (kx : ∀ c, exc a c → PySem.W.exmOne K c C = some true ∧ ∀ ad, SP K R E (ts ad c none) e r P) :
    SP K R E (fun D σ H => (fun W : WX => tAsg (tCallS (spPXF K args pre res exc) (WE W) ta) (gName i)) (wMany K Wout D [(C, ts)]) D σ H) e r P := fun G0 M0 H0 σ G M H D s v w q =>
  hA H0 σ G M H v w _ fun vs G' M' H' s' w' hv => by
    refine ⟨G', M', a, w'.pre, hv, hp, fun l ws ds G2 H2 p al g1 g2 g4 g5 => ?_, fun c G2 H2 p al => ?_⟩
    · have s2 := s'.trans al.st
      exact q.nx _ r _ G2 M' H2 (k ds p) (s.trans s2) ((v.step s2).setO (born (s.trans s') g1) g2 (w'.mn g1) g4 g5 fun j es hj => own_new (v.step s') g1 j es hj) (w'.al al)
    · have s2 := s'.trans al.st
      exact ⟨true, (kx c p).1, fun _ ad _ => (kx c p).2 ad G0 M0 H0 σ G2 M' H2 D (s.trans s2) (v.step s2) (w'.al al) q, fun z => nomatch z⟩
/-- f(..) in a try, which it lets none but an exception out of; except C as x -/
theorem sp_tryAs [Stab R] (a : α) (hA : EvA K R ta e r (args a)) (hp : pre a) (k : ∀ ds, ¬ res a ds) (kx : ∀ c, exc a c → PySem.W.exmOne K c C = some true ∧ ∀ ad, SP K R E (ts ad c none) (e.set i (.dat (objD ad))) r { P with nx := fun _ _ => False, bk := fun _ _ => False, ct := fun _ _ => False }) :
    SP K R E (fun D σ H => (fun W : WX => tDrop (tCallS (spPXF K args pre res exc) (WE W) ta)) (wAs K C i ts Wout D) D σ H) e r P := fun G0 M0 H0 σ G M H D s v w q =>
  hA H0 σ G M H v w _ fun vs G' M' H' s' w' hv => by
    refine ⟨G', M', a, w'.pre, hv, hp, fun l ws ds G2 H2 p al g1 g2 g4 g5 => (k ds p).elim, fun c G2 H2 p al => ?_⟩
    have s2 := s'.trans al.st
    exact ⟨true, (kx c p).1, fun _ ad _ => (kx c p).2 ad G0 M0 H0 _ G2 M' H2 _ (s.trans s2) ((v.step s2).setD .obj) (w'.al al) ⟨fun _ _ _ _ _ _ z => z.elim, q.rt, fun _ _ _ _ _ _ z => z.elim, fun _ _ _ _ _ _ z => z.elim, q.ex, q.fr⟩, fun z => nomatch z⟩
/-- isinstance(e, c), in the suite -/
theorem ev_isE {D a : Addr} {tv : TE} {c : V} {cv : Value} {b : Bool} (hv : EvD K R tv e r (objD a)) (hcv : ∀ u, RelV c u → u = cv) (hk : PySem.W.kitOne K (.ref D) cv = some b) : EvD K R (tCB (rIsE K D a) (tCons tv (tCons (tC c) tNil))) e r (.bool b) := fun B σ G M H v w Q q =>
  hv B σ G M H v w _ fun x d' r' G' M' H' ⟨e1, e2⟩ s w' hx => by
    subst e1 e2
    rw [hx.obj_inv]
    exact ⟨c, cv, b, rfl, hcv, hk, q _ _ _ G' M' H' ⟨rfl, rfl⟩ s w' (.bl b)⟩
theorem ev_callS [Stab R] {f : α → PyData} (a : α) (h : EvA K R ta e r (args a)) (hp : pre a) : EvD K R (tCallS (spF K args pre f) (fun _ => E0) ta) e r (f a) := fun B σ G M H v w Q q =>
  h B σ G M H v w _ fun vs G' M' H' s w' hv => ⟨G', M', a, w'.pre, hv, hp, fun x d G2 H2 p al hx => q x d r G2 M' H2 ⟨p, rfl⟩ (s.trans al.st) (w'.al al) hx⟩
end
theorem shaped_two {a b : List Ent} (h : rowOk a) (g : rowOk b) : SeqAt.shaped (.list [rowD a, rowD b]) = true := by
  unfold SeqAt.shaped
  rw [Bool.and_eq_true]
  refine ⟨?_, decide_eq_true ?_⟩
  · show (PyData.canLay0 (rowD a) && (PyData.canLay0 (rowD b) && true)) = true
    have e1 : PyData.canLay0 (rowD a) = true := canLay_rows a h
    have e2 : PyData.canLay0 (rowD b) = true := canLay_rows b g
    rw [e1, e2]; rfl
  · have h1 := depth_rows a
    have h2 := depth_rows b
    show max (PyData.depthAll (a.map entD) + 1) (max (PyData.depthAll (b.map entD) + 1) 0) + 1 ≤ 64
    omega
end Fw
namespace Fw
open PySem L2
theorem hotN {X : Cx} {a : Addr} {oe : Obj} {pn : List (Addr × Obj)} {cls : Value} {d : Option Addr} (hz : L2N.Zn cls d oe) (hf : ∃ vs, oe.data = .fields vs) : L2H.HotC (X.suite a ((a, oe) :: pn)) := by
  obtain ⟨vs, e⟩ := hf
  exact Exists.intro (a, oe) (And.intro (And.intro rfl ⟨vs, e, hz.2.2 vs e⟩) List.mem_cons_self)
theorem hotP {X : Cx} {p : Addr × Obj} (hot : L2H.Hot1 X.A p) (hm : p ∈ X.pn) : L2H.HotC X := Exists.intro p (And.intro hot hm)
theorem roomM {k : Nat} {A : Around} {v : Option Value} (h : L2H.RoomH k A) : L2H.RoomH k (A.mark v) := ⟨h.dp, h.un⟩
end Fw

/-! A comprehension whose element raises (an exception whose context is None). -/
namespace Fc
abbrev St := L2.St
open PySem PySem.Spec PyProof.Rows L2
theorem noteFrame_env {x : Value} {a b : Env} (h : a.frame = b.frame) : noteFrame x a = noteFrame x b := by
  unfold noteFrame PySem.frameOf
  rw [h]
section
variable {M : Model} {A : Around} {E₁ : Value → Shared → Prop} {s : Shared} {Z : Obj → Prop} {B : Heap} {env : Env} {outer : List Env} {L a : Addr}
/-- noted by this frame, whatever flight it had -/
theorem notes_anyZ {fl : Value} {Q : Unit → Shared → Prop} (hZ : PXN.Steady1 Z) (hA : A.frames = some (env :: outer)) (hL : env.frame = some L) (st : B.StaysIn s.heap) (na : B.get? a = none)
    (ff : s.heap.FunFrames B (env :: outer)) (tr : HandSPX.TracedZ s.heap B a Z fl)
    (k : ∀ g, HandSPX.HeldZ B (env :: outer) a Z L g → s.heap.UpToSlots g → Q () { s with heap := g }) : wpAny M A (noteFrame (.ref a) env) Q E₁ s := by
  by_cases q : (fl == rawInt L) = true
  · have e : fl = rawInt L := eq_of_beq q
    subst e
    exact HandSPX.againZ hL tr (k s.heap ⟨st, na, ff, tr⟩ (Heap.UpToSlots.refl _))
  · obtain ⟨oa, va, T, oT, vT, ga, za, da, ha, nT, neq, gT, dT, hT⟩ := tr
    have apart : ∀ b o, s.heap.get? b = some o → (∀ z, o.data ≠ .fields z) → b ≠ T := fun b o gb nf y => by
      subst y
      rw [gT] at gb
      cases gb
      exact nf vT dT
    have same : ∀ b, b ≠ T → (s.heap.update T (Obj.mapFields (·.setIfInBounds 3 Value.none))).get? b = s.heap.get? b := fun b y => Heap.get?_update_other _ _ fun z => y z.symm
    unfold noteFrame
    simp only [hL]
    refine wpAny_bind (wpAny_field ga da ha ?_)
    rw [if_pos (by simp : (Value.ref T != Value.none) = true)]
    refine wpAny_bind (wpAny_field gT dT hT ?_)
    rw [if_neg q]
    refine wpAny_bind (wpAny_setField gT dT (Array.getElem?_eq_some_iff.mp hT).1 ?_)
    refine PXN.wpAny_entryZ hZ hA ?_ hL ?_ ?_ na da (Array.getElem?_eq_some_iff.mp ha).1 za ?_
    · exact ff.of_keeps fun b o gb nf => ⟨o, by rw [same b (apart b o gb nf)]; exact gb, rfl⟩
    · rw [same a fun z => neq z.symm]; exact ga
    · intro b o gb
      have y : b ≠ T := fun z => by rw [z, nT] at gb; cases gb
      rw [same b y]; exact st b o gb
    · rintro g ⟨x1, x2, x3, x4⟩
      refine k g ⟨x1, na, x2, x3⟩ fun b o gb nf => x4 b o ?_ nf
      rw [same b (apart b o gb nf)]; exact gb
theorem leaves_anyZ {fl : Value} {Q : Unit → Shared → Prop} (hZ : PXN.Steady1 Z) (hA : A.frames = some (env :: outer)) (hL : env.frame = some L) (st : B.StaysIn s.heap) (na : B.get? a = none)
    (ff : s.heap.FunFrames B (env :: outer)) (tr : HandSPX.TracedZ s.heap B a Z fl)
    (k : ∀ g, HandSPX.FlyingZ B outer a Z g → s.heap.UpToSlots g → Q () { s with heap := g }) : wpAny M A (leaving env (.ref a)) Q E₁ s := by
  unfold leaving
  refine wpAny_bind (notes_anyZ hZ hA hL st na ff tr fun g hg ug => ?_)
  refine HandSPX.landsZ hg fun g2 fly ug2 => ?_
  obtain ⟨y1, y2, y3, y4⟩ := fly
  exact k g2 ⟨y1, y2, y3.2.2, y4⟩ (ug.trans ug2)
end
theorem ff_keep {B B' h h' : Heap} : ∀ {l : List Env}, h.FunFrames B l → (∀ L ∈ frs l, B'.get? L = none) → (∀ L ∈ frs l, ∀ o, h.get? L = some o → h'.get? L = some o) → h'.FunFrames B' l
  | [], _, _, _ => trivial
  | env :: l, hl, n, k => by
    obtain ⟨y1, ⟨L, o, y2, _, y3, y4⟩, y5⟩ := hl
    have m : L ∈ frs (env :: l) := List.mem_filterMap.mpr ⟨env, List.mem_cons_self, y2⟩
    have sub : ∀ b, b ∈ frs l → b ∈ frs (env :: l) := fun b hb => by
      obtain ⟨x, hx, e⟩ := List.mem_filterMap.mp hb
      exact List.mem_filterMap.mpr ⟨x, List.mem_cons_of_mem _ hx, e⟩
    exact ⟨y1, ⟨L, o, y2, n L m, k L m o y3, y4⟩, ff_keep y5 (fun b hb => n b (sub b hb)) fun b hb => k b (sub b hb)⟩
/-- in the air of X behind a comprehension's block, with any flight -/
def XEa (X : Cx) (E : XK) (u : Value) (s' : Shared) : Prop :=
  ∃ (a : Addr) (B : Heap) (fl : Value) (sI : Shared) (pins : List (Addr × Obj)) (σ : St) (H : Hp) (cls : Value) (d : Option Addr), u = .ref a ∧ Inv X pins σ H sI ∧
    (∀ b o, sI.heap.get? b = some o → b ∉ frs X.stack → B.get? b = some o) ∧ sI.heap.UpToSlots s'.heap ∧ (B.StaysIn s'.heap ∧ B.get? a = none ∧ s'.heap.FunFrames B X.stack ∧ HandSPX.TracedZ s'.heap B a (L2N.Zn cls d) fl) ∧
    H a = none ∧ s'.os = sI.os ∧ AllBare s'.gens ∧ E cls d H
section
variable {X : Cx} {E : XK} {s' : Shared}
theorem XEa.leave (hs : X.stack = X.env :: X.outer) (hf : X.env.frame = some X.env.locals) (hex : X.ex = []) {E₁ : Value → Shared → Prop} {u : Value} (x : XEa X E u s') :
    wpAny (model X.prog X.w) X.A (leaving X.env u) (fun _ z => L2N.CX X.prog X.w X.outer X.H_0 X.s_0 E u z) E₁ s' := by
  obtain ⟨a, B, fl, sI, pins, σ, H, cls, d, rfl, I, nb, up, ⟨st, an, ff, tr⟩, na, os, ag, w⟩ := x
  have hA : X.A.frames = some (X.env :: X.outer) := by rw [I.ok.frames, hs]
  have nex : ∀ b, b ∉ X.ex := fun b hb => by rw [hex] at hb; cases hb
  have nst : ∀ b o, X.s_0.heap.get? b = some o → b ∉ X.fs → b ∉ frs X.stack := fun b o e hb hm => by
    rcases List.mem_cons.mp (I.stkSub b hm) with y | y
    · have p1 := Heap.lt_size e
      have p2 := I.ok.above
      rw [y] at p1
      exact Nat.lt_irrefl _ (Nat.lt_of_lt_of_le p1 p2)
    · exact hb y
  rw [hs] at ff
  refine leaves_anyZ L2N.Zn.steady hA hf st an ff tr fun g fly ug => ⟨a, B, H, cls, d, rfl, fly, I.inGround nb, ?_, na, os.trans I.os, ag, w⟩
  refine ⟨fun b o e n hb => nb b o (I.base.keep b o e n hb (nex b)) (nst b o e hb), fun b o e hb => ?_, fun b o e n => I.base.free b o e n (nex b), fun b o e hb => ?_, I.base.tups, I.base.frzs, I.base.tbls⟩
  · obtain ⟨_, o1, e1, nf⟩ := I.ok.funs.mem hb
    rw [e] at e1
    cases e1
    obtain ⟨l1, q1⟩ := I.base.slot b o e (I.ok.frf b hb) hb (nex b)
    obtain ⟨l2, q2⟩ := up b _ q1 nf
    obtain ⟨l3, q3⟩ := ug b _ q2 nf
    exact ⟨l3, q3⟩
  · obtain ⟨o1, e1⟩ := I.base.there b o e (nex b)
    exact ⟨o1, nb b o1 e1 (nst b o e hb)⟩
theorem takesA_of (hs : X.stack = X.env :: X.outer) (hf : X.env.frame = some X.env.locals) (hex : X.ex = []) {E₁ : Value → Shared → Prop}
    (hx : X.xe = fun e z => wpAny (model X.prog X.w) X.A (leaving X.env e) (fun _ y => L2N.CX X.prog X.w X.outer X.H_0 X.s_0 E e y) E₁ z) : ∀ u z, XEa X E u z → X.xe u z := fun u z x => by
  rw [hx]
  exact XEa.leave hs hf hex x
/-- the block's exception is in our air -/
theorem comp_raised {pins : List (Addr × Obj)} {σ : St} {H3 : Hp} {s3 : Shared} {ce : Env} {scope : Scope} {fp : List Addr} {use : Option (Value → Sem Unit)} {Qf : Value → Shared → Prop} {acc u : Value}
    (hs : X.stack = X.env :: X.outer) (hf : X.env.frame = some X.env.locals) (tka : ∀ u z, XEa X E u z → X.xe u z) (I3 : Inv X pins σ H3 s3) (cf : ce.frame = X.env.frame) (cL : ce.locals = s3.heap.objs.size)
    (f3 : ∀ b ∈ fp, FpOk X pins H3 b ∧ b < s3.heap.objs.size) {bpn : List (Addr × Obj)} {bxe : Value → Shared → Prop} (x : L2N.XE ((X.blk s3 H3 scope ce fp).tr bpn bxe) (fun cls d _ H => E cls d H) u s') :
    notedBy (model X.prog X.w) X.A ce (fun e z => compPost (model X.prog X.w) X.A X.xe use Qf acc s3.heap.objs.size (.error e) z) u s' := by
  obtain ⟨a, B, sI, pinsI, σI, HI, cls, d, rfl, IB, nb, up, sky, na, os, ag, w⟩ := x
  have hA : X.A.frames = some (X.env :: X.outer) := by rw [I3.ok.frames, hs]
  have nb : ∀ b o, sI.heap.get? b = some o → b ∉ frs X.stack → B.get? b = some o := nb
  have nC : s3.heap.objs.size ∉ frs X.stack := fun hm => by
    rcases List.mem_cons.mp (I3.stkSub _ hm) with y | y
    · have z := I3.lt
      rw [← y] at z
      exact Nat.lt_irrefl _ z
    · exact I3.nofs (Nat.le_refl _) y
  obtain ⟨m, ⟨o, es, ep, ho, hd, r⟩, _⟩ := IB.loc
  have ho : sI.heap.get? ce.locals = some o := ho
  rw [cL] at ho
  have hB := nb _ o ho nC
  have HC : HI s3.heap.objs.size = none := by
    have y : HI ce.locals = none := IB.free
    rw [cL] at y
    exact y
  have J : Inv X pins σ HI sI := I3.call' (ch := fp) IB.os IB.base IB.hok IB.bare fun b hb => ⟨(f3 b hb).1.2.2.2.1, (f3 b hb).1.2.1, (f3 b hb).1.2.2.2.2.1, (f3 b hb).1.2.2.2.2.2⟩
  obtain ⟨p0, p1, p2, p3, p4, p5⟩ := I3.fpOk (H' := HI) (Nat.le_refl _) HC
  have post : ∀ h1, HandSPX.HeldZ B (X.env :: X.outer) a (L2N.Zn cls d) X.env.locals h1 → s'.heap.UpToSlots h1 → compPost (model X.prog X.w) X.A X.xe use Qf acc s3.heap.objs.size (.error (.ref a)) { s' with heap := h1 } := by
    rintro h1 ⟨k1, k2, k3, oa, va, T, oT, vT, ga, za, da, ha, nT, neq, gT, dT, hT⟩ up1
    have gC := k1 _ _ hB
    have key : ∃ m, h1.Ns s3.heap.objs.size m ∧ ∀ h', Heap.SameBut s3.heap.objs.size h1 h' → ∀ cenv : Env, cenv.locals = s3.heap.objs.size →
        wpAny (model X.prog X.w) X.A (passOn "comprehension.variables-let-go" (.ref a) cenv : Sem Value) (fun _ _ => False) X.xe { s' with heap := h' } := by
      refine ⟨m, ⟨o, es, ep, gC, hd, r⟩, fun h' sb cenv _ => ?_⟩
      have aC : a ≠ s3.heap.objs.size := fun y => by
        rw [y, gC] at ga
        cases ga
        rw [hd] at da
        cases da
      have tC : T ≠ s3.heap.objs.size := fun y => by
        rw [y, gC] at gT
        cases gT
        rw [hd] at dT
        cases dT
      have of' : ∀ b q, (PySem.W.hideAll B [s3.heap.objs.size]).get? b = some q → b ≠ s3.heap.objs.size ∧ B.get? b = some q := fun b q e => by
        refine ⟨fun y => ?_, PySem.W.of_hideAll _ e⟩
        rw [y, PySem.W.hideAll_none _ List.mem_cons_self] at e
        cases e
      have none' : ∀ b, B.get? b = none → (PySem.W.hideAll B [s3.heap.objs.size]).get? b = none := fun b e => by
        cases q : (PySem.W.hideAll B [s3.heap.objs.size]).get? b with
        | none => rfl
        | some v =>
          have y := (of' b v q).2
          rw [e] at y
          cases y
      have kB : (PySem.W.hideAll B [s3.heap.objs.size]).StaysIn h' := fun b q e => by
        obtain ⟨y1, y2⟩ := of' b q e
        rw [sb.2 b y1]
        exact k1 b q y2
      have ff : h'.FunFrames (PySem.W.hideAll B [s3.heap.objs.size]) X.stack := by
        rw [hs]
        refine ff_keep k3 (fun b hb => none' b (k3.mem hb).1) fun b hb q e => ?_
        rw [sb.2 b fun y => nC (by rw [hs, ← y]; exact hb)]
        exact e
      have ga' : h'.get? a = some oa := by rw [sb.2 a aC]; exact ga
      have gT' : h'.get? T = some oT := by rw [sb.2 T tC]; exact gT
      have tr : HandSPX.TracedZ h' (PySem.W.hideAll B [s3.heap.objs.size]) a (L2N.Zn cls d) (rawInt X.env.locals) := ⟨oa, va, T, oT, vT, ga', za, da, ha, none' T nT, neq, gT', dT, hT⟩
      have fin : wpAny (model X.prog X.w) X.A (setFlight (.ref a) cenv.frame) (fun _ s4 => wpAny (model X.prog X.w) X.A (throw (.ref a) : Sem Value) (fun _ _ => False) X.xe s4) X.xe { s' with heap := h' } := by
        refine HandSPX.setFlight_anyZ kB ff tr fun h4 y1 y2 y3 y4 => wpAny_throw (tka _ _ ?_)
        refine ⟨a, _, _, { sI with heap := PySem.W.hideAll sI.heap [s3.heap.objs.size], toks := sI.toks }, pins, σ, HI, cls, d, rfl, ?_, ?_, ?_, ⟨y1, none' a k2, y2, y3⟩, na, os, ag, w⟩
        · exact J.turned (fun b q hb e => PySem.W.hideAll_get _ e fun y => hb (List.mem_singleton.mp y)) p0 p1 p3 p4 p5
        · intro b q e hb
          have e1 : (PySem.W.hideAll sI.heap [s3.heap.objs.size]).get? b = some q := e
          have e2 : b ≠ s3.heap.objs.size := fun y => by
            rw [y, PySem.W.hideAll_none _ List.mem_cons_self] at e1
            cases e1
          exact PySem.W.hideAll_get _ (nb b q (PySem.W.of_hideAll _ e1) hb) fun y => e2 (List.mem_singleton.mp y)
        · intro b q e nf
          have e1 : (PySem.W.hideAll sI.heap [s3.heap.objs.size]).get? b = some q := e
          have e2 : b ≠ s3.heap.objs.size := fun y => by
            rw [y, PySem.W.hideAll_none _ List.mem_cons_self] at e1
            cases e1
          obtain ⟨l1, z1⟩ := up b q (PySem.W.of_hideAll _ e1) nf
          obtain ⟨l2, z2⟩ := up1 b _ z1 nf
          have z3 : h'.get? b = some { q with slots := l2 } := by rw [sb.2 b e2]; exact z2
          obtain ⟨l4, z4⟩ := y4 b _ z3 nf
          exact ⟨l4, z4⟩
      unfold PySem.passOn
      refine wpAny_bind (wpAny_field ga' da ha ?_)
      rw [if_neg (by simp : ¬ ((Value.ref T == Value.none) = true))]
      first
        | exact wpAny_bind (wpAny_pure (wpAny_bind fin))
        | exact wpAny_bind fin
    cases use <;> exact key
  show wpAny (model X.prog X.w) X.A (noteFrame (.ref a) ce) _ _ s'
  rw [noteFrame_env cf]
  have stk : (((X.blk s3 H3 scope ce fp).tr bpn bxe)).stack = X.env :: X.outer := hs
  rw [stk] at sky
  rcases sky with ⟨y1, y2, y3, oe, vs, y4, y5, y6, y7⟩ | ⟨y1, y2, y3, y4⟩ | ⟨y1, y2, y3, y4⟩
  · exact PXN.look_newZ L2N.Zn.steady hA y3 hf y4 y1 y2 y6 y7 y5 post
  · exact notes_anyZ L2N.Zn.steady hA hf y1 y2 y3 y4 post
  · exact notes_anyZ L2N.Zn.steady hA hf y1 y2 y3 y4 post
end
section
variable {X : Cx}
theorem thnN {α : Type} {t : Sem α} {Q Q' : α → Shared → Prop} {M : Model} {A : Around} {E : Value → Shared → Prop} {s : Shared} (h : wpAny M A t Q (fun _ _ => False) s) (k : ∀ a z, Q a z → Q' a z) : wpAny M A t Q' E s := wpAny_mono h k fun _ _ z => z.elim
abbrev blkE (X : Cx) (scope : Scope) (s : Shared) (H : Hp) (C : Addr) (cl : List (Str × Addr)) (fp : List Addr) : Cx := X.blk s H scope (compEnvC scope cl C X.env) fp
/-- a comprehension over a name, its element may raise -/
theorem lcX_core {E : XK} {pins : List (Addr × Obj)} {s : Shared} {σ : St} {H : Hp} {Q : VK} {elt tg iter : Expr} {scope : Scope} {own : List (Str × Nat)} {pos pos' : Pos} {wi : TI} {g : TG} {te : TE} {use : Option (Value → Sem Unit)} {Qf : Value → Shared → Prop}
    (hs : X.stack = X.env :: X.outer) (hf : X.env.frame = some X.env.locals) (tka : ∀ u z, XEa X E u z → X.xe u z) (hc : X.calm = true) (hN : X.N.Nodup) (I : Inv X pins σ H s) (hi : PI X tg iter wi) (ok : BlkOk X.N X.env.scope scope own)
    (hg : ∀ s H C cl fp, PG (blkE X scope s H C cl fp) tg g)
    (he : ∀ s H C cl fp bpn bxe, L2N.Takes ((blkE X scope s H C cl fp).tr bpn bxe) (fun cls d _ H => E cls d H) → PE ((blkE X scope s H C cl fp).tr bpn bxe) elt te) (hfs : ∀ x, foldedSetIterable iter X.env x = pure x)
    (h : tLc wi g tYes te (own.map (·.2)) σ H Q)
    (fin : ∀ D C z m H', Inv X pins σ H' z → Q (.ref D) H' → z.heap.Ns C m → FpOk X pins H' C → compPost (model X.prog X.w) X.A X.xe use Qf (.ref D) C (.ok .next) z) :
    wpAny (model X.prog X.w) X.A (comprehension (.ListComp elt [⟨tg, iter, [], 0⟩] scope pos) scope X.env pos' (newList []) false (eval iter X.env) use) Qf X.xe s := by
  have bound : ∀ y ∈ scope.names, y.2 = .free → ∃ c, X.env.cells.lookup y.1 = some c := fun y hy e => (ok.free y hy e).elim (fun k => I.ok.has _ (.inl k)) fun k => I.ok.has _ (.inr k)
  refine wpAny_comprehension_free (use := use) rfl hfs (closure_ok bound) ok.kind (fun y hy e => by rw [ok.uniq y hy, e]) (thn (hi.run pins s σ H _ I h) fun xv t1 hx => thn hx fun itv t2 q2 => ?_)
  obtain ⟨it, fp, tn, J, H2, eit, I2, T, st2, f2, q⟩ := q2
  subst eit
  refine wpAny_newObj_type (newEnv_comp ?_) (by show 0 ≤ sizeLine; decide)
  generalize hD : t2.heap.objs.size = D
  have nD : H2 D = none := I2.hok.fresh (Nat.le_of_eq hD)
  obtain ⟨W, ⟨m0, w0⟩, turn⟩ := q D nD
  generalize ht3 : ({ t2 with heap := t2.heap.push { cls := .type "list", data := .seq ([] : List Value).toArray } } : Shared) = t3
  have hp3 : t3.heap = t2.heap.push { cls := .type "list", data := .seq ([] : List Value).toArray } := by rw [← ht3]
  have I3 : Inv X pins σ (upd H2 D (.lst [])) t3 := by
    rw [← ht3]
    refine I2.laid (t' := t2.toks) (fun b o e => Heap.get?_push_of_some _ e) (Nat.le_of_eq hD) ⟨Nat.zero_le _, [], 0, .nil, ?_⟩
    rw [← hD]
    exact Heap.get?_push_size _ rfl
  have f3 : ∀ b ∈ fp, FpOk X pins (upd H2 D (.lst [])) b ∧ b < t3.heap.objs.size := fun b hb => by
    obtain ⟨o, e, _⟩ := T.obj _ _ st2 b hb
    have lt := Heap.lt_size e
    have ne : b ≠ D := by rw [← hD]; exact Nat.ne_of_lt lt
    exact ⟨⟨by rw [upd_ne ne]; exact (f2 b hb).1, (f2 b hb).2⟩, by rw [hp3, Heap.size_push]; exact Nat.lt_succ_of_lt lt⟩
  have st3 : tn 0 t3.heap := T.keep _ _ _ st2 fun b _ o e => by rw [hp3]; exact Heap.get?_push_of_some _ e
  have I4 := block_start I3 ok hN f3
  have pg := hg t3 (upd H2 D (.lst [])) t3.heap.objs.size (cellsFrom (t3.heap.objs.size + 1) scope.names (cloFrom X.env.cells scope.names [])) fp
  have pe := he t3 (upd H2 D (.lst [])) t3.heap.objs.size (cellsFrom (t3.heap.objs.size + 1) scope.names (cloFrom X.env.cells scope.names [])) fp
  show codeAny _ _ (.compStart (.ListComp elt [⟨tg, iter, [], 0⟩] scope pos) 0 (.ref it) (.ref D) (compEnvC scope (cellsFrom (t3.heap.objs.size + 1) scope.names (cloFrom X.env.cells scope.names [])) t3.heap.objs.size X.env))
    (compPost (model X.prog X.w) X.A X.xe use Qf (.ref D) t3.heap.objs.size) { t3 with heap := pushCells (t3.heap.push { cls := .type "dict", data := .dict #[] }) scope.names }
  have nfp : ∀ b ∈ fp, (upd H2 D (.lst [])) b = none := fun b hb => (f3 b hb).1.1
  unfold blkE at pg pe
  generalize hce : compEnvC scope (cellsFrom (t3.heap.objs.size + 1) scope.names (cloFrom X.env.cells scope.names [])) t3.heap.objs.size X.env = ce at I4 pg pe ⊢
  have cL : ce.locals = t3.heap.objs.size := by subst hce; rfl
  have cf : ce.frame = X.env.frame := by subst hce; rfl
  generalize hH3 : upd H2 D (.lst []) = H3 at I3 I4 pg pe w0 nfp f3
  generalize ht4 : ({ t3 with heap := pushCells (t3.heap.push { cls := .type "dict", data := .dict #[] }) scope.names } : Shared) = t4 at I4 ⊢
  have st4 : tn 0 t4.heap := T.keep _ _ _ st3 fun b _ o e => by rw [← ht4]; exact pushCells_keeps _ _ _ _ (Heap.get?_push_of_some _ e)
  have stat : ∀ {σ' : St} {H' : Hp} {z : Shared}, Inv (X.blk t3 H3 scope ce fp) [] σ' H' z → (∀ b ∈ fp, H' b = none) → ∀ b ∈ fp, FpOk (X.blk t3 H3 scope ce fp) [] H' b := fun {σ' H' z} I' hn b hb =>
    ⟨hn b hb, (I'.ok.exf b hb).1, I'.ok.exfs b hb, .inl hb, fun x c e => (I'.ok.exf b hb).2 x c e, fun p hp => nomatch (show p ∈ ([] : List (Addr × Obj)) from hp)⟩
  have loop : codeAny (model X.prog X.w) X.A (.compLoop (.ListComp elt [⟨tg, iter, [], 0⟩] scope pos) 0 (.ref it) (.ref D) ce) (compPost (model X.prog X.w) X.A X.xe use Qf (.ref D) t3.heap.objs.size) t4 := by
    refine compLoop_any (fun n z => ∃ i H', Inv (X.blk t3 H3 scope ce fp) [] (wipe σ (own.map (·.2))) H' z ∧ tn i z.heap ∧ (∀ b ∈ fp, H' b = none) ∧ W i n H') ?_ m0 ⟨0, H3, I4, st4, nfp, w0⟩
    rintro n t5 ⟨i, H5, I5, st5, n5, w5⟩
    rcases turn i n H5 w5 with ⟨stop, qq⟩ | ⟨go, Nx, hNx, step⟩
    · refine thnN (T.done (X.blk t3 H3 scope ce fp) rfl rfl rfl hc i [] t5 _ H5 (fun _ _ => False) I5 (stat I5 n5) st5 stop) fun r t6 ⟨hr, I6⟩ => ?_
      subst hr
      have I7 : Inv X pins σ H5 t6 := I3.call' (ch := fp) I6.os I6.base I6.hok I6.bare fun b hb => ⟨(f3 b hb).1.2.2.2.1, (f3 b hb).1.2.1, (f3 b hb).1.2.2.2.2.1, (f3 b hb).1.2.2.2.2.2⟩
      have nC : H5 ce.locals = none := I6.free
      obtain ⟨m, hn, _⟩ := I6.loc
      have hn : t6.heap.Ns ce.locals m := hn
      rw [cL] at hn nC
      exact fin D t3.heap.objs.size t6 m H5 I7 qq hn (I3.fpOk (Nat.le_refl _) nC)
    · refine thnN (T.item (X.blk t3 H3 scope ce fp) rfl rfl rfl hc i [] t5 _ H5 (fun _ _ => False) I5 (stat I5 n5) st5 go) fun r t6 ⟨u, hr, h6⟩ => ?_
      subst hr
      refine thnN h6 fun _ t7 ⟨x, H7, I7, r7, y7, st7, n7⟩ => ?_
      have I7' := I7.pinned (stat I7 n7) (T.obj _ _ st7)
      refine thnN (pg.run _ t7 _ H7 x u _ I7' r7 (step x H7 y7)) fun _ t8 ⟨σ8, H8, I8, hw8, q8⟩ => ?_
      refine wpAny_tests_nil ?_
      show wpAny _ _ _ _ _ _
      have q8 : te σ8 H8 fun y H4 => ∃ acc, H4 D = some (.lst acc) ∧ acc.length < sizeLine ∧ Nx (upd H4 D (.lst (acc ++ [y]))) := q8
      refine wpAny_mono ((pe _ (notedBy (model X.prog X.w) X.A ce fun e z => compPost (model X.prog X.w) X.A X.xe use Qf (.ref D) t3.heap.objs.size (.error e) z) (fun u z x => comp_raised hs hf tka I3 cf cL f3 x)).run [] t8 σ8 H8 _ (I8.toTry _) q8)
        (fun z t9 ⟨yv, H9, I9, r9, acc, hD9, hz9, nx⟩ => ?_) fun _ _ y => y
      have I9' := I9.ofTry I4.ok
      refine app_ok (X := X.blk t3 H3 scope ce fp) I9' hD9 hz9 r9 fun t10 I10 => ?_
      obtain ⟨m', hm, w'⟩ := hNx _ nx
      have pin : ∀ b ∈ fp, ∀ o, t7.heap.get? b = some o → t10.heap.get? b = some o ∧ (upd H9 D (.lst (acc ++ [yv]))) b = none := fun b hb o e =>
        have y := I10.pin (b, o) (List.mem_append_right _ (List.mem_append_right _ (mem_pinsAt hb e)))
        ⟨y.1, y.2.1⟩
      refine ⟨m', hm, i + 1, _, (I10.unpinned (pins := [])).weak (by rw [← hw8, wipe_length]) (fun j v e => ?_), T.keep _ _ _ st7 fun b hb o e => (pin b hb o e).1, fun b hb => ?_, w'⟩
      · rw [← hw8] at e
        exact (wipe_some e).1
      · obtain ⟨o, e, _⟩ := T.obj _ _ st7 b hb
        exact (pin b hb o e).2
  exact codeAny_compStart_list loop (T.self X.A 0 _ _ _ st4 loop)
/-- name = [f(x) for x in xs], f may raise -/
theorem ps_setLcX {E : XK} {i : Nat} {y : Str} {py : Pos} {elt tg iter : Expr} {scope : Scope} {own : List (Str × Nat)} {pos spos : Pos} {wi : TI} {g : TG} {te : TE} (hs : X.stack = X.env :: X.outer) (hf : X.env.frame = some X.env.locals) (tka : ∀ u z, XEa X E u z → X.xe u z)
    (hc : X.calm = true) (hN : X.N.Nodup) (hy : X.N[i]? = some y) (hyl : X.env.scope.names.lookup y = some .local)
    (hsw : swapsWith (.ListComp elt [⟨tg, iter, [], 0⟩] scope pos) (some (.Name y py)) spos.line X.env = pure true) (hi : PI X tg iter wi) (ok : BlkOk X.N X.env.scope scope own)
    (hg : ∀ s H C cl fp, PG (blkE X scope s H C cl fp) tg g)
    (he : ∀ s H C cl fp bpn bxe, L2N.Takes ((blkE X scope s H C cl fp).tr bpn bxe) (fun cls d _ H => E cls d H) → PE ((blkE X scope s H C cl fp).tr bpn bxe) elt te) (hfs : ∀ x, foldedSetIterable iter X.env x = pure x := by intro _; rfl) :
    PS X (.Assign [.Name y py] (.ListComp elt [⟨tg, iter, [], 0⟩] scope pos) spos) (tAsg (tLc wi g tYes te (own.map (·.2))) (gName i)) := by
  refine ⟨fun pins s σ H D I h => ?_⟩
  rw [exec_Assign_Name_used _ _ _ _ hsw]
  refine wpAny_bind (wpAny_standAt (wpAny_bind ?_))
  show wpAny _ X.A (comprehension (.ListComp elt [⟨tg, iter, [], 0⟩] scope pos) scope X.env (firstIterPos [⟨tg, iter, [], 0⟩] pos) (newList []) false (eval iter X.env) (some (assign (.Name y py) X.env)) >>= fun _ => _) _ _ s
  have h : tLc wi g tYes te (own.map (·.2)) σ H (fun x H1 => gName i x σ H1 D.nx) := h
  refine wpAny_bind (thn (lcX_core (Qf := fun _ z => SP X pins D .next z) hs hf tka hc hN I hi ok hg he hfs h fun L C z m H' I' q hn f => ?_) fun _ z hq => wpAny_pure (wpAny_pure hq))
  show wpAny _ _ (assign (.Name y py) X.env (.ref L)) _ _ _
  refine wpAny_assign_Name (store_ok2 (v := V.ref L) I' hN hy (.inl hyl) rfl (fun z2 I2 ⟨a, sb, ha⟩ => ?_) (.inr hyl))
  obtain ⟨p0, p1, p2, p3, p4, p5⟩ := f
  have ne : C ≠ a := fun e => ha.elim (fun w => p1 (e.trans w)) fun w => p4 y a w e.symm
  exact ⟨m, hn.sameBut sb ne, fun g3 sb3 => ⟨_, H', I2.turned (t' := z2.toks) (fun b o hb e => (sb3.2 b hb).trans e) p0 p1 p3 p4 p5, q⟩⟩
end
end Fc

/-! As before, under the exceptions whose context is None; a comprehension's reading whose element raises. -/
namespace Fw
open PySem L2
section
variable {P : Program} {w : World} {K : PySem.W.Frag} {mg : Str → Option Value} {base : Heap}
theorem passXN {X : Cx} {E : XK} (tk : L2N.Takes X (fun cls d _ H => E cls d H)) : Passes (L2N.CX X.prog X.w) X E := L2N.passes_call tk fun _ _ _ _ h => h
theorem ok_objN {x qual : Str} {st : Stmt} {f : Addr} {fd : FuncData} {N ps : List Str} {k : Nat} {ρ : Type} {R : ρ → Hp → Hp → Prop} {α : Type} {args : α → List PyData} {pre : α → ρ → Prop} {post : α → ρ → PyData → ρ → Prop} {exc : α → ρ → Value → ρ → Prop}
    (F : Fun K x qual st f fd) (S : FnScope N ps (defScope st)) (len : ∀ a, (args a).length = ps.length)
    (body : ∀ (cdv : Value) (A : Around) (outer : List Env) (s : Shared) (H : Hp) (E : XK), Room k (A.deeper (PyProof.Rows.envOfC qual (defScope st) s.heap.objs.size f cdv)) →
      ∃ t, PSs (cxOf (L2N.CX P w) P w K mg base N qual (defScope st) f cdv A outer s H E) (defBody st) t ∧ ∀ a r, pre a r → SP K R E t (startE (args a) (N.length - ps.length)) r ⟨fun _ r' => post a r .none r', fun d r' => post a r d r', fun _ _ => False, fun _ _ => False, fun c r' => exc a r c r', fun _ _ => False⟩) :
    FnOk P w K mg base (L2N.CX P w) (k + 1) f fd ps (spX K R args pre post exc) := by
  refine okXN F S (fun vs H Q E h => ?_) (fun cdv A outer s H vs Q E hr h => ?_)
  · obtain ⟨G, M, a, r, p, hv, hp, _⟩ := h
    rw [hv.length]
    exact len a
  · obtain ⟨t, ht, hb⟩ := body cdv A outer s H E hr
    refine ⟨t, ht, ?_⟩
    obtain ⟨G, M, a, r, wf, hv, hp, q, qe⟩ := h
    have hs : L2.start N vs = vs.map some ++ List.replicate (N.length - ps.length) none := by unfold L2.start; rw [hv.length, len a]
    rw [hs]
    exact hb a r hp G M H _ G M H _ (Stp.refl _ _ _) (env_start hv) wf ⟨fun e r' σ G' M' H' hp' s' v' w' => q .non .none r' G' M' H' hp' s' w' .non, fun d r' v G' M' H' hp' s' w' hx => q v d r' G' M' H' hp' s' w' hx, fun _ _ _ _ _ _ z => z.elim, fun _ _ _ _ _ _ z => z.elim, fun c r' G' M' H' hp' s' w' => qe c r' G' M' H' hp' s' w', fun _ _ _ _ _ _ _ z => z.elim⟩
theorem ok_pureXN {x qual : Str} {st : Stmt} {f : Addr} {fd : FuncData} {N ps : List Str} {k : Nat} {α : Type} {args : α → List PyData} {pre : α → Prop} {res : α → PyData → Prop} {exc : α → Value → Prop}
    (F : Fun K x qual st f fd) (S : FnScope N ps (defScope st)) (len : ∀ a, (args a).length = ps.length)
    (body : ∀ (cdv : Value) (A : Around) (outer : List Env) (s : Shared) (H : Hp) (E : XK), Room k (A.deeper (PyProof.Rows.envOfC qual (defScope st) s.heap.objs.size f cdv)) →
      ∃ t, PSs (cxOf (L2N.CX P w) P w K mg base N qual (defScope st) f cdv A outer s H E) (defBody st) t ∧ ∀ (M0 : Hp) a, pre a → SP K (RM M0) E t (startE (args a) (N.length - ps.length)) () ⟨fun _ _ => res a .none, fun d _ => res a d, fun _ _ => False, fun _ _ => False, fun c _ => exc a c, fun _ _ => False⟩) :
    FnOk P w K mg base (L2N.CX P w) (k + 1) f fd ps (spPX K args pre res exc) := by
  refine okXN F S (fun vs H Q E h => ?_) (fun cdv A outer s H vs Q E hr h => ?_)
  · obtain ⟨G, M, a, p, hv, hp, _⟩ := h
    rw [hv.length]
    exact len a
  · obtain ⟨t, ht, hb⟩ := body cdv A outer s H E hr
    refine ⟨t, ht, ?_⟩
    obtain ⟨G, M, a, p, hv, hp, q, qe⟩ := h
    have hs : L2.start N vs = vs.map some ++ List.replicate (N.length - ps.length) none := by unfold L2.start; rw [hv.length, len a]
    rw [hs]
    refine hb M a hp G M H _ G M H _ (Stp.refl _ _ _) (env_start hv) ⟨p.1, p.2.1, p.2.2, rfl⟩ ⟨?_, ?_, fun _ _ _ _ _ _ z => z.elim, fun _ _ _ _ _ _ z => z.elim, ?_, fun _ _ _ _ _ _ _ z => z.elim⟩
    · intro e r σ G' M' H' hp' s' v' w'
      have e1 : M' = M := w'.res
      subst e1
      exact q .non .none G' H' hp' ⟨s', w'.gh, w'.mh, w'.dj⟩ .non
    · intro d r v G' M' H' hp' s' w' hx
      have e1 : M' = M := w'.res
      subst e1
      exact q v d G' H' hp' ⟨s', w'.gh, w'.mh, w'.dj⟩ hx
    · intro c r G' M' H' hp' s' w'
      have e1 : M' = M := w'.res
      subst e1
      exact qe c G' H' hp' ⟨s', w'.gh, w'.mh, w'.dj⟩
theorem ok_roomN {CR CK : Addr} {x qual : Str} {st : Stmt} {f : Addr} {fd : FuncData} {N ps : List Str} {k : Nat} {α : Type} {args : α → List PyData} {pre : α → Option RSt → Prop} {post : α → Option RSt → PyData → Option RSt → Prop} {exc : α → Option RSt → Value → Option RSt → Prop} (z : α → RSt)
    (hz : ∀ a r, pre a r → r = some (z a)) (F : Fun K x qual st f fd) (S : FnScope N ps (defScope st)) (len : ∀ a, (args a).length = ps.length)
    (body : ∀ (cdv : Value) (A : Around) (outer : List Env) (s : Shared) (H : Hp) (E : XK), Room k (A.deeper (PyProof.Rows.envOfC qual (defScope st) s.heap.objs.size f cdv)) →
      ∃ t, PSs (cxOf (L2N.CX P w) P w K mg base N qual (defScope st) f cdv A outer s H E) (defBody st) t ∧ ∀ a L b c r, pre a (some (z a)) → RoomAt CR CK (z a) L b c r → SP K (Rmf K) E t (startE (args a) (N.length - ps.length)) r
        ⟨fun _ r' => ∃ s' L' a' c', post a (some (z a)) .none (some s') ∧ RoomAt CR CK s' L' a' c' r', fun d r' => ∃ s' L' a' c', post a (some (z a)) d (some s') ∧ RoomAt CR CK s' L' a' c' r', fun _ _ => False, fun _ _ => False, fun e r' => ∃ s' L' a' c', exc a (some (z a)) e (some s') ∧ RoomAt CR CK s' L' a' c' r', fun _ _ => False⟩) :
    FnOk P w K mg base (L2N.CX P w) (k + 1) f fd ps (spX K (RO K CR CK) args pre post exc) := by
  refine FnOk.imp (ok_objN (R := Rmf K) (α := α × Addr × (Nat → Addr) × (Nat → KC)) (args := fun x => args x.1) (pre := fun x r => pre x.1 (some (z x.1)) ∧ RoomAt CR CK (z x.1) x.2.1 x.2.2.1 x.2.2.2 r)
    (post := fun x _ d r' => ∃ s' L' a' c', post x.1 (some (z x.1)) d (some s') ∧ RoomAt CR CK s' L' a' c' r') (exc := fun x _ e r' => ∃ s' L' a' c', exc x.1 (some (z x.1)) e (some s') ∧ RoomAt CR CK s' L' a' c' r') F S (fun a => len a.1) ?_) fun vs H Q E h => spX_room hz h
  intro cdv A outer s H E hr
  obtain ⟨t, h1, h2⟩ := body cdv A outer s H E hr
  exact ⟨t, h1, fun a r hp => h2 a.1 a.2.1 a.2.2.1 a.2.2.2 r hp.1 hp.2⟩
theorem ok_objFN {x qual : Str} {st : Stmt} {f : Addr} {fd : FuncData} {N ps : List Str} {k : Nat} {ρ : Type} {R : ρ → Hp → Hp → Prop} {α : Type} {args : α → List PyData} {pre : α → ρ → Prop} {post : α → ρ → List PyData → ρ → Prop} {exc : α → ρ → Value → ρ → Prop}
    (F : Fun K x qual st f fd) (S : FnScope N ps (defScope st)) (len : ∀ a, (args a).length = ps.length)
    (body : ∀ (cdv : Value) (A : Around) (outer : List Env) (s : Shared) (H : Hp) (E : XK), Room k (A.deeper (PyProof.Rows.envOfC qual (defScope st) s.heap.objs.size f cdv)) →
      ∃ t, PSs (cxOf (L2N.CX P w) P w K mg base N qual (defScope st) f cdv A outer s H E) (defBody st) t ∧ ∀ a r, pre a r → SP K R E t (startE (args a) (N.length - ps.length)) r ⟨fun _ _ => False, fun _ _ => False, fun _ _ => False, fun _ _ => False, fun c r' => exc a r c r', fun ds r' => post a r ds r'⟩) :
    FnOk P w K mg base (L2N.CX P w) (k + 1) f fd ps (spXF K R args pre post exc) := by
  refine okXN F S (fun vs H Q E h => ?_) (fun cdv A outer s H vs Q E hr h => ?_)
  · obtain ⟨G, M, a, r, p, hv, hp, _⟩ := h
    rw [hv.length]
    exact len a
  · obtain ⟨t, ht, hb⟩ := body cdv A outer s H E hr
    refine ⟨t, ht, ?_⟩
    obtain ⟨G, M, a, r, wf, hv, hp, q, qe⟩ := h
    have hs : L2.start N vs = vs.map some ++ List.replicate (N.length - ps.length) none := by unfold L2.start; rw [hv.length, len a]
    rw [hs]
    exact hb a r hp G M H _ G M H _ (Stp.refl _ _ _) (env_start hv) wf ⟨fun _ _ _ _ _ _ z => z.elim, fun _ _ _ _ _ _ z => z.elim, fun _ _ _ _ _ _ z => z.elim, fun _ _ _ _ _ _ z => z.elim, fun c r' G' M' H' hp' s' w' => qe c r' G' M' H' hp' s' w',
      fun ds r' l ws G' M' H' hp' s' w' h1 h2 h3 h4 h5 => q l ws ds r' G' M' H' hp' s' w' h1 h2 h3 h4 h5⟩
theorem ok_roomFN {CR CK : Addr} {x qual : Str} {st : Stmt} {f : Addr} {fd : FuncData} {N ps : List Str} {k : Nat} {α : Type} {args : α → List PyData} {pre : α → Option RSt → Prop} {post : α → Option RSt → List PyData → Option RSt → Prop} {exc : α → Option RSt → Value → Option RSt → Prop} (z : α → RSt)
    (hz : ∀ a r, pre a r → r = some (z a)) (F : Fun K x qual st f fd) (S : FnScope N ps (defScope st)) (len : ∀ a, (args a).length = ps.length)
    (body : ∀ (cdv : Value) (A : Around) (outer : List Env) (s : Shared) (H : Hp) (E : XK), Room k (A.deeper (PyProof.Rows.envOfC qual (defScope st) s.heap.objs.size f cdv)) →
      ∃ t, PSs (cxOf (L2N.CX P w) P w K mg base N qual (defScope st) f cdv A outer s H E) (defBody st) t ∧ ∀ a L b c r, pre a (some (z a)) → RoomAt CR CK (z a) L b c r → SP K (Rmf K) E t (startE (args a) (N.length - ps.length)) r
        ⟨fun _ _ => False, fun _ _ => False, fun _ _ => False, fun _ _ => False, fun e r' => ∃ s' L' a' c', exc a (some (z a)) e (some s') ∧ RoomAt CR CK s' L' a' c' r', fun ds r' => ∃ s' L' a' c', post a (some (z a)) ds (some s') ∧ RoomAt CR CK s' L' a' c' r'⟩) :
    FnOk P w K mg base (L2N.CX P w) (k + 1) f fd ps (spXF K (RO K CR CK) args pre post exc) := by
  refine okXN F S (fun vs H Q E h => ?_) (fun cdv A outer s H vs Q E hr h => ?_)
  · obtain ⟨G, M, a, r, p, hv, hp, _⟩ := h
    rw [hv.length]
    exact len a
  · obtain ⟨t, ht, hb⟩ := body cdv A outer s H E hr
    refine ⟨t, ht, ?_⟩
    obtain ⟨G, M, a, r, wf, hv, hp, q, qe⟩ := h
    have hs : L2.start N vs = vs.map some ++ List.replicate (N.length - ps.length) none := by unfold L2.start; rw [hv.length, len a]
    rw [hs]
    have e := hz _ _ hp
    subst e
    obtain ⟨L, a1, c1, r0, h1, h2⟩ := wf.res
    refine hb a L a1 c1 r0 hp h2 G M H _ G M H _ (Stp.refl _ _ _) (env_start hv) ⟨wf.gh, wf.mh, wf.dj, h1⟩ ⟨fun _ _ _ _ _ _ z => z.elim, fun _ _ _ _ _ _ z => z.elim, fun _ _ _ _ _ _ z => z.elim, fun _ _ _ _ _ _ z => z.elim, ?_, ?_⟩
    · rintro c r' G' M' H' ⟨s', L', a', c', p', h'⟩ s1 w'
      exact qe c (some s') G' M' H' p' s1 ⟨w'.gh, w'.mh, w'.dj, L', a', c', r', w'.res, h'⟩
    · rintro ds r' l ws G' M' H' ⟨s', L', a', c', p', h'⟩ s1 w' g1 g2 g3 g4 g5
      exact q l ws ds (some s') G' M' H' p' s1 ⟨w'.gh, w'.mh, w'.dj, L', a', c', r', w'.res, h'⟩ g1 g2 g3 g4 g5
end
section
variable {K : PySem.W.Frag} {ρ : Type} {R : ρ → Hp → Hp → Prop} {e : SE} {r : ρ} {te tl : TE} {E : XK}
theorem take_map_succ {f : PyData → PyData} {its : List PyData} {i : Nat} {d : PyData} (h : its[i]? = some d) : (its.take (i + 1)).map f = (its.take i).map f ++ [f d] := by
  rw [List.take_add_one, h, List.map_append]; rfl
/-- [f(x) for x in xs], where f raises but where ok holds -/
theorem evxf_lcX {its : List PyData} {j : Nat} (f : PyData → PyData) (ok : PyData → Prop) {PE : Value → ρ → Prop} (h : EvD K R tl e r (.list its)) (hz : its.length < sizeLine)
    (he : ∀ d, d ∈ its → EvX K R E te (e.set j (.dat d)) r (fun d' r' => ok d ∧ d' = f d ∧ r' = r) PE) : EvXF K R E (tLc (iList K tl) (gName j) tYes te [j]) e r (fun ds r' => (∀ d, d ∈ its → ok d) ∧ ds = its.map f ∧ r' = r) PE := fun B σ G M H v w Q q qe =>
  h B σ G M H v w _ fun x d r' G1 M1 H1 ⟨e1, e2⟩ s1 w1 hx => by
    subst e1 e2
    obtain ⟨a, xs, rfl, ha, rr⟩ := hx.lst_inv
    refine ⟨a, rfl, ⟨xs, SqL.of (w1.gh _ _ ha)⟩, fun D hD => ?_⟩
    refine lc_list (K := K) (a := a) (xs := xs) (fun i H' => Cs K R G1 M1 H1 r' D ((its.take i).map f) H' ∧ ∀ d, d ∈ its.take i → ok d) ⟨⟨G1, M1, [], (Stp.refl _ _ _).hid hD _, w1.hid (w1.gn hD) (w1.mn hD) _, hD, w1.gn hD, w1.mn hD, upd_same, .nil⟩, fun d hd => by rw [List.take_zero] at hd; cases hd⟩ ?_ ?_ ?_
    · rintro i H' _ ⟨⟨G', M', vs, s', w', _⟩, _⟩
      exact SqL.of (w'.gh _ _ (s'.gg _ _ ha))
    · rintro i y H' hy ⟨⟨G', M', vs, s', w', h0, g0, m0, hD', hv⟩, hok⟩
      obtain ⟨d, hd, ry⟩ := rr.of_get hy
      have hm : d ∈ its := List.mem_of_getElem? hd
      show wipe ((wipe σ [j]).set j (some y)) [j] = wipe σ [j] ∧ _
      rw [wipe_back, wipe_set]
      refine ⟨rfl, ?_⟩
      show (if true = true then te (σ.set j (some y)) H' (fun z H4 => ∃ acc, H4 D = some (.lst acc) ∧ acc.length < sizeLine ∧ (Cs K R G1 M1 H1 r' D ((its.take (i + 1)).map f) (upd H4 D (.lst (acc ++ [z]))) ∧ ∀ d, d ∈ its.take (i + 1) → ok d))
        else (Cs K R G1 M1 H1 r' D ((its.take (i + 1)).map f) H' ∧ ∀ d, d ∈ its.take (i + 1) → ok d))
      rw [if_pos rfl]
      have v2 : EnvO K B G' M' H' (σ.set j (some y)) (e.set j (.dat d)) := ((v.step s1).step s').setD (ry.mono s'.gg)
      refine he d hm B _ G' M' H' v2 w' _ (fun z d2 r2 G3 M3 H3 ⟨hk, e3, e4⟩ s3 w3 hz3 => ?_) fun c r2 G3 M3 H3 p s3 w3 => qe c r2 G3 M3 H3 p ((s1.trans s').trans s3) w3
      subst e3 e4
      have k1 := s3.fr D _ hD' m0
      have k2 := s3.ng D (some_ne hD') g0
      have k3 := s3.nm D (some_ne hD') m0
      have hlen : vs.length = ((its.take i).map f).length := hv.length
      have hil : i < its.length := (List.getElem?_eq_some_iff.mp hd).1
      refine ⟨vs, k1, by rw [hlen, List.length_map, List.length_take]; omega, ⟨G3, M3, vs ++ [z], (s'.trans s3).hid h0 _, w3.hid k2 k3 _, h0, k2, k3, upd_same, ?_⟩, fun d' hd' => ?_⟩
      · rw [take_map_succ hd]
        exact (hv.mono s3.gg).append (.one hz3)
      · rw [List.take_add_one, hd] at hd'
        rcases List.mem_append.mp hd' with y1 | y1
        · exact hok d' y1
        · have : d' = d := by simpa using y1
          rw [this]; exact hk
    · rintro H' ⟨⟨G', M', vs, s', w', h0, g0, m0, hD', hv⟩, hok⟩
      rw [rr.length, List.take_length] at hv hok
      exact q D vs _ r' G' M' H' ⟨hok, rfl, rfl⟩ (s1.trans s') w' (free_back s1 h0) g0 m0 hD' hv
end
end Fw

/-! except (A, B, ..) as x; the caught exception handed to a def. -/
namespace Fc
open PySem PySem.Spec PyProof.Rows L2
theorem fly_keep {B h h' : Heap} {l : List Env} {a : Addr} {Z : Obj → Prop} (f : HandSPX.FlyingZ B l a Z h) (k : ∀ b o, h.get? b = some o → h'.get? b = some o) : HandSPX.FlyingZ B l a Z h' := by
  obtain ⟨f1, f2, f3, oe, vs, T, oT, ts, e1, e2, e3, e4, e5, e6, e7, e8, e9⟩ := f
  exact ⟨fun b o e => k b o (f1 b o e), f2, f3.of_keeps fun b o e _ => ⟨o, k b o e, rfl⟩, oe, vs, T, oT, ts, k _ _ e1, e2, e3, e4, e5, e6, k _ _ e7, e8, e9⟩
/-- a clause's classes are asked: the state has more objects then, no others -/
def TestOk (X : Cx) (t : Expr) (cs : List Value) : Prop := ∀ (a : Addr) (pn : List (Addr × Obj)) (σ : St) (H : Hp) (s : Shared) (cls : Value) (b : Bool) (Q : Bool → Shared → Prop) (E : Value → Shared → Prop), Inv (X.suite a pn) [] σ H s →
  PySem.W.Looks (model X.prog X.w) s.heap (typeOf (.ref a)) cls → PySem.W.exmAny X.K cls cs = some b → (∀ h', (∀ q o, s.heap.get? q = some o → h'.get? q = some o) → Q b { s with heap := h' }) →
    wpAny (model X.prog X.w) (X.A.mark (some (.ref a))) (eval t X.env) (fun c z => wpAny (model X.prog X.w) (X.A.mark (some (.ref a))) (excMatches (.ref a) c) Q E z) E s
section
variable {X : Cx}
theorem name_at {x : Str} {c : Value} {np : Pos} (hc : Names X x c) {a : Addr} {pn : List (Addr × Obj)} {σ : St} {H : Hp} {s : Shared} (I : Inv (X.suite a pn) [] σ H s) {Q : Value → Shared → Prop} {E : Value → Shared → Prop} (q : Q c s) :
    wpAny (model X.prog X.w) (X.A.mark (some (.ref a))) (eval (.Name x np) X.env) Q E s := by
  obtain ⟨g1, g2, g3 | ⟨g3, g4, g5⟩⟩ := hc
  · exact ld_glob (X := X.suite a pn) I g1 g3 q g2
  · exact ld_blt (X := X.suite a pn) I g1 g3 g4 q g5 g2
theorem test2 {x y : Str} {c d : Value} {p1 p2 pos : Pos} {k : Nat} (n1 : Names X x c) (n2 : Names X y d) : TestOk X (.Tuple [.Name x p1, .Name y p2] k pos) [c, d] := fun a pn σ H s cls b Q E I L he q => by
  refine wpAny_Tuple (wpAny_items_cons (name_at n1 I (wpAny_items_cons (name_at n2 I (wpAny_items_nil ⟨by size_fits, ?_⟩)))))
  have kp : ∀ r o, s.heap.get? r = some o → (s.heap.push { cls := .type "tuple", data := .seq [c, d].toArray }).get? r = some o := fun _ _ z => Heap.get?_push_of_some _ z
  exact (PySem.W.exm_tup2 (I.kIn.keeps kp) (L.keeps kp) (Heap.get?_push_size s.heap rfl) he).here (q _ kp)
theorem test3 {x y z : Str} {c d f : Value} {p1 p2 p3 pos : Pos} {k : Nat} (n1 : Names X x c) (n2 : Names X y d) (n3 : Names X z f) : TestOk X (.Tuple [.Name x p1, .Name y p2, .Name z p3] k pos) [c, d, f] := fun a pn σ H s cls b Q E I L he q => by
  refine wpAny_Tuple (wpAny_items_cons (name_at n1 I (wpAny_items_cons (name_at n2 I (wpAny_items_cons (name_at n3 I (wpAny_items_nil ⟨by size_fits, ?_⟩)))))))
  have kp : ∀ r o, s.heap.get? r = some o → (s.heap.push { cls := .type "tuple", data := .seq [c, d, f].toArray }).get? r = some o := fun _ _ z => Heap.get?_push_of_some _ z
  exact (PySem.W.exm_tup3 (I.kIn.keeps kp) (L.keeps kp) (Heap.get?_push_size s.heap rfl) he).here (q _ kp)
end
/-- what the clause wishes of the body's exceptions: it catches all of them -/
def wAsT (K : PySem.W.Frag) (m : Nat) (cs : List Value) (i : Nat) (ts : Addr → Value → Option Addr → TS) (D : Ends) : WX := fun cls d σ H => PySem.W.exmAny K cls cs = some true ∧
  (σ.length = m → ∀ a, H a = none → ts a cls d { nx := fun σ' H' => D.nx (σ'.set i none) H', rt := D.rt, bk := fun σ' H' => D.bk (σ'.set i none) H', ct := fun σ' H' => D.ct (σ'.set i none) H' } (σ.set i (some (.ref a))) H)
theorem ps_try_asT {X : Cx} {t : Expr} {n : Str} {cs : List Value} {i : Nat} {body suite : List Stmt} {b₀ : Stmt} {pos pos' : Pos} {tb : WX → TS} {ts : Addr → Value → Option Addr → TS} (hs : X.stack = X.env :: X.outer) (hf : X.env.frame = some X.env.locals) (hN : X.N.Nodup)
    (hi : X.N[i]? = some n) (hln : X.env.kindOf n = some .local) (hc : TestOk X t cs)
    (hb : ∀ (W : WX) (pn : List (Addr × Obj)) (xe : Value → Shared → Prop), L2N.Takes (X.tr pn xe) W → PassesOwn (model X.prog X.w) X.A X.env xe → PSs (X.tr pn xe) body (tb W))
    (hsu : ∀ (a : Addr) (oe : Obj) (cls : Value) (d : Option Addr) (pn : List (Addr × Obj)), L2N.Zn cls d oe → (∃ vs, oe.data = .fields vs) → PSs (X.suite a ((a, oe) :: pn)) (b₀ :: suite) (ts a cls d)) :
    PS X (.Try body [.ExceptHandler (some t) (some n) (b₀ :: suite) pos'] [] [] pos) (fun D σ H => tb (wAsT X.K X.N.length cs i ts D) D σ H) := by
  refine ⟨fun pins s σ H D I h => ?_⟩
  have ok := I.ok
  have hA : X.A.frames = some (X.env :: X.outer) := ok.frames.trans (congrArg some hs)
  have loc : Loc X.env.scope n := Or.inl hln
  let xe : Value → Shared → Prop := fun e z1 => wpAny (model X.prog X.w) X.A (noteFrame e X.env) (fun _ z2 => wpAny (model X.prog X.w) X.A (setFlight e none) (fun _ z3 =>
    wpAny (model X.prog X.w) X.A (handleBy e X.env [.ExceptHandler (some t) (some n) (b₀ :: suite) pos']) (SP X pins D) X.xe z3) X.xe z2) X.xe z1
  have caught : L2N.Takes (X.tr (X.pn ++ pins) xe) (wAsT X.K X.N.length cs i ts D) := by
    rintro u z ⟨a, B, sI, pins', σ', H', cls, d, rfl, J', nb, up, sky, na, os, ag, hex, hyes⟩
    have J : Inv X pins σ' H' sI := J'.ofTry ok
    have sky1 : Sky B (X.env :: X.outer) a (L2N.Zn cls d) X.env.locals z.heap := by rw [← hs]; exact sky
    show wpAny (model X.prog X.w) X.A (noteFrame (.ref a) X.env) _ _ _
    refine L2N.Sky.land L2N.Zn.steady hA hf sky1 fun h3 fl3 up3 => ?_
    have J3 : Inv X pins σ' H' { z with heap := h3 } := J.landed nb fl3.1 (up.trans up3) os ag
    obtain ⟨o3, v3, g3, z3, d3⟩ := fl3.there
    have off : a ∉ frs (X.env :: X.outer) := fun hm => by
      obtain ⟨_, o', e', nf⟩ := fl3.2.2.1.mem hm
      rw [g3] at e'
      cases e'
      exact nf _ d3
    have nL : a ≠ X.env.locals := fun y => off (List.mem_filterMap.mpr ⟨X.env, List.mem_cons_self, by rw [hf, y]⟩)
    have nF : a ∉ X.fs := fun hm => by
      obtain ⟨e, he, q⟩ := List.mem_filterMap.mp hm
      exact off (List.mem_filterMap.mpr ⟨e, List.mem_cons_of_mem _ he, q⟩)
    have S3 := J3.suite g3 d3 na nL nF
    have LT : PySem.W.Looks (model X.prog X.w) h3 (typeOf (.ref a)) cls := fun A Q E s k q => wpAny_typeOf_ref (k _ _ g3) (by rw [z3.1]; exact q)
    refine wpAny_handleBy_cons (codeAny_handlers_test (hc a _ _ _ _ cls true _ _ S3 LT hex fun h5 kp => ?_)) (by intro q; cases q)
    have fl5 := fly_keep fl3 kp
    have up5 : sI.heap.UpToSlots h5 := (up.trans up3).trans (Heap.UpToSlots.of_keeps kp)
    refine codeAny_handlers_suite_as ?_
    refine HandSPX.lands_againZ fl5 fun h4 fl4 up4 => ?_
    have J4 : Inv X pins σ' H' { z with heap := h4 } := J.landed nb fl4.1 (up5.trans up4) os ag
    obtain ⟨o4, v4, g4, z4, d4⟩ := fl4.there
    have S4 := J4.suite g4 d4 na nL nF
    refine store_ok (X := X.suite a ((a, o4) :: (X.pn ++ pins))) (v := .ref a) S4 hN hi loc rfl (fun y5 S5 => ?_) (.inr hln)
    refine wpAny_mono ((hsu a o4 cls d (X.pn ++ pins) z4 ⟨_, d4⟩).run [] y5 _ H' _ S5 (hyes J.len a na)) (fun f y6 q6 => ?_) fun _ _ y => y.elim
    have shut : ∀ {σ6 : St} {H6 : Hp} {Q : Shared → Prop}, Inv (X.suite a ((a, o4) :: (X.pn ++ pins))) [] σ6 H6 y6 → (∀ y7, Inv X pins (σ6.set i none) H6 y7 → Q y7) →
        wpAny (model X.prog X.w) X.A (do bindName X.env n .none; unbindBehindTheSuite X.env n pos') (fun _ y7 => Q y7) X.xe y6 := fun {σ6 H6 Q} S6 k => gone_ok (S6.unsuite ok) hN hi hln k
    cases f with
    | ret u =>
      obtain ⟨w6, σ6, H6, S6, r6, p6⟩ := q6
      exact shut S6 fun y7 J7 => ⟨_, _, _, J7, r6, p6⟩
    | next =>
      obtain ⟨σ6, H6, S6, p6⟩ := q6
      exact shut S6 fun y7 J7 => ⟨_, _, J7, p6⟩
    | brk =>
      obtain ⟨σ6, H6, S6, p6⟩ := q6
      exact shut S6 fun y7 J7 => ⟨_, _, J7, p6⟩
    | cont =>
      obtain ⟨σ6, H6, S6, p6⟩ := q6
      exact shut S6 fun y7 J7 => ⟨_, _, J7, p6⟩
  refine wpAny_Try_except (wpAny_mono ((hb (wAsT X.K X.N.length cs i ts D) (X.pn ++ pins) xe caught PassesOwn.looking).run [] s σ H D (I.toTry _) h) (fun f z q => ?_) fun e z y => y)
  cases f with
  | ret u =>
    obtain ⟨v, σ', H', J, r, q⟩ := q
    exact ⟨v, σ', H', J.ofTry ok, r, q⟩
  | next =>
    obtain ⟨σ', H', J, q⟩ := q
    exact wpAny_execs_nil ⟨σ', H', J.ofTry ok, q⟩
  | brk =>
    obtain ⟨σ', H', J, q⟩ := q
    exact ⟨σ', H', J.ofTry ok, q⟩
  | cont =>
    obtain ⟨σ', H', J, q⟩ := q
    exact ⟨σ', H', J.ofTry ok, q⟩
end Fc

/-! A def that the caught exception is handed to: its promise is made for that exception p. -/
namespace Fc
open PySem PySem.Spec PyProof.Rows L2
open L2H (Hot1 PinOk RoomH cxH)
structure FnHp (P : Program) (w : World) (K : PySem.W.Frag) (mg : Str → Option Value) (base : Heap) (k : Nat) (f : Addr) (fd : FuncData) (ps : List Str) (p : Addr × Obj) (sp : Sp) : Prop where
  len : ∀ vs H Q E, sp vs H Q E → vs.length = ps.length
  run : ∀ (A : Around) (outer : List Env) (s : Shared) (H : Hp) (args : Args) (us : List Value) (vs : List V) (Q : VK) (E : XK), RoomH k A → Hot1 A p → PinOk outer H s p → Env0 P w K mg base A outer s H → BindsTo s fd args (ps.zip us) → Vals vs us → sp vs H Q E →
    codeAny (model P w) A (.call (.ref f) args) (CR CX0 outer P w H s Q E) s
section
variable {P : Program} {w : World} {K : PySem.W.Frag} {mg : Str → Option Value} {base : Heap}
theorem fn_ofHp {k : Nat} {x qual : Str} {st : Stmt} {f : Addr} {fd : FuncData} {N ps : List Str} {p : Addr × Obj} {sp : Sp} (F : Fun K x qual st f fd) (S : FnScope N ps (defScope st)) (len : ∀ vs H Q E, sp vs H Q E → vs.length = ps.length)
    (body : ∀ (cdv : Value) (A : Around) (outer : List Env) (s : Shared) (H : Hp) (vs : List V) (Q : VK) (E : XK), Hot1 A p → RoomH k (A.deeper (envOfC qual (defScope st) s.heap.objs.size f cdv)) → sp vs H Q E →
      ∃ t, PSs (cxH CX0 P w K mg base N qual (defScope st) f cdv A outer s H E p) (defBody st) t ∧ t { nx := fun _ H' => Q .non H', rt := Q } (L2.start N vs) H) : FnHp P w K mg base (k + 1) f fd ps p sp := by
  obtain ⟨oc, od, kV, doc, pm, an, cdv, ct, osl, rfl, lk, hcd⟩ := F.ex
  refine ⟨len, fun A outer s H args us vs Q E hr hot pin e0 hb r hsp => ?_⟩
  have lenv := len _ _ _ _ hsp
  have up : ∀ b o, base.get? b = some o → s.heap.get? b = some o := fun b o e => (e0.bs b o e).1
  have KX : K.In s.heap := e0.mod.kin.keeps up
  have kinds : ∀ y ∈ ps.zip us, (defScope st).names.lookup y.1 = some .local ∨ ((defScope st).names.lookup y.1 = some .cell ∧ ((cellsFrom (s.heap.objs.size + 1) (defScope st).names []).lookup y.1).isSome = true) := fun y hy =>
    (S.par y.1 (List.of_mem_zip (a := y.1) (b := y.2) hy).1).elim Or.inl fun q => Or.inr ⟨q, PySem.W.cellsFrom_some _ _ _ (.inl q)⟩
  refine codeAny_call_function hr.depth (KX _ _ lk) rfl S.co S.gen rfl (PySem.W.codeRec_of KX hcd) (hb _ _ _ _ ?_)
  refine wpAny_newFunctionEnv_cells S.kind kinds fun env he z1 y => ?_
  subst he
  refine ⟨(e0.mod.nolimit.keeps up).keeps y.toInCall.keep, codeAny_func ?_⟩
  obtain ⟨t, ht, hq⟩ := body cdv A outer s H vs Q E hot (hr.deeper _) hsp
  have I := L2H.inv_startH (CX := CX0) (E := E) S pin e0 lenv r y
  refine wpAny_mono (ht.run [] z1 _ H _ I hq) (fun fl z hs => ?_) fun _ _ q => q
  cases fl with
  | ret u =>
    obtain ⟨v, σ', H', J, rv, q⟩ := hs
    exact ⟨v, H', J.os, J.bare, J.base, J.hok, rv, q⟩
  | next =>
    obtain ⟨σ', H', J, q⟩ := hs
    exact ⟨V.non, H', J.os, J.bare, J.base, J.hok, rfl, q⟩
  | brk => exact hs.elim fun _ ⟨_, _, q⟩ => q.elim
  | cont => exact hs.elim fun _ ⟨_, _, q⟩ => q.elim
end
section
variable {X : Cx} {k : Nat} {f : Addr} {fd : FuncData} {ps : List Str} {p : Addr × Obj} {sp : Sp} {x : Str} {q pos : Pos} {e : Expr} {es : List Expr} {t : TA}
theorem pe_callHp (F : FnHp X.prog X.w X.K X.mg X.base k f fd ps p sp) (hr : RoomH k X.A) (hot : Hot1 X.A p) (hp : p ∈ X.pn) (hg : Gl X x) (hm : X.mg x = some (.ref f)) (hk : PySem.W.keepIn X.K (.ref f) = true) (hb : Binds X.K fd ps [])
    (ha : PA X (e :: es) t) (hdb : (x == ("__debug__" : Str)) = false := by decide) (he : starEach (e :: es) X.env = (false, eval e X.env) :: starEach es X.env := by rfl) (hpl : (backTo pos (starEach es X.env)).any (·.1) = false := by rfl) :
    PE X (.Call (.Name x q) (e :: es) [] pos) (tCallS sp (fun _ => E0) t) := by
  refine ⟨fun pins s σ H Q I h => ?_⟩
  refine wpAny_Call_Name_kw (ld_glob I hg hm ?_ hdb)
  refine PySem.W.callWith_K (h₀ := X.base) I.ok.mod.kin hk (thn (ha.run pos pins s σ H _ I h) fun us z ⟨vs, H1, I1, r, q⟩ => ⟨I1.kIn, ?_⟩) he hpl
  have lu : us.length = ps.length := by rw [← r.length]; exact F.len _ _ _ _ q
  have b := hb z us I1.kIn (by rw [List.append_nil]; exact lu)
  rw [List.append_nil] at b
  have y := I1.pin p (List.mem_append_left _ hp)
  have pin : PinOk X.stack H1 z p := ⟨y.1, y.2.1, fun hm => (List.mem_cons.mp (I1.stkSub p.1 hm)).elim y.2.2.1 y.2.2.2.1, y.2.2.2.2⟩
  refine wpAny_call (codeAny_mono (F.run X.A X.stack z H1 ⟨us, []⟩ us vs Q E0 hr hot pin I1.env0 b r q) fun r z2 hq => ?_)
  cases r with
  | error _ => exact hq.elim
  | ok fl => cases fl with
    | ret u => exact I1.after hq
    | next => exact hq.elim
    | brk => exact hq.elim
    | cont => exact hq.elim
end
section
variable {X : Cx} {CX : CXT} {k : Nat} {f C : Addr} {fd : FuncData} {ps : List Str} {sp : Sp} {E : L2.St → XK} {m : Str} {pos apos : Pos} {e o : Expr} {es : List Expr} {ta : TE} {t : TA}
/-- o.m(e, ..) where slots are read behind what it raises -/
theorem pe_methS {pl : Sem Bool} (he : PE X o ta) (c : Cls X.K C) (hm : Meth X.K C m f) (F : FnOk X.prog X.w X.K X.mg X.base CX k f fd ps sp) (hr : Room k X.A) (hb : Binds X.K fd ps []) (hx : ∀ σ, PassesAt CX X σ (E σ)) (ha : PA X (e :: es) t)
    (hst : starEach (e :: es) X.env = (false, eval e X.env) :: starEach es X.env := by rfl) (hpl : (backTo pos (starEach es X.env)).any (·.1) = false := by rfl)
    (ht : eval (.Call (.Attribute o m apos) (e :: es) [] pos) X.env = (do
      let ov ← eval o X.env
      standAt apos.atName
      let (f, first) ← holding [ov] (getMethod ov m pl)
      callWith pos f first (backTo pos (starEach (e :: es) X.env)) (backToKw pos (keywordEach [] X.env))) := by rfl) :
    PE X (.Call (.Attribute o m apos) (e :: es) [] pos) (L2H.tMethH C m sp E ta t) := by
  refine ⟨fun pins s σ H Q I h => PySem.W.methodCall_KW (pl := pl) (thn (he.run pins s σ H _ I h) fun u z ⟨x, H1, I1, rx, a, dx, fs, ex, ea, l, q⟩ => ?_) ht⟩
  subst ex
  obtain rfl : u = Value.ref a := rx
  refine getmeth_ok I1 ea c hm l (PySem.W.callWith_K (first := [.ref a]) (h₀ := X.base) I.ok.mod.kin hm.kp (thn (ha.run pos pins z σ H1 _ I1 q) fun us z2 ⟨vs, H2, I2, r, q2⟩ => ⟨I2.kIn, ?_⟩) hst hpl)
  exact run_fnS (us := .ref a :: us) (vs := .ref a :: vs) F hr hb (hx σ) I2 (.cons rfl r) q2
end
theorem call_isP {X : Cx} {a D : Addr} {oe : Obj} (C : ExcC X.K D) (hm : (a, oe) ∈ X.pn) (hz : Zc (.ref D) none oe) (hf : ∃ vs, oe.data = .fields vs) : CallR X (.builtin "isinstance") (rIsE X.K D a) := by
  intro pins s σ H xs us Q I r h
  obtain ⟨c, cv, b, rfl, hcv, e, q⟩ := h
  obtain ⟨u1, u2, rfl, r1, r2⟩ := vals2 r
  cases r1
  have ec := hcv _ r2
  subst ec
  obtain ⟨get, _⟩ := I.pin (a, oe) (List.mem_append_left _ hm)
  obtain ⟨vs, hv⟩ := hf
  have J : PySem.W.InstAt s.heap a oe D none := by
    obtain ⟨oc, od, dt, sl⟩ := oe
    obtain ⟨h1, h2⟩ := hz
    dsimp only at h1 h2 hv
    subst h1 h2 hv
    exact ⟨get, rfl, rfl, trivial⟩
  exact PySem.W.kia_one (PySem.W.handS_kitx_exc C.hg C.hk C.hs C.hd C.ha C.hn C.ht C.hm) I.kIn J e (fun z => nomatch z) fun tk => ⟨.bl b, H, I.kept (t' := tk) fun _ _ z => z, rfl, q⟩
end Fc

/-! Readings of the clauses with a tuple of classes, and of the def that tells the exception's kind. -/
namespace Fw
open PySem L2
theorem ok_pureHp {P : Program} {w : World} {K : PySem.W.Frag} {mg : Str → Option Value} {base : Heap} {x qual : Str} {st : Stmt} {f : Addr} {fd : FuncData} {N ps : List Str} {k : Nat} {p : Addr × Obj} {α : Type} {args : α → List PyData} {pre : α → Prop} {res : α → PyData → Prop}
    (F : Fun K x qual st f fd) (S : FnScope N ps (defScope st)) (len : ∀ a, (args a).length = ps.length)
    (body : ∀ (cdv : Value) (A : Around) (outer : List Env) (s : Shared) (H : Hp) (E : XK), L2H.Hot1 A p → L2H.RoomH k (A.deeper (PyProof.Rows.envOfC qual (defScope st) s.heap.objs.size f cdv)) →
      ∃ t, PSs (L2H.cxH CX0 P w K mg base N qual (defScope st) f cdv A outer s H E p) (defBody st) t ∧ ∀ (M0 : Hp) a, pre a → SP K (RM M0) E t (startE (args a) (N.length - ps.length)) () ⟨fun _ _ => False, fun d _ => res a d, fun _ _ => False, fun _ _ => False, fun _ _ => False, fun _ _ => False⟩) :
    Fc.FnHp P w K mg base (k + 1) f fd ps p (spD K args pre res) := by
  refine Fc.fn_ofHp F S (fun vs H Q E h => ?_) (fun cdv A outer s H vs Q E hot hr h => ?_)
  · obtain ⟨G, M, a, g, hv, hp, _⟩ := h
    rw [hv.length]
    exact len a
  · obtain ⟨t, ht, hb⟩ := body cdv A outer s H E hot hr
    refine ⟨t, ht, ?_⟩
    obtain ⟨G, M, a, g, hv, hp, q⟩ := h
    have hs : L2.start N vs = vs.map some ++ List.replicate (N.length - ps.length) none := by unfold L2.start; rw [hv.length, len a]
    rw [hs]
    refine hb M a hp G M H _ G M H _ (Stp.refl _ _ _) (env_start hv) ⟨g.1, g.2.1, g.2.2, rfl⟩ ⟨fun _ _ _ _ _ _ z => z.elim, ?_, fun _ _ _ _ _ _ z => z.elim, fun _ _ _ _ _ _ z => z.elim, fun _ _ _ _ _ z => z.elim, fun _ _ _ _ _ _ _ z => z.elim⟩
    intro d r v G' M' H' hp' s' w' hx
    have e1 : M' = M := w'.res
    subst e1
    exact q v d G' H' hp' ⟨s', w'.gh, w'.mh, w'.dj⟩ hx
theorem hot1N {A : Around} {a : Addr} {oe : Obj} {cls : Value} {d : Option Addr} (hz : L2N.Zn cls d oe) (hf : ∃ vs, oe.data = .fields vs) : L2H.Hot1 (A.mark (some (.ref a))) (a, oe) := by
  obtain ⟨vs, e⟩ := hf
  exact ⟨rfl, vs, e, hz.2.2 vs e⟩
section
variable {K : PySem.W.Frag} {ρ : Type} {R : ρ → Hp → Hp → Prop} {e : SE} {r : ρ} {P : Post ρ} {E : XK}
theorem sp_tryT {tb : WX → TS} {ts : Addr → Value → Option Addr → TS} {m : Nat} {cs : List Value} {i : Nat} (PE : Value → ρ → Prop) (h : ∀ W : WX, SP K R (fun cls d H => ∀ σ, W cls d σ H) (tb W) e r { P with ex := PE })
    (hx : ∀ c r', PE c r' → PySem.W.exmAny K c cs = some true ∧ ∀ a, SP K R E (ts a c none) ((List.replicate m .hid).set i (.dat (objD a))) r' ⟨fun _ _ => False, P.rt, fun _ _ => False, fun _ _ => False, P.ex, P.fr⟩) :
    SP K R E (fun D σ H => tb (Fc.wAsT K m cs i ts D) D σ H) e r P := fun G0 M0 H0 σ G M H D s v w q =>
  h (Fc.wAsT K m cs i ts D) G0 M0 H0 σ G M H D s v w ⟨q.nx, q.rt, q.bk, q.ct, fun c r' G' M' H' p s' w' σ' => ⟨(hx c r' p).1, fun hl a _ => by
    have v0 := env_hid (K := K) (B := H0) (G := G') (M := M') (H := H') σ'
    rw [hl] at v0
    exact (hx c r' p).2 a G0 M0 H0 _ G' M' H' _ s' (v0.setD .obj) w' ⟨fun _ _ _ _ _ _ z => z.elim, q.rt, fun _ _ _ _ _ _ z => z.elim, fun _ _ _ _ _ _ z => z.elim, q.ex, q.fr⟩⟩, q.fr⟩
/-- a call in a try, the first clause catches, the slots are as they were -/
theorem sp_tryM {te : WX → TE} {C : Value} {ts : Addr → Value → Option Addr → TS} {l : List (Value × (Addr → Value → Option Addr → TS))} {Wout : WX} {Pe : PyData → ρ → Prop} {PE : Value → ρ → Prop}
    (h : ∀ (W : WX) (B : Hp) (σ : St) (G M H : Hp), EnvO K B G M H σ e → Wf R G M H r → ∀ Q : VK, (∀ v d r' G' M' H', Pe d r' → Stp G M H G' M' H' → Wf R G' M' H' r' → Rp K G' v d → Q v H') → (∀ c r' G' M' H', PE c r' → Stp G M H G' M' H' → Wf R G' M' H' r' → W c none σ H') → te W σ H Q)
    (k : ∀ d r', Pe d r' → P.nx e r') (kx : ∀ c r', PE c r' → PySem.W.exmOne K c C = some true ∧ ∀ a, SP K R E (ts a c none) e r' P) : SP K R E (fun D σ H => (fun W : WX => tDrop (te W)) (wMany K Wout D ((C, ts) :: l)) D σ H) e r P := fun G0 M0 H0 σ G M H D s v w q =>
  h _ H0 σ G M H v w _ (fun x d r' G' M' H' p s' w' _ => q.nx e r' σ G' M' H' (k d r' p) (s.trans s') (v.step s') w') fun c r' G' M' H' p s' w' => ⟨true, (kx c r' p).1, fun _ a _ => (kx c r' p).2 a G0 M0 H0 σ G' M' H' D (s.trans s') (v.step s') w' q, fun z => nomatch z⟩
theorem evw_meth {α : Type} {args : α → List PyData} {pre : α → ρ → Prop} {post : α → ρ → PyData → ρ → Prop} {exc : α → ρ → Value → ρ → Prop} {ta : TE} {t : TA} {ds : List PyData} {p C : Addr} {m : Str} (a : α) (ho : EvD K R ta e r (objD p)) (hi : ∀ G M, R r G M → ∃ dx fs, M p = some (.ins C dx fs) ∧ fs.lookup m = none)
    (h : EvA K R t e r ds) (hs : args a = objD p :: ds) (hp : pre a r) (W : WX) (B : Hp) (σ : St) (G M H : Hp) (v : EnvO K B G M H σ e) (w : Wf R G M H r) (Q : VK)
    (q : ∀ v d r' G' M' H', post a r d r' → Stp G M H G' M' H' → Wf R G' M' H' r' → Rp K G' v d → Q v H') (qe : ∀ c r' G' M' H', exc a r c r' → Stp G M H G' M' H' → Wf R G' M' H' r' → W c none σ H') : L2H.tMethH C m (spX K R args pre post exc) (WE W) ta t σ H Q :=
  ho B σ G M H v w _ fun x d' r' G1 M1 H1 ⟨e1, e2⟩ s1 w1 hx => by
    subst e1 e2
    obtain ⟨dx, fs, h1, h2⟩ := hi G1 M1 w1.res
    refine ⟨p, dx, fs, hx.obj_inv, w1.mh _ _ h1, h2, h B σ G1 M1 H1 (v.step s1) w1 _ fun vs G2 M2 H2 s2 w2 hv => ?_⟩
    exact ⟨G2, M2, a, _, w2, by rw [hs]; exact .cons (hx.mono s2.gg) hv, hp, fun x d r' G3 M3 H3 p s3 w3 hx => q x d r' G3 M3 H3 p ((s1.trans s2).trans s3) w3 hx, fun c r' G3 M3 H3 p s3 w3 => qe c r' G3 M3 H3 p ((s1.trans s2).trans s3) w3⟩
theorem ev_intB {ta : TE} {b : Bool} (h : EvD K R ta e r (.bool b)) : EvD K R (tCB (fun xs H Q => (∃ i, xs = [.int i] ∧ Q (.int i) H) ∨ ∃ k, xs = [.bl k] ∧ Q (.int (if k then 1 else 0)) H) (tCons ta tNil)) e r (.int (if b then 1 else 0)) := ev_cb (ea_cons h ea_nil) cbIntB
theorem ev_intE {D a : Addr} {tv : TE} {c : V} {cv : Value} {b : Bool} (hv : EvD K R tv e r (objD a)) (hcv : ∀ u, RelV c u → u = cv) (hk : PySem.W.kitOne K (.ref D) cv = some b) :
    EvD K R (tCB (fun xs H Q => (∃ i, xs = [.int i] ∧ Q (.int i) H) ∨ ∃ k, xs = [.bl k] ∧ Q (.int (if k then 1 else 0)) H) (tCons (tCB (rIsE K D a) (tCons tv (tCons (tC c) tNil))) tNil)) e r (.int (if b then 1 else 0)) := ev_intB (ev_isE hv hcv hk)
end
theorem exm3_1 {K : PySem.W.Frag} {c x y z : Value} {b d f : Bool} (h1 : PySem.W.exmOne K c x = some b) (h2 : PySem.W.exmOne K c y = some d) (h3 : PySem.W.exmOne K c z = some f) (e : (b || (d || (f || false))) = true) : PySem.W.exmAny K c [x, y, z] = some true := by
  unfold PySem.W.exmAny PySem.W.exmAny PySem.W.exmAny PySem.W.exmAny
  rw [h1, h2, h3]
  exact congrArg some e
theorem exm2_1 {K : PySem.W.Frag} {c x y : Value} {b d : Bool} (h1 : PySem.W.exmOne K c x = some b) (h2 : PySem.W.exmOne K c y = some d) (e : (b || (d || false)) = true) : PySem.W.exmAny K c [x, y] = some true := by
  unfold PySem.W.exmAny PySem.W.exmAny PySem.W.exmAny
  rw [h1, h2]
  exact congrArg some e
abbrev kindN (b1 b2 b3 b4 b5 b6 : Bool) : Int := (((if b1 then 1 else 0) + 2 * (if b2 then 1 else 0)) + 4 * (if b3 then 1 else 0) + 8 * (if b4 then 1 else 0) + 16 * (if b5 then 1 else 0)) + 32 * (if b6 then 1 else 0)
end Fw

/-! The room that leads in the law of what is refused: plain Lean. -/
namespace Fw
open PySem L2
abbrev R3 : List Ent := [(1, "one"), (1, "two"), (1, "three")]
def rowJ (h j : Nat) : Nat → List Ent := fun o => if o ≤ j then R3.take (2 + h) else []
def ahJ (h j : Nat) : Nat → Int := fun o => if o ≤ j then ((2 + h : Nat) : Int) else 0
def rowK (j : Nat) : Nat → List Ent := fun o => if o ≤ j then R3 else R3.take 2
def ahK (j : Nat) : Nat → Int := fun o => if o ≤ j then 3 else 2
theorem updN_if {β : Type} {a b x : β} {j : Nat} (hx : x = a) : updN (fun o => if o ≤ j then a else b) (j + 1) x = fun o => if 0 < o ∧ o ≤ j + 1 ∨ o ≤ j then a else b := by
  funext o
  by_cases c : o = j + 1
  · rw [c, updN_same, if_pos (.inl ⟨by omega, Nat.le_refl _⟩), hx]
  · rw [updN_ne c]
    by_cases d : o ≤ j
    · rw [if_pos d, if_pos (.inr d)]
    · rw [if_neg d, if_neg (by omega)]
theorem upd_to {β : Type} {a b x : β} {j i n : Nat} (hx : x = a) (hi : i < n) (hz : i ≠ 0) : updN (fun o => if o ≤ j then a else b) (j + 1) x i = if i ≤ j + 1 then a else b := by
  rw [updN_if hx]
  by_cases d : i ≤ j + 1
  · rw [if_pos d]; exact if_pos (.inl ⟨by omega, d⟩)
  · rw [if_neg d]; exact if_neg (by omega)
section
variable {n h j : Nat} {z : Int} {s : RSt}
theorem lv_start (h1 : 1 ≤ n) (h9 : n ≤ 9) (p : Addr) : Lv n 0 1 [] 0 (fun _ => []) (fun _ => 0) (fun _ => 0) ((⟨p, n, fun _ => {}⟩ : RSt).stand 0 (rgI n)) := by
  have L := fun {i : Nat} (hi : i < n) => live_stand' h1 h9 hi
  have e : ((⟨p, n, fun _ => {}⟩ : RSt).stand 0 (rgI n)).st = standSt n (fun _ => {}) 0 (rgI n) := rfl
  rw [← e] at L
  generalize (⟨p, n, fun _ => {}⟩ : RSt).stand 0 (rgI n) = s at L
  obtain ⟨a1, a2, a3, a4, a5⟩ := L (i := 0) (by omega)
  obtain ⟨a6, a7⟩ := a5 rfl
  refine ⟨a4.mpr rfl, a2, a3, fun i hi => (L hi).1, fun i hi _ => (L hi).2.1, fun o ho _ => ?_, fun o ho _ => ?_, by rw [a6]; exact List.length_replicate, by rw [a7]; exact List.length_replicate⟩
  · unfold KS.aheadAt
    rw [a6, rep_getD _ _ _ ho]
  · rw [a7, rep_getD _ _ _ ho]
theorem lh_next (hh : h = 0 ∨ h = 1) (L : Lv n 0 1 R3 z (rowJ h j) (ahJ h j) (ahJ h j) s) (hj : j + 1 < n) : Lv n 0 1 R3 z (rowJ h (j + 1)) (ahJ h (j + 1)) (ahJ h (j + 1)) (s.hand 0 (j + 1) (2 + (h : Int))) := by
  have er : rowJ h j (j + 1) = [] := if_neg (by omega)
  have ea : ahJ h j (j + 1) = 0 := if_neg (by omega)
  have ep : (R3.drop (ahJ h j (j + 1)).toNat).take (2 + (h : Int)).toNat = R3.take (2 + h) := by
    rw [ea, show (2 + (h : Int)).toNat = 2 + h by omega]; rfl
  have el : (R3.take (2 + h)).length = 2 + h := by rcases hh with rfl | rfl <;> rfl
  have ef : fillR [] 0 (R3.take (2 + h)) = R3.take (2 + h) := by rcases hh with rfl | rfl <;> rfl
  obtain ⟨l1, _⟩ := L.yes (o := j + 1) (by omega) hj (by omega) (2 + (h : Int)) (by rw [er, ea]; rfl) (c := ((2 + h : Nat) : Int)) (by rw [ep, ea, el]; omega)
  rw [ep] at l1
  exact l1.congr (fun i hi hz => upd_to (by rw [er, ea]; exact ef) hi hz) (fun i hi hz => upd_to rfl hi hz) fun i hi hz => upd_to rfl hi hz
theorem lk_next (L : Lv n 0 1 R3 z (rowK j) (ahK j) (ahK j) s) (hj : j + 1 < n) : handTold s.st 0 (j + 1) = true ∧ (∃ r' a' l', Lv n 0 1 R3 z r' a' l' (s.hand 0 (j + 1) 0)) ∧ handTold (s.hand 0 (j + 1) 0).st 0 (j + 1) = true ∧
    Lv n 0 1 R3 z (rowK (j + 1)) (ahK (j + 1)) (ahK (j + 1)) ((s.hand 0 (j + 1) 0).hand 0 (j + 1) 1) := by
  have er : rowK j (j + 1) = R3.take 2 := if_neg (by omega)
  have ea : ahK j (j + 1) = 2 := if_neg (by omega)
  obtain ⟨l1, l2, _⟩ := L.yes (o := j + 1) (by omega) hj (by omega) 0 (by rw [er, ea]; rfl) (c := 2) (by rw [ea]; rfl)
  have er1 : updN (rowK j) (j + 1) (fillR (rowK j (j + 1)) (ahK j (j + 1)).toNat ((R3.drop (ahK j (j + 1)).toNat).take (0 : Int).toNat)) (j + 1) = R3.take 2 := by rw [updN_same, er, ea]; rfl
  have ea1 : updN (ahK j) (j + 1) 2 (j + 1) = 2 := updN_same
  obtain ⟨l3, l4, _⟩ := l1.yes (o := j + 1) (by omega) hj (by omega) 1 (by rw [er1, ea1]; rfl) (c := 3) (by rw [ea1]; rfl)
  refine ⟨l2, ⟨_, _, _, l1⟩, l4, l3.congr (fun i hi hz => ?_) (fun i hi hz => ?_) fun i hi hz => ?_⟩
  · by_cases c : i = j + 1
    · rw [c, updN_same, er1, ea1]
      exact (if_pos (Nat.le_refl _)).symm
    · rw [updN_ne c, updN_ne c]
      show (if i ≤ j then R3 else R3.take 2) = if i ≤ j + 1 then R3 else R3.take 2
      by_cases d : i ≤ j
      · rw [if_pos d, if_pos (by omega)]
      · rw [if_neg d, if_neg (by omega)]
  · by_cases c : i = j + 1
    · rw [c, updN_same]
      exact (if_pos (Nat.le_refl _)).symm
    · rw [updN_ne c, updN_ne c]
      show (if i ≤ j then (3 : Int) else 2) = if i ≤ j + 1 then 3 else 2
      by_cases d : i ≤ j
      · rw [if_pos d, if_pos (by omega)]
      · rw [if_neg d, if_neg (by omega)]
  · by_cases c : i = j + 1
    · rw [c, updN_same]
      exact (if_pos (Nat.le_refl _)).symm
    · rw [updN_ne c, updN_ne c]
      show (if i ≤ j then (3 : Int) else 2) = if i ≤ j + 1 then 3 else 2
      by_cases d : i ≤ j
      · rw [if_pos d, if_pos (by omega)]
      · rw [if_neg d, if_neg (by omega)]
/-- it leads, has written three words, the others hold 2 + h -/
structure Ld (p : Addr) (n h : Nat) (s : RSt) : Prop where
  w : ∃ g, W p n 40 s g
  lv : ∃ z : Int, z ≤ 3 ∧ Lv n 0 1 R3 z (fun _ => R3.take (2 + h)) (fun _ => ((2 + h : Nat) : Int)) (fun _ => ((2 + h : Nat) : Int)) s
theorem Ld.idle {p : Addr} (L : Ld p n h s) {i : Nat} (hi : i < n) (hz : i ≠ 0) : (s.st i).leads = false := by
  obtain ⟨g, hW⟩ := L.w
  obtain ⟨z, _, hL⟩ := L.lv
  cases c : (s.st i).leads with
  | false => rfl
  | true =>
    have a := hW.inv.wh i hi c
    have b := hW.inv.wh 0 (by omega) hL.l
    rw [hL.t i hi] at a
    rw [hL.t 0 (by omega)] at b
    rw [a] at b
    exact absurd b hz
theorem lv_bound {g : Gh} {p : Addr} {B : Nat} {row : Nat → List Ent} {ah hl : Nat → Int} (hW : W p n B s g) (hn : 0 < n) (L : Lv n 0 1 R3 z row ah hl s) : z ≤ 3 := by
  by_cases c : 0 < z
  · obtain ⟨T, l, m, _, _, _, _, _, a, _⟩ := hW.inv.se 0 hn (by rw [L.z]; exact c)
    rw [L.z, L.r] at a
    have : z.toNat ≤ 3 := a
    omega
  · omega
theorem lv_three {row : Nat → List Ent} {ah hl : Nat → Int} (hn : 0 < n) (L : Lv n 0 1 R3 z row ah hl s) (hz : z ≤ 3) (hh : ∀ o, o < n → o ≠ 0 → hl o = 3) : (s.st 0).settleN 0 = 3 :=
  L.settle hn (R0 := R3.take 2) (w := "three") rfl hh hz
end
abbrev keepD (s : RSt) (i : Nat) : PyData := .list [.int (s.st i).term, rowD (s.st i).row, .bool (s.st i).leads, rowD ((s.st i).row.take (s.st i).settled.toNat)]
abbrev allK (s : RSt) : PyData := .list ((List.range s.n).map (keepD s))
theorem plain_keeps (s : RSt) : ∀ is : List Nat, plainAll (is.map (keepD s)) = true
  | [] => rfl
  | i :: is => by
    show (plainD (keepD s i) && plainAll (is.map (keepD s))) = true
    rw [plain_keeps s is]
    show ((true && (plainD (rowD (s.st i).row) && (true && (plainD (rowD ((s.st i).row.take (s.st i).settled.toNat)) && true)))) && true) = true
    rw [plain_row, plain_row]; rfl
theorem lay_keeps (s : RSt) (h : ∀ i, rowOk (s.st i).row) : ∀ is : List Nat, PyData.canLayAll0 (is.map (keepD s)) = true
  | [] => rfl
  | i :: is => by
    show (PyData.canLay0 (keepD s i) && PyData.canLayAll0 (is.map (keepD s))) = true
    rw [lay_keeps s h is]
    have e1 : PyData.canLay0 (rowD (s.st i).row) = true := canLay_rows _ (h i)
    have e2 : PyData.canLay0 (rowD ((s.st i).row.take (s.st i).settled.toNat)) = true := canLay_rows _ (rowOk_sub (h i) fun x hx => List.mem_of_mem_take hx)
    show ((true && (PyData.canLay0 (rowD (s.st i).row) && (true && (PyData.canLay0 (rowD ((s.st i).row.take (s.st i).settled.toNat)) && true)))) && true) = true
    rw [e1, e2]; rfl
theorem depth_keeps (s : RSt) : ∀ is : List Nat, PyData.depthAll (is.map (keepD s)) ≤ 5
  | [] => Nat.zero_le _
  | i :: is => by
    have h1 := depth_keeps s is
    have h2 := depth_rows (s.st i).row
    have h3 := depth_rows ((s.st i).row.take (s.st i).settled.toNat)
    show max (max 0 (max (PyData.depthAll ((s.st i).row.map entD) + 1) (max 0 (max (PyData.depthAll (((s.st i).row.take (s.st i).settled.toNat).map entD) + 1) 0))) + 1) (PyData.depthAll (is.map (keepD s))) ≤ 5
    omega
/-- nothing has changed -/
theorem opNeAll {K : PySem.W.Frag} {s : RSt} (h : ∀ i, rowOk (s.st i).row) : OpD K (rNeD K) (allK s) (allK s) (.bool false) := by
  have hl : PyData.canLay0 (allK s) = true := lay_keeps s h _
  have hs : SeqAt.shaped (allK s) = true := by
    unfold SeqAt.shaped
    rw [Bool.and_eq_true]
    refine ⟨hl, decide_eq_true ?_⟩
    show PyData.depthAll ((List.range s.n).map (keepD s)) + 1 ≤ 64
    have := depth_keeps s (List.range s.n)
    omega
  have he : PyData.eqv (allK s) (allK s) = true := SeqAt.eqv_refl _ hl
  have := opNeD (K := K) (d1 := allK s) (d2 := allK s) (plain_keeps s _) (plain_keeps s _) hs hs
  rw [he] at this
  exact this
theorem draws14 (m : Int) : ∃ q0 q1 q2 q3 q4 q5 q6 q7 q8 : Int, osD (drawnL m [9, 2, 5, 12, 3, 9, 7, 2, 11]) = osD [q0, q1, q2, q3, q4, q5, q6, q7, q8] ∧ (0 ≤ q0 ∧ q0 < 9) ∧ (0 ≤ q1 ∧ q1 < 2) ∧ (0 ≤ q2 ∧ q2 < 5) ∧ (0 ≤ q3 ∧ q3 < 12) ∧ (0 ≤ q6 ∧ q6 < 7) ∧ (0 ≤ q7 ∧ q7 < 2) ∧ (0 ≤ q8 ∧ q8 < 11) :=
  ⟨_, _, _, _, _, _, _, _, _, rfl, ⟨Int.emod_nonneg _ (by decide), Int.emod_lt_of_pos _ (by decide)⟩, ⟨Int.emod_nonneg _ (by decide), Int.emod_lt_of_pos _ (by decide)⟩, ⟨Int.emod_nonneg _ (by decide), Int.emod_lt_of_pos _ (by decide)⟩, ⟨Int.emod_nonneg _ (by decide), Int.emod_lt_of_pos _ (by decide)⟩,
    ⟨Int.emod_nonneg _ (by decide), Int.emod_lt_of_pos _ (by decide)⟩, ⟨Int.emod_nonneg _ (by decide), Int.emod_lt_of_pos _ (by decide)⟩, ⟨Int.emod_nonneg _ (by decide), Int.emod_lt_of_pos _ (by decide)⟩⟩
theorem wrong_at {n q k : Int} (hq : 0 ≤ q) (hn : 0 ≤ n ∧ n ≤ 9) (h0 : 0 ≤ k) (h1 : k < 5) : ∃ w, L2.atI [PyData.int (-1 - q), .int n, .int (n + q), .int bigI, .int (-bigI)] k = some (.int w) ∧ ¬ (0 ≤ w ∧ w < n) := by
  have : k = 0 ∨ k = 1 ∨ k = 2 ∨ k = 3 ∨ k = 4 := by omega
  have hb : bigI = 100000000000000000000 := rfl
  rcases this with rfl | rfl | rfl | rfl | rfl
  · exact ⟨_, rfl, by omega⟩
  · exact ⟨_, rfl, by omega⟩
  · exact ⟨_, rfl, by omega⟩
  · exact ⟨_, rfl, by omega⟩
  · exact ⟨_, rfl, by omega⟩
/-- the room of the law: new, or led -/
structure Rm14 (q1 q7 : Int) (n : Nat) (s : RSt) : Prop where
  n : s.n = n
  led : q1 = 1 → ∃ h : Nat, q7 = (h : Int) ∧ (h = 0 ∨ h = 1) ∧ Ld s.p s.n h s
  new : ¬ q1 = 1 → s.st = fun _ => {}
theorem Rm14.g0 {q1 q7 : Int} {n : Nat} {s : RSt} (h : Rm14 q1 q7 n s) : ∀ i, KGood0 s.n (s.st i) := fun i => by
  by_cases c : q1 = 1
  · obtain ⟨_, _, _, L⟩ := h.led c
    obtain ⟨g, hW⟩ := L.w
    exact hW.gb.g i
  · rw [h.new c]; exact KGood0.new _
theorem Rm14.good {q1 q7 : Int} {n : Nat} {s : RSt} (h : Rm14 q1 q7 n s) (h9 : n ≤ 9) : Good s := by
  by_cases c : q1 = 1
  · obtain ⟨_, _, _, L⟩ := h.led c
    obtain ⟨g, hW⟩ := L.w
    exact hW.gb.good (by omega)
  · refine ⟨by rw [h.n]; exact h9, fun i _ => ⟨h.g0 i, ?_⟩⟩
    rw [h.new c]; exact Nat.zero_le _
theorem Rm14.idle {q1 q7 : Int} {n : Nat} {s : RSt} (h : Rm14 q1 q7 n s) {i : Nat} (hi : i < n) (hz : q1 = 1 → i ≠ 0) : (s.st i).leads = false := by
  by_cases c : q1 = 1
  · obtain ⟨_, _, _, L⟩ := h.led c
    exact L.idle (by rw [h.n]; exact hi) (hz c)
  · rw [h.new c]
end Fw

namespace My
open PySem L2 Fw
local macro_rules | `(tactic| walk_at "side") => `(tactic| first | omega | decide | exact Or.inr ⟨by decide, by decide⟩ | (refine Or.inr ⟨?_, ?_⟩ <;> omega) | (refine Or.inl ⟨?_, ?_⟩ <;> omega) | exact ⟨by decide, by decide⟩ | (refine ⟨?_, ?_⟩ <;> omega) | assumption)
local macro_rules | `(tactic| walk_at "ev") => `(tactic| first
  | exact ev_var rfl | exact ev_int | exact ev_str | exact ev_bl | exact ev_non
  | (refine ev_op ?_ ?_ opI <;> walk_at "ev")
  | (refine ev_op ?_ ?_ opB <;> walk_at "ev")
  | (refine ev_op (hr := opIC ?hc) ?_ ?_ <;> first | (walk_at "ev") | (walk_at "side"))
  | (refine ev_op ?_ ?_ opEqI <;> walk_at "ev")
  | (refine ev_op ?_ ?_ opNeI <;> walk_at "ev"))

def top (i : Nat) : Stmt := PySem.Challenge.pw_logreplica_k14_refused.main.body.getD i (.Pass ⟨0, 0, 0, 0⟩)
abbrev s_last_term : Stmt := top 7
abbrev s_as_new : Stmt := top 8
abbrev s_agrees : Stmt := top 9
abbrev s_filled : Stmt := top 10
abbrev s_settled_by : Stmt := top 11
abbrev s_Keeper_init : Stmt := inClass (top 13) 0
abbrev s_Keeper_hear : Stmt := inClass (top 13) 1
abbrev s_Keeper_asked : Stmt := inClass (top 13) 2
abbrev s_Keeper_begin : Stmt := inClass (top 13) 3
abbrev s_Room_init : Stmt := inClass (top 16) 0
abbrev s_Room_keeper : Stmt := inClass (top 16) 1
abbrev s_Room_leader : Stmt := inClass (top 16) 2
abbrev s_Room_stand : Stmt := inClass (top 16) 3
abbrev s_Room_write : Stmt := inClass (top 16) 4
abbrev s_Room_hand : Stmt := inClass (top 16) 5
abbrev s_Room_settle : Stmt := inClass (top 16) 6
abbrev s_Room_rest : Stmt := inClass (top 16) 7
abbrev s_Room_term_of : Stmt := inClass (top 16) 8
abbrev s_Room_row_of : Stmt := inClass (top 16) 9
abbrev s_Room_leading : Stmt := inClass (top 16) 10
abbrev s_Room_settled_of : Stmt := inClass (top 16) 11
abbrev s__law_cell_at : Stmt := top 18
abbrev s__law_mixed : Stmt := top 19
abbrev s__law_drawn : Stmt := top 20
abbrev s__law_asked : Stmt := top 21
abbrev s__law_done : Stmt := top 22
abbrev s__law_idle : Stmt := top 23
abbrev s__law_kind : Stmt := top 24
abbrev s__law_kind_of : Stmt := top 25
abbrev s__law_idle_kind : Stmt := top 26
abbrev s__law_caught : Stmt := top 27
abbrev s__law_no_room : Stmt := top 28
abbrev s__law_all_of : Stmt := top 29
abbrev s__law_led : Stmt := top 30
abbrev s__law_leads_on : Stmt := top 31
abbrev s_law : Stmt := top 32
structure Tx (K : PySem.W.Frag) (mg : Str → Option Value) where
  c_RoomError : Addr
  c_NoRoom : Addr
  c_NoKeeper : Addr
  c_NotLeading : Addr
  c_OutOfPlace : Addr
  c_Keeper : Addr
  c_Room : Addr
  mg_RoomError : mg "RoomError" = some (.ref c_RoomError)
  x_RoomError : PySem.W.excIn K c_RoomError [.type "ValueError", .type "Exception", .type "BaseException", .type "object"] "ValueError.__new__" = true
  kx_RoomError : PySem.W.keepIn K (.ref c_RoomError) = true
  bx_RoomError : PySem.W.subIn K (.ref c_RoomError) (.type "BaseException") = some true
  tx_RoomError : PySem.W.typeIn K (.ref c_RoomError) = some (.type "type")
  sx_RoomError_RoomError : PySem.W.exmOne K (.ref c_RoomError) (.ref c_RoomError) = some true
  sx_RoomError_NoRoom : PySem.W.exmOne K (.ref c_RoomError) (.ref c_NoRoom) = some false
  sx_RoomError_NoKeeper : PySem.W.exmOne K (.ref c_RoomError) (.ref c_NoKeeper) = some false
  sx_RoomError_NotLeading : PySem.W.exmOne K (.ref c_RoomError) (.ref c_NotLeading) = some false
  sx_RoomError_OutOfPlace : PySem.W.exmOne K (.ref c_RoomError) (.ref c_OutOfPlace) = some false
  mg_NoRoom : mg "NoRoom" = some (.ref c_NoRoom)
  x_NoRoom : PySem.W.excIn K c_NoRoom [.type "ValueError", .type "Exception", .type "BaseException", .type "object"] "ValueError.__new__" = true
  kx_NoRoom : PySem.W.keepIn K (.ref c_NoRoom) = true
  bx_NoRoom : PySem.W.subIn K (.ref c_NoRoom) (.type "BaseException") = some true
  tx_NoRoom : PySem.W.typeIn K (.ref c_NoRoom) = some (.type "type")
  sx_NoRoom_RoomError : PySem.W.exmOne K (.ref c_NoRoom) (.ref c_RoomError) = some true
  sx_NoRoom_NoRoom : PySem.W.exmOne K (.ref c_NoRoom) (.ref c_NoRoom) = some true
  sx_NoRoom_NoKeeper : PySem.W.exmOne K (.ref c_NoRoom) (.ref c_NoKeeper) = some false
  sx_NoRoom_NotLeading : PySem.W.exmOne K (.ref c_NoRoom) (.ref c_NotLeading) = some false
  sx_NoRoom_OutOfPlace : PySem.W.exmOne K (.ref c_NoRoom) (.ref c_OutOfPlace) = some false
  mg_NoKeeper : mg "NoKeeper" = some (.ref c_NoKeeper)
  x_NoKeeper : PySem.W.excIn K c_NoKeeper [.type "ValueError", .type "Exception", .type "BaseException", .type "object"] "ValueError.__new__" = true
  kx_NoKeeper : PySem.W.keepIn K (.ref c_NoKeeper) = true
  bx_NoKeeper : PySem.W.subIn K (.ref c_NoKeeper) (.type "BaseException") = some true
  tx_NoKeeper : PySem.W.typeIn K (.ref c_NoKeeper) = some (.type "type")
  sx_NoKeeper_RoomError : PySem.W.exmOne K (.ref c_NoKeeper) (.ref c_RoomError) = some true
  sx_NoKeeper_NoRoom : PySem.W.exmOne K (.ref c_NoKeeper) (.ref c_NoRoom) = some false
  sx_NoKeeper_NoKeeper : PySem.W.exmOne K (.ref c_NoKeeper) (.ref c_NoKeeper) = some true
  sx_NoKeeper_NotLeading : PySem.W.exmOne K (.ref c_NoKeeper) (.ref c_NotLeading) = some false
  sx_NoKeeper_OutOfPlace : PySem.W.exmOne K (.ref c_NoKeeper) (.ref c_OutOfPlace) = some false
  mg_NotLeading : mg "NotLeading" = some (.ref c_NotLeading)
  x_NotLeading : PySem.W.excIn K c_NotLeading [.type "ValueError", .type "Exception", .type "BaseException", .type "object"] "ValueError.__new__" = true
  kx_NotLeading : PySem.W.keepIn K (.ref c_NotLeading) = true
  bx_NotLeading : PySem.W.subIn K (.ref c_NotLeading) (.type "BaseException") = some true
  tx_NotLeading : PySem.W.typeIn K (.ref c_NotLeading) = some (.type "type")
  sx_NotLeading_RoomError : PySem.W.exmOne K (.ref c_NotLeading) (.ref c_RoomError) = some true
  sx_NotLeading_NoRoom : PySem.W.exmOne K (.ref c_NotLeading) (.ref c_NoRoom) = some false
  sx_NotLeading_NoKeeper : PySem.W.exmOne K (.ref c_NotLeading) (.ref c_NoKeeper) = some false
  sx_NotLeading_NotLeading : PySem.W.exmOne K (.ref c_NotLeading) (.ref c_NotLeading) = some true
  sx_NotLeading_OutOfPlace : PySem.W.exmOne K (.ref c_NotLeading) (.ref c_OutOfPlace) = some false
  mg_OutOfPlace : mg "OutOfPlace" = some (.ref c_OutOfPlace)
  x_OutOfPlace : PySem.W.excIn K c_OutOfPlace [.type "ValueError", .type "Exception", .type "BaseException", .type "object"] "ValueError.__new__" = true
  kx_OutOfPlace : PySem.W.keepIn K (.ref c_OutOfPlace) = true
  bx_OutOfPlace : PySem.W.subIn K (.ref c_OutOfPlace) (.type "BaseException") = some true
  tx_OutOfPlace : PySem.W.typeIn K (.ref c_OutOfPlace) = some (.type "type")
  sx_OutOfPlace_RoomError : PySem.W.exmOne K (.ref c_OutOfPlace) (.ref c_RoomError) = some true
  sx_OutOfPlace_NoRoom : PySem.W.exmOne K (.ref c_OutOfPlace) (.ref c_NoRoom) = some false
  sx_OutOfPlace_NoKeeper : PySem.W.exmOne K (.ref c_OutOfPlace) (.ref c_NoKeeper) = some false
  sx_OutOfPlace_NotLeading : PySem.W.exmOne K (.ref c_OutOfPlace) (.ref c_NotLeading) = some false
  sx_OutOfPlace_OutOfPlace : PySem.W.exmOne K (.ref c_OutOfPlace) (.ref c_OutOfPlace) = some true
  cl_Keeper : Cls K c_Keeper
  mg_Keeper : mg "Keeper" = some (.ref c_Keeper)
  na_Keeper_term : NoAttr K c_Keeper "term"
  na_Keeper_row : NoAttr K c_Keeper "row"
  na_Keeper_leads : NoAttr K c_Keeper "leads"
  na_Keeper_settled : NoAttr K c_Keeper "settled"
  na_Keeper_ahead : NoAttr K c_Keeper "ahead"
  na_Keeper_held : NoAttr K c_Keeper "held"
  cl_Room : Cls K c_Room
  mg_Room : mg "Room" = some (.ref c_Room)
  na_Room_keepers : NoAttr K c_Room "keepers"
  d_last_term : DefAt K mg "last_term" "last_term" s_last_term ["row"]
  d_as_new : DefAt K mg "as_new" "as_new" s_as_new ["row", "other"]
  d_agrees : DefAt K mg "agrees" "agrees" s_agrees ["row", "at", "term"]
  d_filled : DefAt K mg "filled" "filled" s_filled ["row", "at", "some"]
  d_settled_by : DefAt K mg "settled_by" "settled_by" s_settled_by ["row", "term", "held"]
  d_Keeper_init : InitAt K c_Keeper "Keeper.__init__" s_Keeper_init ["self", "row"]
  d_Keeper_hear : MethAt K c_Keeper "hear" "Keeper.hear" s_Keeper_hear ["self", "term"]
  d_Keeper_asked : MethAt K c_Keeper "asked" "Keeper.asked" s_Keeper_asked ["self", "term", "row"]
  d_Keeper_begin : MethAt K c_Keeper "begin" "Keeper.begin" s_Keeper_begin ["self", "count"]
  d_Room_init : InitAt K c_Room "Room.__init__" s_Room_init ["self", "count"]
  d_Room_keeper : MethAt K c_Room "keeper" "Room.keeper" s_Room_keeper ["self", "k"]
  d_Room_leader : MethAt K c_Room "leader" "Room.leader" s_Room_leader ["self", "k"]
  d_Room_stand : MethAt K c_Room "stand" "Room.stand" s_Room_stand ["self", "k", "others"]
  d_Room_write : MethAt K c_Room "write" "Room.write" s_Room_write ["self", "k", "word"]
  d_Room_hand : MethAt K c_Room "hand" "Room.hand" s_Room_hand ["self", "k", "other", "many"]
  d_Room_settle : MethAt K c_Room "settle" "Room.settle" s_Room_settle ["self", "k"]
  d_Room_rest : MethAt K c_Room "rest" "Room.rest" s_Room_rest ["self", "k"]
  d_Room_term_of : MethAt K c_Room "term_of" "Room.term_of" s_Room_term_of ["self", "k"]
  d_Room_row_of : MethAt K c_Room "row_of" "Room.row_of" s_Room_row_of ["self", "k"]
  d_Room_leading : MethAt K c_Room "leading" "Room.leading" s_Room_leading ["self", "k"]
  d_Room_settled_of : MethAt K c_Room "settled_of" "Room.settled_of" s_Room_settled_of ["self", "k"]
  d__law_cell_at : DefAt K mg "_law_cell_at" "_law_cell_at" s__law_cell_at ["_law_script", "_law_k"]
  d__law_mixed : DefAt K mg "_law_mixed" "_law_mixed" s__law_mixed ["_law_script", "_law_k"]
  d__law_drawn : DefAt K mg "_law_drawn" "_law_drawn" s__law_drawn ["_law_number", "_law_sizes"]
  d__law_asked : DefAt K mg "_law_asked" "_law_asked" s__law_asked ["_law_k", "_law_other", "_law_wrong", "_law_place"]
  d__law_done : DefAt K mg "_law_done" "_law_done" s__law_done ["_law_room", "_law_way", "_law_k", "_law_other", "_law_wrong"]
  d__law_idle : DefAt K mg "_law_idle" "_law_idle" s__law_idle ["_law_room", "_law_way", "_law_k", "_law_other"]
  d__law_kind : DefAt K mg "_law_kind" "_law_kind" s__law_kind ["_law_e"]
  d__law_kind_of : DefAt K mg "_law_kind_of" "_law_kind_of" s__law_kind_of ["_law_room", "_law_way", "_law_k", "_law_other", "_law_wrong"]
  d__law_idle_kind : DefAt K mg "_law_idle_kind" "_law_idle_kind" s__law_idle_kind ["_law_room", "_law_way", "_law_k", "_law_other"]
  d__law_caught : DefAt K mg "_law_caught" "_law_caught" s__law_caught ["_law_room", "_law_k", "_law_other", "_law_wrong"]
  d__law_no_room : DefAt K mg "_law_no_room" "_law_no_room" s__law_no_room ["_law_count"]
  d__law_all_of : DefAt K mg "_law_all_of" "_law_all_of" s__law_all_of ["_law_room", "_law_count"]
  d__law_led : DefAt K mg "_law_led" "_law_led" s__law_led ["_law_room", "_law_count", "_law_all_held"]
  d__law_leads_on : DefAt K mg "_law_leads_on" "_law_leads_on" s__law_leads_on ["_law_room", "_law_count", "_law_all_held"]
  d_law : DefAt K mg "law" "law" s_law ["_law_script"]
  ec_NoKeeper : ExcC K c_NoKeeper
  ec_NoRoom : ExcC K c_NoRoom
  ec_NotLeading : ExcC K c_NotLeading
  ki_NoKeeper_NoKeeper : PySem.W.kitOne K (.ref c_NoKeeper) (.ref c_NoKeeper) = some true
  ki_NoKeeper_NotLeading : PySem.W.kitOne K (.ref c_NoKeeper) (.ref c_NotLeading) = some false
  ki_NoKeeper_NoRoom : PySem.W.kitOne K (.ref c_NoKeeper) (.ref c_NoRoom) = some false
  ki_NoKeeper_OutOfPlace : PySem.W.kitOne K (.ref c_NoKeeper) (.ref c_OutOfPlace) = some false
  ki_NoKeeper_ValueError : PySem.W.kitOne K (.ref c_NoKeeper) (.type "ValueError") = some true
  ki_NoKeeper_RoomError : PySem.W.kitOne K (.ref c_NoKeeper) (.ref c_RoomError) = some true
  ki_NotLeading_NoKeeper : PySem.W.kitOne K (.ref c_NotLeading) (.ref c_NoKeeper) = some false
  ki_NotLeading_NotLeading : PySem.W.kitOne K (.ref c_NotLeading) (.ref c_NotLeading) = some true
  ki_NotLeading_NoRoom : PySem.W.kitOne K (.ref c_NotLeading) (.ref c_NoRoom) = some false
  ki_NotLeading_OutOfPlace : PySem.W.kitOne K (.ref c_NotLeading) (.ref c_OutOfPlace) = some false
  ki_NotLeading_ValueError : PySem.W.kitOne K (.ref c_NotLeading) (.type "ValueError") = some true
  ki_NotLeading_RoomError : PySem.W.kitOne K (.ref c_NotLeading) (.ref c_RoomError) = some true
  ki_NoRoom_NoKeeper : PySem.W.kitOne K (.ref c_NoRoom) (.ref c_NoKeeper) = some false
  ki_NoRoom_NotLeading : PySem.W.kitOne K (.ref c_NoRoom) (.ref c_NotLeading) = some false
  ki_NoRoom_NoRoom : PySem.W.kitOne K (.ref c_NoRoom) (.ref c_NoRoom) = some true
  ki_NoRoom_OutOfPlace : PySem.W.kitOne K (.ref c_NoRoom) (.ref c_OutOfPlace) = some false
  ki_NoRoom_ValueError : PySem.W.kitOne K (.ref c_NoRoom) (.type "ValueError") = some true
  ki_NoRoom_RoomError : PySem.W.kitOne K (.ref c_NoRoom) (.ref c_RoomError) = some true
  z_ValueError : mg "ValueError" = none
  z_abs : mg "abs" = none
  z_bool : mg "bool" = none
  z_int : mg "int" = none
  z_isinstance : mg "isinstance" = none
  z_len : mg "len" = none
  z_list : mg "list" = none
  z_max : mg "max" = none
  z_min : mg "min" = none
  z_range : mg "range" = none
  t_MOST : Tok
  v_MOST : mg "MOST" = some (.int 9 t_MOST)
section
variable {P : Program} {w : World} {K : PySem.W.Frag} {mg : Str → Option Value} {base : Heap}
/-! ## last_term -/
theorem sc_last_term : FnScope ["row"] ["row"] (defScope s_last_term) := ⟨rfl, rfl, rfl, by decide +kernel, rfl, by decide +kernel, by decide +kernel⟩
abbrev sp_last_term (K : PySem.W.Frag) : Sp := spF K (fun es : List Ent => [rowD es]) rowOk (fun es => .int (lastT es))
section
variable {ρ : Type} {R : ρ → Hp → Hp → Prop} [Stab R] {e : SE} {r : ρ} {ta : TE} {E : XK}
theorem ev_last_term {es : List Ent} (h : EvD K R ta e r (rowD es)) (hp : rowOk es) : EvD K R (tCall (sp_last_term K) [] E (tCons ta tNil)) e r (.int (lastT es)) := ev_call es (ea_cons h ea_nil) hp
end
theorem ok_last_term (T : Tx K mg) : FnOk P w K mg base CX0 1 T.d_last_term.a T.d_last_term.fd ["row"] (sp_last_term K) := by
  refine ok_pure T.d_last_term.F sc_last_term (fun _ => rfl) fun cdv A outer s H E hr => ⟨_, (pss_cons (ps_if (pt_cmpR (op_eqD hr.units) (pv 0) (pe_lst pa_nil) (nomark _)) (pss_one (ps_ret pe_int)) pss_nil)
    (pss_one (ps_ret (pe_ix ix_tup (pe_ix ix_list (pv 0) (pe_un un_neg pe_int) (fun _ _ => rfl)) pe_int (fun _ _ => rfl))))), ?_⟩
  intro M0 es hp
  refine sp_when (et_test (ev_op (ev_var rfl) (ev_lst ea_nil (Nat.zero_le _)) (opEqR hp rowOk_nil))) (fun h => ?_) fun h => ?_
  · refine sp_ret ev_int ?_
    show PyData.int _ = PyData.int (lastT es)
    rw [of_decide_eq_true h]; rfl
  · obtain ⟨x, h1, h2⟩ := atI_rowLast (of_decide_eq_false h)
    refine sp_ret (ev_op (ev_op (ev_var rfl) (ev_un ev_int opNeg) (opIxL h1)) ev_int (opIxT (d := .int x.1) rfl)) ?_
    show PyData.int _ = PyData.int (lastT es)
    rw [h2]

/-! ## as_new -/
theorem sc_as_new : FnScope ["row", "other"] ["row", "other"] (defScope s_as_new) := ⟨rfl, rfl, rfl, by decide +kernel, rfl, by decide +kernel, by decide +kernel⟩
abbrev sp_as_new (K : PySem.W.Frag) : Sp := spF K (fun a : List Ent × List Ent => [rowD a.1, rowD a.2]) (fun a => rowOk a.1 ∧ rowOk a.2) (fun a => .bool (asNew a.1 a.2))
section
variable {ρ : Type} {R : ρ → Hp → Hp → Prop} [Stab R] {e : SE} {r : ρ} {ta tb : TE} {E : XK}
theorem ev_as_new {a b : List Ent} (h : EvD K R ta e r (rowD a)) (h2 : EvD K R tb e r (rowD b)) (hp : rowOk a) (hq : rowOk b) : EvD K R (tCall (sp_as_new K) [] E (tCons ta (tCons tb tNil))) e r (.bool (asNew a b)) :=
  ev_call (a, b) (ea_cons h (ea_cons h2 ea_nil)) ⟨hp, hq⟩
end
theorem ok_as_new (T : Tx K mg) : FnOk P w K mg base CX0 2 T.d_as_new.a T.d_as_new.fd ["row", "other"] (sp_as_new K) := by
  refine ok_pure T.d_as_new.F sc_as_new (fun _ => rfl) fun cdv A outer s H E hr => ⟨_, (pss_cons (ps_if (pt_cmpR op_ne (pe_call (ok_last_term T) (hr.mono (by decide)) (by rfl) T.d_last_term.g T.d_last_term.F.kp T.d_last_term.b .nil pass0 (pa_cons (pv 0) pa_nil)) (pe_call (ok_last_term T) (hr.mono (by decide)) (by rfl) T.d_last_term.g T.d_last_term.F.kp T.d_last_term.b .nil pass0 (pa_cons (pv 1) pa_nil)) (nomark _)) (pss_one (ps_ret (pe_cmpR op_gt (pe_call (ok_last_term T) (hr.mono (by decide)) (by rfl) T.d_last_term.g T.d_last_term.F.kp T.d_last_term.b .nil pass0 (pa_cons (pv 0) pa_nil)) (pe_call (ok_last_term T) (hr.mono (by decide)) (by rfl) T.d_last_term.g T.d_last_term.F.kp T.d_last_term.b .nil pass0 (pa_cons (pv 1) pa_nil)) (nomark _)))) pss_nil)
    (pss_one (ps_ret (pe_cmpR op_ge (pe_callB call_len_seq (by rfl) T.z_len (by decide +kernel) (pa_cons (pv 0) pa_nil)) (pe_callB call_len_seq (by rfl) T.z_len (by decide +kernel) (pa_cons (pv 1) pa_nil)) (nomark _))))), ?_⟩
  rintro M0 ⟨a, b⟩ ⟨hp, hq⟩
  refine sp_when (et_test (ev_op (ev_last_term (ev_var rfl) hp) (ev_last_term (ev_var rfl) hq) opNeI)) (fun h => ?_) fun h => ?_
  · refine sp_ret (ev_op (ev_last_term (ev_var rfl) hp) (ev_last_term (ev_var rfl) hq) opB) ?_
    show PyData.bool _ = PyData.bool (asNew a b)
    unfold asNew
    rw [if_pos (by simpa using h)]
  · refine sp_ret (ev_op (ev_cb (ea_cons (ev_var rfl) ea_nil) cbLen) (ev_cb (ea_cons (ev_var rfl) ea_nil) cbLen) opB) ?_
    show PyData.bool _ = PyData.bool (asNew a b)
    unfold asNew
    rw [if_neg (by simpa using h)]
    simp

/-! ## agrees -/
theorem sc_agrees : FnScope ["row", "at", "term"] ["row", "at", "term"] (defScope s_agrees) := ⟨rfl, rfl, rfl, by decide +kernel, rfl, by decide +kernel, by decide +kernel⟩
abbrev sp_agrees (K : PySem.W.Frag) : Sp := spF K (fun a : List Ent × Int × Int => [rowD a.1, .int a.2.1, .int a.2.2]) (fun a => 0 ≤ a.2.1) (fun a => .bool (agreesB a.1 a.2.1 a.2.2))
section
variable {ρ : Type} {R : ρ → Hp → Hp → Prop} [Stab R] {e : SE} {r : ρ} {ta tb tc : TE} {E : XK}
theorem ev_agrees {es : List Ent} {k t : Int} (h : EvD K R ta e r (rowD es)) (h2 : EvD K R tb e r (.int k)) (h3 : EvD K R tc e r (.int t)) (hp : 0 ≤ k) : EvD K R (tCall (sp_agrees K) [] E (tCons ta (tCons tb (tCons tc tNil)))) e r (.bool (agreesB es k t)) :=
  ev_call (es, k, t) (ea_cons h (ea_cons h2 (ea_cons h3 ea_nil))) hp
end
theorem ok_agrees (T : Tx K mg) : FnOk P w K mg base CX0 1 T.d_agrees.a T.d_agrees.fd ["row", "at", "term"] (sp_agrees K) := by
  refine ok_pure T.d_agrees.F sc_agrees (fun _ => rfl) fun cdv A outer s H E hr => ⟨_, (pss_cons (ps_if (pt_cmpR op_eq (pv 1) pe_int (nomark _)) (pss_one (ps_ret pe_bl)) pss_nil)
    (pss_one (ps_ret (pe_and (pe_cmpR op_le (pv 1) (pe_callB call_len_seq (by rfl) T.z_len (by decide +kernel) (pa_cons (pv 0) pa_nil)) (nomark _)) (pe_one (pe_cmpR op_eq (pe_ix ix_tup (pe_ix ix_list (pv 0) (pe_op op_sub (pv 1) pe_int) (fun _ _ => rfl)) pe_int (fun _ _ => rfl)) (pv 2) (nomark _))))))), ?_⟩
  rintro M0 ⟨es, k, t⟩ hp
  have hp : 0 ≤ k := hp
  refine sp_when (et_test (ev_op (ev_var rfl) ev_int opEqI)) (fun h => ?_) fun h => ?_
  · refine sp_ret ev_bl ?_
    show PyData.bool true = PyData.bool (agreesB es k t)
    unfold agreesB
    rw [if_pos (of_decide_eq_true h)]
  · have hz : ¬ k = 0 := of_decide_eq_false h
    have h0 : 0 < k := by omega
    by_cases hk : k ≤ es.length
    · obtain ⟨x, h1, h2⟩ := row_get h0 hk
      refine sp_ret (ev_andV (a := true) (b := decide (x.1 = t)) ((ev_op (ev_var rfl) (ev_cb (ea_cons (ev_var rfl) ea_nil) cbLen) opB).is (by rw [List.length_map, decide_eq_true hk])) fun _ =>
        ev_op (ev_op (ev_op (ev_var rfl) (ev_op (ev_var rfl) ev_int opI) (opIxL h2)) ev_int (opIxT (d := .int x.1) rfl)) (ev_var rfl) opEqI) ?_
      show PyData.bool _ = PyData.bool (agreesB es k t)
      rw [agreesB_at h0 h1]; rfl
    · refine sp_ret (ev_andV (a := false) (b := false) ((ev_op (ev_var rfl) (ev_cb (ea_cons (ev_var rfl) ea_nil) cbLen) opB).is (by rw [List.length_map, decide_eq_false hk])) fun h => nomatch h) ?_
      show PyData.bool _ = PyData.bool (agreesB es k t)
      rw [agreesB_out h0 (by omega)]; rfl

/-! ## filled -/
theorem sc_filled : FnScope ["row", "at", "some", "k"] ["row", "at", "some"] (defScope s_filled) := ⟨rfl, rfl, rfl, by decide +kernel, rfl, by decide +kernel, by decide +kernel⟩
theorem fillD_shift {es ss : List Ent} {k : Nat} {x y : Ent} (hx : es[k]? = some x) (hy : ss[k]? = some y) : fillD (es.drop k) (ss.drop k) = if x.1 = y.1 then (fillD (es.drop (k + 1)) (ss.drop (k + 1))).map (· + 1) else some 0 := by
  obtain ⟨h1, rfl⟩ := List.getElem?_eq_some_iff.mp hx
  obtain ⟨h2, rfl⟩ := List.getElem?_eq_some_iff.mp hy
  rw [List.drop_eq_getElem_cons h1, List.drop_eq_getElem_cons h2]
  rfl
def fillI (es ss : List Ent) (k : Nat) : Prop := fillD es ss = (fillD (es.drop k) (ss.drop k)).map (· + k)
theorem fillI_zero (es ss : List Ent) : fillI es ss 0 := by
  unfold fillI
  rw [List.drop_zero, List.drop_zero]
  cases fillD es ss <;> rfl
theorem fillI_next {es ss : List Ent} {k : Nat} {x y : Ent} (h : fillI es ss k) (hx : es[k]? = some x) (hy : ss[k]? = some y) (e : x.1 = y.1) : fillI es ss (k + 1) := by
  unfold fillI at h ⊢
  rw [h, fillD_shift hx hy, if_pos e]
  cases fillD (es.drop (k + 1)) (ss.drop (k + 1)) with
  | none => rfl
  | some j => show some (j + 1 + k) = some (j + (k + 1)); congr 1; omega
theorem fillI_stop {es ss : List Ent} {k : Nat} {y : Ent} (h : fillI es ss k) (hy : ss[k]? = some y) (e : ∀ x, es[k]? = some x → x.1 ≠ y.1) : fillD es ss = some k := by
  unfold fillI at h
  rw [h]
  have h0 : fillD (es.drop k) (ss.drop k) = some 0 := by
    cases hx : es[k]? with
    | none =>
      obtain ⟨h2, _⟩ := List.getElem?_eq_some_iff.mp hy
      rw [List.drop_eq_nil_of_le (List.getElem?_eq_none_iff.mp hx), List.drop_eq_getElem_cons h2]; rfl
    | some x => rw [fillD_shift hx hy, if_neg (e x hx)]
  rw [h0]
  show some (0 + k) = some k
  rw [Nat.zero_add]
theorem fillI_done {es ss : List Ent} (h : fillI es ss ss.length) : fillD es ss = none := by
  unfold fillI at h
  rw [h, List.drop_length]
  cases es.drop ss.length <;> rfl
abbrev sp_filled (K : PySem.W.Frag) (X : Addr) : Sp := spPXF K (fun a : List Ent × Int × List Ent => [rowD a.1, .int a.2.1, rowD a.2.2]) (fun a => a.1.length ≤ 1000000 ∧ a.2.2.length ≤ 1000000)
  (fun a ds => (0 ≤ a.2.1 ∧ a.2.1 ≤ a.1.length) ∧ ds = (fillR a.1 a.2.1.toNat a.2.2).map entD) (fun a c => ¬ (0 ≤ a.2.1 ∧ a.2.1 ≤ a.1.length) ∧ c = .ref X)
theorem ok_filled (T : Tx K mg) : FnOk P w K mg base (L2N.CX P w) 1 T.d_filled.a T.d_filled.fd ["row", "at", "some"] (sp_filled K T.c_OutOfPlace) := by
  refine ok_pureXFN T.d_filled.F sc_filled (fun _ => rfl) fun cdv A outer s H E hr => ⟨_, (pss_cons (ps_if (PW.pt (pw_or (pt_cmpR op_lt (pv 1) pe_int (nomark _)) (pw_or1 (pt_cmpR op_gt (pv 1) (pe_callB call_len_seq (by rfl) T.z_len (by decide +kernel) (pa_cons (pv 0) pa_nil)) (nomark _))))) (pss_one (L2N.ps_raise rfl (L2N.takes_of rfl rfl rfl rfl) (L2N.pmk_own PySem.F.excBase_ValueError T.x_OutOfPlace T.mg_OutOfPlace T.kx_OutOfPlace (raises_own T.bx_OutOfPlace T.tx_OutOfPlace) rfl))) pss_nil)
    (pss_cons (ps_for (passes_of rfl) rfl (pi_range1 (by rfl) T.z_range (pa_cons (pe_callB call_len_seq (by rfl) T.z_len (by decide +kernel) (pa_cons (pv 2) pa_nil)) pa_nil)) (pg_name (i := 3) sc_filled.nd rfl (by first | exact Or.inl rfl | exact Or.inr rfl)) (pss_one (ps_if (PW.pt (pw_or (pt_cmpR op_eq (pe_op op_add (pv 1) (pv 3)) (pe_callB call_len_seq (by rfl) T.z_len (by decide +kernel) (pa_cons (pv 0) pa_nil)) (nomark _)) (pw_or1 (pt_cmpR op_ne (pe_ix ix_tup (pe_ix ix_list (pv 0) (pe_op op_add (pv 1) (pv 3)) (fun _ _ => rfl)) pe_int (fun _ _ => rfl)) (pe_ix ix_tup (pe_ix ix_list (pv 2) (pv 3) (fun _ _ => rfl)) pe_int (fun _ _ => rfl)) (nomark _))))) (pss_one (ps_ret (pe_op op_cat (pe_slice sl_list (pv 0) po_none (po_some (pe_op op_add (pv 1) (pv 3)))) (pe_slice sl_list (pv 2) (po_some (pv 3)) po_none)))) pss_nil)))
    (pss_one (ps_ret (pe_callTy call_list_of (by rfl) T.z_list (by decide +kernel) (pa_cons (pv 0) pa_nil)))))), ?_⟩
  rintro M0 ⟨es, at_, ss⟩ ⟨hz1, hz2⟩
  have hz1 : es.length ≤ 1000000 := hz1
  have hz2 : ss.length ≤ 1000000 := hz2
  refine sp_when (b := decide (at_ < 0) || decide ((es.length : Int) < at_)) (et_or (et_test (ev_op (ev_var rfl) ev_int opB)) fun _ => et_test ((ev_op (ev_var rfl) (ev_cb (ea_cons (ev_var (d := rowD es) rfl) ea_nil) (cbLen (ds := es.map entD))) opB).is (by rw [List.length_map]))) (fun h => ?_) fun h => ?_
  · rw [Bool.or_eq_true, decide_eq_true_eq, decide_eq_true_eq] at h
    exact sp_raise ⟨by show ¬ (0 ≤ at_ ∧ at_ ≤ es.length); omega, rfl⟩
  · rw [Bool.or_eq_false_iff, decide_eq_false_iff_not, decide_eq_false_iff_not] at h
    have hat : 0 ≤ at_ ∧ at_ ≤ es.length := by omega
    refine sp_seq (N := fun e' _ => ∃ x, e' = [.dat (rowD es), .dat (.int at_), .dat (rowD ss), x] ∧ fillI (es.drop at_.toNat) ss ss.length) ?_ ?_
    · refine sp_forR1 (n := (ss.length : Int)) (ea_cons ((ev_cb (ea_cons (ev_var (d := rowD ss) rfl) ea_nil) (cbLen (ds := ss.map entD))).is (by rw [List.length_map])) ea_nil) ⟨by omega, by omega⟩
        (fun j e' _ => ∃ x, e' = [.dat (rowD es), .dat (.int at_), .dat (rowD ss), x] ∧ fillI (es.drop at_.toNat) ss j ∧ at_ + (j : Int) ≤ es.length) ⟨_, rfl, fillI_zero _ _, by omega⟩ ?_ (fun _ _ h => by rw [Int.toNat_natCast] at h; obtain ⟨x, h1, h2, _⟩ := h; exact ⟨x, h1, h2⟩)
      rintro j _ _ hj ⟨x, rfl, hI, hle⟩
      have hj' : j < ss.length := by omega
      have hy : ss[j]? = some ss[j] := List.getElem?_eq_getElem hj'
      have hcut : (∀ x, (es.drop at_.toNat)[j]? = some x → x.1 ≠ ss[j].1) → cutD (es.map entD) none (some (at_ + (j : Int))) ++ cutD (ss.map entD) (some (j : Int)) none = (fillR es at_.toNat ss).map entD := fun hs => by
        rw [cut_to _ (by omega), cut_from _ (by omega)]
        unfold fillR
        rw [fillI_stop hI hy hs]
        show _ = ((es.take (at_.toNat + j)) ++ ss.drop j).map entD
        rw [List.map_append, List.map_take, List.map_drop, show (at_ + (j : Int)).toNat = at_.toNat + j by omega, Int.toNat_natCast]
      have hl1 : (cutD (es.map entD) none (some (at_ + (j : Int)))).length ≤ 1000000 := by
        rw [cut_to _ (by omega), List.length_take, List.length_map]; omega
      have hl2 : (cutD (ss.map entD) (some (j : Int)) none).length ≤ 1000000 := by
        rw [cut_from _ (by omega), List.length_drop, List.length_map]; omega
      by_cases hq : at_ + (j : Int) = es.length
      · have hs : ∀ x, (es.drop at_.toNat)[j]? = some x → x.1 ≠ ss[j].1 := fun x hx => by
          rw [List.getElem?_drop, List.getElem?_eq_none (show es.length ≤ at_.toNat + j by have := hat.1; omega)] at hx; cases hx
        refine sp_if (b := true) ((et_or (a := true) (b := true) (et_test ((ev_op (ev_op (ev_var rfl) (ev_var rfl) opI) (ev_cb (ea_cons (ev_var (d := rowD es) rfl) ea_nil) (cbLen (ds := es.map entD))) opEqI).is (by rw [List.length_map, decide_eq_true hq]))) fun z => nomatch z).is rfl) (fun _ => ?_) (fun z => nomatch z)
        refine sp_retF (evf_op (EvF.ev (evf_sl (ds := es.map entD) (ev_var rfl) eo_none (eo_some (ev_op (ev_var rfl) (ev_var rfl) opI)))) (EvF.ev (evf_sl (ds := ss.map entD) (ev_var rfl) (eo_some (ev_var rfl)) eo_none)) (opCat (by rw [sizeLine_eq]; omega))) ⟨hat, hcut hs⟩
      · have hx' : at_.toNat + j < es.length := by omega
        have hx : es[at_.toNat + j]? = some es[at_.toNat + j] := List.getElem?_eq_getElem hx'
        have hx2 : (es.drop at_.toNat)[j]? = some es[at_.toNat + j] := by rw [List.getElem?_drop]; exact hx
        have hi1 : L2.atI (es.map entD) (at_ + (j : Int)) = some (entD es[at_.toNat + j]) := by
          have := atI_row hx
          rw [show ((at_.toNat + j : Nat) : Int) = at_ + (j : Int) by omega] at this
          exact this
        refine sp_if (b := decide (¬ es[at_.toNat + j].1 = ss[j].1)) ((et_or (a := false) (b := decide (¬ es[at_.toNat + j].1 = ss[j].1)) (et_test ((ev_op (ev_op (ev_var rfl) (ev_var rfl) opI) (ev_cb (ea_cons (ev_var (d := rowD es) rfl) ea_nil) (cbLen (ds := es.map entD))) opEqI).is (by rw [List.length_map, decide_eq_false hq]))) fun _ =>
          et_test ((ev_op (ev_op (ev_op (ev_var (d := .list (es.map entD)) rfl) (ev_op (ev_var rfl) (ev_var rfl) opI) (opIxL hi1)) ev_int (opIxT (d := .int es[at_.toNat + j].1) rfl)) (ev_op (ev_op (ev_var (d := .list (ss.map entD)) rfl) (ev_var rfl) (opIxL (atI_row hy))) ev_int (opIxT (d := .int ss[j].1) rfl)) opNeI).is (by simp))).is (by simp)) (fun hb => ?_) fun hb => ?_
        · have hne : ¬ es[at_.toNat + j].1 = ss[j].1 := of_decide_eq_true hb
          refine sp_retF (evf_op (EvF.ev (evf_sl (ds := es.map entD) (ev_var rfl) eo_none (eo_some (ev_op (ev_var rfl) (ev_var rfl) opI)))) (EvF.ev (evf_sl (ds := ss.map entD) (ev_var rfl) (eo_some (ev_var rfl)) eo_none)) (opCat (by rw [sizeLine_eq]; omega))) ⟨hat, hcut fun x hx3 => ?_⟩
          rw [hx2] at hx3
          injection hx3 with hx3
          rw [← hx3]; exact hne
        · have heq : es[at_.toNat + j].1 = ss[j].1 := Decidable.not_not.mp (of_decide_eq_false hb)
          exact sp_next ⟨_, rfl, fillI_next hI hx2 hy heq, by omega⟩
    · rintro _ _ ⟨x, rfl, hI⟩
      refine sp_retF (evf_cb (ea_cons (ev_var (d := rowD es) rfl) ea_nil) cbList) ⟨hat, ?_⟩
      unfold fillR
      rw [fillI_done hI]

/-! ## settled_by -/
theorem sc_settled_by : FnScope ["row", "term", "held", "found", "n", "many", "have"] ["row", "term", "held"] (defScope s_settled_by) := ⟨rfl, rfl, rfl, by decide +kernel, rfl, by decide +kernel, by decide +kernel⟩
abbrev sp_settled_by (K : PySem.W.Frag) : Sp := spF K (fun a : List Ent × Int × List Int => [rowD a.1, .int a.2.1, .list (a.2.2.map .int)]) (fun a => a.1.length ≤ 100000 ∧ a.2.2.length ≤ 1000) (fun a => .int (settledBy a.1 a.2.1 a.2.2))
section
variable {ρ : Type} {R : ρ → Hp → Hp → Prop} [Stab R] {e : SE} {r : ρ} {ta tb tc : TE} {E : XK}
theorem ev_settled_by {es : List Ent} {t : Int} {hs : List Int} (h : EvD K R ta e r (rowD es)) (h2 : EvD K R tb e r (.int t)) (h3 : EvD K R tc e r (.list (hs.map .int))) (hp : es.length ≤ 100000 ∧ hs.length ≤ 1000) :
    EvD K R (tCall (sp_settled_by K) [] E (tCons ta (tCons tb (tCons tc tNil)))) e r (.int (settledBy es t hs)) :=
  ev_call (es, t, hs) (ea_cons h (ea_cons h2 (ea_cons h3 ea_nil))) hp
end
theorem ok_settled_by (T : Tx K mg) : FnOk P w K mg base CX0 1 T.d_settled_by.a T.d_settled_by.fd ["row", "term", "held"] (sp_settled_by K) := by
  refine ok_pure T.d_settled_by.F sc_settled_by (fun _ => rfl) fun cdv A outer s H E hr => ⟨_, (pss_cons (ps_set (i := 3) sc_settled_by.nd rfl (by first | exact Or.inl rfl | exact Or.inr rfl) pe_int)
    (pss_cons (ps_for PassesOwn.never rfl (pi_range2 (by rfl) T.z_range (pa_cons pe_int (pa_cons (pe_op op_add (pe_callB call_len_seq (by rfl) T.z_len (by decide +kernel) (pa_cons (pv 0) pa_nil)) pe_int) pa_nil))) (pg_name (i := 4) sc_settled_by.nd rfl (by first | exact Or.inl rfl | exact Or.inr rfl)) (pss_cons (ps_set (i := 5) sc_settled_by.nd rfl (by first | exact Or.inl rfl | exact Or.inr rfl) (pe_callB call_len_seq (by rfl) T.z_len (by decide +kernel) (pa_cons (pe_lc (own := [("have", 6)]) (g := gName 6)  rfl sc_settled_by.nd (pi_list (pv 2)) (blkOk_by (own := [("have", 6)]) (N := ["row", "term", "held", "found", "n", "many", "have"]) (sc := defScope s_settled_by) (by decide +kernel)) (fun _ _ _ _ _ => pg_name (i := 6) sc_settled_by.nd rfl (Or.inl rfl)) (fun _ _ _ _ _ => (pts_one (pt_cmpR op_ge (pv 6) (pv 4) (nomark _)))) (fun _ _ _ _ _ => (pv 6))) pa_nil)))
    (pss_one (ps_if (PW.pt (pw_and (pt_cmpR op_gt (pe_op op_mul pe_int (pv 5)) (pe_callB call_len_seq (by rfl) T.z_len (by decide +kernel) (pa_cons (pv 2) pa_nil)) (nomark _)) (pw_and1 (pt_cmpR op_eq (pe_ix ix_tup (pe_ix ix_list (pv 0) (pe_op op_sub (pv 4) pe_int) (fun _ _ => rfl)) pe_int (fun _ _ => rfl)) (pv 1) (nomark _))))) (pss_one (ps_set (i := 3) sc_settled_by.nd rfl (by first | exact Or.inl rfl | exact Or.inr rfl) (pv 4))) pss_nil))))
    (pss_one (ps_ret (pv 3))))), ?_⟩
  rintro M0 ⟨es, t, hs⟩ ⟨hp, hq⟩
  have hp : es.length ≤ 100000 := hp
  have hq : hs.length ≤ 1000 := hq
  refine sp_asg ev_int ?_
  refine sp_seq (N := fun e' _ => ∃ x y z, e' = [.dat (rowD es), .dat (.int t), .dat (.list (hs.map .int)), .dat (.int (settledBy es t hs)), x, y, z]) ?_ ?_
  · have hn : ((((es.length : Int)) + 1) - 1).toNat = es.length := by omega
    refine sp_forR2 (lo := 1) (n := (es.length : Int) + 1) (ea_cons ev_int (ea_cons ((ev_op (ev_cb (ea_cons (ev_var rfl) ea_nil) cbLen) ev_int opI).is (by rw [List.length_map])) ea_nil)) ⟨by decide, by decide, by omega, by omega⟩
      (fun k e' _ => ∃ x y z, e' = [.dat (rowD es), .dat (.int t), .dat (.list (hs.map .int)), .dat (.int (settledUp es t hs k)), x, y, z]) ⟨_, _, _, rfl⟩ ?_ (fun e' _ h => by rw [hn] at h; exact h)
    rintro k e' _ hk ⟨x, y, z, rfl⟩
    have hke : k < es.length := by omega
    have hg : es[k]? = some es[k] := List.getElem?_eq_getElem hke
    have c1 : (1 : Int) + (k : Int) - 1 = (k : Int) := by omega
    have c2 : (k : Int) + 1 = 1 + (k : Int) := by omega
    refine sp_asg ((ev_cb (ea_cons (EvF.ev (evf_lcL (its := hs.map .int) (geD (1 + (k : Int))) (fun d => d) (ev_var rfl) (by rw [List.length_map, sizeLine_eq]; omega)
      (fun d hd => ?_) (fun d hd _ => ev_var rfl))) ea_nil) cbLen).is (congrArg (fun n : Nat => PyData.int (n : Int)) (cnt_out hs (1 + (k : Int))))) ?_
    · obtain ⟨h, _, rfl⟩ := List.mem_map.mp hd
      exact et_test (ev_op (ev_var rfl) (ev_var rfl) opB)
    · refine sp_if (b := decide ((hs.length : Int) < 2 * (cnt hs (1 + (k : Int)) : Int)) && decide (es[k].1 = t)) ((et_and (et_test (ev_op (ev_op ev_int (ev_var rfl) (opIC (.inl ⟨by decide, by decide⟩))) (ev_cb (ea_cons (ev_var rfl) ea_nil) cbLen) opB))
        fun _ => et_test (ev_op (ev_op (ev_op (ev_var rfl) (ev_op (ev_var rfl) ev_int opI) (opIxL (by rw [c1]; exact atI_row hg))) ev_int (opIxT (d := .int es[k].1) rfl)) (ev_var rfl) opEqI)).is (by rw [List.length_map])) (fun h => ?_) fun h => ?_
      · rw [Bool.and_eq_true, decide_eq_true_eq, decide_eq_true_eq] at h
        have this : settledUp es t hs (k + 1) = 1 + (k : Int) := by
          unfold settledUp
          rw [c2, hg, if_pos ⟨h.1, by rw [Option.map_some, h.2]⟩]
        exact sp_asg1 (ev_var rfl) ⟨_, _, _, by rw [this] <;> rfl⟩
      · have this : settledUp es t hs (k + 1) = settledUp es t hs k := by
          conv => lhs; unfold settledUp
          rw [c2, hg, if_neg]
          rintro ⟨q1, q2⟩
          rw [Option.map_some] at q2
          rw [decide_eq_true q1, decide_eq_true (Option.some.inj q2)] at h
          cases h
        exact sp_next ⟨_, _, _, by rw [this] <;> rfl⟩
  · rintro e' _ ⟨x, y, z, rfl⟩
    exact sp_ret (ev_var rfl) rfl

/-! ## Keeper.__init__ -/
theorem sc_Keeper_init : FnScope ["self", "row"] ["self", "row"] (defScope s_Keeper_init) := ⟨rfl, rfl, rfl, by decide +kernel, rfl, by decide +kernel, by decide +kernel⟩
abbrev sp_Keeper_init (K : PySem.W.Frag) (C : Addr) : Sp := spX K (Rmf K) (fun a : Addr × List Ent => [objD a.1, rowD a.2]) (fun a r => ∃ dx, r.m a.1 = some (.ins C dx []))
  (fun a r d r' => d = .none ∧ ∃ c, KAt C r' a.1 c { row := a.2 } ∧ (∀ b o, r.m b = some o → b ≠ a.1 → r'.m b = some o) ∧ (∀ v d, r.f v d → r'.f v d) ∧ r.m c.al = none ∧ r.m c.hl = none ∧ ∀ ds, ¬ r.f c.rw (.list ds)) (fun _ _ _ _ => False)
theorem ok_Keeper_init (T : Tx K mg) : FnOk P w K mg base (L2N.CX P w) 1 T.d_Keeper_init.a T.d_Keeper_init.fd ["self", "row"] (sp_Keeper_init K T.c_Keeper) := by
  refine ok_objN T.d_Keeper_init.F sc_Keeper_init (fun _ => rfl) fun cdv A outer s H E hr => ⟨_, (pss_cons (ps_fld (pv 0) pe_int rfl)
    (pss_cons (ps_fld (pv 0) (pe_callTy call_list_of (by rfl) T.z_list (by decide +kernel) (pa_cons (pv 1) pa_nil)) rfl)
    (pss_cons (ps_fld (pv 0) pe_bl rfl)
    (pss_cons (ps_fld (pv 0) pe_int rfl)
    (pss_cons (ps_fld (pv 0) (pe_lst pa_nil) rfl)
    (pss_one (ps_fld (pv 0) (pe_lst pa_nil) rfl))))))), ?_⟩
  rintro ⟨a, es⟩ r ⟨dx, h0⟩
  refine sp_seq (N := fun e' r' => e' = [.dat (objD a), .dat (rowD es)] ∧ r' = ⟨upd r.m a (.ins T.c_Keeper dx (putF "term" (.int 0) [])), addF r.f (.int 0) (.int 0)⟩) (sp_fld ev_int (ev_var rfl) h0 T.cl_Keeper T.na_Keeper_term (by show 0 < 1000; decide) fun v ⟨G, hv⟩ => by rw [hv.int_inv]; exact ⟨rfl, rfl⟩) ?_
  rintro _ _ ⟨rfl, rfl⟩
  refine sp_seq (N := fun e' r' => e' = [.dat (objD a), .dat (rowD es)] ∧ ∃ v, r' = ⟨upd r.m a (.ins T.c_Keeper dx (putF "row" v (putF "term" (.int 0) []))), addF (addF r.f (.int 0) (.int 0)) v (rowD es)⟩ ∧ ∀ ds, ¬ r.f v (.list ds))
    (sp_fldL (evf_cb (ea_cons (ev_var rfl) ea_nil) cbList) (ev_var rfl) upd_same T.cl_Keeper T.na_Keeper_row (by rw [show (putF "term" (V.int 0) []).length = 1 from rfl]; decide) fun l hl => ⟨rfl, .ref l, (by rw [upd_upd]; rfl), fun ds h => hl ds (.inl h)⟩) ?_
  rintro _ _ ⟨rfl, v, rfl, hvn⟩
  have l2 : (putF "row" v (putF "term" (V.int 0) [])).length ≤ 2 := Nat.le_trans (length_putF _ _ _) (Nat.succ_le_succ (length_putF _ _ _))
  refine sp_seq (N := fun e' r' => e' = [.dat (objD a), .dat (rowD es)] ∧ r' = ⟨upd r.m a (.ins T.c_Keeper dx (putF "leads" (.bl false) (putF "row" v (putF "term" (.int 0) [])))), addF (addF (addF r.f (.int 0) (.int 0)) v (rowD es)) (.bl false) (.bool false)⟩)
    (sp_fld ev_bl (ev_var rfl) upd_same T.cl_Keeper T.na_Keeper_leads (by omega) fun u ⟨G, hu⟩ => by rw [hu.bl_inv, upd_upd]; exact ⟨rfl, rfl⟩) ?_
  rintro _ _ ⟨rfl, rfl⟩
  have l3 : (putF "leads" (V.bl false) (putF "row" v (putF "term" (V.int 0) []))).length ≤ 3 := Nat.le_trans (length_putF _ _ _) (Nat.succ_le_succ l2)
  refine sp_seq (N := fun e' r' => e' = [.dat (objD a), .dat (rowD es)] ∧ r' = ⟨upd r.m a (.ins T.c_Keeper dx (putF "settled" (.int 0) (putF "leads" (.bl false) (putF "row" v (putF "term" (.int 0) []))))), addF (addF (addF (addF r.f (.int 0) (.int 0)) v (rowD es)) (.bl false) (.bool false)) (.int 0) (.int 0)⟩)
    (sp_fld ev_int (ev_var rfl) upd_same T.cl_Keeper T.na_Keeper_settled (by omega) fun u ⟨G, hu⟩ => by rw [hu.int_inv, upd_upd]; exact ⟨rfl, rfl⟩) ?_
  rintro _ _ ⟨rfl, rfl⟩
  have l4 : (putF "settled" (V.int 0) (putF "leads" (V.bl false) (putF "row" v (putF "term" (V.int 0) [])))).length ≤ 4 := Nat.le_trans (length_putF _ _ _) (Nat.succ_le_succ l3)
  generalize hf : addF (addF (addF (addF r.f (.int 0) (.int 0)) v (rowD es)) (.bl false) (.bool false)) (.int 0) (.int 0) = f
  have hfv : f v (rowD es) := by rw [← hf]; exact .inl (.inl (.inr ⟨rfl, rfl⟩))
  have hfo : ∀ v d, r.f v d → f v d := fun v d h => by rw [← hf]; exact .inl (.inl (.inl (.inl h)))
  generalize hg : putF "settled" (V.int 0) (putF "leads" (V.bl false) (putF "row" v (putF "term" (V.int 0) []))) = g at l4
  refine sp_seq (N := fun e' r' => e' = [.dat (objD a), .dat (rowD es)] ∧ ∃ l, (upd r.m a (.ins T.c_Keeper dx g)) l = none ∧ l ≠ a ∧ r' = ⟨upd (upd r.m l (.lst [])) a (.ins T.c_Keeper dx (putF "ahead" (.ref l) g)), f⟩)
    (sp_fldN (ns := []) (evf_lst ea_nil (Nat.zero_le _)) (ev_var rfl) upd_same T.cl_Keeper T.na_Keeper_ahead (by omega) (fun _ => ev_var rfl) fun l hl hla => ⟨rfl, l, hl, hla, by
      have : upd (upd (upd r.m a (.ins T.c_Keeper dx g)) l (.lst (([] : List Int).map .int))) a (.ins T.c_Keeper dx (putF "ahead" (.ref l) g)) = upd (upd r.m l (.lst [])) a (.ins T.c_Keeper dx (putF "ahead" (.ref l) g)) := by
        funext b
        by_cases h1 : b = a
        · rw [h1, upd_same, upd_same]
        · rw [upd_ne h1, upd_ne h1]
          by_cases h2 : b = l
          · rw [h2, upd_same, upd_same]; rfl
          · rw [upd_ne h2, upd_ne h2, upd_ne h1]
      rw [this]⟩) ?_
  rintro _ _ ⟨rfl, l, hl, hla, rfl⟩
  have l5 : (putF "ahead" (V.ref l) g).length ≤ 5 := Nat.le_trans (length_putF _ _ _) (Nat.succ_le_succ l4)
  refine sp_fldN (ns := []) (evf_lst ea_nil (Nat.zero_le _)) (ev_var rfl) upd_same T.cl_Keeper T.na_Keeper_held (by omega) (fun _ => ev_var rfl) fun q hq hqa => ?_
  have hq : (upd (upd r.m l (.lst [])) a (.ins T.c_Keeper dx (putF "ahead" (.ref l) g))) q = none := hq
  refine ⟨rfl, ⟨dx, v, l, q⟩, ⟨?_, hfv, ?_, ?_, ?_⟩, ?_, hfo, ?_, ?_, hvn⟩
  · show (upd _ a _) a = _
    rw [upd_same, ← hg, kf_all]; all_goals rfl
  · have hlq : l ≠ q := fun z => by
      rw [← z, upd_ne hla, upd_same] at hq; cases hq
    show (upd (upd (upd (upd r.m l _) a _) q _) a _) l = _
    rw [upd_ne hla, upd_ne hlq, upd_ne hla, upd_same]; all_goals rfl
  · show (upd (upd _ q _) a _) q = _
    rw [upd_ne hqa, upd_same]; all_goals rfl
  · intro z
    have z : l = q := z
    rw [← z, upd_ne hla, upd_same] at hq; cases hq
  · intro b o hb hba
    rw [upd_ne hla] at hl
    have hbl : b ≠ l := ne_of_none hb hl
    have hbq : b ≠ q := fun z => by rw [← z, upd_ne hba, upd_ne hbl, hb] at hq; cases hq
    show (upd (upd (upd (upd r.m l _) a _) q _) a _) b = some o
    rw [upd_ne hba, upd_ne hbq, upd_ne hba, upd_ne hbl]; exact hb
  · rw [upd_ne hla] at hl; exact hl
  · have hlq : q ≠ l := fun z => by
      rw [z, upd_ne hla, upd_same] at hq; cases hq
    rw [upd_ne hqa, upd_ne hlq] at hq; exact hq

/-! ## Keeper.hear -/
theorem sc_Keeper_hear : FnScope ["self", "term"] ["self", "term"] (defScope s_Keeper_hear) := ⟨rfl, rfl, rfl, by decide +kernel, rfl, by decide +kernel, by decide +kernel⟩
abbrev sp_Keeper_hear (K : PySem.W.Frag) (C : Addr) : Sp := spX K (Rmf K) (fun a : Addr × Int × KC × KS => [objD a.1, .int a.2.1]) (fun a r => KAt C r a.1 a.2.2.1 a.2.2.2)
  (fun a r d r' => d = .none ∧ KAt C r' a.1 a.2.2.1 (a.2.2.2.hear a.2.1) ∧ Fr1 a.1 r r') (fun _ _ _ _ => False)
theorem ok_Keeper_hear (T : Tx K mg) : FnOk P w K mg base (L2N.CX P w) 1 T.d_Keeper_hear.a T.d_Keeper_hear.fd ["self", "term"] (sp_Keeper_hear K T.c_Keeper) := by
  refine ok_objN T.d_Keeper_hear.F sc_Keeper_hear (fun _ => rfl) fun cdv A outer s H E hr => ⟨_, (pss_one (ps_if (pt_cmpR op_gt (pv 1) (pe_fld (pv 0) rfl) (nomark _)) (pss_cons (ps_fld (pv 0) (pv 1) rfl)
    (pss_one (ps_fld (pv 0) pe_bl rfl))) pss_nil)), ?_⟩
  rintro ⟨a, t, c, k⟩ r h0
  refine sp_if (et_test (ev_op (ev_var rfl) (ev_fld (ev_var rfl) h0.ob T.cl_Keeper T.na_Keeper_term kf_term .int) opB)) (fun h => ?_) fun h => ?_
  · have hk : k.hear t = { k with term := t, leads := false } := by unfold KS.hear; rw [if_pos (of_decide_eq_true h)]
    refine sp_seq (N := fun e' r' => e' = [.dat (objD a), .dat (.int t)] ∧ r' = ⟨upd r.m a (.ins T.c_Keeper c.dx (kf t c.rw k.leads k.settled c.al c.hl)), addF r.f (.int t) (.int t)⟩)
      (sp_fld (ev_var rfl) (ev_var rfl) h0.ob T.cl_Keeper T.na_Keeper_term kf_len fun v ⟨G, hv⟩ => by rw [hv.int_inv, kf_pterm]; exact ⟨rfl, rfl⟩) ?_
    rintro _ _ ⟨rfl, rfl⟩
    refine sp_fld ev_bl (ev_var rfl) upd_same T.cl_Keeper T.na_Keeper_leads kf_len fun v ⟨G, hv⟩ => ?_
    rw [hv.bl_inv, kf_pleads, upd_upd]
    have fr : Fr1 a r ⟨upd r.m a (.ins T.c_Keeper c.dx (kf t c.rw false k.settled c.al c.hl)), addF (addF r.f (.int t) (.int t)) (.bl false) (.bool false)⟩ := ⟨fun b hb => upd_ne hb, fun v d h => .inl (.inl h)⟩
    refine ⟨rfl, ?_, fr⟩
    show KAt _ _ a c (k.hear t)
    rw [hk]
    exact h0.upd fr upd_same rfl rfl rfl
  · have hk : k.hear t = k := by unfold KS.hear; rw [if_neg (of_decide_eq_false h)]
    refine sp_next ⟨rfl, ?_, Fr1.refl _ _⟩
    show KAt _ _ a c (k.hear t)
    rw [hk]; exact h0

/-! ## Keeper.asked -/
theorem sc_Keeper_asked : FnScope ["self", "term", "row"] ["self", "term", "row"] (defScope s_Keeper_asked) := ⟨rfl, rfl, rfl, by decide +kernel, rfl, by decide +kernel, by decide +kernel⟩
abbrev sp_Keeper_asked (K : PySem.W.Frag) (C : Addr) : Sp := spX K (Rmf K) (fun a : Addr × Int × List Ent × KC × KS => [objD a.1, .int a.2.1, rowD a.2.2.1]) (fun a r => KAt C r a.1 a.2.2.2.1 a.2.2.2.2 ∧ rowOk a.2.2.1 ∧ rowOk a.2.2.2.2.row)
  (fun a r d r' => d = .bool (decide (a.2.2.2.2.term < a.2.1) && asNew a.2.2.1 a.2.2.2.2.row) ∧ KAt C r' a.1 a.2.2.2.1 (a.2.2.2.2.hear a.2.1) ∧ Fr1 a.1 r r') (fun _ _ _ _ => False)
theorem ok_Keeper_asked (T : Tx K mg) : FnOk P w K mg base (L2N.CX P w) 3 T.d_Keeper_asked.a T.d_Keeper_asked.fd ["self", "term", "row"] (sp_Keeper_asked K T.c_Keeper) := by
  refine ok_objN T.d_Keeper_asked.F sc_Keeper_asked (fun _ => rfl) fun cdv A outer s H E hr => ⟨_, (pss_cons (ps_if (pt_cmpR op_le (pv 1) (pe_fld (pv 0) rfl) (nomark _)) (pss_one (ps_ret pe_bl)) pss_nil)
    (pss_cons (ps_expr (pe_meth (pv 0) T.cl_Keeper T.d_Keeper_hear.m (ok_Keeper_hear T) (hr.mono (by decide)) T.d_Keeper_hear.b .nil (passXN (L2N.takes_of rfl rfl rfl rfl)) (pa_cons (pv 1) pa_nil)))
    (pss_one (ps_ret (pe_call (ok_as_new T) (hr.mono (by decide)) (by rfl) T.d_as_new.g T.d_as_new.F.kp T.d_as_new.b .nil pass0 (pa_cons (pv 2) (pa_cons (pe_fld (pv 0) rfl) pa_nil))))))), ?_⟩
  rintro ⟨a, t, es, c, k⟩ r ⟨h0, h1, h2⟩
  refine sp_when (et_test (ev_op (ev_var rfl) (ev_fld (ev_var rfl) h0.ob T.cl_Keeper T.na_Keeper_term kf_term .int) opB)) (fun h => ?_) fun h => ?_
  · have ht : t ≤ k.term := of_decide_eq_true h
    have hk : k.hear t = k := by unfold KS.hear; rw [if_neg (by omega)]
    refine sp_ret ev_bl ⟨?_, ?_, Fr1.refl _ _⟩
    · show PyData.bool false = PyData.bool (decide (k.term < t) && _)
      rw [decide_eq_false (by omega)]; rfl
    · show KAt _ _ a c (k.hear t)
      rw [hk]; exact h0
  · have ht' : ¬ t ≤ k.term := of_decide_eq_false h
    have ht : k.term < t := by omega
    refine sp_seq (N := fun e' r' => e' = [.dat (objD a), .dat (.int t), .dat (rowD es)] ∧ KAt T.c_Keeper r' a c (k.hear t) ∧ Fr1 a r r')
      (sp_drop (EvX.s (evx_meth (a, t, c, k) (ev_var rfl) (inst_of h0.ob kf_hear) (ea_cons (ev_var rfl) ea_nil) rfl h0) (fun _ _ z => z)) (fun d r' ⟨_, p1, p2⟩ => ⟨rfl, p1, p2⟩)) ?_
    rintro _ r' ⟨rfl, p1, p2⟩
    refine sp_ret (ev_as_new (a := es) (b := k.row) (ev_var rfl) (ev_fld (ev_var rfl) p1.ob T.cl_Keeper T.na_Keeper_row kf_row (.fact ?_)) h1 h2) ⟨?_, p1, p2⟩
    · have := p1.row
      have e1 : (k.hear t).row = k.row := by unfold KS.hear; split <;> rfl
      rw [← e1]; exact this
    · show PyData.bool _ = PyData.bool (decide (k.term < t) && _)
      rw [decide_eq_true ht]; rfl

/-! ## Keeper.begin -/
theorem sc_Keeper_begin : FnScope ["self", "count"] ["self", "count"] (defScope s_Keeper_begin) := ⟨rfl, rfl, rfl, by decide +kernel, rfl, by decide +kernel, by decide +kernel⟩
theorem rep_ints (n : Nat) (x : Int) : (List.replicate n [PyData.int x]).flatten = (List.replicate n x).map PyData.int := by
  induction n with
  | zero => rfl
  | succ n ih => rw [List.replicate_succ, List.replicate_succ, List.flatten_cons, ih]; rfl
abbrev sp_Keeper_begin (K : PySem.W.Frag) (C : Addr) : Sp := spX K (Rmf K) (fun a : Addr × Int × KC × KS => [objD a.1, .int a.2.1]) (fun a r => KAt C r a.1 a.2.2.1 a.2.2.2 ∧ 0 ≤ a.2.1 ∧ a.2.1 ≤ 9)
  (fun a r d r' => d = .none ∧ ∃ c, KAt C r' a.1 c (a.2.2.2.begin_ a.2.1.toNat) ∧ (∀ b o, r.m b = some o → b ≠ a.1 → r'.m b = some o) ∧ (∀ v d, r.f v d → r'.f v d) ∧ r.m c.al = none ∧ r.m c.hl = none) (fun _ _ _ _ => False)
theorem ok_Keeper_begin (T : Tx K mg) : FnOk P w K mg base (L2N.CX P w) 1 T.d_Keeper_begin.a T.d_Keeper_begin.fd ["self", "count"] (sp_Keeper_begin K T.c_Keeper) := by
  refine ok_objN T.d_Keeper_begin.F sc_Keeper_begin (fun _ => rfl) fun cdv A outer s H E hr => ⟨_, (pss_cons (ps_fld (pv 0) pe_bl rfl)
    (pss_cons (ps_fld (pv 0) (pe_op op_rep (pe_lst (pa_cons (pe_callB call_len_seq (by rfl) T.z_len (by decide +kernel) (pa_cons (pe_fld (pv 0) rfl) pa_nil)) pa_nil)) (pv 1)) rfl)
    (pss_one (ps_fld (pv 0) (pe_op op_rep (pe_lst (pa_cons pe_int pa_nil)) (pv 1)) rfl)))), ?_⟩
  rintro ⟨a, n, c, k⟩ r ⟨h0, h1, h2⟩
  have h1 : 0 ≤ n := h1
  have h2 : n ≤ 9 := h2
  refine sp_seq (N := fun e' r' => e' = [.dat (objD a), .dat (.int n)] ∧ r' = ⟨upd r.m a (.ins T.c_Keeper c.dx (kf k.term c.rw true k.settled c.al c.hl)), addF r.f (.bl true) (.bool true)⟩)
    (sp_fld ev_bl (ev_var rfl) h0.ob T.cl_Keeper T.na_Keeper_leads kf_len fun v ⟨G, hv⟩ => by rw [hv.bl_inv, kf_pleads]; exact ⟨rfl, rfl⟩) ?_
  rintro _ _ ⟨rfl, rfl⟩
  refine sp_seq (N := fun e' r' => e' = [.dat (objD a), .dat (.int n)] ∧ ∃ l, r.m l = none ∧ l ≠ a ∧ r' = ⟨upd (upd r.m l (.lst ((List.replicate n.toNat (k.row.length : Int)).map .int))) a (.ins T.c_Keeper c.dx (kf k.term c.rw true k.settled l c.hl)), addF r.f (.bl true) (.bool true)⟩)
    (sp_fldN (ns := List.replicate n.toNat (k.row.length : Int)) (by
      rw [← rep_ints]
      exact evf_op (ev_lst (ea_cons ((ev_cb (ea_cons (ev_fld (ev_var rfl) upd_same T.cl_Keeper T.na_Keeper_row kf_row (by exact VF.fact (Or.inl h0.row))) ea_nil) (cbLen (ds := k.row.map entD))).is (by rw [List.length_map])) ea_nil) (by show 1 ≤ sizeLine; decide)) (ev_var rfl) (opRep (by omega) (by omega) (by rw [sizeLine_eq]; show 1 * n.toNat ≤ _; omega)))
      (ev_var rfl) upd_same T.cl_Keeper T.na_Keeper_ahead kf_len (fun _ => ev_var rfl) fun l hl hla => ?_) ?_
  · have hl : upd r.m a (.ins T.c_Keeper c.dx (kf k.term c.rw true k.settled c.al c.hl)) l = none := hl
    rw [upd_ne hla] at hl
    refine ⟨rfl, l, hl, hla, ?_⟩
    rw [kf_pahead]
    have : ∀ o u o', upd (upd (upd r.m a o) l u) a o' = upd (upd r.m l u) a o' := fun o u o' => by
      funext b
      by_cases q1 : b = a
      · rw [q1, upd_same, upd_same]
      · rw [upd_ne q1, upd_ne q1]
        by_cases q2 : b = l
        · rw [q2, upd_same, upd_same]
        · rw [upd_ne q2, upd_ne q2, upd_ne q1]
    rw [this]
  rintro _ _ ⟨rfl, l, hl, hla, rfl⟩
  refine sp_fldN (ns := List.replicate n.toNat 0) (by
      rw [← rep_ints]
      exact evf_op (ev_lst (ea_cons ev_int ea_nil) (by show 1 ≤ sizeLine; decide)) (ev_var rfl) (opRep (by omega) (by omega) (by rw [sizeLine_eq]; show 1 * n.toNat ≤ _; omega)))
      (ev_var rfl) upd_same T.cl_Keeper T.na_Keeper_held kf_len (fun _ => ev_var rfl) fun q hq hqa => ?_
  have hq : upd (upd r.m l (.lst ((List.replicate n.toNat (k.row.length : Int)).map .int))) a (.ins T.c_Keeper c.dx (kf k.term c.rw true k.settled l c.hl)) q = none := hq
  rw [upd_ne hqa] at hq
  have hql : q ≠ l := fun z => by rw [z, upd_same] at hq; cases hq
  rw [upd_ne hql] at hq
  refine ⟨rfl, ⟨c.dx, c.rw, l, q⟩, ⟨?_, .inl h0.row, ?_, ?_, hql.symm⟩, fun b o hb hba => ?_, fun v d h => .inl h, hl, hq⟩
  · show (upd _ a _) a = _
    rw [upd_same, kf_pheld]; all_goals rfl
  · show (upd (upd (upd (upd r.m l _) a _) q _) a _) l = _
    rw [upd_ne hla, upd_ne hql.symm, upd_ne hla, upd_same]; all_goals rfl
  · show (upd (upd _ q _) a _) q = _
    rw [upd_ne hqa, upd_same]; all_goals rfl
  · show (upd (upd (upd (upd r.m l _) a _) q _) a _) b = some o
    rw [upd_ne hba, upd_ne (ne_of_none hb hq), upd_ne hba, upd_ne (ne_of_none hb hl)]; exact hb

/-! ## Room.__init__ -/
theorem sc_Room_init : FnScope ["self", "count", "k"] ["self", "count"] (defScope s_Room_init) := ⟨rfl, rfl, rfl, by decide +kernel, rfl, by decide +kernel, by decide +kernel⟩
structure MkR (CR CK p dx : Addr) (k : Nat) (ds : List PyData) (a : Nat → Addr) (c : Nat → KC) (r : MF) : Prop where
  ds : ds = (List.range k).map fun i => objD (a i)
  ob : r.m p = some (.ins CR dx [])
  at_ : ∀ i, i < k → KAt CK r (a i) (c i) {}
  sep : ∀ i j, i < k → j < k → i ≠ j → a i ≠ a j ∧ (c i).al ≠ (c j).al ∧ (c i).hl ≠ (c j).hl ∧ (c i).al ≠ (c j).hl
def updA (a : Nat → Addr) (i : Nat) (x : Addr) : Nat → Addr := fun j => if j = i then x else a j
theorem updA_same {a : Nat → Addr} {i : Nat} {x : Addr} : updA a i x i = x := by unfold updA; rw [if_pos rfl]
theorem updA_ne {a : Nat → Addr} {i j : Nat} {x : Addr} (h : j ≠ i) : updA a i x j = a j := by unfold updA; rw [if_neg h]
theorem MkR.more {CR CK p dx x : Addr} {k : Nat} {ds : List PyData} {a : Nat → Addr} {c : Nat → KC} {cx : KC} {r r' : MF} (h : MkR CR CK p dx k ds a c r) (hx : r.m x = none) (hk : KAt CK r' x cx {}) (fm : ∀ b o, r.m b = some o → r'.m b = some o) (ff : ∀ v d, r.f v d → r'.f v d)
    (hal : r.m cx.al = none) (hhl : r.m cx.hl = none) : MkR CR CK p dx (k + 1) (ds ++ [objD x]) (updA a k x) (updC c k cx) r' := by
  have ne : ∀ {b : Addr} {o : HO} {y : Addr}, r.m b = some o → r.m y = none → b ≠ y := fun h1 h2 z => by rw [z, h2] at h1; cases h1
  refine ⟨?_, fm _ _ h.ob, fun i hi => ?_, fun i j hi hj hij => ?_⟩
  · rw [List.range_succ, List.map_append, h.ds]
    congr 1
    · refine List.map_congr_left fun i hi => ?_
      rw [updA_ne (Nat.ne_of_lt (List.mem_range.mp hi))]
    · show [objD x] = [objD (updA a k x k)]
      rw [updA_same]
  · by_cases e : i = k
    · subst e; rw [updA_same, updC_same]; exact hk
    · rw [updA_ne e, updC_ne e]
      exact (h.at_ i (by omega)).mono fm ff
  · by_cases e1 : i = k
    · have e2 : j ≠ k := fun z => hij (e1.trans z.symm)
      have K := h.at_ j (by omega)
      subst e1
      rw [updA_same, updC_same, updA_ne e2, updC_ne e2]
      exact ⟨(ne K.ob hx).symm, (ne K.al hal).symm, (ne K.hl hhl).symm, (ne K.hl hal).symm⟩
    · have K := h.at_ i (by omega)
      rw [updA_ne e1, updC_ne e1]
      by_cases e2 : j = k
      · subst e2
        rw [updA_same, updC_same]
        exact ⟨ne K.ob hx, ne K.al hal, ne K.hl hhl, ne K.al hhl⟩
      · rw [updA_ne e2, updC_ne e2]
        exact h.sep i j (by omega) (by omega) hij
abbrev CntOk (d : PyData) : Prop := (∃ n : Int, d = .int n) ∨ (∃ b : Bool, d = .bool b) ∨ d = .none ∨ (∃ x : Str, d = .str x) ∨ (∃ ds : List PyData, d = .list ds) ∨ ∃ ds : List PyData, d = .tuple ds
abbrev BadC (d : PyData) : Prop := ∀ n : Int, 1 ≤ n → n ≤ 9 → d ≠ .int n
abbrev sp_Room_initX (K : PySem.W.Frag) (CR CK X : Addr) : Sp := spX K (Rmf K) (fun a : Addr × PyData => [objD a.1, a.2]) (fun a r => (∃ dx, r.m a.1 = some (.ins CR dx [])) ∧ CntOk a.2)
  (fun a r d r' => d = .none ∧ ∃ n : Int, (1 ≤ n ∧ n ≤ 9) ∧ a.2 = .int n ∧ ∃ L b c, RoomAt CR CK ⟨a.1, n.toNat, fun _ => {}⟩ L b c r') (fun a r c r' => BadC a.2 ∧ c = .ref X)
theorem ok_Room_initX (T : Tx K mg) : FnOk P w K mg base (L2N.CX P w) 3 T.d_Room_init.a T.d_Room_init.fd ["self", "count"] (sp_Room_initX K T.c_Room T.c_Keeper T.c_NoRoom) := by
  refine ok_objN T.d_Room_init.F sc_Room_init (fun _ => rfl) fun cdv A outer s H E hr => ⟨_, (pss_cons (ps_if (PW.pt (pw_or (pt_not (pt_val (pe_callB call_isi (by rfl) T.z_isinstance (by decide +kernel) (pa_cons (pv 1) (pa_cons (pe_bltn (v := .ty "int") (u := .type "int") (by rfl) T.z_int (by decide +kernel) rfl) pa_nil))))) (pw_or (pt_val (pe_callB call_isi (by rfl) T.z_isinstance (by decide +kernel) (pa_cons (pv 1) (pa_cons (pe_bltn (v := .ty "bool") (u := .type "bool") (by rfl) T.z_bool (by decide +kernel) rfl) pa_nil)))) (pw_or (pt_cmpR op_lt (pv 1) pe_int (nomark _)) (pw_or1 (pt_cmpR op_gt (pv 1) (pe_glob (v := .int 9) rfl T.v_MOST ⟨_, rfl⟩) (nomark _))))))) (pss_one (L2N.ps_raise rfl (L2N.takes_of rfl rfl rfl rfl) (L2N.pmk_own PySem.F.excBase_ValueError T.x_NoRoom T.mg_NoRoom T.kx_NoRoom (raises_own T.bx_NoRoom T.tx_NoRoom) rfl))) pss_nil)
    (pss_one (ps_fld (pv 0) (pe_lc (own := [("k", 2)]) (g := gName 2) (tt := tYes) rfl sc_Room_init.nd (pi_range1 (by rfl) T.z_range (pa_cons (pv 1) pa_nil)) (blkOk_by (own := [("k", 2)]) (N := ["self", "count", "k"]) (sc := defScope s_Room_init) (by decide +kernel)) (fun _ _ _ _ _ => pg_name (i := 2) sc_Room_init.nd rfl (Or.inl rfl)) (fun _ _ _ _ _ => pts_nil) (fun _ _ _ _ _ => (pe_make T.d_Keeper_init.m (ok_Keeper_init T) (hr.mono (by decide)) (by rfl) T.mg_Keeper T.d_Keeper_init.b .nil passLN (pa_cons (pe_lst pa_nil) pa_nil)))) rfl))), ?_⟩
  rintro ⟨p, d⟩ r ⟨⟨dx, h0⟩, hc⟩
  have h0 : r.m p = some (.ins T.c_Room dx []) := h0
  rcases (show CntOk d from hc) with ⟨n, rfl⟩ | ⟨b, rfl⟩ | rfl | ⟨x, rfl⟩ | ⟨ds, rfl⟩ | ⟨ds, rfl⟩
  · by_cases hn : 1 ≤ n ∧ n ≤ 9
    · obtain ⟨h1, h2⟩ := hn
      refine sp_when (b := false) ((et_or (a := false) (b := false) (et_not (a := true) (et_B (isi_int (ev_var rfl)))) fun _ => (et_or (a := false) (b := false) (et_B (isi_intB (ev_var rfl))) fun _ => (et_or (a := false) (b := false)
        (et_test ((ev_op (ev_var rfl) ev_int opB).is (by rw [decide_eq_false (by omega)]))) fun _ => et_test ((ev_op (ev_var rfl) ev_int opB).is (by rw [decide_eq_false (by omega)]))).is rfl).is rfl).is rfl) (fun h => nomatch h) fun _ => ?_
      refine sp_fldS (a := p) (Pv := fun d r' => ∃ ds, d = .list ds ∧ ∃ a c, MkR T.c_Room T.c_Keeper p dx n.toNat ds a c r') (evs_lcR1 (fun k ds r' => ∃ a c, MkR T.c_Room T.c_Keeper p dx k ds a c r') (ea_cons (ev_var rfl) ea_nil) (by omega) (by omega) ⟨fun _ => p, fun _ => ⟨p, .non, p, p⟩, by rfl, h0, fun i hi => absurd hi (Nat.not_lt_zero _), fun i j hi => absurd hi (Nat.not_lt_zero _)⟩ ?_) T.cl_Room T.na_Room_keepers ?_
      · rintro k ds r' hk ⟨a, c, hI⟩ hl
        refine EvX.s (PE := fun _ _ => False) (evx_make (ea_cons (ev_lst ea_nil (Nat.zero_le _)) ea_nil) fun x dx' hx => ⟨(x, []), rfl, ⟨dx', upd_same⟩, ?_, fun _ _ z => z⟩) fun _ _ z => z
        rintro d r'' ⟨e1, cx, g1, g2, g3, g4, g5, g6⟩
        have g4 : upd r'.m x (.ins T.c_Keeper dx' []) cx.al = none := g4
        have g5 : upd r'.m x (.ins T.c_Keeper dx' []) cx.hl = none := g5
        have nal : cx.al ≠ x := fun z => by rw [z, upd_same] at g4; cases g4
        have nhl : cx.hl ≠ x := fun z => by rw [z, upd_same] at g5; cases g5
        rw [upd_ne nal] at g4
        rw [upd_ne nhl] at g5
        refine ⟨e1, _, _, hI.more hx g1 (fun b o hb => ?_) g3 g4 g5⟩
        have hbx : b ≠ x := ne_of_none hb hx
        exact g2 b o (by show upd r'.m x _ b = _; rw [upd_ne hbx]; exact hb) hbx
      · rintro d r' ⟨ds, rfl, a, c, hI⟩
        refine ⟨ev_var rfl, dx, [], hI.ob, by show 0 < 1000; decide, fun v ⟨G, hv⟩ => ?_⟩
        obtain ⟨L, vs, rfl, _, _⟩ := hv.lst_inv
        have ep : putF "keepers" (.ref L) [] = rf L := rfl
        refine ⟨rfl, n, ⟨h1, h2⟩, rfl, L, a, c, ⟨dx, by show upd _ _ _ _ = _; rw [upd_same, ep]⟩, .inr ⟨rfl, by rw [hI.ds]⟩, fun i hi => ?_, hI.sep⟩
        have hk := hI.at_ i hi
        exact ⟨by show upd _ _ _ _ = _; rw [upd_ne (ne_of hk.ob hI.ob (by intro z; injection z with _ _ z; have := congrArg List.length z; exact absurd (show (6 : Nat) = 0 from this) (by decide)))]; exact hk.ob, .inl hk.row, by show upd _ _ _ _ = _; rw [upd_ne (ne_of hk.al hI.ob (by intro z; cases z))]; exact hk.al, by show upd _ _ _ _ = _; rw [upd_ne (ne_of hk.hl hI.ob (by intro z; cases z))]; exact hk.hl, hk.ne⟩
    · refine sp_when (b := true) ((et_or (a := false) (b := true) (et_not (a := true) (et_B (isi_int (ev_var rfl)))) fun _ => (et_or (a := false) (b := true) (et_B (isi_intB (ev_var rfl))) fun _ => (et_or (a := decide (n < 1)) (b := decide (9 < n))
        (et_test (ev_op (ev_var rfl) ev_int opB)) fun _ => et_test (ev_op (ev_var rfl) ev_int opB)).is (by by_cases c : n < 1 <;> simp [c] <;> omega)).is rfl).is rfl) (fun _ => sp_raise ⟨fun m g1 g2 e => ?_, rfl⟩) (fun h => nomatch h)
      have e : PyData.int n = .int m := e
      injection e with e
      omega
  · refine sp_when (b := true) ((et_or (a := false) (b := true) (et_not (a := true) (et_B (ev_isi (ty := "bool") (ev_var rfl) rfl (by decide) (by decide +kernel)))) fun _ => (et_or (a := true) (b := false) (et_B (isi_bool (ev_var rfl))) fun z => nomatch z).is rfl).is rfl) (fun _ => sp_raise ⟨fun m _ _ e => (by cases e), rfl⟩) (fun h => nomatch h)
  · refine sp_when (b := true) ((et_or (a := true) (b := false) (et_not (a := false) (et_B (ev_isi (ty := "NoneType") (ev_var rfl) rfl (by decide) (by decide +kernel)))) fun z => nomatch z).is rfl) (fun _ => sp_raise ⟨fun m _ _ e => (by cases e), rfl⟩) (fun h => nomatch h)
  · refine sp_when (b := true) ((et_or (a := true) (b := false) (et_not (a := false) (et_B (ev_isi (ty := "str") (ev_var rfl) rfl (by decide) (by decide +kernel)))) fun z => nomatch z).is rfl) (fun _ => sp_raise ⟨fun m _ _ e => (by cases e), rfl⟩) (fun h => nomatch h)
  · refine sp_when (b := true) ((et_or (a := true) (b := false) (et_not (a := false) (et_B (ev_isi (ty := "list") (ev_var rfl) rfl (by decide) (by decide +kernel)))) fun z => nomatch z).is rfl) (fun _ => sp_raise ⟨fun m _ _ e => (by cases e), rfl⟩) (fun h => nomatch h)
  · refine sp_when (b := true) ((et_or (a := true) (b := false) (et_not (a := false) (et_B (ev_isi (ty := "tuple") (ev_var rfl) rfl (by decide) (by decide +kernel)))) fun z => nomatch z).is rfl) (fun _ => sp_raise ⟨fun m _ _ e => (by cases e), rfl⟩) (fun h => nomatch h)
abbrev sp_Room_init (K : PySem.W.Frag) (CR CK : Addr) : Sp := spX K (Rmf K) (fun a : Addr × Int => [objD a.1, .int a.2]) (fun a r => (∃ dx, r.m a.1 = some (.ins CR dx [])) ∧ 1 ≤ a.2 ∧ a.2 ≤ 9)
  (fun a r d r' => d = .none ∧ ∃ L b c, RoomAt CR CK ⟨a.1, a.2.toNat, fun _ => {}⟩ L b c r') (fun _ _ _ _ => False)
theorem ok_Room_init (T : Tx K mg) : FnOk P w K mg base (L2N.CX P w) 3 T.d_Room_init.a T.d_Room_init.fd ["self", "count"] (sp_Room_init K T.c_Room T.c_Keeper) := by
  refine (ok_Room_initX T).imp fun vs H Q E h => ?_
  obtain ⟨G, M, ⟨p, n⟩, r, wf, hv, ⟨hdx, h1, h2⟩, q, qe⟩ := h
  refine ⟨G, M, (p, .int n), r, wf, hv, ⟨hdx, .inl ⟨n, rfl⟩⟩, fun v d r' G' M' H' z s' w' hx => ?_, fun c r' G' M' H' z _ _ => (z.1 n h1 h2 rfl).elim⟩
  obtain ⟨e1, m, _, em, y⟩ := z
  have em : PyData.int n = .int m := em
  injection em with em
  subst em
  exact q v d r' G' M' H' ⟨e1, y⟩ s' w' hx

/-! ## Room.keeper -/
theorem sc_Room_keeper : FnScope ["self", "k"] ["self", "k"] (defScope s_Room_keeper) := ⟨rfl, rfl, rfl, by decide +kernel, rfl, by decide +kernel, by decide +kernel⟩
structure RX where
  s : RSt
  L : Addr
  a : Nat → Addr
  c : Nat → KC
abbrev sp_Room_keeper (K : PySem.W.Frag) (CR CK X : Addr) : Sp := spX K (Rmf K) (fun a : RX × Int => [objD a.1.s.p, .int a.2]) (fun a r => RoomAt CR CK a.1.s a.1.L a.1.a a.1.c r)
  (fun a r d r' => (0 ≤ a.2 ∧ a.2 < a.1.s.n) ∧ d = objD (a.1.a a.2.toNat) ∧ r' = r) (fun a r c r' => ¬ (0 ≤ a.2 ∧ a.2 < a.1.s.n) ∧ c = .ref X ∧ r' = r)
theorem ok_Room_keeper (T : Tx K mg) : FnOk P w K mg base (L2N.CX P w) 1 T.d_Room_keeper.a T.d_Room_keeper.fd ["self", "k"] (sp_Room_keeper K T.c_Room T.c_Keeper T.c_NoKeeper) := by
  refine ok_objN T.d_Room_keeper.F sc_Room_keeper (fun _ => rfl) fun cdv A outer s H E hr => ⟨_, (pss_cons (ps_if (PW.pt (pw_or (pt_cmpR op_lt (pv 1) pe_int (nomark _)) (pw_or1 (pt_cmpR op_ge (pv 1) (pe_callB call_len_seq (by rfl) T.z_len (by decide +kernel) (pa_cons (pe_fld (pv 0) rfl) pa_nil)) (nomark _))))) (pss_one (L2N.ps_raise rfl (L2N.takes_of rfl rfl rfl rfl) (L2N.pmk_own PySem.F.excBase_ValueError T.x_NoKeeper T.mg_NoKeeper T.kx_NoKeeper (raises_own T.bx_NoKeeper T.tx_NoKeeper) rfl))) pss_nil)
    (pss_one (ps_ret (pe_ix ix_list (pe_fld (pv 0) rfl) (pv 1) (fun _ _ => rfl))))), ?_⟩
  rintro ⟨⟨s, L, a, c⟩, k⟩ r h0
  have h0 : RoomAt T.c_Room T.c_Keeper s L a c r := h0
  obtain ⟨dp, hob⟩ := h0.ob
  have ek : EvD K (Rmf K) (tFld K (tVar 0) ("keepers" : Str)) [.dat (objD s.p), .dat (.int k)] r (.list ((List.range s.n).map fun i => objD (a i))) := ev_fld (ev_var rfl) hob T.cl_Room T.na_Room_keepers rf_keepers (.fact h0.ks)
  refine sp_when (b := decide (k < 0) || decide ((s.n : Int) ≤ k)) (et_or (et_test (ev_op (ev_var rfl) ev_int opB)) fun _ => et_test ((ev_op (ev_var rfl) (ev_cb (ea_cons ek ea_nil) cbLen) opB).is (by rw [List.length_map, List.length_range]))) (fun h => ?_) fun h => ?_
  · rw [Bool.or_eq_true, decide_eq_true_eq, decide_eq_true_eq] at h
    exact sp_raise ⟨by show ¬ (0 ≤ k ∧ k < s.n); omega, rfl, rfl⟩
  · rw [Bool.or_eq_false_iff, decide_eq_false_iff_not, decide_eq_false_iff_not] at h
    exact sp_ret (ev_op ek (ev_var rfl) (opIxL (h0.at_ks (by omega) (by omega)))) ⟨by show 0 ≤ k ∧ k < s.n; omega, rfl, rfl⟩

/-! ## Room.leader -/
theorem sc_Room_leader : FnScope ["self", "k", "own"] ["self", "k"] (defScope s_Room_leader) := ⟨rfl, rfl, rfl, by decide +kernel, rfl, by decide +kernel, by decide +kernel⟩
abbrev sp_Room_leader (K : PySem.W.Frag) (CR CK X Y : Addr) : Sp := spX K (Rmf K) (fun a : RX × Int => [objD a.1.s.p, .int a.2]) (fun a r => RoomAt CR CK a.1.s a.1.L a.1.a a.1.c r)
  (fun a r d r' => (0 ≤ a.2 ∧ a.2 < a.1.s.n) ∧ (a.1.s.st a.2.toNat).leads = true ∧ d = objD (a.1.a a.2.toNat) ∧ r' = r)
  (fun a r c r' => ((¬ (0 ≤ a.2 ∧ a.2 < a.1.s.n) ∧ c = .ref X) ∨ ((0 ≤ a.2 ∧ a.2 < a.1.s.n) ∧ (a.1.s.st a.2.toNat).leads = false ∧ c = .ref Y)) ∧ r' = r)
theorem ok_Room_leader (T : Tx K mg) : FnOk P w K mg base (L2N.CX P w) 2 T.d_Room_leader.a T.d_Room_leader.fd ["self", "k"] (sp_Room_leader K T.c_Room T.c_Keeper T.c_NoKeeper T.c_NotLeading) := by
  refine ok_objN T.d_Room_leader.F sc_Room_leader (fun _ => rfl) fun cdv A outer s H E hr => ⟨_, (pss_cons (ps_set (i := 2) sc_Room_leader.nd rfl (by first | exact Or.inl rfl | exact Or.inr rfl) (pe_meth (pv 0) T.cl_Room T.d_Room_keeper.m (ok_Room_keeper T) (hr.mono (by decide)) T.d_Room_keeper.b .nil (passXN (L2N.takes_of rfl rfl rfl rfl)) (pa_cons (pv 1) pa_nil)))
    (pss_cons (ps_if (pt_not (pt_val (pe_fld (pv 2) rfl))) (pss_one (L2N.ps_raise rfl (L2N.takes_of rfl rfl rfl rfl) (L2N.pmk_own PySem.F.excBase_ValueError T.x_NotLeading T.mg_NotLeading T.kx_NotLeading (raises_own T.bx_NotLeading T.tx_NotLeading) rfl))) pss_nil)
    (pss_one (ps_ret (pv 2))))), ?_⟩
  rintro ⟨⟨s, L, a, c⟩, k⟩ r h0
  have h0 : RoomAt T.c_Room T.c_Keeper s L a c r := h0
  obtain ⟨dp, hob⟩ := h0.ob
  refine sp_asgX (evx_meth ((⟨s, L, a, c⟩, k) : RX × Int) (ev_var rfl) (inst_of hob (rf_no (by decide +kernel))) (ea_cons (ev_var rfl) ea_nil) rfl h0) ?_ (fun c' r' ⟨h1, h2, h3⟩ => ⟨.inl ⟨h1, h2⟩, h3⟩)
  rintro _ _ ⟨⟨hk0, hk1⟩, rfl, rfl⟩
  have hk0 : 0 ≤ k := hk0
  have hk1 : k < s.n := hk1
  have hk := h0.at_ k.toNat (by omega)
  refine sp_when (et_not (et_B (ev_fld (ev_var rfl) hk.ob T.cl_Keeper T.na_Keeper_leads kf_leads .bl))) (fun h => ?_) fun h => ?_
  · exact sp_raise ⟨.inr ⟨⟨hk0, hk1⟩, by simpa using h, rfl⟩, rfl⟩
  · exact sp_ret (ev_var rfl) ⟨⟨hk0, hk1⟩, by simpa using h, rfl, rfl⟩

/-! ## Room.stand -/
theorem sc_Room_stand : FnScope ["self", "k", "others", "own", "there", "other", "voices", "one"] ["self", "k", "others"] (defScope s_Room_stand) := ⟨rfl, rfl, rfl, by decide +kernel, rfl, by decide +kernel, by decide +kernel⟩
abbrev sp_Room_stand (K : PySem.W.Frag) (CR CK X : Addr) : Sp := spX K (RO K CR CK) (fun a : RSt × Int × List Int => [objD a.1.p, .int a.2.1, osD a.2.2]) (fun a r => r = some a.1 ∧ (∀ i, i < a.1.n → rowOk (a.1.st i).row) ∧ a.1.n ≤ 9 ∧ a.2.2.length ≤ 1000)
  (fun a r d r' => ((0 ≤ a.2.1 ∧ a.2.1 < a.1.n) ∧ ∀ o, o ∈ a.2.2 → 0 ≤ o ∧ o < a.1.n) ∧ d = .bool ((a.1.stand a.2.1.toNat a.2.2).st a.2.1.toNat).leads ∧ r' = some (a.1.stand a.2.1.toNat a.2.2)) (fun a r c r' => ¬ ((0 ≤ a.2.1 ∧ a.2.1 < a.1.n) ∧ ∀ o, o ∈ a.2.2 → 0 ≤ o ∧ o < a.1.n) ∧ c = .ref X ∧ r' = r)
theorem ok_Room_stand (T : Tx K mg) : FnOk P w K mg base (L2N.CX P w) 4 T.d_Room_stand.a T.d_Room_stand.fd ["self", "k", "others"] (sp_Room_stand K T.c_Room T.c_Keeper T.c_NoKeeper) := by
  refine ok_roomN (·.1) (fun _ _ h => h.1) T.d_Room_stand.F sc_Room_stand (fun _ => rfl) fun cdv A outer s H E hr => ⟨_, (pss_cons (ps_set (i := 3) sc_Room_stand.nd rfl (by first | exact Or.inl rfl | exact Or.inr rfl) (pe_meth (pv 0) T.cl_Room T.d_Room_keeper.m (ok_Room_keeper T) (hr.mono (by decide)) T.d_Room_keeper.b .nil (passXN (L2N.takes_of rfl rfl rfl rfl)) (pa_cons (pv 1) pa_nil)))
    (pss_cons (Fc.ps_setLcX (i := 4) (own := [("other", 5)]) (g := gName 5) rfl rfl (Fc.takesA_of rfl rfl rfl rfl) rfl sc_Room_stand.nd rfl rfl (sw_true rfl rfl rfl (by decide +kernel)) (pi_list (pv 2)) (blkOk_by (own := [("other", 5)]) (N := ["self", "k", "others", "own", "there", "other", "voices", "one"]) (sc := defScope s_Room_stand) (by decide +kernel)) (fun _ _ _ _ _ => pg_name (i := 5) sc_Room_stand.nd rfl (Or.inl rfl)) (fun _ _ _ _ _ bpn bxe tk => (pe_meth (pv 0) T.cl_Room T.d_Room_keeper.m (ok_Room_keeper T) (hr.mono (by decide)) T.d_Room_keeper.b .nil (passXN tk) (pa_cons (pv 5) pa_nil))))
    (pss_cons (ps_expr (pe_meth (pv 3) T.cl_Keeper T.d_Keeper_hear.m (ok_Keeper_hear T) (hr.mono (by decide)) T.d_Keeper_hear.b .nil (passXN (L2N.takes_of rfl rfl rfl rfl)) (pa_cons (pe_op op_add (pe_fld (pv 3) rfl) pe_int) pa_nil)))
    (pss_cons (ps_set (i := 6) sc_Room_stand.nd rfl (by first | exact Or.inl rfl | exact Or.inr rfl) pe_int)
    (pss_cons (ps_for (passes_of rfl) rfl (pi_list (pv 4)) (pg_name (i := 7) sc_Room_stand.nd rfl (by first | exact Or.inl rfl | exact Or.inr rfl)) (pss_one (ps_if (pt_val (pe_meth (pv 7) T.cl_Keeper T.d_Keeper_asked.m (ok_Keeper_asked T) (hr.mono (by decide)) T.d_Keeper_asked.b .nil (passXN (L2N.takes_of rfl rfl rfl rfl)) (pa_cons (pe_fld (pv 3) rfl) (pa_cons (pe_fld (pv 3) rfl) pa_nil)))) (pss_one (ps_set (i := 6) sc_Room_stand.nd rfl (by first | exact Or.inl rfl | exact Or.inr rfl) (pe_op op_add (pv 6) pe_int))) pss_nil)))
    (pss_cons (ps_if (pt_cmpR op_gt (pe_op op_mul pe_int (pv 6)) (pe_callB call_len_seq (by rfl) T.z_len (by decide +kernel) (pa_cons (pe_fld (pv 0) rfl) pa_nil)) (nomark _)) (pss_one (ps_expr (pe_meth (pv 3) T.cl_Keeper T.d_Keeper_begin.m (ok_Keeper_begin T) (hr.mono (by decide)) T.d_Keeper_begin.b .nil (passXN (L2N.takes_of rfl rfl rfl rfl)) (pa_cons (pe_callB call_len_seq (by rfl) T.z_len (by decide +kernel) (pa_cons (pe_fld (pv 0) rfl) pa_nil)) pa_nil)))) pss_nil)
    (pss_one (ps_ret (pe_fld (pv 3) rfl))))))))), ?_⟩
  rintro ⟨s, k, os⟩ L b c r ⟨_, hok, hn, hlen⟩ h0
  have h0 : RoomAt T.c_Room T.c_Keeper s L b c r := h0
  have hok : ∀ i, i < s.n → rowOk (s.st i).row := hok
  have hn : s.n ≤ 9 := hn
  have hlen : os.length ≤ 1000 := hlen
  obtain ⟨dp, hob⟩ := h0.ob
  refine sp_asgX (evx_meth ((⟨s, L, b, c⟩, k) : RX × Int) (ev_var rfl) (inst_of hob (rf_no (by decide +kernel))) (ea_cons (ev_var rfl) ea_nil) rfl h0) ?_ (fun c' r' ⟨h1, h2, h3⟩ => ⟨s, L, b, c, ⟨fun z => h1 z.1, h2, rfl⟩, by rw [h3]; exact h0⟩)
  rintro _ r ⟨h1, rfl, rfl⟩
  have h1 : 0 ≤ k ∧ k < s.n := h1
  have hi : k.toNat < s.n := by omega
  refine sp_asgX (Pe := fun d r' => (∀ o, o ∈ os → 0 ≤ o ∧ o < s.n) ∧ d = .list (os.map fun o => objD (b o.toNat)) ∧ r' = r) (PE := fun c' r' => (¬ ∀ o, o ∈ os → 0 ≤ o ∧ o < s.n) ∧ c' = .ref T.c_NoKeeper ∧ r' = r)
    (EvXF.d (evxf_lcX (its := os.map .int) (fun d => objD (b (intOf d).toNat)) (fun d => 0 ≤ intOf d ∧ intOf d < s.n) (ev_var rfl) (by rw [List.length_map, sizeLine_eq]; omega) (fun d hd => ?_)) fun ds r' z => ⟨fun o ho => z.1 (.int o) (List.mem_map.mpr ⟨o, ho, rfl⟩), by rw [z.2.1, List.map_map]; rfl, z.2.2⟩) ?_ ?_
  · obtain ⟨o, ho, rfl⟩ := List.mem_map.mp hd
    exact EvX.lift (evx_meth ((⟨s, L, b, c⟩, o) : RX × Int) (ev_var rfl) (inst_of hob (rf_no (by decide +kernel))) (ea_cons (ev_var rfl) ea_nil) rfl h0) Lift.id (fun d r' z => z) fun c' r' z => ⟨fun y => z.1 (y o ho), z.2.1, z.2.2⟩
  rotate_left
  · rintro c' _ ⟨y1, rfl, rfl⟩
    exact ⟨s, L, b, c, ⟨fun z => y1 z.2, rfl, rfl⟩, h0⟩
  rintro _ r ⟨hos, rfl, rfl⟩
  have hk := h0.at_ k.toNat hi
  have ek : ∀ {st : Nat → KS} {c : Nat → KC} {r : MF} {e : SE}, RoomAt T.c_Room T.c_Keeper { s with st := st } L b c r → e[0]? = some (.dat (objD s.p)) → EvD K (Rmf K) (tCB (rLenS K) (tCons (tFld K (tVar 0) ("keepers" : Str)) tNil)) e r (.int s.n) := fun h he => by
    obtain ⟨dp, hob⟩ := h.ob
    exact (ev_cb (ea_cons (ev_fld (ev_var he) hob T.cl_Room T.na_Room_keepers rf_keepers (.fact h.ks)) ea_nil) cbLen).is (by rw [List.length_map, List.length_range])
  have hrow1 : ∀ i, (stand1 s.st k.toNat i).row = (s.st i).row := fun i => by
    unfold stand1 updS
    split
    · rename_i h; rw [hear_row, h]
    · rfl
  have hrowA : ∀ j i, (((os.take j).foldl (ask1 k.toNat) (stand1 s.st k.toNat, 1)).1 i).row = (s.st i).row := fun j i => by
    rw [← askAll_fold, askAll_row, hrow1]
  refine sp_seq (N := fun e' r' => e' = [.dat (objD s.p), .dat (.int k), .dat (osD os), .dat (objD (b k.toNat)), .dat (.list (os.map fun o => objD (b o.toNat))), .hid, .hid, .hid] ∧ ∃ c', RoomAt T.c_Room T.c_Keeper { s with st := stand1 s.st k.toNat } L b c' r')
    (sp_drop (EvX.s (evx_meth (b k.toNat, (s.st k.toNat).term + 1, c k.toNat, s.st k.toNat) (ev_var rfl) (inst_of hk.ob kf_hear) (ea_cons (ev_op (ev_fld (ev_var rfl) hk.ob T.cl_Keeper T.na_Keeper_term kf_term .int) ev_int opI) ea_nil) rfl hk) (fun _ _ z => z)) fun d r' ⟨_, p1, p2⟩ => ⟨rfl, _, h0.put1 hi p1 p2⟩) ?_
  rintro _ r1 ⟨rfl, c1, h1'⟩
  refine sp_asg ev_int ?_
  refine sp_seq (N := fun e' r' => ∃ c' x y, e' = [.dat (objD s.p), .dat (.int k), .dat (osD os), .dat (objD (b k.toNat)), .dat (.list (os.map fun o => objD (b o.toNat))), x, .dat (.int (askAll (stand1 s.st k.toNat) k.toNat os 1).2), y] ∧ RoomAt T.c_Room T.c_Keeper { s with st := (askAll (stand1 s.st k.toNat) k.toNat os 1).1 } L b c' r') ?_ ?_
  · refine sp_forL (ds := os.map fun o => objD (b o.toNat)) (ev_var rfl) (fun j e' r' => ∃ c' x y, e' = [.dat (objD s.p), .dat (.int k), .dat (osD os), .dat (objD (b k.toNat)), .dat (.list (os.map fun o => objD (b o.toNat))), x, .dat (.int ((os.take j).foldl (ask1 k.toNat) (stand1 s.st k.toNat, 1)).2), y] ∧ RoomAt T.c_Room T.c_Keeper { s with st := ((os.take j).foldl (ask1 k.toNat) (stand1 s.st k.toNat, 1)).1 } L b c' r')
      ⟨c1, _, _, rfl, h1'⟩ ?_ ?_
    · rintro j d _ r2 hd ⟨c2, x, y, rfl, h2⟩
      rw [List.getElem?_map] at hd
      cases ho : os[j]? with
      | none => rw [ho] at hd; cases hd
      | some o =>
        rw [ho] at hd
        have hd : some (objD (b o.toNat)) = some d := hd
        injection hd with hd
        subst hd
        have hoo := hos o (List.mem_of_getElem? ho)
        have hio : o.toNat < s.n := by omega
        have hA := foldl_take_succ (ask1 k.toNat) (stand1 s.st k.toNat, (1 : Int)) os ho
        have hR := hrowA j
        generalize hg : (os.take j).foldl (ask1 k.toNat) (stand1 s.st k.toNat, (1 : Int)) = A at hA hR h2
        have kk := h2.at_ k.toNat hi
        have ko := h2.at_ o.toNat hio
        have kk : KAt T.c_Keeper r2 (b k.toNat) (c2 k.toNat) (A.1 k.toNat) := kk
        have ko : KAt T.c_Keeper r2 (b o.toNat) (c2 o.toNat) (A.1 o.toNat) := ko
        refine sp_ifS (Pb := fun bb r' => bb = (decide ((A.1 o.toNat).term < (A.1 k.toNat).term) && asNew (A.1 k.toNat).row (A.1 o.toNat).row) ∧ KAt T.c_Keeper r' (b o.toNat) (c2 o.toNat) ((A.1 o.toNat).hear (A.1 k.toNat).term) ∧ Fr1 (b o.toNat) r2 r')
          (evts_B (EvX.s (evx_meth (b o.toNat, (A.1 k.toNat).term, (A.1 k.toNat).row, c2 o.toNat, A.1 o.toNat) (ev_var rfl) (inst_of ko.ob kf_asked) (ea_cons (ev_fld (ev_var rfl) kk.ob T.cl_Keeper T.na_Keeper_term kf_term .int) (ea_cons (ev_fld (ev_var rfl) kk.ob T.cl_Keeper T.na_Keeper_row kf_row (.fact kk.row)) ea_nil)) rfl (by exact ⟨ko, by rw [hR]; exact hok _ hi, by rw [hR]; exact hok _ hio⟩)) (fun _ _ z => z)) ?_) ?_ ?_
        · rintro d r' ⟨rfl, q1, q2⟩
          exact ⟨_, rfl, rfl, q1, q2⟩
        · rintro r' ⟨hb, q1, q2⟩
          refine sp_asg1 (ev_op (ev_var rfl) ev_int opI) ⟨updC c2 o.toNat (c2 o.toNat), x, .dat (objD (b o.toNat)), ?_, ?_⟩
          · rw [hA]
            unfold ask1
            rw [← hb, if_pos rfl]; rfl
          · rw [hA]
            exact h2.put1 hio q1 q2
        · rintro r' ⟨hb, q1, q2⟩
          refine sp_next ⟨updC c2 o.toNat (c2 o.toNat), x, .dat (objD (b o.toNat)), ?_, ?_⟩
          · rw [hA]
            unfold ask1
            rw [← hb, if_neg (by decide)]; rfl
          · rw [hA]
            exact h2.put1 hio q1 q2
    · rintro _ r2 ⟨c2, x, y, rfl, h2⟩
      rw [List.length_map, List.take_length, ← askAll_fold] at h2
      exact ⟨c2, x, y, by rw [List.length_map, List.take_length, ← askAll_fold], h2⟩
  rintro _ r2 ⟨c2, x, y, rfl, h2⟩
  have hst : standSt s.n s.st k.toNat os = if (s.n : Int) < 2 * (askAll (stand1 s.st k.toNat) k.toNat os 1).2 then updS (askAll (stand1 s.st k.toNat) k.toNat os 1).1 k.toNat (((askAll (stand1 s.st k.toNat) k.toNat os 1).1 k.toNat).begin_ s.n) else (askAll (stand1 s.st k.toNat) k.toNat os 1).1 := rfl
  generalize askAll (stand1 s.st k.toNat) k.toNat os 1 = A at hst h2
  have kk := h2.at_ k.toNat hi
  have kk : KAt T.c_Keeper r2 (b k.toNat) (c2 k.toNat) (A.1 k.toNat) := kk
  refine sp_seq (N := fun e' r' => (∃ x y, e' = [.dat (objD s.p), .dat (.int k), .dat (osD os), .dat (objD (b k.toNat)), .dat (.list (os.map fun o => objD (b o.toNat))), x, .dat (.int A.2), y]) ∧ ∃ c', RoomAt T.c_Room T.c_Keeper (s.stand k.toNat os) L b c' r') ?_ ?_
  · refine sp_if (et_test (ev_op (ev_op ev_int (ev_var rfl) (opIC (.inl ⟨by decide, by decide⟩))) (ek h2 rfl) opB)) (fun h => ?_) fun h => ?_
    · have h : (s.n : Int) < 2 * A.2 := of_decide_eq_true h
      rw [if_pos h] at hst
      refine sp_drop (EvX.s (evx_meth (b k.toNat, (s.n : Int), c2 k.toNat, A.1 k.toNat) (ev_var rfl) (inst_of kk.ob kf_begin) (ea_cons (ek h2 rfl) ea_nil) rfl (by exact ⟨kk, by show 0 ≤ (s.n : Int); omega, by show (s.n : Int) ≤ 9; omega⟩)) (fun _ _ z => z)) ?_
      rintro d r' ⟨_, c', q1, q2, q3, q4, q5⟩
      refine ⟨⟨_, _, rfl⟩, updC c2 k.toNat c', ?_⟩
      have e : s.stand k.toNat os = ({ s with st := A.1 } : RSt).up k.toNat ((A.1 k.toNat).begin_ s.n) := by unfold RSt.stand RSt.up; rw [hst]
      rw [e]
      exact h2.put hi q1 (fun b' o hb ne _ _ => q2 b' o hb ne) q3 (.inr q4) (.inr q5)
    · have h : ¬ (s.n : Int) < 2 * A.2 := of_decide_eq_false h
      rw [if_neg h] at hst
      refine sp_next ⟨⟨_, _, rfl⟩, c2, ?_⟩
      have e : s.stand k.toNat os = { s with st := A.1 } := by unfold RSt.stand; rw [hst]
      rw [e]
      exact h2
  rintro _ r3 ⟨⟨x, y, rfl⟩, c3, h3⟩
  have k3 := h3.at_ k.toNat hi
  exact sp_ret (ev_fld (ev_var rfl) k3.ob T.cl_Keeper T.na_Keeper_leads kf_leads .bl) ⟨_, L, b, c3, ⟨⟨h1, hos⟩, rfl, rfl⟩, h3⟩

/-! ## Room.write -/
theorem sc_Room_write : FnScope ["self", "k", "word", "own"] ["self", "k", "word"] (defScope s_Room_write) := ⟨rfl, rfl, rfl, by decide +kernel, rfl, by decide +kernel, by decide +kernel⟩
abbrev xLead (X Y : Addr) (s : RSt) (k : Int) (c : Value) : Prop := (¬ (0 ≤ k ∧ k < s.n) ∧ c = .ref X) ∨ ((0 ≤ k ∧ k < s.n) ∧ (s.st k.toNat).leads = false ∧ c = .ref Y)
abbrev sp_Room_write (K : PySem.W.Frag) (CR CK X Y : Addr) : Sp := spX K (RO K CR CK) (fun a : RSt × Int × Str => [objD a.1.p, .int a.2.1, .str a.2.2]) (fun a r => r = some a.1 ∧ Good a.1)
  (fun a r d r' => (0 ≤ a.2.1 ∧ a.2.1 < a.1.n) ∧ (a.1.st a.2.1.toNat).leads = true ∧ d = .int ((a.1.st a.2.1.toNat).row.length : Int) ∧ r' = some (a.1.write a.2.1.toNat a.2.2)) (fun a r c r' => xLead X Y a.1 a.2.1 c ∧ r' = r)
theorem ok_Room_write (T : Tx K mg) : FnOk P w K mg base (L2N.CX P w) 3 T.d_Room_write.a T.d_Room_write.fd ["self", "k", "word"] (sp_Room_write K T.c_Room T.c_Keeper T.c_NoKeeper T.c_NotLeading) := by
  refine ok_roomN (·.1) (fun _ _ h => h.1) T.d_Room_write.F sc_Room_write (fun _ => rfl) fun cdv A outer s H E hr => ⟨_, (pss_cons (ps_set (i := 3) sc_Room_write.nd rfl (by first | exact Or.inl rfl | exact Or.inr rfl) (pe_meth (pv 0) T.cl_Room T.d_Room_leader.m (ok_Room_leader T) (hr.mono (by decide)) T.d_Room_leader.b .nil (passXN (L2N.takes_of rfl rfl rfl rfl)) (pa_cons (pv 1) pa_nil)))
    (pss_cons (ps_fld (pv 3) (pe_op op_cat (pe_fld (pv 3) rfl) (pe_lst (pa_cons (pe_tup (pa_cons (pe_fld (pv 3) rfl) (pa_cons (pv 2) pa_nil))) pa_nil))) rfl)
    (pss_one (ps_ret (pe_op op_sub (pe_callB call_len_seq (by rfl) T.z_len (by decide +kernel) (pa_cons (pe_fld (pv 3) rfl) pa_nil)) pe_int))))), ?_⟩
  rintro ⟨s, k, x⟩ L b c r ⟨_, hg⟩ h0
  have h0 : RoomAt T.c_Room T.c_Keeper s L b c r := h0
  have hg : Good s := hg
  obtain ⟨dp, hob⟩ := h0.ob
  refine sp_asgX (evx_meth ((⟨s, L, b, c⟩, k) : RX × Int) (ev_var rfl) (inst_of hob (rf_no (by decide +kernel))) (ea_cons (ev_var rfl) ea_nil) rfl h0) ?_ ?_
  · rintro _ r ⟨h1, hl, rfl, rfl⟩
    have h1 : 0 ≤ k ∧ k < s.n := h1
    have hi : k.toNat < s.n := by omega
    have hk := h0.at_ k.toNat hi
    have hs := (hg.2 k.toNat hi).small
    have er : EvD K (Rmf K) (tFld K (tVar 3) ("row" : Str)) [.dat (objD s.p), .dat (.int k), .dat (.str x), .dat (objD (b k.toNat))] r (.list ((s.st k.toNat).row.map entD)) := ev_fld (ev_var rfl) hk.ob T.cl_Keeper T.na_Keeper_row kf_row (.fact hk.row)
    refine sp_seq (N := fun e' r' => e' = [.dat (objD s.p), .dat (.int k), .dat (.str x), .dat (objD (b k.toNat))] ∧ ∃ v, r' = ⟨upd r.m (b k.toNat) (.ins T.c_Keeper (c k.toNat).dx (kf (s.st k.toNat).term v (s.st k.toNat).leads (s.st k.toNat).settled (c k.toNat).al (c k.toNat).hl)), addF r.f v (rowD ((s.st k.toNat).row ++ [((s.st k.toNat).term, x)]))⟩)
      (sp_fld (d := rowD ((s.st k.toNat).row ++ [((s.st k.toNat).term, x)])) ((EvF.ev (evf_op er (ev_lst (ea_cons (ev_tup (ea_cons (ev_fld (ev_var rfl) hk.ob T.cl_Keeper T.na_Keeper_term kf_term .int) (ea_cons (ev_var rfl) ea_nil)) (by show 2 ≤ sizeLine; decide)) ea_nil) (by show 1 ≤ sizeLine; decide)) (opCat (by rw [List.length_map, sizeLine_eq]; show _ + 1 ≤ _; omega)))).is (by unfold rowD; rw [List.map_append]; rfl))
        (ev_var rfl) hk.ob T.cl_Keeper T.na_Keeper_row kf_len fun v _ => ⟨rfl, v, by rw [kf_prow]⟩) ?_
    rintro _ _ ⟨rfl, v, rfl⟩
    have hk' : KAt T.c_Keeper ⟨upd r.m (b k.toNat) (.ins T.c_Keeper (c k.toNat).dx (kf (s.st k.toNat).term v (s.st k.toNat).leads (s.st k.toNat).settled (c k.toNat).al (c k.toNat).hl)), addF r.f v (rowD ((s.st k.toNat).row ++ [((s.st k.toNat).term, x)]))⟩ (b k.toNat) { c k.toNat with rw := v } { s.st k.toNat with row := (s.st k.toNat).row ++ [((s.st k.toNat).term, x)] } :=
      ⟨upd_same, .inr ⟨rfl, rfl⟩, by show upd _ _ _ _ = _; rw [upd_ne hk.ne_al]; exact hk.al, by show upd _ _ _ _ = _; rw [upd_ne hk.ne_hl]; exact hk.hl, hk.ne⟩
    have hput := h0.put hi hk' (fun b' o hb ne _ _ => by show upd _ _ _ _ = _; rw [upd_ne ne]; exact hb) (fun v d h => .inl h) (.inl rfl) (.inl rfl)
    refine sp_ret (d := .int ((s.st k.toNat).row.length : Int)) ((ev_op (ev_cb (ea_cons (ev_fld (ev_var rfl) hk'.ob T.cl_Keeper T.na_Keeper_row kf_row (by exact VF.fact hk'.row)) ea_nil) (cbLen (ds := ((s.st k.toNat).row ++ [((s.st k.toNat).term, x)]).map entD))) ev_int opI).is ?_) ⟨_, L, b, _, ⟨h1, hl, rfl, rfl⟩, hput⟩
    rw [List.length_map, List.length_append]
    show PyData.int (((s.st k.toNat).row.length + 1 : Nat) - 1 : Int) = _
    rw [show (((s.st k.toNat).row.length + 1 : Nat) - 1 : Int) = ((s.st k.toNat).row.length : Int) by omega]
  · rintro c' _ ⟨h1, rfl⟩
    exact ⟨s, L, b, c, ⟨h1, rfl⟩, h0⟩

/-! ## Room.hand -/
theorem sc_Room_hand : FnScope ["self", "k", "other", "many", "own", "one", "at", "some"] ["self", "k", "other", "many"] (defScope s_Room_hand) := ⟨rfl, rfl, rfl, by decide +kernel, rfl, by decide +kernel, by decide +kernel⟩
abbrev xHand (X Y : Addr) (s : RSt) (k o : Int) (c : Value) : Prop := (¬ ((0 ≤ k ∧ k < s.n) ∧ (0 ≤ o ∧ o < s.n) ∧ o ≠ k) ∧ c = .ref X) ∨ (((0 ≤ k ∧ k < s.n) ∧ (0 ≤ o ∧ o < s.n) ∧ o ≠ k) ∧ (s.st k.toNat).leads = false ∧ c = .ref Y)
theorem atI_ahead {k : KS} {n : Nat} {o : Int} (h0 : 0 ≤ o) (h1 : o < n) (hl : k.ahead.length = n) : L2.atI (k.ahead.map V.int) o = some (.int (k.aheadAt o.toNat)) := by
  have e : o = (o.toNat : Int) := by omega
  have h2 : o.toNat < k.ahead.length := by omega
  have := atI_nat (xs := k.ahead.map V.int) (j := o.toNat) (v := .int (k.aheadAt o.toNat)) (by rw [List.getElem?_map, List.getElem?_eq_getElem h2]; unfold KS.aheadAt; rw [List.getD_eq_getElem?_getD, List.getElem?_eq_getElem h2]; rfl)
  rw [← e] at this
  exact this
theorem atI_held {xs : List Int} {n : Nat} {o x : Int} (h0 : 0 ≤ o) (h1 : o < n) (hl : xs.length = n) : L2.atI ((xs.set o.toNat x).map V.int) o = some (.int x) := by
  have e : o = (o.toNat : Int) := by omega
  have h2 : o.toNat < xs.length := by omega
  have := atI_nat (xs := (xs.set o.toNat x).map V.int) (j := o.toNat) (v := .int x) (by rw [List.getElem?_map, List.getElem?_set_self h2]; rfl)
  rw [← e] at this
  exact this
theorem ixN_ok {xs : List V} {n : Nat} {o : Int} (h0 : 0 ≤ o) (h1 : o < n) (hl : xs.length = n) : ixN xs.length o = some o.toNat := by
  unfold ixN
  rw [hl, if_pos h0, if_pos h1]
theorem RSt.ext' {s t : RSt} (h1 : s.p = t.p) (h2 : s.n = t.n) (h3 : ∀ j, s.st j = t.st j) : s = t := by
  cases s; cases t
  cases h1; cases h2
  congr 1
  exact funext h3
abbrev sp_Room_hand (K : PySem.W.Frag) (CR CK X Y : Addr) : Sp := spX K (RO K CR CK) (fun a : RSt × Int × Int × Int => [objD a.1.p, .int a.2.1, .int a.2.2.1, .int a.2.2.2]) (fun a r => r = some a.1 ∧ Good a.1 ∧ 0 ≤ a.2.2.2)
  (fun a r d r' => ((0 ≤ a.2.1 ∧ a.2.1 < a.1.n) ∧ (0 ≤ a.2.2.1 ∧ a.2.2.1 < a.1.n) ∧ a.2.2.1 ≠ a.2.1) ∧ (a.1.st a.2.1.toNat).leads = true ∧ d = .bool (handTold a.1.st a.2.1.toNat a.2.2.1.toNat) ∧ r' = some (a.1.hand a.2.1.toNat a.2.2.1.toNat a.2.2.2)) (fun a r c r' => xHand X Y a.1 a.2.1 a.2.2.1 c ∧ r' = r)
theorem ok_Room_hand (T : Tx K mg) : FnOk P w K mg base (L2N.CX P w) 3 T.d_Room_hand.a T.d_Room_hand.fd ["self", "k", "other", "many"] (sp_Room_hand K T.c_Room T.c_Keeper T.c_NoKeeper T.c_NotLeading) := by
  refine ok_roomN (·.1) (fun _ _ h => h.1) T.d_Room_hand.F sc_Room_hand (fun _ => rfl) fun cdv A outer s H E hr => ⟨_, (pss_cons (ps_set (i := 4) sc_Room_hand.nd rfl (by first | exact Or.inl rfl | exact Or.inr rfl) (pe_meth (pv 0) T.cl_Room T.d_Room_keeper.m (ok_Room_keeper T) (hr.mono (by decide)) T.d_Room_keeper.b .nil (passXN (L2N.takes_of rfl rfl rfl rfl)) (pa_cons (pv 1) pa_nil)))
    (pss_cons (ps_set (i := 5) sc_Room_hand.nd rfl (by first | exact Or.inl rfl | exact Or.inr rfl) (pe_meth (pv 0) T.cl_Room T.d_Room_keeper.m (ok_Room_keeper T) (hr.mono (by decide)) T.d_Room_keeper.b .nil (passXN (L2N.takes_of rfl rfl rfl rfl)) (pa_cons (pv 2) pa_nil)))
    (pss_cons (ps_if (pt_cmpR op_eq (pv 2) (pv 1) (nomark _)) (pss_one (L2N.ps_raise rfl (L2N.takes_of rfl rfl rfl rfl) (L2N.pmk_own PySem.F.excBase_ValueError T.x_NoKeeper T.mg_NoKeeper T.kx_NoKeeper (raises_own T.bx_NoKeeper T.tx_NoKeeper) rfl))) pss_nil)
    (pss_cons (ps_set (i := 4) sc_Room_hand.nd rfl (by first | exact Or.inl rfl | exact Or.inr rfl) (pe_meth (pv 0) T.cl_Room T.d_Room_leader.m (ok_Room_leader T) (hr.mono (by decide)) T.d_Room_leader.b .nil (passXN (L2N.takes_of rfl rfl rfl rfl)) (pa_cons (pv 1) pa_nil)))
    (pss_cons (ps_if (pt_cmpR op_gt (pe_fld (pv 5) rfl) (pe_fld (pv 4) rfl) (nomark _)) (pss_cons (ps_expr (pe_meth (pv 4) T.cl_Keeper T.d_Keeper_hear.m (ok_Keeper_hear T) (hr.mono (by decide)) T.d_Keeper_hear.b .nil (passXN (L2N.takes_of rfl rfl rfl rfl)) (pa_cons (pe_fld (pv 5) rfl) pa_nil)))
    (pss_one (ps_ret pe_bl))) pss_nil)
    (pss_cons (ps_expr (pe_meth (pv 5) T.cl_Keeper T.d_Keeper_hear.m (ok_Keeper_hear T) (hr.mono (by decide)) T.d_Keeper_hear.b .nil (passXN (L2N.takes_of rfl rfl rfl rfl)) (pa_cons (pe_fld (pv 4) rfl) pa_nil)))
    (pss_cons (ps_set (i := 6) sc_Room_hand.nd rfl (by first | exact Or.inl rfl | exact Or.inr rfl) (pe_ix ix_list (pe_fld (pv 4) rfl) (pv 2) (fun _ _ => rfl)))
    (pss_cons (ps_if (pt_not (pt_val (pe_call (ok_agrees T) (hr.mono (by decide)) (by rfl) T.d_agrees.g T.d_agrees.F.kp T.d_agrees.b .nil pass0 (pa_cons (pe_fld (pv 5) rfl) (pa_cons (pv 6) (pa_cons (pe_call (ok_last_term T) (hr.mono (by decide)) (by rfl) T.d_last_term.g T.d_last_term.F.kp T.d_last_term.b .nil pass0 (pa_cons (pe_slice sl_list (pe_fld (pv 4) rfl) po_none (po_some (pv 6))) pa_nil)) pa_nil)))))) (pss_cons (ps_asg (pe_op op_sub (pv 6) pe_int) (pg_sub (pe_fld (pv 4) rfl) (pv 2) set_list))
    (pss_one (ps_ret pe_bl))) pss_nil)
    (pss_cons (ps_set (i := 7) sc_Room_hand.nd rfl (by first | exact Or.inl rfl | exact Or.inr rfl) (pe_slice sl_list (pe_fld (pv 4) rfl) (po_some (pv 6)) (po_some (pe_op op_add (pv 6) (pv 3)))))
    (pss_cons (ps_fld (pv 5) (pe_call (ok_filled T) (hr.mono (by decide)) (by rfl) T.d_filled.g T.d_filled.F.kp T.d_filled.b .nil (passXN (L2N.takes_of rfl rfl rfl rfl)) (pa_cons (pe_fld (pv 5) rfl) (pa_cons (pv 6) (pa_cons (pv 7) pa_nil)))) rfl)
    (pss_cons (ps_asg (pe_op op_add (pv 6) (pe_callB call_len_seq (by rfl) T.z_len (by decide +kernel) (pa_cons (pv 7) pa_nil))) (pg_sub (pe_fld (pv 4) rfl) (pv 2) set_list))
    (pss_cons (ps_asg (pe_op op_add (pv 6) (pe_callB call_len_seq (by rfl) T.z_len (by decide +kernel) (pa_cons (pv 7) pa_nil))) (pg_sub (pe_fld (pv 4) rfl) (pv 2) set_list))
    (pss_cons (ps_fld (pv 5) (pe_callB (call_max2 rfl) (by rfl) T.z_max (by decide +kernel) (pa_cons (pe_fld (pv 5) rfl) (pa_cons (pe_callB (call_min2 rfl) (by rfl) T.z_min (by decide +kernel) (pa_cons (pe_fld (pv 4) rfl) (pa_cons (pe_ix ix_list (pe_fld (pv 4) rfl) (pv 2) (fun _ _ => rfl)) pa_nil))) pa_nil))) rfl)
    (pss_one (ps_ret pe_bl))))))))))))))), ?_⟩
  rintro ⟨s, k, o, many⟩ L b c r ⟨_, hg, hmany⟩ h0
  have h0 : RoomAt T.c_Room T.c_Keeper s L b c r := h0
  have hg : Good s := hg
  have hmany : 0 ≤ many := hmany
  obtain ⟨dp, hob⟩ := h0.ob
  refine sp_asgX (evx_meth ((⟨s, L, b, c⟩, k) : RX × Int) (ev_var rfl) (inst_of hob (rf_no (by decide +kernel))) (ea_cons (ev_var rfl) ea_nil) rfl h0) ?_ (fun c' r' ⟨h1, h2, h3⟩ => ⟨s, L, b, c, ⟨.inl ⟨fun z => h1 z.1, h2⟩, rfl⟩, by rw [h3]; exact h0⟩)
  rintro _ r ⟨hk, rfl, rfl⟩
  have hk : 0 ≤ k ∧ k < s.n := hk
  refine sp_asgX (evx_meth ((⟨s, L, b, c⟩, o) : RX × Int) (ev_var rfl) (inst_of hob (rf_no (by decide +kernel))) (ea_cons (ev_var rfl) ea_nil) rfl h0) ?_ (fun c' r' ⟨h1, h2, h3⟩ => ⟨s, L, b, c, ⟨.inl ⟨fun z => h1 z.2.1, h2⟩, rfl⟩, by rw [h3]; exact h0⟩)
  rintro _ r ⟨ho, rfl, rfl⟩
  have ho : 0 ≤ o ∧ o < s.n := ho
  refine sp_when (et_test (ev_op (ev_var rfl) (ev_var rfl) opEqI)) (fun h => ?_) fun h => ?_
  · exact sp_raise ⟨s, L, b, c, ⟨.inl ⟨fun z => z.2.2 (of_decide_eq_true h), rfl⟩, rfl⟩, h0⟩
  have hok : o ≠ k := of_decide_eq_false h
  refine sp_asgX (evx_meth ((⟨s, L, b, c⟩, k) : RX × Int) (ev_var rfl) (inst_of hob (rf_no (by decide +kernel))) (ea_cons (ev_var rfl) ea_nil) rfl h0) ?_ ?_
  · rintro _ r ⟨_, hl, rfl, rfl⟩
    have hl : (s.st k.toNat).leads = true := hl
    have hik : k.toNat < s.n := by omega
    have hio : o.toNat < s.n := by omega
    have hne : o.toNat ≠ k.toNat := by omega
    have kk := h0.at_ k.toNat hik
    have ko := h0.at_ o.toNat hio
    have gk := hg.2 k.toNat hik
    have go := hg.2 o.toNat hio
    have hal := gk.al hl
    have hhl := gk.hl hl
    have ha0 := gk.a0 o.toNat
    refine sp_when (et_test (ev_op (ev_fld (ev_var rfl) ko.ob T.cl_Keeper T.na_Keeper_term kf_term .int) (ev_fld (ev_var rfl) kk.ob T.cl_Keeper T.na_Keeper_term kf_term .int) opB)) (fun h => ?_) fun h => ?_
    · have ht : (s.st k.toNat).term < (s.st o.toNat).term := of_decide_eq_true h
      refine sp_seq (N := fun e' r' => RoomAt T.c_Room T.c_Keeper (s.hand k.toNat o.toNat many) L b (updC c k.toNat (c k.toNat)) r')
        (sp_drop (EvX.s (evx_meth (b k.toNat, (s.st o.toNat).term, c k.toNat, s.st k.toNat) (ev_var rfl) (inst_of kk.ob kf_hear) (ea_cons (ev_fld (ev_var rfl) ko.ob T.cl_Keeper T.na_Keeper_term kf_term .int) ea_nil) rfl kk) (fun _ _ z => z)) fun d r' ⟨_, p1, p2⟩ => ?_) ?_
      · have := h0.put1 hik p1 p2
        unfold RSt.hand handSt
        rw [if_pos ht]
        exact this
      · intro e' r' h'
        refine sp_ret ev_bl ⟨_, L, b, _, ⟨⟨hk, ho, hok⟩, hl, ?_, rfl⟩, h'⟩
        show PyData.bool false = PyData.bool (handTold s.st k.toNat o.toNat)
        unfold handTold
        rw [decide_eq_true ht]; rfl
    · have ht : ¬ (s.st k.toNat).term < (s.st o.toNat).term := of_decide_eq_false h
      have hlen := gk.small
      have hlen2 := go.small
      generalize hO : (s.st o.toNat).hear (s.st k.toNat).term = O1
      have hO1 : O1.row = (s.st o.toNat).row := by rw [← hO, hear_row]
      generalize hat : (s.st k.toNat).aheadAt o.toNat = at_ at ha0
      refine sp_seq (N := fun e' r' => e' = [.dat (objD s.p), .dat (.int k), .dat (.int o), .dat (.int many), .dat (objD (b k.toNat)), .dat (objD (b o.toNat)), .hid, .hid] ∧ ∃ c', RoomAt T.c_Room T.c_Keeper (s.up o.toNat O1) L b c' r')
        (sp_drop (EvX.s (evx_meth (b o.toNat, (s.st k.toNat).term, c o.toNat, s.st o.toNat) (ev_var rfl) (inst_of ko.ob kf_hear) (ea_cons (ev_fld (ev_var rfl) kk.ob T.cl_Keeper T.na_Keeper_term kf_term .int) ea_nil) rfl ko) (fun _ _ z => z)) fun d r' ⟨_, p1, p2⟩ => ⟨rfl, _, by rw [← hO]; exact h0.put1 hio p1 p2⟩) ?_
      rintro _ r1 ⟨rfl, c1, h1⟩
      have kk1 := h1.at_ k.toNat hik
      have ko1 := h1.at_ o.toNat hio
      have e1 : (s.up o.toNat O1).st k.toNat = s.st k.toNat := updS_ne hne.symm
      have e2 : (s.up o.toNat O1).st o.toNat = O1 := updS_same
      rw [e1] at kk1
      rw [e2] at ko1
      refine sp_asg (ev_ixM (ev_fld (d := objD (c1 k.toNat).al) (ev_var rfl) kk1.ob T.cl_Keeper T.na_Keeper_ahead kf_ahead .obj) (ev_var rfl) kk1.al (by rw [atI_ahead ho.1 ho.2 hal]) (d := .int at_) (by rw [hat]; exact .int)) ?_
      have erow : ∀ {e : SE}, e[4]? = some (.dat (objD (b k.toNat))) → EvD K (Rmf K) (tFld K (tVar 4) ("row" : Str)) e r1 (.list ((s.st k.toNat).row.map entD)) := fun he => ev_fld (ev_var he) kk1.ob T.cl_Keeper T.na_Keeper_row kf_row (.fact kk1.row)
      have orow : ∀ {e : SE}, e[5]? = some (.dat (objD (b o.toNat))) → EvD K (Rmf K) (tFld K (tVar 5) ("row" : Str)) e r1 (rowD O1.row) := fun he => ev_fld (ev_var he) ko1.ob T.cl_Keeper T.na_Keeper_row kf_row (.fact ko1.row)
      have hcut : PyData.list (cutD ((s.st k.toNat).row.map entD) none (some at_)) = rowD ((s.st k.toNat).row.take at_.toNat) := by
        rw [cut_to _ ha0, ← List.map_take]; rfl
      have hokt : rowOk ((s.st k.toNat).row.take at_.toNat) := fun x hx => gk.ok x (List.mem_of_mem_take hx)
      refine sp_when (et_not (et_B (ev_agrees (es := O1.row) (orow rfl) (ev_var rfl) (ev_last_term ((EvF.ev (evf_sl (erow rfl) eo_none (eo_some (ev_var rfl)))).is hcut) hokt) ha0))) (fun h => ?_) fun h => ?_
      · have hag : agreesB O1.row at_ (lastT ((s.st k.toNat).row.take at_.toNat)) = false := by simpa using h
        have h2 := h1.setA (i := k.toNat) hik o.toNat (at_ - 1)
        refine sp_seq (N := fun e' r' => RoomAt T.c_Room T.c_Keeper (s.hand k.toNat o.toNat many) L b (updC c1 k.toNat (c1 k.toNat)) r')
          (sp_setF (i := at_ - 1) (j := o) (n := o.toNat) (ev_op (ev_var rfl) ev_int opI) (ev_fld (d := objD (c1 k.toNat).al) (ev_var rfl) kk1.ob T.cl_Keeper T.na_Keeper_ahead kf_ahead .obj) (ev_var rfl) kk1.al (ixN_ok ho.1 ho.2 (by rw [List.length_map, hal])) ?_) ?_
        · have e : s.hand k.toNat o.toNat many = (s.up o.toNat O1).up k.toNat { (s.up o.toNat O1).st k.toNat with ahead := ((s.up o.toNat O1).st k.toNat).ahead.set o.toNat (at_ - 1) } := by
            rw [e1]
            unfold RSt.hand handSt RSt.up
            rw [if_neg ht, hat, ← hO1, hag, if_neg (by decide), hO]
          rw [e]
          rw [e1] at h2 ⊢
          exact h2
        · intro e' r' h'
          refine sp_ret ev_bl ⟨_, L, b, _, ⟨⟨hk, ho, hok⟩, hl, ?_, rfl⟩, h'⟩
          show PyData.bool false = PyData.bool (handTold s.st k.toNat o.toNat)
          unfold handTold
          rw [hat, ← hO1, hag, Bool.and_false]
      · have hag : agreesB O1.row at_ (lastT ((s.st k.toNat).row.take at_.toNat)) = true := by simpa using h
        have hrng : 0 ≤ at_ ∧ at_ ≤ O1.row.length := by
          refine ⟨ha0, ?_⟩
          unfold agreesB at hag
          by_cases hz : at_ = 0
          · omega
          · rw [if_neg hz] at hag
            cases hx : O1.row[(at_ - 1).toNat]? with
            | none => rw [hx] at hag; cases hag
            | some x =>
              obtain ⟨hx, _⟩ := List.getElem?_eq_some_iff.mp hx
              omega
        have hpart : PyData.list (cutD ((s.st k.toNat).row.map entD) (some at_) (some (at_ + many))) = rowD ((s.st k.toNat).part at_ many) := by
          rw [cut_mid _ ha0 hmany, ← List.map_drop, ← List.map_take]; rfl
        refine sp_asg ((EvF.ev (evf_sl (erow rfl) (eo_some (ev_var rfl)) (eo_some (ev_op (ev_var rfl) (ev_var rfl) opI)))).is hpart) ?_
        have hpl : ((s.st k.toNat).part at_ many).length ≤ 50000 := by
          unfold KS.part
          rw [List.length_take, List.length_drop]; omega
        generalize hP : (s.st k.toNat).part at_ many = ps at hpl
        have h2 := fun v => h1.setR (i := o.toNat) hio v (fillR O1.row at_.toNat ps)
        refine sp_seq (N := fun e' r' => e' = [.dat (objD s.p), .dat (.int k), .dat (.int o), .dat (.int many), .dat (objD (b k.toNat)), .dat (objD (b o.toNat)), .dat (.int at_), .dat (rowD ps)] ∧ ∃ c', RoomAt T.c_Room T.c_Keeper (s.up o.toNat { O1 with row := fillR O1.row at_.toNat ps }) L b c' r')
          (sp_fldL (ds := (fillR O1.row at_.toNat ps).map entD) (EvXF.f (evxf_callP (O1.row, at_, ps) (ea_cons (orow rfl) (ea_cons (ev_var rfl) (ea_cons (ev_var rfl) ea_nil))) (by exact ⟨by show O1.row.length ≤ 1000000; rw [hO1]; omega, by show ps.length ≤ 1000000; omega⟩)) (fun ds' r' z => ⟨z.1.2, z.2⟩) fun c' r' z => z.1.1 hrng)
            (ev_var rfl) ko1.ob T.cl_Keeper T.na_Keeper_row kf_len fun l _ => ⟨rfl, updC c1 o.toNat { c1 o.toNat with rw := .ref l }, ?_⟩) ?_
        · have := h2 (.ref l)
          rw [e2] at this
          have e3 : (s.up o.toNat O1).up o.toNat { O1 with row := fillR O1.row at_.toNat ps } = s.up o.toNat { O1 with row := fillR O1.row at_.toNat ps } := by unfold RSt.up; rw [updS_upd]
          rw [e3] at this
          exact this
        rintro _ r2 ⟨rfl, c2, h2⟩
        generalize hO2 : ({ O1 with row := fillR O1.row at_.toNat ps } : KS) = O2 at h2
        have kk2 := h2.at_ k.toNat hik
        have e1 : (s.up o.toNat O2).st k.toNat = s.st k.toNat := updS_ne hne.symm
        have h3 := h2.setA (i := k.toNat) hik o.toNat (at_ + ps.length)
        rw [e1] at kk2 h3
        refine sp_seq (N := fun e' r' => e' = [.dat (objD s.p), .dat (.int k), .dat (.int o), .dat (.int many), .dat (objD (b k.toNat)), .dat (objD (b o.toNat)), .dat (.int at_), .dat (rowD ps)] ∧ ∃ c', RoomAt T.c_Room T.c_Keeper ((s.up o.toNat O2).up k.toNat { s.st k.toNat with ahead := (s.st k.toNat).ahead.set o.toNat (at_ + ps.length) }) L b c' r')
          (sp_setF (i := at_ + ps.length) (j := o) (n := o.toNat) (ev_op (ev_var rfl) ((ev_cb (ea_cons (ev_var (d := rowD ps) rfl) ea_nil) (cbLen (ds := ps.map entD))).is (by rw [List.length_map])) opI) (ev_fld (d := objD (c2 k.toNat).al) (ev_var rfl) kk2.ob T.cl_Keeper T.na_Keeper_ahead kf_ahead .obj) (ev_var rfl) kk2.al (ixN_ok ho.1 ho.2 (by rw [List.length_map, hal])) ⟨rfl, _, h3⟩) ?_
        rintro _ r3 ⟨rfl, c3, h3⟩
        generalize hK3 : ({ s.st k.toNat with ahead := (s.st k.toNat).ahead.set o.toNat (at_ + ps.length) } : KS) = K3 at h3
        have hheld : K3.held = (s.st k.toNat).held := by rw [← hK3]
        have hset : K3.settled = (s.st k.toNat).settled := by rw [← hK3]
        have kk3 := h3.at_ k.toNat hik
        have e1 : ((s.up o.toNat O2).up k.toNat K3).st k.toNat = K3 := updS_same
        have h4 := h3.setH (i := k.toNat) hik o.toNat (at_ + ps.length)
        rw [e1] at kk3 h4
        refine sp_seq (N := fun e' r' => e' = [.dat (objD s.p), .dat (.int k), .dat (.int o), .dat (.int many), .dat (objD (b k.toNat)), .dat (objD (b o.toNat)), .dat (.int at_), .dat (rowD ps)] ∧ ∃ c', RoomAt T.c_Room T.c_Keeper ((s.up o.toNat O2).up k.toNat { K3 with held := K3.held.set o.toNat (at_ + ps.length) }) L b c' r')
          (sp_setF (i := at_ + ps.length) (j := o) (n := o.toNat) (ev_op (ev_var rfl) ((ev_cb (ea_cons (ev_var (d := rowD ps) rfl) ea_nil) (cbLen (ds := ps.map entD))).is (by rw [List.length_map])) opI) (ev_fld (d := objD (c3 k.toNat).hl) (ev_var rfl) kk3.ob T.cl_Keeper T.na_Keeper_held kf_held .obj) (ev_var rfl) kk3.hl (ixN_ok ho.1 ho.2 (by rw [List.length_map, hheld, hhl])) ⟨rfl, updC c3 k.toNat (c3 k.toNat), by
            have e3 : ((s.up o.toNat O2).up k.toNat K3).up k.toNat { K3 with held := K3.held.set o.toNat (at_ + ps.length) } = (s.up o.toNat O2).up k.toNat { K3 with held := K3.held.set o.toNat (at_ + ps.length) } := by unfold RSt.up; rw [updS_upd]
            rw [← e3]; exact h4⟩) ?_
        rintro _ r4 ⟨rfl, c4, h4⟩
        generalize hK4 : ({ K3 with held := K3.held.set o.toNat (at_ + ps.length) } : KS) = K4 at h4
        have kk4 := h4.at_ k.toNat hik
        have ko4 := h4.at_ o.toNat hio
        have e1 : ((s.up o.toNat O2).up k.toNat K4).st k.toNat = K4 := updS_same
        have e2 : ((s.up o.toNat O2).up k.toNat K4).st o.toNat = O2 := (updS_ne hne).trans updS_same
        have hk4h : K4.held = (s.st k.toNat).held.set o.toNat (at_ + ps.length) := by rw [← hK4, ← hheld]
        have hk4s : K4.settled = (s.st k.toNat).settled := by rw [← hK4, ← hset]
        rw [e1] at kk4
        rw [e2] at ko4
        have h5 := fun x => h4.setS (i := o.toNat) hio x
        rw [e2] at h5
        refine sp_seq (N := fun e' r' => ∃ c', RoomAt T.c_Room T.c_Keeper (s.hand k.toNat o.toNat many) L b c' r')
          (sp_fld (ev_cb (ea_cons (ev_fld (ev_var rfl) ko4.ob T.cl_Keeper T.na_Keeper_settled kf_settled .int) (ea_cons (ev_cb (ea_cons (ev_fld (ev_var rfl) kk4.ob T.cl_Keeper T.na_Keeper_settled kf_settled .int) (ea_cons (ev_ixM (d := .int (at_ + ps.length)) (ev_fld (d := objD (c4 k.toNat).hl) (ev_var rfl) kk4.ob T.cl_Keeper T.na_Keeper_held kf_held .obj) (ev_var rfl) kk4.hl (by rw [hk4h]; exact atI_held ho.1 ho.2 hhl) .int) ea_nil)) cb2) ea_nil)) cb2)
            (ev_var rfl) ko4.ob T.cl_Keeper T.na_Keeper_settled kf_len fun v ⟨G, hv⟩ => ⟨updC c4 o.toNat (c4 o.toNat), ?_⟩) ?_
        · rw [hv.int_inv]
          have e : ∀ x : Int, x = (let x := (let y := at_ + (ps.length : Int); if y < (s.st k.toNat).settled then y else (s.st k.toNat).settled); if x > O1.settled then x else O1.settled) → s.hand k.toNat o.toNat many = ((s.up o.toNat O2).up k.toNat K4).up o.toNat { O2 with settled := x } := fun x hx => by
            refine RSt.ext' rfl rfl fun j => ?_
            show handSt s.st k.toNat o.toNat many j = updS (updS (updS s.st o.toNat O2) k.toNat K4) o.toNat _ j
            unfold handSt
            rw [if_neg ht, hat, ← hO1, hag, if_pos rfl, hO]
            by_cases e1 : j = k.toNat
            · subst e1
              rw [updS_same, updS_ne hne.symm, updS_same, ← hK4, ← hK3]
              unfold handOwn
              rw [hat, hP]
            · rw [updS_ne e1]
              by_cases e2 : j = o.toNat
              · subst e2
                rw [updS_same, updS_same]
                unfold handOne
                rw [hat, hP, hx, ← hO2]
              · rw [updS_ne e2, updS_ne e2, updS_ne e1, updS_ne e2]
          rw [e _ rfl]
          subst hK4
          subst hK3
          subst hO2
          exact h5 _
        · rintro e' r' ⟨c', h'⟩
          refine sp_ret ev_bl ⟨_, L, b, _, ⟨⟨hk, ho, hok⟩, hl, ?_, rfl⟩, h'⟩
          show PyData.bool true = PyData.bool (handTold s.st k.toNat o.toNat)
          unfold handTold
          rw [hat, ← hO1, hag, Bool.and_true, decide_eq_false ht]; rfl
  · rintro c' _ ⟨h1, rfl⟩
    refine ⟨s, L, b, c, ⟨?_, rfl⟩, h0⟩
    rcases h1 with ⟨h1, _⟩ | ⟨_, h2, h3⟩
    · exact absurd hk h1
    · exact .inr ⟨⟨hk, ho, hok⟩, h2, h3⟩

/-! ## Room.settle -/
theorem sc_Room_settle : FnScope ["self", "k", "own", "held"] ["self", "k"] (defScope s_Room_settle) := ⟨rfl, rfl, rfl, by decide +kernel, rfl, by decide +kernel, by decide +kernel⟩
abbrev sp_Room_settle (K : PySem.W.Frag) (CR CK X Y : Addr) : Sp := spX K (RO K CR CK) (fun a : RSt × Int => [objD a.1.p, .int a.2]) (fun a r => r = some a.1 ∧ Good a.1)
  (fun a r d r' => (0 ≤ a.2 ∧ a.2 < a.1.n) ∧ (a.1.st a.2.toNat).leads = true ∧ d = .int ((a.1.st a.2.toNat).settleN a.2.toNat) ∧ r' = some (a.1.settle a.2.toNat)) (fun a r c r' => xLead X Y a.1 a.2 c ∧ r' = r)
theorem ok_Room_settle (T : Tx K mg) : FnOk P w K mg base (L2N.CX P w) 3 T.d_Room_settle.a T.d_Room_settle.fd ["self", "k"] (sp_Room_settle K T.c_Room T.c_Keeper T.c_NoKeeper T.c_NotLeading) := by
  refine ok_roomN (·.1) (fun _ _ h => h.1) T.d_Room_settle.F sc_Room_settle (fun _ => rfl) fun cdv A outer s H E hr => ⟨_, (pss_cons (ps_set (i := 2) sc_Room_settle.nd rfl (by first | exact Or.inl rfl | exact Or.inr rfl) (pe_meth (pv 0) T.cl_Room T.d_Room_leader.m (ok_Room_leader T) (hr.mono (by decide)) T.d_Room_leader.b .nil (passXN (L2N.takes_of rfl rfl rfl rfl)) (pa_cons (pv 1) pa_nil)))
    (pss_cons (ps_set (i := 3) sc_Room_settle.nd rfl (by first | exact Or.inl rfl | exact Or.inr rfl) (pe_callTy call_list_of (by rfl) T.z_list (by decide +kernel) (pa_cons (pe_fld (pv 2) rfl) pa_nil)))
    (pss_cons (ps_asg (pe_callB call_len_seq (by rfl) T.z_len (by decide +kernel) (pa_cons (pe_fld (pv 2) rfl) pa_nil)) (pg_sub (pv 3) (pv 1) set_list))
    (pss_cons (ps_fld (pv 2) (pe_callB (call_max2 rfl) (by rfl) T.z_max (by decide +kernel) (pa_cons (pe_fld (pv 2) rfl) (pa_cons (pe_call (ok_settled_by T) (hr.mono (by decide)) (by rfl) T.d_settled_by.g T.d_settled_by.F.kp T.d_settled_by.b .nil pass0 (pa_cons (pe_fld (pv 2) rfl) (pa_cons (pe_fld (pv 2) rfl) (pa_cons (pv 3) pa_nil)))) pa_nil))) rfl)
    (pss_one (ps_ret (pe_fld (pv 2) rfl))))))), ?_⟩
  rintro ⟨s, k⟩ L b c r ⟨_, hg⟩ h0
  have h0 : RoomAt T.c_Room T.c_Keeper s L b c r := h0
  have hg : Good s := hg
  obtain ⟨dp, hob⟩ := h0.ob
  refine sp_asgX (evx_meth ((⟨s, L, b, c⟩, k) : RX × Int) (ev_var rfl) (inst_of hob (rf_no (by decide +kernel))) (ea_cons (ev_var rfl) ea_nil) rfl h0) ?_ ?_
  · rintro _ r ⟨h1, hl, rfl, rfl⟩
    have h1 : 0 ≤ k ∧ k < s.n := h1
    have hi : k.toNat < s.n := by omega
    have hl : (s.st k.toNat).leads = true := hl
    have hk := h0.at_ k.toNat hi
    have hK := hg.2 k.toNat hi
    have hn := hg.1
    have hlen := hK.hl hl
    generalize hkk : s.st k.toNat = kk at hk hK hlen hl
    refine sp_asgO (evf_listM (ns := kk.held) (ev_fld (d := objD (c k.toNat).hl) (ev_var rfl) hk.ob T.cl_Keeper T.na_Keeper_held kf_held .obj) hk.hl) ?_
    refine sp_seq (N := fun e' r' => e' = [.dat (objD s.p), .dat (.int k), .dat (objD (b k.toNat)), .own ((kk.held.set k.toNat (kk.row.length : Int)).map .int)] ∧ r' = r)
      (sp_setL (i := 3) (n := k.toNat) rfl ((ev_cb (ea_cons (ev_fld (d := rowD kk.row) (ev_var rfl) hk.ob T.cl_Keeper T.na_Keeper_row kf_row (.fact hk.row)) ea_nil) (cbLen (ds := kk.row.map entD))).is (by rw [List.length_map])) (ev_var rfl) ?_ ⟨by rw [List.map_set] <;> rfl, rfl⟩) ?_
    · show ixN (kk.held.map PyData.int).length k = some k.toNat
      unfold ixN
      rw [List.length_map, hlen, if_pos h1.1, if_pos h1.2]
    rintro _ r ⟨rfl, rfl⟩
    refine sp_frz (i := 3) rfl ?_
    refine sp_seq (N := fun e' r' => e' = [.dat (objD s.p), .dat (.int k), .dat (objD (b k.toNat)), .dat (.list ((kk.held.set k.toNat (kk.row.length : Int)).map .int))] ∧ ∃ c', RoomAt T.c_Room T.c_Keeper (s.settle k.toNat) L b c' r')
      (sp_fld (d := .int (kk.settleN k.toNat)) (ev_cb (ea_cons (ev_fld (ev_var rfl) hk.ob T.cl_Keeper T.na_Keeper_settled kf_settled .int) (ea_cons (ev_settled_by (es := kk.row) (hs := kk.held.set k.toNat (kk.row.length : Int)) (ev_fld (ev_var rfl) hk.ob T.cl_Keeper T.na_Keeper_row kf_row (.fact hk.row)) (ev_fld (ev_var rfl) hk.ob T.cl_Keeper T.na_Keeper_term kf_term .int) (ev_var rfl) ⟨by have := hK.small; omega, by rw [List.length_set]; omega⟩) ea_nil)) cb2)
        (ev_var rfl) hk.ob T.cl_Keeper T.na_Keeper_settled kf_len fun v ⟨G, hv⟩ => ⟨rfl, updC c k.toNat (c k.toNat), by
          rw [hv.int_inv, kf_psettled]
          have := h0.put1 (k' := { kk with settled := kk.settleN k.toNat }) hi (r' := ⟨upd r.m (b k.toNat) (.ins T.c_Keeper (c k.toNat).dx (kf kk.term (c k.toNat).rw kk.leads (kk.settleN k.toNat) (c k.toNat).al (c k.toNat).hl)), addF r.f (.int (kk.settleN k.toNat)) (.int (kk.settleN k.toNat))⟩)
            (hk.upd (r' := ⟨upd r.m (b k.toNat) (.ins T.c_Keeper (c k.toNat).dx (kf kk.term (c k.toNat).rw kk.leads (kk.settleN k.toNat) (c k.toNat).al (c k.toNat).hl)), addF r.f (.int (kk.settleN k.toNat)) (.int (kk.settleN k.toNat))⟩) ⟨fun b' ne => upd_ne ne, fun v d h => .inl h⟩ upd_same rfl rfl rfl) ⟨fun b' ne => upd_ne ne, fun v d h => .inl h⟩
          unfold RSt.settle
          rw [hkk]
          exact this⟩) ?_
    rintro _ r3 ⟨rfl, c3, h3⟩
    have k3 := h3.at_ k.toNat hi
    refine sp_ret (ev_fld (ev_var rfl) k3.ob T.cl_Keeper T.na_Keeper_settled kf_settled .int) ⟨_, L, b, c3, ⟨h1, hl, ?_, rfl⟩, h3⟩
    show PyData.int (updS s.st k.toNat _ k.toNat).settled = _
    rw [updS_same, ← hkk]; all_goals rfl
  · rintro c' _ ⟨h1, rfl⟩
    exact ⟨s, L, b, c, ⟨h1, rfl⟩, h0⟩

/-! ## Room.rest -/
theorem sc_Room_rest : FnScope ["self", "k", "own"] ["self", "k"] (defScope s_Room_rest) := ⟨rfl, rfl, rfl, by decide +kernel, rfl, by decide +kernel, by decide +kernel⟩
abbrev sp_Room_rest (K : PySem.W.Frag) (CR CK X : Addr) : Sp := spX K (RO K CR CK) (fun a : RSt × Int => [objD a.1.p, .int a.2]) (fun a r => r = some a.1)
  (fun a r d r' => (0 ≤ a.2 ∧ a.2 < a.1.n) ∧ d = .none ∧ r' = some (a.1.rest a.2.toNat)) (fun a r c r' => ¬ (0 ≤ a.2 ∧ a.2 < a.1.n) ∧ c = .ref X ∧ r' = r)
theorem ok_Room_rest (T : Tx K mg) : FnOk P w K mg base (L2N.CX P w) 2 T.d_Room_rest.a T.d_Room_rest.fd ["self", "k"] (sp_Room_rest K T.c_Room T.c_Keeper T.c_NoKeeper) := by
  refine ok_roomN (·.1) (fun _ _ h => h) T.d_Room_rest.F sc_Room_rest (fun _ => rfl) fun cdv A outer s H E hr => ⟨_, (pss_cons (ps_set (i := 2) sc_Room_rest.nd rfl (by first | exact Or.inl rfl | exact Or.inr rfl) (pe_meth (pv 0) T.cl_Room T.d_Room_keeper.m (ok_Room_keeper T) (hr.mono (by decide)) T.d_Room_keeper.b .nil (passXN (L2N.takes_of rfl rfl rfl rfl)) (pa_cons (pv 1) pa_nil)))
    (pss_cons (ps_fld (pv 2) pe_bl rfl)
    (pss_one (ps_fld (pv 2) pe_int rfl)))), ?_⟩
  rintro ⟨s, k⟩ L b c r _ h0
  have h0 : RoomAt T.c_Room T.c_Keeper s L b c r := h0
  obtain ⟨dp, hob⟩ := h0.ob
  refine sp_asgX (evx_meth ((⟨s, L, b, c⟩, k) : RX × Int) (ev_var rfl) (inst_of hob (rf_no (by decide +kernel))) (ea_cons (ev_var rfl) ea_nil) rfl h0) ?_ ?_
  · rintro _ r ⟨h1, rfl, rfl⟩
    have h1 : 0 ≤ k ∧ k < s.n := h1
    have hi : k.toNat < s.n := by omega
    have hk := h0.at_ k.toNat hi
    refine sp_seq (N := fun e' r' => e' = [.dat (objD s.p), .dat (.int k), .dat (objD (b k.toNat))] ∧ r' = ⟨upd r.m (b k.toNat) (.ins T.c_Keeper (c k.toNat).dx (kf (s.st k.toNat).term (c k.toNat).rw false (s.st k.toNat).settled (c k.toNat).al (c k.toNat).hl)), addF r.f (.bl false) (.bool false)⟩)
      (sp_fld ev_bl (ev_var rfl) hk.ob T.cl_Keeper T.na_Keeper_leads kf_len fun v ⟨G, hv⟩ => by rw [hv.bl_inv, kf_pleads]; exact ⟨rfl, rfl⟩) ?_
    rintro _ _ ⟨rfl, rfl⟩
    refine sp_fld ev_int (ev_var rfl) upd_same T.cl_Keeper T.na_Keeper_settled kf_len fun v ⟨G, hv⟩ => ?_
    rw [hv.int_inv, kf_psettled, upd_upd]
    have fr : Fr1 (b k.toNat) r ⟨upd r.m (b k.toNat) (.ins T.c_Keeper (c k.toNat).dx (kf (s.st k.toNat).term (c k.toNat).rw false 0 (c k.toNat).al (c k.toNat).hl)), addF (addF r.f (.bl false) (.bool false)) (.int 0) (.int 0)⟩ := ⟨fun b hb => upd_ne hb, fun v d h => .inl (.inl h)⟩
    exact ⟨_, L, b, _, ⟨h1, rfl, rfl⟩, h0.put1 hi (hk.upd (k' := { s.st k.toNat with leads := false, settled := 0 }) fr upd_same rfl rfl rfl) fr⟩
  · rintro _ r ⟨h1, rfl, rfl⟩
    exact ⟨s, L, b, c, ⟨h1, rfl, rfl⟩, h0⟩

/-! ## Room.term_of -/
theorem sc_Room_term_of : FnScope ["self", "k"] ["self", "k"] (defScope s_Room_term_of) := ⟨rfl, rfl, rfl, by decide +kernel, rfl, by decide +kernel, by decide +kernel⟩
abbrev sp_Room_term_of (K : PySem.W.Frag) (CR CK X : Addr) : Sp := spX K (RO K CR CK) (fun a : RSt × Int => [objD a.1.p, .int a.2]) (fun a r => r = some a.1)
  (fun a r d r' => (0 ≤ a.2 ∧ a.2 < a.1.n) ∧ d = .int (a.1.st a.2.toNat).term ∧ r' = r) (fun a r c r' => ¬ (0 ≤ a.2 ∧ a.2 < a.1.n) ∧ c = .ref X ∧ r' = r)
theorem ok_Room_term_of (T : Tx K mg) : FnOk P w K mg base (L2N.CX P w) 2 T.d_Room_term_of.a T.d_Room_term_of.fd ["self", "k"] (sp_Room_term_of K T.c_Room T.c_Keeper T.c_NoKeeper) := by
  refine ok_roomN (·.1) (fun _ _ h => h) T.d_Room_term_of.F sc_Room_term_of (fun _ => rfl) fun cdv A outer s H E hr => ⟨_, (pss_one (ps_ret (pe_fld (pe_meth (pv 0) T.cl_Room T.d_Room_keeper.m (ok_Room_keeper T) (hr.mono (by decide)) T.d_Room_keeper.b .nil (passXN (L2N.takes_of rfl rfl rfl rfl)) (pa_cons (pv 1) pa_nil)) rfl))), ?_⟩
  rintro ⟨s, k⟩ L b c r _ h0
  have h0 : RoomAt T.c_Room T.c_Keeper s L b c r := h0
  obtain ⟨dp, hob⟩ := h0.ob
  refine sp_retX (Pe := fun d r' => (0 ≤ k ∧ k < s.n) ∧ d = .int (s.st k.toNat).term ∧ r' = r) (evx_fld (evx_meth ((⟨s, L, b, c⟩, k) : RX × Int) (ev_var rfl) (inst_of hob (rf_no (by decide +kernel))) (ea_cons (ev_var rfl) ea_nil) rfl h0) T.cl_Keeper T.na_Keeper_term ?_) ?_ ?_
  · rintro _ r ⟨h1, rfl, rfl⟩
    have h1 : 0 ≤ k ∧ k < s.n := h1
    exact ⟨_, _, _, _, _, rfl, (h0.at_ k.toNat (by omega)).ob, kf_term, .int, h1, rfl, rfl⟩
  · rintro _ r ⟨h1, rfl, rfl⟩
    exact ⟨s, L, b, c, ⟨h1, rfl, rfl⟩, h0⟩
  · rintro _ r ⟨h1, rfl, rfl⟩
    exact ⟨s, L, b, c, ⟨h1, rfl, rfl⟩, h0⟩

/-! ## Room.row_of -/
theorem sc_Room_row_of : FnScope ["self", "k"] ["self", "k"] (defScope s_Room_row_of) := ⟨rfl, rfl, rfl, by decide +kernel, rfl, by decide +kernel, by decide +kernel⟩
abbrev sp_Room_row_of (K : PySem.W.Frag) (CR CK X : Addr) : Sp := spXF K (RO K CR CK) (fun a : RSt × Int => [objD a.1.p, .int a.2]) (fun a r => r = some a.1)
  (fun a r d r' => (0 ≤ a.2 ∧ a.2 < a.1.n) ∧ d = (a.1.st a.2.toNat).row.map entD ∧ r' = r) (fun a r c r' => ¬ (0 ≤ a.2 ∧ a.2 < a.1.n) ∧ c = .ref X ∧ r' = r)
theorem ok_Room_row_of (T : Tx K mg) : FnOk P w K mg base (L2N.CX P w) 2 T.d_Room_row_of.a T.d_Room_row_of.fd ["self", "k"] (sp_Room_row_of K T.c_Room T.c_Keeper T.c_NoKeeper) := by
  refine ok_roomFN (·.1) (fun _ _ h => h) T.d_Room_row_of.F sc_Room_row_of (fun _ => rfl) fun cdv A outer s H E hr => ⟨_, (pss_one (ps_ret (pe_callTy call_list_of (by rfl) T.z_list (by decide +kernel) (pa_cons (pe_fld (pe_meth (pv 0) T.cl_Room T.d_Room_keeper.m (ok_Room_keeper T) (hr.mono (by decide)) T.d_Room_keeper.b .nil (passXN (L2N.takes_of rfl rfl rfl rfl)) (pa_cons (pv 1) pa_nil)) rfl) pa_nil)))), ?_⟩
  rintro ⟨s, k⟩ L b c r _ h0
  have h0 : RoomAt T.c_Room T.c_Keeper s L b c r := h0
  obtain ⟨dp, hob⟩ := h0.ob
  refine sp_retXF (Pe := fun d r' => (0 ≤ k ∧ k < s.n) ∧ d = (s.st k.toNat).row.map entD ∧ r' = r) (evxf_listD (evx_fld (P := fun d r' => (0 ≤ k ∧ k < s.n) ∧ d = rowD (s.st k.toNat).row ∧ r' = r) (evx_meth ((⟨s, L, b, c⟩, k) : RX × Int) (ev_var rfl) (inst_of hob (rf_no (by decide +kernel))) (ea_cons (ev_var rfl) ea_nil) rfl h0) T.cl_Keeper T.na_Keeper_row ?_) ?_) ?_ ?_
  · rintro _ r ⟨h1, rfl, rfl⟩
    have h1 : 0 ≤ k ∧ k < s.n := h1
    exact ⟨_, _, _, _, _, rfl, (h0.at_ k.toNat (by omega)).ob, kf_row, .fact (h0.at_ k.toNat (by omega)).row, h1, rfl, rfl⟩
  · rintro _ r ⟨h1, rfl, rfl⟩
    exact ⟨_, rfl, h1, rfl, rfl⟩
  · rintro _ r ⟨h1, rfl, rfl⟩
    exact ⟨s, L, b, c, ⟨h1, rfl, rfl⟩, h0⟩
  · rintro _ r ⟨h1, rfl, rfl⟩
    exact ⟨s, L, b, c, ⟨h1, rfl, rfl⟩, h0⟩

/-! ## Room.leading -/
theorem sc_Room_leading : FnScope ["self", "k"] ["self", "k"] (defScope s_Room_leading) := ⟨rfl, rfl, rfl, by decide +kernel, rfl, by decide +kernel, by decide +kernel⟩
abbrev sp_Room_leading (K : PySem.W.Frag) (CR CK X : Addr) : Sp := spX K (RO K CR CK) (fun a : RSt × Int => [objD a.1.p, .int a.2]) (fun a r => r = some a.1)
  (fun a r d r' => (0 ≤ a.2 ∧ a.2 < a.1.n) ∧ d = .bool (a.1.st a.2.toNat).leads ∧ r' = r) (fun a r c r' => ¬ (0 ≤ a.2 ∧ a.2 < a.1.n) ∧ c = .ref X ∧ r' = r)
theorem ok_Room_leading (T : Tx K mg) : FnOk P w K mg base (L2N.CX P w) 2 T.d_Room_leading.a T.d_Room_leading.fd ["self", "k"] (sp_Room_leading K T.c_Room T.c_Keeper T.c_NoKeeper) := by
  refine ok_roomN (·.1) (fun _ _ h => h) T.d_Room_leading.F sc_Room_leading (fun _ => rfl) fun cdv A outer s H E hr => ⟨_, (pss_one (ps_ret (pe_fld (pe_meth (pv 0) T.cl_Room T.d_Room_keeper.m (ok_Room_keeper T) (hr.mono (by decide)) T.d_Room_keeper.b .nil (passXN (L2N.takes_of rfl rfl rfl rfl)) (pa_cons (pv 1) pa_nil)) rfl))), ?_⟩
  rintro ⟨s, k⟩ L b c r _ h0
  have h0 : RoomAt T.c_Room T.c_Keeper s L b c r := h0
  obtain ⟨dp, hob⟩ := h0.ob
  refine sp_retX (Pe := fun d r' => (0 ≤ k ∧ k < s.n) ∧ d = .bool (s.st k.toNat).leads ∧ r' = r) (evx_fld (evx_meth ((⟨s, L, b, c⟩, k) : RX × Int) (ev_var rfl) (inst_of hob (rf_no (by decide +kernel))) (ea_cons (ev_var rfl) ea_nil) rfl h0) T.cl_Keeper T.na_Keeper_leads ?_) ?_ ?_
  · rintro _ r ⟨h1, rfl, rfl⟩
    have h1 : 0 ≤ k ∧ k < s.n := h1
    exact ⟨_, _, _, _, _, rfl, (h0.at_ k.toNat (by omega)).ob, kf_leads, .bl, h1, rfl, rfl⟩
  · rintro _ r ⟨h1, rfl, rfl⟩
    exact ⟨s, L, b, c, ⟨h1, rfl, rfl⟩, h0⟩
  · rintro _ r ⟨h1, rfl, rfl⟩
    exact ⟨s, L, b, c, ⟨h1, rfl, rfl⟩, h0⟩

/-! ## Room.settled_of -/
theorem sc_Room_settled_of : FnScope ["self", "k", "own"] ["self", "k"] (defScope s_Room_settled_of) := ⟨rfl, rfl, rfl, by decide +kernel, rfl, by decide +kernel, by decide +kernel⟩
abbrev sp_Room_settled_of (K : PySem.W.Frag) (CR CK X : Addr) : Sp := spXF K (RO K CR CK) (fun a : RSt × Int => [objD a.1.p, .int a.2]) (fun a r => r = some a.1 ∧ ∀ i, i < a.1.n → 0 ≤ (a.1.st i).settled)
  (fun a r d r' => (0 ≤ a.2 ∧ a.2 < a.1.n) ∧ d = ((a.1.st a.2.toNat).row.take (a.1.st a.2.toNat).settled.toNat).map entD ∧ r' = r) (fun a r c r' => ¬ (0 ≤ a.2 ∧ a.2 < a.1.n) ∧ c = .ref X ∧ r' = r)
theorem ok_Room_settled_of (T : Tx K mg) : FnOk P w K mg base (L2N.CX P w) 2 T.d_Room_settled_of.a T.d_Room_settled_of.fd ["self", "k"] (sp_Room_settled_of K T.c_Room T.c_Keeper T.c_NoKeeper) := by
  refine ok_roomFN (·.1) (fun _ _ h => h.1) T.d_Room_settled_of.F sc_Room_settled_of (fun _ => rfl) fun cdv A outer s H E hr => ⟨_, (pss_cons (ps_set (i := 2) sc_Room_settled_of.nd rfl (by first | exact Or.inl rfl | exact Or.inr rfl) (pe_meth (pv 0) T.cl_Room T.d_Room_keeper.m (ok_Room_keeper T) (hr.mono (by decide)) T.d_Room_keeper.b .nil (passXN (L2N.takes_of rfl rfl rfl rfl)) (pa_cons (pv 1) pa_nil)))
    (pss_one (ps_ret (pe_slice sl_list (pe_fld (pv 2) rfl) po_none (po_some (pe_fld (pv 2) rfl)))))), ?_⟩
  rintro ⟨s, k⟩ L b c r ⟨_, hg⟩ h0
  have h0 : RoomAt T.c_Room T.c_Keeper s L b c r := h0
  have hg : ∀ i, i < s.n → 0 ≤ (s.st i).settled := hg
  obtain ⟨dp, hob⟩ := h0.ob
  refine sp_asgX (evx_meth ((⟨s, L, b, c⟩, k) : RX × Int) (ev_var rfl) (inst_of hob (rf_no (by decide +kernel))) (ea_cons (ev_var rfl) ea_nil) rfl h0) ?_ ?_
  · rintro _ r ⟨h1, rfl, rfl⟩
    have h1 : 0 ≤ k ∧ k < s.n := h1
    have hk := h0.at_ k.toNat (by omega)
    refine sp_retF (evf_sl (ds := (s.st k.toNat).row.map entD) (ev_fld (ev_var rfl) hk.ob T.cl_Keeper T.na_Keeper_row kf_row (.fact hk.row)) eo_none (eo_some (ev_fld (ev_var rfl) hk.ob T.cl_Keeper T.na_Keeper_settled kf_settled .int))) ⟨s, L, b, c, ⟨h1, ?_, rfl⟩, h0⟩
    rw [cut_to _ (hg k.toNat (by omega)), ← List.map_take]
  · rintro _ r ⟨h1, rfl, rfl⟩
    exact ⟨s, L, b, c, ⟨h1, rfl, rfl⟩, h0⟩
section
variable {ρ' : Type} {R' : ρ' → Hp → Hp → Prop} {CR CK X : Addr} {e : SE} {g : ρ'} {put : Option RSt → ρ'} {ta tb : TE} {E : XK} {s : RSt} {k : Int}
theorem ev_term_of (L : Lift (RO K CR CK) R' g (some s) put) (h : EvD K (RO K CR CK) ta e (some s) (objD s.p)) (hk : EvD K (RO K CR CK) tb e (some s) (.int k)) (h0 : 0 ≤ k) (h1 : k < s.n) :
    EvD K R' (tMeth CR "term_of" (sp_Room_term_of K CR CK X) [] E ta (tCons tb tNil)) e g (.int (s.st k.toNat).term) :=
  EvS.lift (EvX.s (P := fun d r' => d = .int (s.st k.toNat).term ∧ r' = some s) (PE := fun _ _ => False) (EvX.lift (evx_meth (s, k) h (RO.inst (by decide +kernel)) (ea_cons hk ea_nil) rfl rfl) Lift.id (fun d r' z => ⟨z.2.1, z.2.2⟩) fun c r' z => z.1 ⟨h0, h1⟩) fun _ _ z => z) L fun d r' z => ⟨z.1, by rw [z.2, L.eq]⟩
theorem ev_leading (L : Lift (RO K CR CK) R' g (some s) put) (h : EvD K (RO K CR CK) ta e (some s) (objD s.p)) (hk : EvD K (RO K CR CK) tb e (some s) (.int k)) (h0 : 0 ≤ k) (h1 : k < s.n) :
    EvD K R' (tMeth CR "leading" (sp_Room_leading K CR CK X) [] E ta (tCons tb tNil)) e g (.bool (s.st k.toNat).leads) :=
  EvS.lift (EvX.s (P := fun d r' => d = .bool (s.st k.toNat).leads ∧ r' = some s) (PE := fun _ _ => False) (EvX.lift (evx_meth (s, k) h (RO.inst (by decide +kernel)) (ea_cons hk ea_nil) rfl rfl) Lift.id (fun d r' z => ⟨z.2.1, z.2.2⟩) fun c r' z => z.1 ⟨h0, h1⟩) fun _ _ z => z) L fun d r' z => ⟨z.1, by rw [z.2, L.eq]⟩
theorem evf_row_of (L : Lift (RO K CR CK) R' g (some s) put) (h : EvD K (RO K CR CK) ta e (some s) (objD s.p)) (hk : EvD K (RO K CR CK) tb e (some s) (.int k)) (h0 : 0 ≤ k) (h1 : k < s.n) :
    EvF K R' (tMeth CR "row_of" (sp_Room_row_of K CR CK X) [] E ta (tCons tb tNil)) e g ((s.st k.toNat).row.map entD) :=
  EvXF.f (P := fun d r' => d = (s.st k.toNat).row.map entD ∧ r' = g) (PE := fun _ _ => False) (EvXF.lift (evxf_meth (s, k) h (RO.inst (by decide +kernel)) (ea_cons hk ea_nil) rfl rfl) L (fun d r' z => ⟨z.2.1, by rw [z.2.2, L.eq]⟩) fun c r' z => z.1 ⟨h0, h1⟩) (fun _ _ z => z) fun _ _ z => z
theorem evf_settled_of (L : Lift (RO K CR CK) R' g (some s) put) (h : EvD K (RO K CR CK) ta e (some s) (objD s.p)) (hk : EvD K (RO K CR CK) tb e (some s) (.int k)) (h0 : 0 ≤ k) (h1 : k < s.n) (hs : ∀ i, i < s.n → 0 ≤ (s.st i).settled) :
    EvF K R' (tMeth CR "settled_of" (sp_Room_settled_of K CR CK X) [] E ta (tCons tb tNil)) e g (((s.st k.toNat).row.take (s.st k.toNat).settled.toNat).map entD) :=
  EvXF.f (P := fun d r' => d = ((s.st k.toNat).row.take (s.st k.toNat).settled.toNat).map entD ∧ r' = g) (PE := fun _ _ => False) (EvXF.lift (evxf_meth (s, k) h (RO.inst (by decide +kernel)) (ea_cons hk ea_nil) rfl ⟨rfl, hs⟩) L (fun d r' z => ⟨z.2.1, by rw [z.2.2, L.eq]⟩) fun c r' z => z.1 ⟨h0, h1⟩) (fun _ _ z => z) fun _ _ z => z
theorem ev_row_of [Stab R'] (L : Lift (RO K CR CK) R' g (some s) put) (h : EvD K (RO K CR CK) ta e (some s) (objD s.p)) (hk : EvD K (RO K CR CK) tb e (some s) (.int k)) (h0 : 0 ≤ k) (h1 : k < s.n) :
    EvD K R' (tMeth CR "row_of" (sp_Room_row_of K CR CK X) [] E ta (tCons tb tNil)) e g (rowD (s.st k.toNat).row) := EvF.ev (evf_row_of L h hk h0 h1)
theorem ev_settled_of [Stab R'] (L : Lift (RO K CR CK) R' g (some s) put) (h : EvD K (RO K CR CK) ta e (some s) (objD s.p)) (hk : EvD K (RO K CR CK) tb e (some s) (.int k)) (h0 : 0 ≤ k) (h1 : k < s.n) (hs : ∀ i, i < s.n → 0 ≤ (s.st i).settled) :
    EvD K R' (tMeth CR "settled_of" (sp_Room_settled_of K CR CK X) [] E ta (tCons tb tNil)) e g (rowD ((s.st k.toNat).row.take (s.st k.toNat).settled.toNat)) := EvF.ev (evf_settled_of L h hk h0 h1 hs)
end
section
variable {ρ' : Type} {R' : ρ' → Hp → Hp → Prop} {CR CK X : Addr} {e : SE} {g : ρ'} {put : Option RSt → ρ'} {ta tb tc : TE} {E : XK} {s : RSt} {k : Int}
theorem es_rest (L : Lift (RO K CR CK) R' g (some s) put) (h : EvD K (RO K CR CK) ta e (some s) (objD s.p)) (hk : EvD K (RO K CR CK) tb e (some s) (.int k)) (h0 : 0 ≤ k) (h1 : k < s.n) :
    EvS K R' (tMeth CR "rest" (sp_Room_rest K CR CK X) [] E ta (tCons tb tNil)) e g (fun d r' => d = .none ∧ r' = put (some (s.rest k.toNat))) :=
  EvS.lift (EvX.s (P := fun d r' => d = .none ∧ r' = some (s.rest k.toNat)) (PE := fun _ _ => False) (EvX.lift (evx_meth (s, k) h (RO.inst (by decide +kernel)) (ea_cons hk ea_nil) rfl rfl) Lift.id (fun d r' z => ⟨z.2.1, z.2.2⟩) fun c r' z => z.1 ⟨h0, h1⟩) fun _ _ z => z) L fun d r' z => ⟨z.1, by rw [z.2]⟩
theorem es_stand {os : List Int} (L : Lift (RO K CR CK) R' g (some s) put) (h : EvD K (RO K CR CK) ta e (some s) (objD s.p)) (hk : EvD K (RO K CR CK) tb e (some s) (.int k)) (ho : EvD K (RO K CR CK) tc e (some s) (osD os)) (h0 : 0 ≤ k) (h1 : k < s.n)
    (hp : (∀ i, i < s.n → rowOk (s.st i).row) ∧ s.n ≤ 9 ∧ os.length ≤ 1000) (hos : ∀ o, o ∈ os → 0 ≤ o ∧ o < s.n) :
    EvS K R' (tMeth CR "stand" (sp_Room_stand K CR CK X) [] E ta (tCons tb (tCons tc tNil))) e g (fun d r' => d = .bool ((s.stand k.toNat os).st k.toNat).leads ∧ r' = put (some (s.stand k.toNat os))) :=
  EvS.lift (EvX.s (P := fun d r' => d = .bool ((s.stand k.toNat os).st k.toNat).leads ∧ r' = some (s.stand k.toNat os)) (PE := fun _ _ => False) (EvX.lift (evx_meth (s, k, os) h (RO.inst (by decide +kernel)) (ea_cons hk (ea_cons ho ea_nil)) rfl ⟨rfl, hp⟩) Lift.id (fun d r' z => ⟨z.2.1, z.2.2⟩) fun c r' z => z.1 ⟨⟨h0, h1⟩, hos⟩) fun _ _ z => z) L fun d r' z => ⟨z.1, by rw [z.2]⟩
end
section
variable {ρ' : Type} {R' : ρ' → Hp → Hp → Prop} {CR CK X Y : Addr} {e : SE} {g : ρ'} {put : Option RSt → ρ'} {ta tb tc td : TE} {E : XK} {s : RSt} {k o m : Int}
theorem es_write {w : Str} (L : Lift (RO K CR CK) R' g (some s) put) (h : EvD K (RO K CR CK) ta e (some s) (objD s.p)) (hk : EvD K (RO K CR CK) tb e (some s) (.int k)) (hw : EvD K (RO K CR CK) tc e (some s) (.str w)) (h0 : 0 ≤ k) (h1 : k < s.n) (hg : Good s) (hl : (s.st k.toNat).leads = true) :
    EvS K R' (tMeth CR "write" (sp_Room_write K CR CK X Y) [] E ta (tCons tb (tCons tc tNil))) e g (fun d r' => d = .int ((s.st k.toNat).row.length : Int) ∧ r' = put (some (s.write k.toNat w))) :=
  EvS.lift (EvX.s (P := fun d r' => d = .int ((s.st k.toNat).row.length : Int) ∧ r' = some (s.write k.toNat w)) (PE := fun _ _ => False) (EvX.lift (evx_meth (s, k, w) h (RO.inst (by decide +kernel)) (ea_cons hk (ea_cons hw ea_nil)) rfl ⟨rfl, hg⟩) Lift.id (fun d r' z => ⟨z.2.2.1, z.2.2.2⟩) fun c r' z => by
    rcases z.1 with y | y
    · exact y.1 ⟨h0, h1⟩
    · have y2 : (s.st k.toNat).leads = false := y.2.1
      rw [hl] at y2; cases y2) fun _ _ z => z) L fun d r' z => ⟨z.1, by rw [z.2]⟩
theorem es_hand (L : Lift (RO K CR CK) R' g (some s) put) (h : EvD K (RO K CR CK) ta e (some s) (objD s.p)) (hk : EvD K (RO K CR CK) tb e (some s) (.int k)) (ho : EvD K (RO K CR CK) tc e (some s) (.int o)) (hm : EvD K (RO K CR CK) td e (some s) (.int m)) (h0 : 0 ≤ k) (h1 : k < s.n) (o0 : 0 ≤ o) (o1 : o < s.n) (ne : o ≠ k) (m0 : 0 ≤ m) (hg : Good s) (hl : (s.st k.toNat).leads = true) :
    EvS K R' (tMeth CR "hand" (sp_Room_hand K CR CK X Y) [] E ta (tCons tb (tCons tc (tCons td tNil)))) e g (fun d r' => d = .bool (handTold s.st k.toNat o.toNat) ∧ r' = put (some (s.hand k.toNat o.toNat m))) :=
  EvS.lift (EvX.s (P := fun d r' => d = .bool (handTold s.st k.toNat o.toNat) ∧ r' = some (s.hand k.toNat o.toNat m)) (PE := fun _ _ => False) (EvX.lift (evx_meth (s, k, o, m) h (RO.inst (by decide +kernel)) (ea_cons hk (ea_cons ho (ea_cons hm ea_nil))) rfl ⟨rfl, hg, m0⟩) Lift.id (fun d r' z => ⟨z.2.2.1, z.2.2.2⟩) fun c r' z => by
    rcases z.1 with y | y
    · exact y.1 ⟨⟨h0, h1⟩, ⟨o0, o1⟩, ne⟩
    · have y2 : (s.st k.toNat).leads = false := y.2.1
      rw [hl] at y2; cases y2) fun _ _ z => z) L fun d r' z => ⟨z.1, by rw [z.2]⟩
theorem es_settle (L : Lift (RO K CR CK) R' g (some s) put) (h : EvD K (RO K CR CK) ta e (some s) (objD s.p)) (hk : EvD K (RO K CR CK) tb e (some s) (.int k)) (h0 : 0 ≤ k) (h1 : k < s.n) (hg : Good s) (hl : (s.st k.toNat).leads = true) :
    EvS K R' (tMeth CR "settle" (sp_Room_settle K CR CK X Y) [] E ta (tCons tb tNil)) e g (fun d r' => d = .int ((s.st k.toNat).settleN k.toNat) ∧ r' = put (some (s.settle k.toNat))) :=
  EvS.lift (EvX.s (P := fun d r' => d = .int ((s.st k.toNat).settleN k.toNat) ∧ r' = some (s.settle k.toNat)) (PE := fun _ _ => False) (EvX.lift (evx_meth (s, k) h (RO.inst (by decide +kernel)) (ea_cons hk ea_nil) rfl ⟨rfl, hg⟩) Lift.id (fun d r' z => ⟨z.2.2.1, z.2.2.2⟩) fun c r' z => by
    rcases z.1 with y | y
    · exact y.1 ⟨h0, h1⟩
    · have y2 : (s.st k.toNat).leads = false := y.2.1
      rw [hl] at y2; cases y2) fun _ _ z => z) L fun d r' z => ⟨z.1, by rw [z.2]⟩
end

/-! ## _law_cell_at -/
theorem sc__law_cell_at : FnScope ["_law_script", "_law_k"] ["_law_script", "_law_k"] (defScope s__law_cell_at) := ⟨rfl, rfl, rfl, by decide +kernel, rfl, by decide +kernel, by decide +kernel⟩
abbrev sp_cell_at (K : PySem.W.Frag) : Sp := spF K (fun a : List Int × Int => [scrD a.1, .int a.2]) (fun a => 0 ≤ a.2) (fun a => .int (cellAt a.1 a.2))
section
variable {ρ : Type} {R : ρ → Hp → Hp → Prop} [Stab R] {e : SE} {r : ρ} {ta tb : TE} {E : XK}
theorem ev_cell_at {ns : List Int} {k : Int} (h : EvD K R ta e r (scrD ns)) (h2 : EvD K R tb e r (.int k)) (hp : 0 ≤ k) : EvD K R (tCall (sp_cell_at K) [] E (tCons ta (tCons tb tNil))) e r (.int (cellAt ns k)) :=
  ev_call (ns, k) (ea_cons h (ea_cons h2 ea_nil)) hp
end
theorem ok__law_cell_at (T : Tx K mg) : FnOk P w K mg base CX0 1 T.d__law_cell_at.a T.d__law_cell_at.fd ["_law_script", "_law_k"] (sp_cell_at K) := by
  refine ok_pure T.d__law_cell_at.F sc__law_cell_at (fun _ => rfl) fun cdv A outer s H E hr => ⟨_, (pss_cons (ps_if (pt_cmpR op_lt (pv 1) (pe_callB call_len_seq (by rfl) T.z_len (by decide +kernel) (pa_cons (pv 0) pa_nil)) (nomark _)) (pss_one (ps_ret (pe_ix ix_list (pv 0) (pv 1) (fun _ _ => rfl)))) pss_nil)
    (pss_one (ps_ret pe_int))), ?_⟩
  rintro M0 ⟨ns, k⟩ hp
  refine sp_when (et_test (ev_op (ev_var rfl) (ev_cb (ea_cons (ev_var rfl) ea_nil) cbLenScr) opB)) (fun h => ?_) fun h => ?_
  · have hk : k < ns.length := of_decide_eq_true h
    refine sp_ret (ev_op (ev_var rfl) (ev_var rfl) (opIxScr (atI_cell hp hk))) ?_
    show PyData.int _ = PyData.int (cellAt ns k)
    unfold cellAt
    rw [if_pos hk]
  · have hk : ¬ k < ns.length := of_decide_eq_false h
    refine sp_ret ev_int ?_
    show PyData.int _ = PyData.int (cellAt ns k)
    unfold cellAt
    rw [if_neg hk]

/-! ## _law_mixed -/
theorem sc__law_mixed : FnScope ["_law_script", "_law_k", "_law_number"] ["_law_script", "_law_k"] (defScope s__law_mixed) := ⟨rfl, rfl, rfl, by decide +kernel, rfl, by decide +kernel, by decide +kernel⟩
abbrev sp_mixed (K : PySem.W.Frag) : Sp := spF K (fun a : List Int × Int => [scrD a.1, .int a.2]) (fun a => 0 ≤ a.2) (fun a => .int (mixed a.1 a.2))
section
variable {ρ : Type} {R : ρ → Hp → Hp → Prop} [Stab R] {e : SE} {r : ρ} {ta tb : TE} {E : XK}
theorem ev_mixed {ns : List Int} {k : Int} (h : EvD K R ta e r (scrD ns)) (h2 : EvD K R tb e r (.int k)) (hp : 0 ≤ k) : EvD K R (tCall (sp_mixed K) [] E (tCons ta (tCons tb tNil))) e r (.int (mixed ns k)) :=
  ev_call (ns, k) (ea_cons h (ea_cons h2 ea_nil)) hp
end
theorem ok__law_mixed (T : Tx K mg) : FnOk P w K mg base CX0 2 T.d__law_mixed.a T.d__law_mixed.fd ["_law_script", "_law_k"] (sp_mixed K) := by
  refine ok_pure T.d__law_mixed.F sc__law_mixed (fun _ => rfl) fun cdv A outer s H E hr => ⟨_, (pss_cons (ps_set (i := 2) sc__law_mixed.nd rfl (by first | exact Or.inl rfl | exact Or.inr rfl) (pe_op op_mod (pe_op op_mul (pe_op op_add (pe_call (ok__law_cell_at T) (hr.mono (by decide)) (by rfl) T.d__law_cell_at.g T.d__law_cell_at.F.kp T.d__law_cell_at.b .nil pass0 (pa_cons (pv 0) (pa_cons (pv 1) pa_nil))) (pe_op op_mul pe_int (pv 1))) pe_int) pe_int))
    (pss_one (ps_ret (pe_op op_mod (pe_op op_add (pe_op op_add (pe_op op_mul (pv 2) (pv 2)) (pe_op op_mul pe_int (pv 2))) (pv 1)) pe_int)))), ?_⟩
  rintro M0 ⟨ns, k⟩ hp
  have h0 : 0 ≤ (cellAt ns k + 7919 * k) * 48271 % 2147483647 := Int.emod_nonneg _ (by decide)
  have h1 : (cellAt ns k + 7919 * k) * 48271 % 2147483647 < 2147483647 := Int.emod_lt_of_pos _ (by decide)
  refine sp_asg (ev_op (ev_op (ev_op (ev_cell_at (ev_var rfl) (ev_var rfl) hp) (ev_op ev_int (ev_var rfl) (opIC (.inl ⟨by decide, by decide⟩))) opI) ev_int (opIC (.inr ⟨by decide, by decide⟩))) ev_int (opIC (by decide))) ?_
  refine sp_ret (ev_op (ev_op (ev_op (ev_op (ev_var rfl) (ev_var rfl) (opIC (.inl ⟨by omega, by omega⟩))) (ev_op ev_int (ev_var rfl) (opIC (.inl ⟨by decide, by decide⟩))) opI) (ev_var rfl) opI) ev_int (opIC (by decide))) ?_
  rfl

/-! ## _law_drawn -/
theorem sc__law_drawn : FnScope ["_law_number", "_law_sizes", "_law_some", "_law_size"] ["_law_number", "_law_sizes"] (defScope s__law_drawn) := ⟨rfl, rfl, rfl, by decide +kernel, rfl, by decide +kernel, by decide +kernel⟩
abbrev sp_drawn (K : PySem.W.Frag) : Sp := spF K (fun a : Int × List Int => [.int a.1, osD a.2]) (fun a => a.2.length ≤ 1000 ∧ ∀ z, z ∈ a.2 → 0 < z ∧ z < 1073741824) (fun a => osD (drawnL a.1 a.2))
section
variable {ρ : Type} {R : ρ → Hp → Hp → Prop} [Stab R] {e : SE} {r : ρ} {ta tb : TE} {E : XK}
theorem ev_drawn {n : Int} {zs : List Int} (h : EvD K R ta e r (.int n)) (h2 : EvD K R tb e r (osD zs)) (hl : zs.length ≤ 1000) (hp : ∀ z, z ∈ zs → 0 < z ∧ z < 1073741824) : EvD K R (tCall (sp_drawn K) [] E (tCons ta (tCons tb tNil))) e r (osD (drawnL n zs)) :=
  ev_call (n, zs) (ea_cons h (ea_cons h2 ea_nil)) ⟨hl, hp⟩
end
theorem ok__law_drawn (T : Tx K mg) : FnOk P w K mg base CX0 1 T.d__law_drawn.a T.d__law_drawn.fd ["_law_number", "_law_sizes"] (sp_drawn K) := by
  refine ok_pure T.d__law_drawn.F sc__law_drawn (fun _ => rfl) fun cdv A outer s H E hr => ⟨_, (pss_cons (ps_set (i := 2) sc__law_drawn.nd rfl (by first | exact Or.inl rfl | exact Or.inr rfl) (pe_lst pa_nil))
    (pss_cons (ps_for PassesOwn.never rfl (pi_list (pv 1)) (pg_name (i := 3) sc__law_drawn.nd rfl (by first | exact Or.inl rfl | exact Or.inr rfl)) (pss_cons (ps_expr (pe_bm PySem.F.plainAttrs_list PySem.F.slot_list_append PySem.F.type_list_append mt_append (pv 2) (pa_cons (pe_op op_mod (pv 0) (pv 3)) pa_nil)))
    (pss_one (ps_set (i := 0) sc__law_drawn.nd rfl (by first | exact Or.inl rfl | exact Or.inr rfl) (pe_op op_fdiv (pv 0) (pv 3))))))
    (pss_one (ps_ret (pv 2))))), ?_⟩
  rintro M0 ⟨n, zs⟩ ⟨hl, hp⟩
  have hl : zs.length ≤ 1000 := hl
  have hp : ∀ z, z ∈ zs → 0 < z ∧ z < 1073741824 := hp
  refine sp_asgO (ds := []) (evf_lst ea_nil (Nat.zero_le _)) ?_
  have hlen : ∀ k (x : Int × List Int), (((zs.take k).foldl drawnF x).2).length ≤ x.2.length + k := fun k => by
    induction k with
    | zero => intro x; exact Nat.le_refl _
    | succ k ih =>
      intro x
      cases hz : zs[k]? with
      | none =>
        rw [List.take_add_one, hz]
        show ((List.foldl drawnF x (zs.take k ++ [])).2).length ≤ _
        rw [List.append_nil]
        exact Nat.le_trans (ih x) (by omega)
      | some z =>
        rw [foldl_take_succ drawnF x zs hz]
        show (((zs.take k).foldl drawnF x).2 ++ [_]).length ≤ _
        rw [List.length_append]
        have := ih x
        show _ + 1 ≤ _
        omega
  refine sp_seq (N := fun e' _ => ∃ x y, e' = [x, .dat (osD zs), .own ((drawnL n zs).map .int), y]) ?_ ?_
  · refine sp_forL (ds := zs.map .int) (ev_var rfl) (fun k e' _ => ∃ y, e' = [.dat (.int ((zs.take k).foldl drawnF (n, [])).1), .dat (osD zs), .own (((zs.take k).foldl drawnF (n, [])).2.map .int), y]) ⟨_, rfl⟩ ?_ (fun _ _ ⟨y, h⟩ => ⟨_, y, by rw [List.length_map, List.take_length] at h; exact h⟩)
    rintro k d _ _ hd ⟨y, rfl⟩
    rw [List.getElem?_map] at hd
    cases hz : zs[k]? with
    | none => rw [hz] at hd; cases hd
    | some z =>
      rw [hz] at hd
      have hd : some (PyData.int z) = some d := hd
      injection hd with hd
      subst hd
      have hzz := hp z (List.mem_of_getElem? hz)
      have hL := hlen k (n, [])
      have hk : k < zs.length := (List.getElem?_eq_some_iff.mp hz).1
      rw [foldl_take_succ drawnF (n, []) zs hz]
      generalize (zs.take k).foldl drawnF (n, []) = x at hL
      have hL : x.2.length ≤ 0 + k := hL
      refine sp_seq (N := fun e' _ => e' = [.dat (.int x.1), .dat (osD zs), .own (x.2.map .int ++ [.int (x.1 % z)]), .dat (.int z)])
        (sp_app (i := 2) rfl (by rw [List.length_map, sizeLine_eq]; omega) (ev_op (ev_var rfl) (ev_var rfl) (opIC hzz.1)) rfl) ?_
      rintro _ _ rfl
      exact sp_asg1 (ev_op (ev_var rfl) (ev_var rfl) (opIC ⟨hzz.1, hzz.2⟩)) ⟨_, by unfold drawnF; rw [List.map_append]; rfl⟩
  · rintro _ _ ⟨x, y, rfl⟩
    exact sp_frz (i := 2) rfl (sp_ret (ev_var rfl) rfl)

/-! ## _law_asked -/
theorem sc__law_asked : FnScope ["_law_k", "_law_other", "_law_wrong", "_law_place", "_law_some"] ["_law_k", "_law_other", "_law_wrong", "_law_place"] (defScope s__law_asked) := ⟨rfl, rfl, rfl, by decide +kernel, rfl, by decide +kernel, by decide +kernel⟩
abbrev askedL (k o w : Int) (pl : Nat) : List Int := ([k, o, o, k, o].take pl ++ [w]) ++ [k, o, o, k, o].drop pl
abbrev sp_asked (K : PySem.W.Frag) : Sp := spF K (fun a : Int × Int × Int × Nat => [.int a.1, .int a.2.1, .int a.2.2.1, .int (a.2.2.2 : Int)]) (fun _ => True) (fun a => osD (askedL a.1 a.2.1 a.2.2.1 a.2.2.2))
section
variable {ρ : Type} {R : ρ → Hp → Hp → Prop} [Stab R] {e : SE} {r : ρ} {ta tb tc td : TE} {E : XK}
theorem ev_asked {k o w : Int} {pl : Nat} (h1 : EvD K R ta e r (.int k)) (h2 : EvD K R tb e r (.int o)) (h3 : EvD K R tc e r (.int w)) (h4 : EvD K R td e r (.int (pl : Int))) : EvD K R (tCall (sp_asked K) [] E (tCons ta (tCons tb (tCons tc (tCons td tNil))))) e r (osD (askedL k o w pl)) :=
  ev_call (k, o, w, pl) (ea_cons h1 (ea_cons h2 (ea_cons h3 (ea_cons h4 ea_nil)))) trivial
end
theorem ok__law_asked (T : Tx K mg) : FnOk P w K mg base CX0 1 T.d__law_asked.a T.d__law_asked.fd ["_law_k", "_law_other", "_law_wrong", "_law_place"] (sp_asked K) := by
  refine ok_pure T.d__law_asked.F sc__law_asked (fun _ => rfl) fun cdv A outer s H E hr => ⟨_, (pss_cons (ps_set (i := 4) sc__law_asked.nd rfl (by first | exact Or.inl rfl | exact Or.inr rfl) (pe_lst (pa_cons (pv 0) (pa_cons (pv 1) (pa_cons (pv 1) (pa_cons (pv 0) (pa_cons (pv 1) pa_nil)))))))
    (pss_one (ps_ret (pe_op op_cat (pe_op op_cat (pe_slice sl_list (pv 4) po_none (po_some (pv 3))) (pe_lst (pa_cons (pv 2) pa_nil))) (pe_slice sl_list (pv 4) (po_some (pv 3)) po_none))))), ?_⟩
  rintro M0 ⟨k, o, w, pl⟩ _
  refine sp_asg (d := osD [k, o, o, k, o]) (ev_lst (ea_cons (ev_var rfl) (ea_cons (ev_var rfl) (ea_cons (ev_var rfl) (ea_cons (ev_var rfl) (ea_cons (ev_var rfl) ea_nil))))) (by show 5 ≤ sizeLine; decide)) ?_
  have e1 : ([k, o, o, k, o].take pl).length ≤ 5 := by rw [List.length_take]; exact Nat.min_le_right _ _
  have e2 : ([k, o, o, k, o].drop pl).length ≤ 5 := by rw [List.length_drop]; exact Nat.sub_le _ _
  refine sp_ret ((EvF.ev (evf_op (EvF.ev (evf_op (EvF.ev (evf_sl (ds := [k, o, o, k, o].map PyData.int) (ev_var rfl) eo_none (eo_some (ev_var rfl)))) (ev_lst (ds := [PyData.int w]) (ea_cons (ev_var rfl) ea_nil) (by show 1 ≤ sizeLine; decide)) (opCat ?_))) (EvF.ev (evf_sl (ds := [k, o, o, k, o].map PyData.int) (ev_var rfl) (eo_some (ev_var rfl)) eo_none)) (opCat ?_))).is ?_) rfl
  · rw [cut_to _ (Int.natCast_nonneg _), Int.toNat_natCast, ← List.map_take, List.length_map, sizeLine_eq]; show (List.take pl [k, o, o, k, o]).length + 1 ≤ _; omega
  · rw [cut_to _ (Int.natCast_nonneg _), cut_from _ (Int.natCast_nonneg _), Int.toNat_natCast, ← List.map_take, ← List.map_drop, List.length_append, List.length_map, List.length_map, sizeLine_eq]; show (List.take pl [k, o, o, k, o]).length + 1 + (List.drop pl [k, o, o, k, o]).length ≤ _; omega
  · show PyData.list _ = PyData.list _
    rw [cut_to _ (Int.natCast_nonneg _), cut_from _ (Int.natCast_nonneg _), Int.toNat_natCast, ← List.map_take, ← List.map_drop]
    show PyData.list _ = PyData.list ((([k, o, o, k, o].take pl ++ [w]) ++ [k, o, o, k, o].drop pl).map PyData.int)
    rw [List.map_append, List.map_append]; rfl

/-! ## _law_done -/
theorem sc__law_done : FnScope ["_law_room", "_law_way", "_law_k", "_law_other", "_law_wrong"] ["_law_room", "_law_way", "_law_k", "_law_other", "_law_wrong"] (defScope s__law_done) := ⟨rfl, rfl, rfl, by decide +kernel, rfl, by decide +kernel, by decide +kernel⟩
abbrev sp_done (K : PySem.W.Frag) (CR CK X : Addr) : Sp := spX K (RO K CR CK) (fun a : RSt × Int × Int × Int × Int => [objD a.1.p, .int a.2.1, .int a.2.2.1, .int a.2.2.2.1, .int a.2.2.2.2])
  (fun a r => r = some a.1 ∧ Good a.1 ∧ (0 ≤ a.2.1 ∧ a.2.1 < 12) ∧ (0 ≤ a.2.2.1 ∧ a.2.2.1 < a.1.n) ∧ ¬ (0 ≤ a.2.2.2.2 ∧ a.2.2.2.2 < a.1.n)) (fun _ _ _ _ => False) (fun a r c r' => c = .ref X ∧ r' = r)
theorem ok__law_done (T : Tx K mg) : FnOk P w K mg base (L2N.CX P w) 5 T.d__law_done.a T.d__law_done.fd ["_law_room", "_law_way", "_law_k", "_law_other", "_law_wrong"] (sp_done K T.c_Room T.c_Keeper T.c_NoKeeper) := by
  refine ok_objN T.d__law_done.F sc__law_done (fun _ => rfl) fun cdv A outer s H E hr => ⟨_, (pss_cons (ps_if (pt_cmpR op_eq (pv 1) pe_int (nomark _)) (pss_one (ps_ret (pe_meth (pv 0) T.cl_Room T.d_Room_stand.m (ok_Room_stand T) (hr.mono (by decide)) T.d_Room_stand.b .nil (passXN (L2N.takes_of rfl rfl rfl rfl)) (pa_cons (pv 4) (pa_cons (pe_lst pa_nil) pa_nil))))) pss_nil)
    (pss_cons (ps_if (pt_cmpR op_eq (pv 1) pe_int (nomark _)) (pss_one (ps_ret (pe_meth (pv 0) T.cl_Room T.d_Room_stand.m (ok_Room_stand T) (hr.mono (by decide)) T.d_Room_stand.b .nil (passXN (L2N.takes_of rfl rfl rfl rfl)) (pa_cons (pv 2) (pa_cons (pe_call (ok__law_asked T) (hr.mono (by decide)) (by rfl) T.d__law_asked.g T.d__law_asked.F.kp T.d__law_asked.b .nil pass0 (pa_cons (pv 2) (pa_cons (pv 3) (pa_cons (pv 4) (pa_cons (pe_op op_mod (pe_callB call_abs (by rfl) T.z_abs (by decide +kernel) (pa_cons (pv 4) pa_nil)) pe_int) pa_nil))))) pa_nil))))) pss_nil)
    (pss_cons (ps_if (pt_cmpR op_eq (pv 1) pe_int (nomark _)) (pss_one (ps_ret (pe_meth (pv 0) T.cl_Room T.d_Room_write.m (ok_Room_write T) (hr.mono (by decide)) T.d_Room_write.b .nil (passXN (L2N.takes_of rfl rfl rfl rfl)) (pa_cons (pv 4) (pa_cons pe_str pa_nil))))) pss_nil)
    (pss_cons (ps_if (pt_cmpR op_eq (pv 1) pe_int (nomark _)) (pss_one (ps_ret (pe_meth (pv 0) T.cl_Room T.d_Room_hand.m (ok_Room_hand T) (hr.mono (by decide)) T.d_Room_hand.b .nil (passXN (L2N.takes_of rfl rfl rfl rfl)) (pa_cons (pv 4) (pa_cons (pv 2) (pa_cons pe_int pa_nil)))))) pss_nil)
    (pss_cons (ps_if (pt_cmpR op_eq (pv 1) pe_int (nomark _)) (pss_one (ps_ret (pe_meth (pv 0) T.cl_Room T.d_Room_hand.m (ok_Room_hand T) (hr.mono (by decide)) T.d_Room_hand.b .nil (passXN (L2N.takes_of rfl rfl rfl rfl)) (pa_cons (pv 2) (pa_cons (pv 4) (pa_cons pe_int pa_nil)))))) pss_nil)
    (pss_cons (ps_if (pt_cmpR op_eq (pv 1) pe_int (nomark _)) (pss_one (ps_ret (pe_meth (pv 0) T.cl_Room T.d_Room_hand.m (ok_Room_hand T) (hr.mono (by decide)) T.d_Room_hand.b .nil (passXN (L2N.takes_of rfl rfl rfl rfl)) (pa_cons (pv 2) (pa_cons (pv 2) (pa_cons pe_int pa_nil)))))) pss_nil)
    (pss_cons (ps_if (pt_cmpR op_eq (pv 1) pe_int (nomark _)) (pss_one (ps_ret (pe_meth (pv 0) T.cl_Room T.d_Room_settle.m (ok_Room_settle T) (hr.mono (by decide)) T.d_Room_settle.b .nil (passXN (L2N.takes_of rfl rfl rfl rfl)) (pa_cons (pv 4) pa_nil)))) pss_nil)
    (pss_cons (ps_if (pt_cmpR op_eq (pv 1) pe_int (nomark _)) (pss_one (ps_ret (pe_meth (pv 0) T.cl_Room T.d_Room_rest.m (ok_Room_rest T) (hr.mono (by decide)) T.d_Room_rest.b .nil (passXN (L2N.takes_of rfl rfl rfl rfl)) (pa_cons (pv 4) pa_nil)))) pss_nil)
    (pss_cons (ps_if (pt_cmpR op_eq (pv 1) pe_int (nomark _)) (pss_one (ps_ret (pe_meth (pv 0) T.cl_Room T.d_Room_term_of.m (ok_Room_term_of T) (hr.mono (by decide)) T.d_Room_term_of.b .nil (passXN (L2N.takes_of rfl rfl rfl rfl)) (pa_cons (pv 4) pa_nil)))) pss_nil)
    (pss_cons (ps_if (pt_cmpR op_eq (pv 1) pe_int (nomark _)) (pss_one (ps_ret (pe_meth (pv 0) T.cl_Room T.d_Room_row_of.m (ok_Room_row_of T) (hr.mono (by decide)) T.d_Room_row_of.b .nil (passXN (L2N.takes_of rfl rfl rfl rfl)) (pa_cons (pv 4) pa_nil)))) pss_nil)
    (pss_cons (ps_if (pt_cmpR op_eq (pv 1) pe_int (nomark _)) (pss_one (ps_ret (pe_meth (pv 0) T.cl_Room T.d_Room_leading.m (ok_Room_leading T) (hr.mono (by decide)) T.d_Room_leading.b .nil (passXN (L2N.takes_of rfl rfl rfl rfl)) (pa_cons (pv 4) pa_nil)))) pss_nil)
    (pss_one (ps_ret (pe_meth (pv 0) T.cl_Room T.d_Room_settled_of.m (ok_Room_settled_of T) (hr.mono (by decide)) T.d_Room_settled_of.b .nil (passXN (L2N.takes_of rfl rfl rfl rfl)) (pa_cons (pv 4) pa_nil))))))))))))))), ?_⟩
  rintro ⟨s, way, k, o, w⟩ r ⟨h0, hg, hw, hk, hbad⟩
  have h0 : r = some s := h0
  subst h0
  have hg : Good s := hg
  have hw : 0 ≤ way ∧ way < 12 := hw
  have hk : 0 ≤ k ∧ k < s.n := hk
  have hbad : ¬ (0 ≤ w ∧ w < s.n) := hbad
  have hrow : ∀ i, i < s.n → rowOk (s.st i).row := fun i hi => (hg.2 i hi).ok
  refine sp_when (et_test (ev_op (ev_var rfl) ev_int opEqI)) (fun h => ?_) fun _ => ?_
  · exact sp_retX (evx_meth (s, w, ([] : List Int)) (ev_var rfl) (RO.inst (by decide +kernel)) (ea_cons (ev_var rfl) (ea_cons (ev_lst ea_nil (Nat.zero_le _)) ea_nil)) rfl ⟨rfl, hrow, hg.1, Nat.zero_le _⟩) (fun d r' z => (hbad z.1.1).elim) fun c r' z => ⟨z.2.1, z.2.2⟩
  refine sp_when (et_test (ev_op (ev_var rfl) ev_int opEqI)) (fun h => ?_) fun _ => ?_
  · have h6 : ∃ pl : Nat, (if w < 0 then -w else w) % 6 = (pl : Int) := ⟨((if w < 0 then -w else w) % 6).toNat, by have := Int.emod_nonneg (if w < 0 then -w else w) (b := 6) (by decide); omega⟩
    obtain ⟨pl, hpl⟩ := h6
    have hm : w ∈ askedL k o w pl := List.mem_append_left _ (List.mem_append_right _ List.mem_cons_self)
    have hlen : (askedL k o w pl).length ≤ 1000 := by
      show (([k, o, o, k, o].take pl ++ [w]) ++ [k, o, o, k, o].drop pl).length ≤ 1000
      rw [List.length_append, List.length_append, List.length_take, List.length_drop]
      show min pl 5 + 1 + (5 - pl) ≤ 1000
      omega
    exact sp_retX (evx_meth (s, k, askedL k o w pl) (ev_var rfl) (RO.inst (by decide +kernel)) (ea_cons (ev_var rfl) (ea_cons (ev_asked (ev_var rfl) (ev_var rfl) (ev_var rfl) ((ev_op (ev_cb (ea_cons (ev_var rfl) ea_nil) (cb1 (f := fun i => if i < 0 then -i else i))) ev_int (opIC (show (0 : Int) < 6 by decide))).is (congrArg PyData.int hpl))) ea_nil)) rfl ⟨rfl, hrow, hg.1, hlen⟩)
      (fun d r' z => (hbad (z.1.2 w hm)).elim) fun c r' z => ⟨z.2.1, z.2.2⟩
  refine sp_when (et_test (ev_op (ev_var rfl) ev_int opEqI)) (fun h => ?_) fun _ => ?_
  · exact sp_retX (evx_meth (s, w, ("word" : Str)) (ev_var rfl) (RO.inst (by decide +kernel)) (ea_cons (ev_var rfl) (ea_cons ev_str ea_nil)) rfl ⟨rfl, hg⟩) (fun d r' z => (hbad z.1).elim) fun c r' z => ⟨z.1.elim (fun y => y.2) fun y => (hbad y.1).elim, z.2⟩
  refine sp_when (et_test (ev_op (ev_var rfl) ev_int opEqI)) (fun h => ?_) fun _ => ?_
  · exact sp_retX (evx_meth (s, w, k, (1 : Int)) (ev_var rfl) (RO.inst (by decide +kernel)) (ea_cons (ev_var rfl) (ea_cons (ev_var rfl) (ea_cons ev_int ea_nil))) rfl ⟨rfl, hg, (by show (0 : Int) ≤ 1; decide)⟩) (fun d r' z => (hbad z.1.1).elim) fun c r' z => ⟨z.1.elim (fun y => y.2) fun y => (hbad y.1.1).elim, z.2⟩
  refine sp_when (et_test (ev_op (ev_var rfl) ev_int opEqI)) (fun h => ?_) fun _ => ?_
  · exact sp_retX (evx_meth (s, k, w, (1 : Int)) (ev_var rfl) (RO.inst (by decide +kernel)) (ea_cons (ev_var rfl) (ea_cons (ev_var rfl) (ea_cons ev_int ea_nil))) rfl ⟨rfl, hg, (by show (0 : Int) ≤ 1; decide)⟩) (fun d r' z => (hbad z.1.2.1).elim) fun c r' z => ⟨z.1.elim (fun y => y.2) fun y => (hbad y.1.2.1).elim, z.2⟩
  refine sp_when (et_test (ev_op (ev_var rfl) ev_int opEqI)) (fun h => ?_) fun _ => ?_
  · exact sp_retX (evx_meth (s, k, k, (1 : Int)) (ev_var rfl) (RO.inst (by decide +kernel)) (ea_cons (ev_var rfl) (ea_cons (ev_var rfl) (ea_cons ev_int ea_nil))) rfl ⟨rfl, hg, (by show (0 : Int) ≤ 1; decide)⟩) (fun d r' z => (z.1.2.2 rfl).elim) fun c r' z => ⟨z.1.elim (fun y => y.2) fun y => (y.1.2.2 rfl).elim, z.2⟩
  refine sp_when (et_test (ev_op (ev_var rfl) ev_int opEqI)) (fun h => ?_) fun _ => ?_
  · exact sp_retX (evx_meth (s, w) (ev_var rfl) (RO.inst (by decide +kernel)) (ea_cons (ev_var rfl) ea_nil) rfl ⟨rfl, hg⟩) (fun d r' z => (hbad z.1).elim) fun c r' z => ⟨z.1.elim (fun y => y.2) fun y => (hbad y.1).elim, z.2⟩
  refine sp_when (et_test (ev_op (ev_var rfl) ev_int opEqI)) (fun h => ?_) fun _ => ?_
  · exact sp_retX (evx_meth (s, w) (ev_var rfl) (RO.inst (by decide +kernel)) (ea_cons (ev_var rfl) ea_nil) rfl rfl) (fun d r' z => (hbad z.1).elim) fun c r' z => ⟨z.2.1, z.2.2⟩
  refine sp_when (et_test (ev_op (ev_var rfl) ev_int opEqI)) (fun h => ?_) fun _ => ?_
  · exact sp_retX (evx_meth (s, w) (ev_var rfl) (RO.inst (by decide +kernel)) (ea_cons (ev_var rfl) ea_nil) rfl rfl) (fun d r' z => (hbad z.1).elim) fun c r' z => ⟨z.2.1, z.2.2⟩
  refine sp_when (et_test (ev_op (ev_var rfl) ev_int opEqI)) (fun h => ?_) fun _ => ?_
  · exact sp_retXF (evxf_meth (s, w) (ev_var rfl) (RO.inst (by decide +kernel)) (ea_cons (ev_var rfl) ea_nil) rfl rfl) (fun d r' z => (hbad z.1).elim) fun c r' z => ⟨z.2.1, z.2.2⟩
  refine sp_when (et_test (ev_op (ev_var rfl) ev_int opEqI)) (fun h => ?_) fun _ => ?_
  · exact sp_retX (evx_meth (s, w) (ev_var rfl) (RO.inst (by decide +kernel)) (ea_cons (ev_var rfl) ea_nil) rfl rfl) (fun d r' z => (hbad z.1).elim) fun c r' z => ⟨z.2.1, z.2.2⟩
  exact sp_retXF (evxf_meth (s, w) (ev_var rfl) (RO.inst (by decide +kernel)) (ea_cons (ev_var rfl) ea_nil) rfl ⟨rfl, fun i hi => (hg.2 i hi).s0⟩) (fun d r' z => (hbad z.1).elim) fun c r' z => ⟨z.2.1, z.2.2⟩

/-! ## _law_idle -/
theorem sc__law_idle : FnScope ["_law_room", "_law_way", "_law_k", "_law_other"] ["_law_room", "_law_way", "_law_k", "_law_other"] (defScope s__law_idle) := ⟨rfl, rfl, rfl, by decide +kernel, rfl, by decide +kernel, by decide +kernel⟩
abbrev sp_idle (K : PySem.W.Frag) (CR CK X : Addr) : Sp := spX K (RO K CR CK) (fun a : RSt × Int × Int × Int => [objD a.1.p, .int a.2.1, .int a.2.2.1, .int a.2.2.2])
  (fun a r => r = some a.1 ∧ Good a.1 ∧ (0 ≤ a.2.2.1 ∧ a.2.2.1 < a.1.n) ∧ (0 ≤ a.2.2.2 ∧ a.2.2.2 < a.1.n) ∧ (a.1.st a.2.2.1.toNat).leads = false) (fun _ _ _ _ => False) (fun a r c r' => c = .ref X ∧ r' = r)
theorem ok__law_idle (T : Tx K mg) : FnOk P w K mg base (L2N.CX P w) 4 T.d__law_idle.a T.d__law_idle.fd ["_law_room", "_law_way", "_law_k", "_law_other"] (sp_idle K T.c_Room T.c_Keeper T.c_NotLeading) := by
  refine ok_objN T.d__law_idle.F sc__law_idle (fun _ => rfl) fun cdv A outer s H E hr => ⟨_, (pss_cons (ps_if (pt_cmpR op_eq (pv 1) pe_int (nomark _)) (pss_one (ps_ret (pe_meth (pv 0) T.cl_Room T.d_Room_write.m (ok_Room_write T) (hr.mono (by decide)) T.d_Room_write.b .nil (passXN (L2N.takes_of rfl rfl rfl rfl)) (pa_cons (pv 2) (pa_cons pe_str pa_nil))))) pss_nil)
    (pss_cons (ps_if (PW.pt (pw_and (pt_cmpR op_eq (pv 1) pe_int (nomark _)) (pw_and1 (pt_cmpR op_ne (pv 3) (pv 2) (nomark _))))) (pss_one (ps_ret (pe_meth (pv 0) T.cl_Room T.d_Room_hand.m (ok_Room_hand T) (hr.mono (by decide)) T.d_Room_hand.b .nil (passXN (L2N.takes_of rfl rfl rfl rfl)) (pa_cons (pv 2) (pa_cons (pv 3) (pa_cons pe_int pa_nil)))))) pss_nil)
    (pss_one (ps_ret (pe_meth (pv 0) T.cl_Room T.d_Room_settle.m (ok_Room_settle T) (hr.mono (by decide)) T.d_Room_settle.b .nil (passXN (L2N.takes_of rfl rfl rfl rfl)) (pa_cons (pv 2) pa_nil)))))), ?_⟩
  rintro ⟨s, way, k, o⟩ r ⟨h0, hg, hk, ho, hl⟩
  have h0 : r = some s := h0
  subst h0
  have hg : Good s := hg
  have hk : 0 ≤ k ∧ k < s.n := hk
  have ho : 0 ≤ o ∧ o < s.n := ho
  have hl : (s.st k.toNat).leads = false := hl
  have no : ∀ {x : Prop}, (s.st k.toNat).leads = true → x := fun h => by rw [hl] at h; cases h
  refine sp_when (et_test (ev_op (ev_var rfl) ev_int opEqI)) (fun h => ?_) fun _ => ?_
  · exact sp_retX (evx_meth (s, k, ("word" : Str)) (ev_var rfl) (RO.inst (by decide +kernel)) (ea_cons (ev_var rfl) (ea_cons ev_str ea_nil)) rfl ⟨rfl, hg⟩) (fun d r' z => no z.2.1) fun c r' z => ⟨z.1.elim (fun y => (y.1 hk).elim) fun y => y.2.2, z.2⟩
  refine sp_when (et_and (et_test (ev_op (ev_var rfl) ev_int opEqI)) fun _ => et_test (ev_op (ev_var rfl) (ev_var rfl) opNeI)) (fun h => ?_) fun _ => ?_
  · rw [Bool.and_eq_true, Bool.not_eq_true', decide_eq_false_iff_not] at h
    exact sp_retX (evx_meth (s, k, o, (1 : Int)) (ev_var rfl) (RO.inst (by decide +kernel)) (ea_cons (ev_var rfl) (ea_cons (ev_var rfl) (ea_cons ev_int ea_nil))) rfl ⟨rfl, hg, (by show (0 : Int) ≤ 1; decide)⟩) (fun d r' z => no z.2.1) fun c r' z => ⟨z.1.elim (fun y => (y.1 ⟨hk, ho, h.2⟩).elim) fun y => y.2.2, z.2⟩
  exact sp_retX (evx_meth (s, k) (ev_var rfl) (RO.inst (by decide +kernel)) (ea_cons (ev_var rfl) ea_nil) rfl ⟨rfl, hg⟩) (fun d r' z => no z.2.1) fun c r' z => ⟨z.1.elim (fun y => (y.1 hk).elim) fun y => y.2.2, z.2⟩

/-! ## _law_kind -/
theorem sc__law_kind : FnScope ["_law_e", "_law_kind_here"] ["_law_e"] (defScope s__law_kind) := ⟨rfl, rfl, rfl, by decide +kernel, rfl, by decide +kernel, by decide +kernel⟩

abbrev sp_kind (K : PySem.W.Frag) (a : Addr) (n : Int) : Sp := spF K (fun _ : Unit => [objD a]) (fun _ => True) (fun _ => .int n)
theorem okP_kind (T : Tx K mg) {p : Addr × Obj} {D : Addr} {b1 b2 b3 b4 b5 b6 : Bool} (hC : ExcC K D) (hz : Zc (.ref D) none p.2) (hf : ∃ vs, p.2.data = .fields vs) (h1 : PySem.W.kitOne K (.ref D) (.ref T.c_NoKeeper) = some b1) (h2 : PySem.W.kitOne K (.ref D) (.ref T.c_NotLeading) = some b2)
    (h3 : PySem.W.kitOne K (.ref D) (.ref T.c_NoRoom) = some b3) (h4 : PySem.W.kitOne K (.ref D) (.ref T.c_OutOfPlace) = some b4) (h5 : PySem.W.kitOne K (.ref D) (.type "ValueError") = some b5) (h6 : PySem.W.kitOne K (.ref D) (.ref T.c_RoomError) = some b6) :
    Fc.FnHp P w K mg base 1 T.d__law_kind.a T.d__law_kind.fd ["_law_e"] p (sp_kind K p.1 (kindN b1 b2 b3 b4 b5 b6)) := by
  refine ok_pureHp T.d__law_kind.F sc__law_kind (fun _ => rfl) fun cdv A outer s H E hot hr => ⟨_, (pss_cons (ps_set (i := 1) sc__law_kind.nd rfl (by first | exact Or.inl rfl | exact Or.inr rfl) (pe_op op_add (pe_op op_add (pe_callTy call_int1 (by rfl) T.z_int (by decide +kernel) (pa_cons (pe_callB (r := rIsE K D p.1) (id := "isinstance") (Fc.call_isP hC List.mem_cons_self hz hf) (by rfl) T.z_isinstance (by decide +kernel) (pa_cons (pv 0) (pa_cons (pe_glob (v := .ref T.c_NoKeeper) rfl T.mg_NoKeeper rfl) pa_nil))) pa_nil)) (pe_op op_mul pe_int (pe_callTy call_int1 (by rfl) T.z_int (by decide +kernel) (pa_cons (pe_callB (r := rIsE K D p.1) (id := "isinstance") (Fc.call_isP hC List.mem_cons_self hz hf) (by rfl) T.z_isinstance (by decide +kernel) (pa_cons (pv 0) (pa_cons (pe_glob (v := .ref T.c_NotLeading) rfl T.mg_NotLeading rfl) pa_nil))) pa_nil)))) (pe_op op_mul pe_int (pe_callTy call_int1 (by rfl) T.z_int (by decide +kernel) (pa_cons (pe_callB (r := rIsE K D p.1) (id := "isinstance") (Fc.call_isP hC List.mem_cons_self hz hf) (by rfl) T.z_isinstance (by decide +kernel) (pa_cons (pv 0) (pa_cons (pe_glob (v := .ref T.c_NoRoom) rfl T.mg_NoRoom rfl) pa_nil))) pa_nil)))))
    (pss_cons (ps_set (i := 1) sc__law_kind.nd rfl (by first | exact Or.inl rfl | exact Or.inr rfl) (pe_op op_add (pe_op op_add (pv 1) (pe_op op_mul pe_int (pe_callTy call_int1 (by rfl) T.z_int (by decide +kernel) (pa_cons (pe_callB (r := rIsE K D p.1) (id := "isinstance") (Fc.call_isP hC List.mem_cons_self hz hf) (by rfl) T.z_isinstance (by decide +kernel) (pa_cons (pv 0) (pa_cons (pe_glob (v := .ref T.c_OutOfPlace) rfl T.mg_OutOfPlace rfl) pa_nil))) pa_nil)))) (pe_op op_mul pe_int (pe_callTy call_int1 (by rfl) T.z_int (by decide +kernel) (pa_cons (pe_callB (r := rIsE K D p.1) (id := "isinstance") (Fc.call_isP hC List.mem_cons_self hz hf) (by rfl) T.z_isinstance (by decide +kernel) (pa_cons (pv 0) (pa_cons (pe_bltn (v := .ty "ValueError") (u := .type "ValueError") (by rfl) T.z_ValueError (by decide +kernel) rfl) pa_nil))) pa_nil)))))
    (pss_one (ps_ret (pe_op op_add (pv 1) (pe_op op_mul pe_int (pe_callTy call_int1 (by rfl) T.z_int (by decide +kernel) (pa_cons (pe_callB (r := rIsE K D p.1) (id := "isinstance") (Fc.call_isP hC List.mem_cons_self hz hf) (by rfl) T.z_isinstance (by decide +kernel) (pa_cons (pv 0) (pa_cons (pe_glob (v := .ref T.c_RoomError) rfl T.mg_RoomError rfl) pa_nil))) pa_nil)))))))), ?_⟩
  intro M0 _ _
  refine sp_asg (ev_op (ev_op (ev_intE (ev_var rfl) (fun _ h => h) h1) (ev_op ev_int (ev_intE (ev_var rfl) (fun _ h => h) h2) (opIC (.inl ⟨by decide, by decide⟩))) opI) (ev_op ev_int (ev_intE (ev_var rfl) (fun _ h => h) h3) (opIC (.inl ⟨by decide, by decide⟩))) opI) ?_
  refine sp_asg (ev_op (ev_op (ev_var rfl) (ev_op ev_int (ev_intE (ev_var rfl) (fun _ h => h) h4) (opIC (.inl ⟨by decide, by decide⟩))) opI) (ev_op ev_int (ev_intE (ev_var rfl) (fun _ h => h) h5) (opIC (.inl ⟨by decide, by decide⟩))) opI) ?_
  exact sp_ret (ev_op (ev_var rfl) (ev_op ev_int (ev_intE (ev_var rfl) (fun _ h => h) h6) (opIC (.inl ⟨by decide, by decide⟩))) opI) rfl

/-! ## _law_kind_of -/
theorem sc__law_kind_of : FnScope ["_law_room", "_law_way", "_law_k", "_law_other", "_law_wrong", "_law_e"] ["_law_room", "_law_way", "_law_k", "_law_other", "_law_wrong"] (defScope s__law_kind_of) := ⟨rfl, rfl, rfl, by decide +kernel, rfl, by decide +kernel, by decide +kernel⟩
abbrev sp_kind_of (K : PySem.W.Frag) (CR CK : Addr) : Sp := spX K (RO K CR CK) (fun a : RSt × Int × Int × Int × Int => [objD a.1.p, .int a.2.1, .int a.2.2.1, .int a.2.2.2.1, .int a.2.2.2.2])
  (fun a r => r = some a.1 ∧ Good a.1 ∧ (0 ≤ a.2.1 ∧ a.2.1 < 12) ∧ (0 ≤ a.2.2.1 ∧ a.2.2.1 < a.1.n) ∧ ¬ (0 ≤ a.2.2.2.2 ∧ a.2.2.2.2 < a.1.n)) (fun a r d r' => d = .int 49 ∧ r' = r) (fun _ _ _ _ => False)
theorem ok__law_kind_of (T : Tx K mg) : FnOk P w K mg base (L2N.CX P w) 6 T.d__law_kind_of.a T.d__law_kind_of.fd ["_law_room", "_law_way", "_law_k", "_law_other", "_law_wrong"] (sp_kind_of K T.c_Room T.c_Keeper) := by
  refine ok_objN T.d__law_kind_of.F sc__law_kind_of (fun _ => rfl) fun cdv A outer s H E hr => ⟨_, (pss_cons (Fc.ps_try_asT (i := 5) rfl rfl sc__law_kind_of.nd rfl rfl (Fc.test3 ⟨rfl, by decide, .inl T.mg_RoomError⟩ ⟨rfl, by decide, .inl T.mg_NoKeeper⟩ ⟨rfl, by decide, .inl T.mg_NotLeading⟩) (fun W pn xe tk _ => (pss_one (ps_expr (pe_call (ok__law_done T) (hr.mono (by decide)) (by rfl) T.d__law_done.g T.d__law_done.F.kp T.d__law_done.b .nil (L2N.passes_call (E := fun cls d H => ∀ σ, W cls d σ H) tk fun _ _ σ _ h => h σ) (pa_cons (pv 0) (pa_cons (pv 1) (pa_cons (pv 2) (pa_cons (pv 3) (pa_cons (pv 4) pa_nil))))))))) (fun a oe cls d pn hz hf => pss_guard (p := cls = .ref T.c_NoKeeper ∧ d = none) fun hp => pss_one (ps_ret (Fc.pe_callHp (p := (a, oe)) (sp := sp_kind K a (kindN true false false false true true)) (okP_kind T T.ec_NoKeeper ⟨hz.1.trans hp.1, hz.2.1.trans hp.2⟩ hf T.ki_NoKeeper_NoKeeper T.ki_NoKeeper_NotLeading T.ki_NoKeeper_NoRoom T.ki_NoKeeper_OutOfPlace T.ki_NoKeeper_ValueError T.ki_NoKeeper_RoomError) (roomM (L2H.roomH_of (hr.mono (by decide)))) (hot1N hz hf) List.mem_cons_self (by rfl) T.d__law_kind.g T.d__law_kind.F.kp T.d__law_kind.b (pa_cons (pv 5) pa_nil)))))
    (pss_one (ps_ret pe_int))), ?_⟩
  rintro ⟨s, way, k, o, w⟩ r h
  refine sp_seq (N := fun _ _ => False) (sp_tryT (fun c r' => c = .ref T.c_NoKeeper ∧ r' = r) (fun W => sp_dropX (evx_call (s, way, k, o, w) (ea_cons (ev_var rfl) (ea_cons (ev_var rfl) (ea_cons (ev_var rfl) (ea_cons (ev_var rfl) (ea_cons (ev_var rfl) ea_nil))))) h) (fun d r' z => z.elim) fun c r' z => z) ?_) fun _ _ z => z.elim
  rintro c r' ⟨rfl, rfl⟩
  refine ⟨exm3_1 T.sx_NoKeeper_RoomError T.sx_NoKeeper_NoKeeper T.sx_NoKeeper_NotLeading rfl, fun a => sp_guard ⟨rfl, rfl⟩ (sp_ret (ev_callS () (ea_cons (ev_var rfl) ea_nil) trivial) ⟨rfl, rfl⟩)⟩

/-! ## _law_idle_kind -/
theorem sc__law_idle_kind : FnScope ["_law_room", "_law_way", "_law_k", "_law_other", "_law_e"] ["_law_room", "_law_way", "_law_k", "_law_other"] (defScope s__law_idle_kind) := ⟨rfl, rfl, rfl, by decide +kernel, rfl, by decide +kernel, by decide +kernel⟩
abbrev sp_idle_kind (K : PySem.W.Frag) (CR CK : Addr) : Sp := spX K (RO K CR CK) (fun a : RSt × Int × Int × Int => [objD a.1.p, .int a.2.1, .int a.2.2.1, .int a.2.2.2])
  (fun a r => r = some a.1 ∧ Good a.1 ∧ (0 ≤ a.2.2.1 ∧ a.2.2.1 < a.1.n) ∧ (0 ≤ a.2.2.2 ∧ a.2.2.2 < a.1.n) ∧ (a.1.st a.2.2.1.toNat).leads = false) (fun a r d r' => d = .int 50 ∧ r' = r) (fun _ _ _ _ => False)
theorem ok__law_idle_kind (T : Tx K mg) : FnOk P w K mg base (L2N.CX P w) 5 T.d__law_idle_kind.a T.d__law_idle_kind.fd ["_law_room", "_law_way", "_law_k", "_law_other"] (sp_idle_kind K T.c_Room T.c_Keeper) := by
  refine ok_objN T.d__law_idle_kind.F sc__law_idle_kind (fun _ => rfl) fun cdv A outer s H E hr => ⟨_, (pss_cons (Fc.ps_try_asT (i := 4) rfl rfl sc__law_idle_kind.nd rfl rfl (Fc.test3 ⟨rfl, by decide, .inl T.mg_RoomError⟩ ⟨rfl, by decide, .inl T.mg_NoKeeper⟩ ⟨rfl, by decide, .inl T.mg_NotLeading⟩) (fun W pn xe tk _ => (pss_one (ps_expr (pe_call (ok__law_idle T) (hr.mono (by decide)) (by rfl) T.d__law_idle.g T.d__law_idle.F.kp T.d__law_idle.b .nil (L2N.passes_call (E := fun cls d H => ∀ σ, W cls d σ H) tk fun _ _ σ _ h => h σ) (pa_cons (pv 0) (pa_cons (pv 1) (pa_cons (pv 2) (pa_cons (pv 3) pa_nil)))))))) (fun a oe cls d pn hz hf => pss_guard (p := cls = .ref T.c_NotLeading ∧ d = none) fun hp => pss_one (ps_ret (Fc.pe_callHp (p := (a, oe)) (sp := sp_kind K a (kindN false true false false true true)) (okP_kind T T.ec_NotLeading ⟨hz.1.trans hp.1, hz.2.1.trans hp.2⟩ hf T.ki_NotLeading_NoKeeper T.ki_NotLeading_NotLeading T.ki_NotLeading_NoRoom T.ki_NotLeading_OutOfPlace T.ki_NotLeading_ValueError T.ki_NotLeading_RoomError) (roomM (L2H.roomH_of (hr.mono (by decide)))) (hot1N hz hf) List.mem_cons_self (by rfl) T.d__law_kind.g T.d__law_kind.F.kp T.d__law_kind.b (pa_cons (pv 4) pa_nil)))))
    (pss_one (ps_ret pe_int))), ?_⟩
  rintro ⟨s, way, k, o⟩ r h
  refine sp_seq (N := fun _ _ => False) (sp_tryT (fun c r' => c = .ref T.c_NotLeading ∧ r' = r) (fun W => sp_dropX (evx_call (s, way, k, o) (ea_cons (ev_var rfl) (ea_cons (ev_var rfl) (ea_cons (ev_var rfl) (ea_cons (ev_var rfl) ea_nil)))) h) (fun d r' z => z.elim) fun c r' z => z) ?_) fun _ _ z => z.elim
  rintro c r' ⟨rfl, rfl⟩
  refine ⟨exm3_1 T.sx_NotLeading_RoomError T.sx_NotLeading_NoKeeper T.sx_NotLeading_NotLeading rfl, fun a => sp_guard ⟨rfl, rfl⟩ (sp_ret (ev_callS () (ea_cons (ev_var rfl) ea_nil) trivial) ⟨rfl, rfl⟩)⟩

/-! ## _law_caught -/
theorem sc__law_caught : FnScope ["_law_room", "_law_k", "_law_other", "_law_wrong", "_law_told"] ["_law_room", "_law_k", "_law_other", "_law_wrong"] (defScope s__law_caught) := ⟨rfl, rfl, rfl, by decide +kernel, rfl, by decide +kernel, by decide +kernel⟩
abbrev sp_caught (K : PySem.W.Frag) (CR CK : Addr) : Sp := spX K (RO K CR CK) (fun a : RSt × Int × Int × Int => [objD a.1.p, .int a.2.1, .int a.2.2.1, .int a.2.2.2])
  (fun a r => r = some a.1 ∧ Good a.1 ∧ (0 ≤ a.2.1 ∧ a.2.1 < a.1.n) ∧ ¬ (0 ≤ a.2.2.2 ∧ a.2.2.2 < a.1.n) ∧ (a.1.st a.2.1.toNat).leads = false) (fun a r d r' => d = .int 2 ∧ r' = r) (fun _ _ _ _ => False)
theorem ok__law_caught (T : Tx K mg) : FnOk P w K mg base (L2N.CX P w) 4 T.d__law_caught.a T.d__law_caught.fd ["_law_room", "_law_k", "_law_other", "_law_wrong"] (sp_caught K T.c_Room T.c_Keeper) := by
  refine ok_objN T.d__law_caught.F sc__law_caught (fun _ => rfl) fun cdv A outer s H E hr => ⟨_, (pss_cons (ps_set (i := 4) sc__law_caught.nd rfl (by first | exact Or.inl rfl | exact Or.inr rfl) pe_int)
    (pss_cons (L2N.ps_try_many rfl rfl takesN0 (fun W pn xe tk _ => (pss_one (ps_expr (Fc.pe_methS (pv 0) T.cl_Room T.d_Room_hand.m (ok_Room_hand T) (hr.mono (by decide)) T.d_Room_hand.b (fun σ => L2N.passAt tk σ) (pa_cons (pv 1) (pa_cons (pv 3) (pa_cons pe_int pa_nil))))))) (.cons ⟨rfl, by decide, .inl T.mg_NoKeeper⟩ (fun a oe cls d pn hz hf => (pss_one (ps_set (i := 4) sc__law_caught.nd rfl (by first | exact Or.inl rfl | exact Or.inr rfl) (pe_op op_add (pv 4) pe_int)))) (.cons ⟨rfl, by decide, .inl T.mg_RoomError⟩ (fun a oe cls d pn hz hf => (pss_one (ps_ret pe_int))) (.nil))))
    (pss_cons (L2N.ps_try_many rfl rfl takesN0 (fun W pn xe tk _ => (pss_one (ps_expr (Fc.pe_methS (pv 0) T.cl_Room T.d_Room_settle.m (ok_Room_settle T) (hr.mono (by decide)) T.d_Room_settle.b (fun σ => L2N.passAt tk σ) (pa_cons (pv 1) pa_nil))))) (.cons ⟨rfl, by decide, .inl T.mg_NotLeading⟩ (fun a oe cls d pn hz hf => (pss_one (ps_set (i := 4) sc__law_caught.nd rfl (by first | exact Or.inl rfl | exact Or.inr rfl) (pe_op op_add (pv 4) pe_int)))) (.nil)))
    (pss_one (ps_ret (pv 4)))))), ?_⟩
  rintro ⟨s, k, o, w⟩ r ⟨h0, hg, hk, hbad, hl⟩
  have h0 : r = some s := h0
  subst h0
  have hg : Good s := hg
  have hk : 0 ≤ k ∧ k < s.n := hk
  have hbad : ¬ (0 ≤ w ∧ w < s.n) := hbad
  have hl : (s.st k.toNat).leads = false := hl
  refine sp_asg ev_int ?_
  refine sp_seq (N := fun e' r' => e' = [.dat (objD s.p), .dat (.int k), .dat (.int o), .dat (.int w), .dat (.int 1)] ∧ r' = some s) ?_ ?_
  · refine sp_tryM (Pe := fun _ _ => False) (PE := fun c r' => c = .ref T.c_NoKeeper ∧ r' = some s) (fun W B σ G M H v wf Q q qe => evw_meth (s, k, w, (1 : Int)) (ev_var rfl) (RO.inst (by decide +kernel)) (ea_cons (ev_var rfl) (ea_cons (ev_var rfl) (ea_cons ev_int ea_nil))) rfl ⟨rfl, hg, (by show (0 : Int) ≤ 1; decide)⟩ W B σ G M H v wf Q
      (fun v d r' G' M' H' z => (hbad z.1.2.1).elim) fun c r' G' M' H' z s' w' => qe c r' G' M' H' ⟨z.1.elim (fun y => y.2) fun y => (hbad y.1.2.1).elim, z.2⟩ s' w') (fun _ _ z => z.elim) ?_
    rintro c r' ⟨rfl, rfl⟩
    exact ⟨T.sx_NoKeeper_NoKeeper, fun a => sp_asg1 (ev_op (ev_var rfl) ev_int opI) ⟨rfl, rfl⟩⟩
  rintro _ _ ⟨rfl, rfl⟩
  refine sp_seq (N := fun e' r' => e' = [.dat (objD s.p), .dat (.int k), .dat (.int o), .dat (.int w), .dat (.int 2)] ∧ r' = some s) ?_ ?_
  · refine sp_tryM (Pe := fun _ _ => False) (PE := fun c r' => c = .ref T.c_NotLeading ∧ r' = some s) (fun W B σ G M H v wf Q q qe => evw_meth (s, k) (ev_var rfl) (RO.inst (by decide +kernel)) (ea_cons (ev_var rfl) ea_nil) rfl ⟨rfl, hg⟩ W B σ G M H v wf Q
      (fun v d r' G' M' H' z => absurd z.2.1 (by show ¬ (s.st k.toNat).leads = true; rw [hl]; decide)) fun c r' G' M' H' z s' w' => qe c r' G' M' H' ⟨z.1.elim (fun y => (y.1 hk).elim) fun y => y.2.2, z.2⟩ s' w') (fun _ _ z => z.elim) ?_
    rintro c r' ⟨rfl, rfl⟩
    exact ⟨T.sx_NotLeading_NotLeading, fun a => sp_asg1 (ev_op (ev_var rfl) ev_int opI) ⟨rfl, rfl⟩⟩
  rintro _ _ ⟨rfl, rfl⟩
  exact sp_ret (ev_var rfl) ⟨rfl, rfl⟩

/-! ## _law_no_room -/
theorem sc__law_no_room : FnScope ["_law_count", "_law_e"] ["_law_count"] (defScope s__law_no_room) := ⟨rfl, rfl, rfl, by decide +kernel, rfl, by decide +kernel, by decide +kernel⟩
abbrev sp_no_room (K : PySem.W.Frag) : Sp := spF K (fun d : PyData => [d]) (fun d => CntOk d ∧ BadC d) (fun _ => .bool true)
theorem ok__law_no_room (T : Tx K mg) : FnOk P w K mg base CX0 5 T.d__law_no_room.a T.d__law_no_room.fd ["_law_count"] (sp_no_room K) := by
  refine ok_forget (R := Rmf K) T.d__law_no_room.F sc__law_no_room (fun _ => rfl) ⟨fun _ => none, fun _ _ => False⟩ (fun G => ⟨rfl, fun _ _ z => z.elim⟩) fun cdv A outer s H E hr => ⟨_, (pss_cons (Fc.ps_try_asT (i := 1) rfl rfl sc__law_no_room.nd rfl rfl (Fc.test2 ⟨rfl, by decide, .inl T.mg_RoomError⟩ ⟨rfl, by decide, .inl T.mg_NoRoom⟩) (fun W pn xe tk _ => (pss_one (ps_expr (pe_make T.d_Room_init.m (ok_Room_initX T) (hr.mono (by decide)) (by rfl) T.mg_Room T.d_Room_init.b .nil (L2N.passes_call (E := fun cls d H => ∀ σ, W cls d σ H) tk fun _ _ σ _ h => h σ) (pa_cons (pv 0) pa_nil))))) (fun a oe cls d pn hz hf => pss_guard (p := cls = .ref T.c_NoRoom ∧ d = none) fun hp => pss_one (ps_ret (pe_cmpR op_eq (Fc.pe_callHp (p := (a, oe)) (sp := sp_kind K a (kindN false false true false true true)) (okP_kind T T.ec_NoRoom ⟨hz.1.trans hp.1, hz.2.1.trans hp.2⟩ hf T.ki_NoRoom_NoKeeper T.ki_NoRoom_NotLeading T.ki_NoRoom_NoRoom T.ki_NoRoom_OutOfPlace T.ki_NoRoom_ValueError T.ki_NoRoom_RoomError) (roomM (L2H.roomH_of (hr.mono (by decide)))) (hot1N hz hf) List.mem_cons_self (by rfl) T.d__law_kind.g T.d__law_kind.F.kp T.d__law_kind.b (pa_cons (pv 1) pa_nil)) pe_int (nomark _)))))
    (pss_one (ps_ret pe_bl))), ?_⟩
  rintro d ⟨hc, hb⟩
  refine sp_seq (N := fun _ _ => False) (sp_tryT (fun c r' => c = .ref T.c_NoRoom) (fun W => sp_dropX (Pe := fun _ _ => False) (evx_make (P := fun _ _ => False) (PE := fun c r' => c = .ref T.c_NoRoom) (ea_cons (ev_var rfl) ea_nil) fun x dx hx => ⟨(x, d), rfl, ⟨⟨dx, upd_same⟩, hc⟩, fun d' r' z => ?_, fun c r' z => z.2⟩) (fun _ _ z => z.elim) fun c r' z => z) ?_) fun _ _ z => z.elim
  · obtain ⟨_, n, ⟨g1, g2⟩, g3, _⟩ := z
    exact (hb n g1 g2 g3).elim
  · rintro c r' rfl
    refine ⟨exm2_1 T.sx_NoRoom_RoomError T.sx_NoRoom_NoRoom rfl, fun a => sp_guard ⟨rfl, rfl⟩ (sp_ret (ev_op (ev_callS () (ea_cons (ev_var rfl) ea_nil) trivial) ev_int opEqI) rfl)⟩

/-! ## _law_all_of -/
theorem sc__law_all_of : FnScope ["_law_room", "_law_count", "_law_k"] ["_law_room", "_law_count"] (defScope s__law_all_of) := ⟨rfl, rfl, rfl, by decide +kernel, rfl, by decide +kernel, by decide +kernel⟩
abbrev sp_all_of (K : PySem.W.Frag) (CR CK : Addr) : Sp := spX K (RO K CR CK) (fun s : RSt => [objD s.p, .int (s.n : Int)])
  (fun s r => r = some s ∧ s.n ≤ 9 ∧ ∀ i, i < s.n → 0 ≤ (s.st i).settled) (fun s r d r' => d = allK s ∧ r' = r) (fun _ _ _ _ => False)
theorem ok__law_all_of (T : Tx K mg) : FnOk P w K mg base (L2N.CX P w) 3 T.d__law_all_of.a T.d__law_all_of.fd ["_law_room", "_law_count"] (sp_all_of K T.c_Room T.c_Keeper) := by
  refine ok_objN T.d__law_all_of.F sc__law_all_of (fun _ => rfl) fun cdv A outer s H E hr => ⟨_, (pss_one (ps_ret (pe_lc (own := [("_law_k", 2)]) (g := gName 2) (tt := tYes) rfl sc__law_all_of.nd (pi_range1 (by rfl) T.z_range (pa_cons (pv 1) pa_nil)) (blkOk_by (own := [("_law_k", 2)]) (N := ["_law_room", "_law_count", "_law_k"]) (sc := defScope s__law_all_of) (by decide +kernel)) (fun _ _ _ _ _ => pg_name (i := 2) sc__law_all_of.nd rfl (Or.inl rfl)) (fun _ _ _ _ _ => pts_nil) (fun _ _ _ _ _ => (pe_lst (pa_cons (pe_meth (pv 0) T.cl_Room T.d_Room_term_of.m (ok_Room_term_of T) (hr.mono (by decide)) T.d_Room_term_of.b .nil passLN (pa_cons (pv 2) pa_nil)) (pa_cons (pe_meth (pv 0) T.cl_Room T.d_Room_row_of.m (ok_Room_row_of T) (hr.mono (by decide)) T.d_Room_row_of.b .nil passLN (pa_cons (pv 2) pa_nil)) (pa_cons (pe_meth (pv 0) T.cl_Room T.d_Room_leading.m (ok_Room_leading T) (hr.mono (by decide)) T.d_Room_leading.b .nil passLN (pa_cons (pv 2) pa_nil)) (pa_cons (pe_meth (pv 0) T.cl_Room T.d_Room_settled_of.m (ok_Room_settled_of T) (hr.mono (by decide)) T.d_Room_settled_of.b .nil passLN (pa_cons (pv 2) pa_nil)) pa_nil))))))))), ?_⟩
  rintro s r ⟨h0, hn, hs⟩
  subst h0
  have hin : ∀ {k : Nat}, (k : Int) < (s.n : Int) → k < s.n := fun h => by omega
  refine sp_ret ((EvF.ev (evf_lcR1 (fun _ => true) (fun d => keepD s (intOf d).toNat) (ea_cons (ev_var rfl) ea_nil) (by omega) (by omega) (fun k hk => et_yes) (fun k hk _ => ?_))).is ?_) ⟨rfl, rfl⟩
  · exact ev_lst (ea_cons (ev_term_of (X := T.c_NoKeeper) (k := (k : Int)) Lift.id (ev_var rfl) (ev_var rfl) (by omega) hk) (ea_cons (ev_row_of (X := T.c_NoKeeper) (k := (k : Int)) Lift.id (ev_var rfl) (ev_var rfl) (by omega) hk) (ea_cons (ev_leading (X := T.c_NoKeeper) (k := (k : Int)) Lift.id (ev_var rfl) (ev_var rfl) (by omega) hk)
      (ea_cons (ev_settled_of (X := T.c_NoKeeper) (k := (k : Int)) Lift.id (ev_var rfl) (ev_var rfl) (by omega) hk hs) ea_nil)))) (by show 4 ≤ sizeLine; decide)
  · unfold lcOut rgD
    rw [List.filter_eq_self.mpr (fun _ _ => rfl), List.map_map, Int.toNat_natCast]; rfl

/-! ## _law_led -/
theorem sc__law_led : FnScope ["_law_room", "_law_count", "_law_all_held", "_law_word", "_law_other"] ["_law_room", "_law_count", "_law_all_held"] (defScope s__law_led) := ⟨rfl, rfl, rfl, by decide +kernel, rfl, by decide +kernel, by decide +kernel⟩
abbrev sp_led (K : PySem.W.Frag) (CR CK : Addr) : Sp := spX K (RO K CR CK) (fun a : Addr × Nat × Nat => [objD a.1, .int (a.2.1 : Int), .int (a.2.2 : Int)])
  (fun a r => r = some ⟨a.1, a.2.1, fun _ => {}⟩ ∧ 1 ≤ a.2.1 ∧ a.2.1 ≤ 9 ∧ (a.2.2 = 0 ∨ a.2.2 = 1)) (fun a r d r' => d = .none ∧ ∃ s', r' = some s' ∧ Ld a.1 a.2.1 a.2.2 s') (fun _ _ _ _ => False)
theorem ok__law_led (T : Tx K mg) : FnOk P w K mg base (L2N.CX P w) 5 T.d__law_led.a T.d__law_led.fd ["_law_room", "_law_count", "_law_all_held"] (sp_led K T.c_Room T.c_Keeper) := by
  refine ok_objN T.d__law_led.F sc__law_led (fun _ => rfl) fun cdv A outer s H E hr => ⟨_, (pss_cons (ps_expr (pe_meth (pv 0) T.cl_Room T.d_Room_stand.m (ok_Room_stand T) (hr.mono (by decide)) T.d_Room_stand.b .nil (passXN (L2N.takes_of rfl rfl rfl rfl)) (pa_cons pe_int (pa_cons (pe_listRg rfl (by rfl) T.z_list (prg_1 (by rfl) T.z_range (pv 1))) pa_nil))))
    (pss_cons (ps_for (passes_of rfl) rfl (pi_list (pe_lst (pa_cons pe_str (pa_cons pe_str (pa_cons pe_str pa_nil))))) (pg_name (i := 3) sc__law_led.nd rfl (by first | exact Or.inl rfl | exact Or.inr rfl)) (pss_one (ps_expr (pe_meth (pv 0) T.cl_Room T.d_Room_write.m (ok_Room_write T) (hr.mono (by decide)) T.d_Room_write.b .nil (passXN (L2N.takes_of rfl rfl rfl rfl)) (pa_cons pe_int (pa_cons (pv 3) pa_nil))))))
    (pss_cons (ps_for (passes_of rfl) rfl (pi_range2 (by rfl) T.z_range (pa_cons pe_int (pa_cons (pv 1) pa_nil))) (pg_name (i := 4) sc__law_led.nd rfl (by first | exact Or.inl rfl | exact Or.inr rfl)) (pss_one (ps_expr (pe_meth (pv 0) T.cl_Room T.d_Room_hand.m (ok_Room_hand T) (hr.mono (by decide)) T.d_Room_hand.b .nil (passXN (L2N.takes_of rfl rfl rfl rfl)) (pa_cons pe_int (pa_cons (pv 4) (pa_cons (pe_op op_add pe_int (pv 2)) pa_nil)))))))
    (pss_one (ps_if (pt_cmpR op_eq (pv 2) pe_int (nomark _)) (pss_one (ps_expr (pe_meth (pv 0) T.cl_Room T.d_Room_settle.m (ok_Room_settle T) (hr.mono (by decide)) T.d_Room_settle.b .nil (passXN (L2N.takes_of rfl rfl rfl rfl)) (pa_cons pe_int pa_nil)))) pss_nil))))), ?_⟩
  rintro ⟨p, n, h⟩ r ⟨h0, h1, h9, hh⟩
  have h0 : r = some (⟨p, n, fun _ => {}⟩ : RSt) := h0
  subst h0
  have h1 : 1 ≤ n := h1
  have h9 : n ≤ 9 := h9
  have hh : h = 0 ∨ h = 1 := hh
  obtain ⟨g1, hW1⟩ := (W.new p h9).stand (k := 0) (by omega)
  have hL1 := lv_start h1 h9 p
  have hs1 : ∃ s1 : RSt, (⟨p, n, fun _ => {}⟩ : RSt).stand 0 (rgI n) = s1 := ⟨_, rfl⟩
  obtain ⟨s1, hs1⟩ := hs1
  rw [hs1] at hW1 hL1
  refine sp_seq (N := fun e' r' => e' = [.dat (objD p), .dat (.int (n : Int)), .dat (.int (h : Int)), .hid, .hid] ∧ r' = some s1)
    (sp_drop (es_stand (X := T.c_NoKeeper) (s := (⟨p, n, fun _ => {}⟩ : RSt)) (k := 0) (os := rgI n) Lift.id (ev_var rfl) ev_int (EvF.ev (evf_listRg (ev_var rfl) (by omega) (by omega)) |>.is osD_in.symm) (Int.le_refl 0) (by show (0 : Int) < (n : Int); omega) ⟨fun _ _ => rowOk_nil, h9, by rw [rgI_len]; omega⟩ (fun o ho => rgI_mem ho)) fun d r' z => ⟨rfl, z.2.trans (congrArg some hs1)⟩) ?_
  rintro _ _ ⟨rfl, rfl⟩
  refine sp_seq (N := fun e' r' => ∃ s' g' x3, e' = [.dat (objD p), .dat (.int (n : Int)), .dat (.int (h : Int)), x3, .hid] ∧ r' = some s' ∧ W p n 4 s' g' ∧ Lv n 0 1 R3 0 (fun _ => []) (fun _ => 0) (fun _ => 0) s') ?_ ?_
  · refine sp_forL (ds := [.str "one", .str "two", .str "three"]) (ev_lst (ea_cons ev_str (ea_cons ev_str (ea_cons ev_str ea_nil))) (by show 3 ≤ sizeLine; decide))
      (fun j e' r' => ∃ s' g' x3, e' = [.dat (objD p), .dat (.int (n : Int)), .dat (.int (h : Int)), x3, .hid] ∧ r' = some s' ∧ W p n (1 + j) s' g' ∧ Lv n 0 1 (R3.take j) 0 (fun _ => []) (fun _ => 0) (fun _ => 0) s') ⟨s1, g1, _, rfl, rfl, hW1, hL1⟩ ?_ fun _ _ z => z
    rintro j d _ _ hd ⟨s', g', x3, rfl, rfl, hW, hL⟩
    have hj : ∃ w : Str, d = .str w ∧ strOkW w ∧ R3.take j ++ [(1, w)] = R3.take (j + 1) := by
      match j, hd with
      | 0, hd => injection hd with hd; exact ⟨"one", hd.symm, rowOk_one (by decide +kernel), rfl⟩
      | 1, hd => injection hd with hd; exact ⟨"two", hd.symm, rowOk_one (by decide +kernel), rfl⟩
      | 2, hd => injection hd with hd; exact ⟨"three", hd.symm, rowOk_one (by decide +kernel), rfl⟩
      | k + 3, hd => cases hd
    obtain ⟨w, rfl, hw, he⟩ := hj
    obtain ⟨g2, hW2⟩ := hW.write (k := 0) (by omega) hw hL.l
    have hL2 := hL.write (by omega) w
    rw [he] at hL2
    refine sp_drop (es_write (X := T.c_NoKeeper) (Y := T.c_NotLeading) (k := 0) Lift.id (ev_var (by rw [hW.p] <;> rfl)) ev_int (ev_var rfl) (Int.le_refl 0) (by rw [hW.n]; omega) (hW.gb.good (by have := (List.getElem?_eq_some_iff.mp hd).1; show 1 + j ≤ 50000; have e3 : j < 3 := this; omega)) hL.l) fun d r' z => ⟨_, g2, _, rfl, z.2, hW2, hL2⟩
  rintro _ _ ⟨s2, g2, x3, rfl, rfl, hW2, hL2⟩
  refine sp_seq (N := fun e' r' => ∃ s' g' x4, e' = [.dat (objD p), .dat (.int (n : Int)), .dat (.int (h : Int)), x3, x4] ∧ r' = some s' ∧ W p n 20 s' g' ∧ Lv n 0 1 R3 0 (fun _ => R3.take (2 + h)) (fun _ => ((2 + h : Nat) : Int)) (fun _ => ((2 + h : Nat) : Int)) s') ?_ ?_
  · refine sp_forR2 (lo := 1) (n := (n : Int)) (ea_cons ev_int (ea_cons (ev_var rfl) ea_nil)) ⟨by decide, by decide, by omega, by omega⟩
      (fun j e' r' => ∃ s' g' x4, e' = [.dat (objD p), .dat (.int (n : Int)), .dat (.int (h : Int)), x3, x4] ∧ r' = some s' ∧ W p n (4 + j) s' g' ∧ Lv n 0 1 R3 0 (rowJ h j) (ahJ h j) (ahJ h j) s')
      ⟨s2, g2, _, rfl, rfl, hW2, hL2.congr (fun i _ hz => (if_neg (by omega)).symm) (fun i _ hz => (if_neg (by omega)).symm) fun i _ hz => (if_neg (by omega)).symm⟩ ?_ ?_
    · rintro j _ _ hj ⟨s', g', x4, rfl, rfl, hW, hL⟩
      have e1 : (1 + (j : Int)).toNat = j + 1 := by omega
      obtain ⟨g3, hW3⟩ := hW.hand (k := 0) (o := j + 1) (m := 2 + (h : Int)) (by omega) (by omega) (by omega) (by omega) hL.l
      have hL3 := lh_next hh hL (by omega)
      refine sp_drop (es_hand (X := T.c_NoKeeper) (Y := T.c_NotLeading) (k := 0) (o := 1 + (j : Int)) (m := 2 + (h : Int)) Lift.id (ev_var (by rw [hW.p] <;> rfl)) ev_int (ev_var rfl) (ev_op ev_int (ev_var rfl) opI) (Int.le_refl 0) (by rw [hW.n]; omega) (by omega) (by rw [hW.n]; omega) (by omega) (by omega) (hW.gb.good (by omega)) hL.l) fun d r' z => ⟨s'.hand 0 (j + 1) (2 + (h : Int)), g3, _, rfl, z.2.trans ?_, hW3, hL3⟩
      rw [e1]; rfl
    · rintro _ _ ⟨s', g', x4, rfl, rfl, hW, hL⟩
      have e2 : ((n : Int) - 1).toNat = n - 1 := by omega
      rw [e2] at hW hL
      exact ⟨s', g', x4, rfl, rfl, hW.mono (by omega), hL.congr (fun i hi hz => if_pos (by omega)) (fun i hi hz => if_pos (by omega)) fun i hi hz => if_pos (by omega)⟩
  rintro _ _ ⟨s3, g3, x4, rfl, rfl, hW3, hL3⟩
  refine sp_if (et_test (ev_op (ev_var rfl) ev_int opEqI)) (fun _ => ?_) fun _ => ?_
  · obtain ⟨g4, hW4⟩ := hW3.settle (k := 0) (by omega) hL3.l
    have hL4 := hL3.settled (by omega) rfl
    exact sp_drop (es_settle (X := T.c_NoKeeper) (Y := T.c_NotLeading) (k := 0) Lift.id (ev_var (by rw [hW3.p] <;> rfl)) ev_int (Int.le_refl 0) (by rw [hW3.n]; omega) (hW3.gb.good (by omega)) hL3.l) fun d r' z => ⟨rfl, _, z.2, ⟨g4, hW4.mono (by omega)⟩, _, lv_bound hW4 (by omega) hL4, hL4⟩
  · exact sp_next ⟨rfl, s3, rfl, ⟨g3, hW3.mono (by omega)⟩, 0, by decide, hL3⟩

/-! ## _law_leads_on -/
theorem sc__law_leads_on : FnScope ["_law_room", "_law_count", "_law_all_held", "_law_other"] ["_law_room", "_law_count", "_law_all_held"] (defScope s__law_leads_on) := ⟨rfl, rfl, rfl, by decide +kernel, rfl, by decide +kernel, by decide +kernel⟩
abbrev sp_leads_on (K : PySem.W.Frag) (CR CK : Addr) : Sp := spX K (RO K CR CK) (fun a : RSt × Nat => [objD a.1.p, .int (a.1.n : Int), .int (a.2 : Int)])
  (fun a r => r = some a.1 ∧ Ld a.1.p a.1.n a.2 a.1 ∧ 1 ≤ a.1.n ∧ (a.2 = 0 ∨ a.2 = 1)) (fun a r d r' => d = .bool true ∧ ∃ s', r' = some s') (fun _ _ _ _ => False)
theorem ok__law_leads_on (T : Tx K mg) : FnOk P w K mg base (L2N.CX P w) 4 T.d__law_leads_on.a T.d__law_leads_on.fd ["_law_room", "_law_count", "_law_all_held"] (sp_leads_on K T.c_Room T.c_Keeper) := by
  refine ok_objN T.d__law_leads_on.F sc__law_leads_on (fun _ => rfl) fun cdv A outer s H E hr => ⟨_, (pss_cons (ps_if (pt_cmpR op_eq (pv 2) pe_int (nomark _)) (pss_one (ps_for (passes_of rfl) rfl (pi_range2 (by rfl) T.z_range (pa_cons pe_int (pa_cons (pv 1) pa_nil))) (pg_name (i := 3) sc__law_leads_on.nd rfl (by first | exact Or.inl rfl | exact Or.inr rfl)) (pss_one (ps_if (PW.pt (pw_or (pt_cmpR op_notBl (pe_meth (pv 0) T.cl_Room T.d_Room_hand.m (ok_Room_hand T) (hr.mono (by decide)) T.d_Room_hand.b .nil (passXN (L2N.takes_of rfl rfl rfl rfl)) (pa_cons pe_int (pa_cons (pv 3) (pa_cons pe_int pa_nil)))) pe_bl (nomark _)) (pw_or1 (pt_cmpR op_notBl (pe_meth (pv 0) T.cl_Room T.d_Room_hand.m (ok_Room_hand T) (hr.mono (by decide)) T.d_Room_hand.b .nil (passXN (L2N.takes_of rfl rfl rfl rfl)) (pa_cons pe_int (pa_cons (pv 3) (pa_cons pe_int pa_nil)))) pe_bl (nomark _))))) (pss_one (ps_ret pe_bl)) pss_nil)))) pss_nil)
    (pss_one (ps_ret (pe_cmpR op_eq (pe_meth (pv 0) T.cl_Room T.d_Room_settle.m (ok_Room_settle T) (hr.mono (by decide)) T.d_Room_settle.b .nil (passXN (L2N.takes_of rfl rfl rfl rfl)) (pa_cons pe_int pa_nil)) pe_int (nomark _))))), ?_⟩
  rintro ⟨s, h⟩ r ⟨h0, hD, h1, hh⟩
  have h0 : r = some s := h0
  subst h0
  have h1 : 1 ≤ s.n := h1
  have hh : h = 0 ∨ h = 1 := hh
  have hD : Ld s.p s.n h s := hD
  obtain ⟨g, hW⟩ := hD.w
  obtain ⟨z, hz, hL⟩ := hD.lv
  have h9 : s.n ≤ 9 := hW.gb.n9
  refine sp_seq (N := fun e' r' => ∃ s' g' x3, e' = [.dat (objD s.p), .dat (.int (s.n : Int)), .dat (.int (h : Int)), x3] ∧ r' = some s' ∧ W s.p s.n 80 s' g' ∧ ∃ row ah hl, Lv s.n 0 1 R3 z row ah hl s' ∧ ∀ o, o < s.n → o ≠ 0 → hl o = 3) ?_ ?_
  · refine sp_if (et_test (ev_op (ev_var rfl) ev_int opEqI)) (fun hb => ?_) fun hb => ?_
    · have hb : (h : Int) = 0 := of_decide_eq_true hb
      have hb : h = 0 := by omega
      subst hb
      refine sp_forR2 (lo := 1) (n := (s.n : Int)) (ea_cons ev_int (ea_cons (ev_var rfl) ea_nil)) ⟨by decide, by decide, by omega, by omega⟩
        (fun j e' r' => ∃ s' g' x3, e' = [.dat (objD s.p), .dat (.int (s.n : Int)), .dat (.int ((0 : Nat) : Int)), x3] ∧ r' = some s' ∧ W s.p s.n (40 + 2 * j) s' g' ∧ Lv s.n 0 1 R3 z (rowK j) (ahK j) (ahK j) s')
        ⟨s, g, _, rfl, rfl, hW, hL.congr (fun i _ hz => (if_neg (by omega)).symm) (fun i _ hz => (if_neg (by omega)).symm) fun i _ hz => (if_neg (by omega)).symm⟩ ?_ ?_
      · rintro j _ _ hj ⟨s', g', x3, rfl, rfl, hW', hL'⟩
        have e1 : (1 + (j : Int)).toNat = j + 1 := by omega
        obtain ⟨k1, ⟨r2, a2, l2, k2⟩, k3, k4⟩ := lk_next hL' (by omega)
        obtain ⟨g2, hW2⟩ := hW'.hand (k := 0) (o := j + 1) (m := 0) (by omega) (by omega) (by omega) (by omega) hL'.l
        obtain ⟨g3, hW3⟩ := hW2.hand (k := 0) (o := j + 1) (m := 1) (by omega) (by omega) (by omega) (by omega) k2.l
        refine sp_ifS (Pb := fun b r' => b = false ∧ r' = some ((s'.hand 0 (j + 1) 0).hand 0 (j + 1) 1)) (ets_orF (r1 := some (s'.hand 0 (j + 1) 0)) (ets_test (evs_opS (d1 := .bool true) (d2 := .bool true) (r1 := some (s'.hand 0 (j + 1) 0)) ((es_hand (X := T.c_NoKeeper) (Y := T.c_NotLeading) (k := 0) (o := 1 + (j : Int)) (m := 0) Lift.id (ev_var (by rw [hW'.p] <;> rfl)) ev_int (ev_var rfl) ev_int (Int.le_refl 0) (by rw [hW'.n]; omega) (by omega) (by rw [hW'.n]; omega) (by omega) (by omega) (hW'.gb.good (by omega)) hL'.l).imp fun d r' y => ⟨y.1.trans (by
          rw [e1]; show PyData.bool (handTold s'.st 0 (j + 1)) = _; rw [k1]), y.2.trans (by rw [e1]; rfl)⟩) ev_bl opNotB))
          (ets_test (evs_opS (d1 := .bool true) (d2 := .bool true) (r1 := some ((s'.hand 0 (j + 1) 0).hand 0 (j + 1) 1)) ((es_hand (X := T.c_NoKeeper) (Y := T.c_NotLeading) (k := 0) (o := 1 + (j : Int)) (m := 1) Lift.id (ev_var (by rw [hW2.p] <;> rfl)) ev_int (ev_var rfl) ev_int (Int.le_refl 0) (by rw [hW2.n]; omega) (by omega) (by rw [hW2.n]; omega) (by omega) (by omega) (hW2.gb.good (by omega)) k2.l).imp fun d r' y => ⟨y.1.trans (by
          rw [e1]; show PyData.bool (handTold (s'.hand 0 (j + 1) 0).st 0 (j + 1)) = _; rw [k3]), y.2.trans (by rw [e1]; rfl)⟩) ev_bl opNotB))) ?_ ?_
        · rintro _ ⟨y, _⟩; cases y
        · rintro _ ⟨_, rfl⟩
          exact sp_next ⟨_, g3, _, rfl, rfl, hW3, k4⟩
      · rintro _ _ ⟨s', g', x3, rfl, rfl, hW', hL'⟩
        have e2 : ((s.n : Int) - 1).toNat = s.n - 1 := by omega
        rw [e2] at hW' hL'
        exact ⟨s', g', x3, rfl, rfl, hW'.mono (by omega), _, _, _, hL', fun o ho hz => if_pos (by omega)⟩
    · have hb : ¬ (h : Int) = 0 := of_decide_eq_false hb
      have hb : h = 1 := by omega
      subst hb
      exact sp_next ⟨s, g, _, rfl, rfl, hW.mono (by omega), _, _, _, hL, fun o _ _ => rfl⟩
  rintro _ _ ⟨s', g', x3, rfl, rfl, hW', row, ah, hl, hL', ha⟩
  have hS := lv_three (by omega) hL' hz ha
  exact sp_retS (evs_opS (d1 := .int 3) (d2 := .int 3) (r1 := some (s'.settle 0)) ((es_settle (X := T.c_NoKeeper) (Y := T.c_NotLeading) (k := 0) Lift.id (ev_var (by rw [hW'.p] <;> rfl)) ev_int (Int.le_refl 0) (by rw [hW'.n]; omega) (hW'.gb.good (by omega)) hL'.l).imp fun d r' y => ⟨y.1.trans (congrArg PyData.int hS), y.2⟩) ev_int opEqI) fun d r' y => ⟨y.1, _, y.2⟩

/-! ## law -/
theorem sc_law : FnScope ["_law_script", "_law_some", "_law_count", "_law_room", "_law_ahead", "_law_wrong", "_law_k", "_law_other"] ["_law_script"] (defScope s_law) := ⟨rfl, rfl, rfl, by decide +kernel, rfl, by decide +kernel, by decide +kernel⟩
def cnts14 : List PyData := [.int 0, .int (-1), .int 10, .int bigI, .int (-5), .bool true, .bool false, .none, .str "3", .list [.int 3], .tuple [.int 3]]
theorem cnts14_at {k : Int} (h0 : 0 ≤ k) (h1 : k < 11) : ∃ d, L2.atI cnts14 k = some d ∧ CntOk d ∧ BadC d := by
  have : k = 0 ∨ k = 1 ∨ k = 2 ∨ k = 3 ∨ k = 4 ∨ k = 5 ∨ k = 6 ∨ k = 7 ∨ k = 8 ∨ k = 9 ∨ k = 10 := by omega
  have num : ∀ {m : Int}, ¬ (1 ≤ m ∧ m ≤ 9) → CntOk (.int m) ∧ BadC (.int m) := fun {m} h => ⟨.inl ⟨_, rfl⟩, fun i g1 g2 e => by injection e with e; omega⟩
  rcases this with rfl | rfl | rfl | rfl | rfl | rfl | rfl | rfl | rfl | rfl | rfl
  · exact ⟨_, rfl, num (by decide)⟩
  · exact ⟨_, rfl, num (by decide)⟩
  · exact ⟨_, rfl, num (by decide)⟩
  · exact ⟨_, rfl, num (by decide)⟩
  · exact ⟨_, rfl, num (by decide)⟩
  · exact ⟨_, rfl, .inr (.inl ⟨_, rfl⟩), fun _ _ _ e => by cases e⟩
  · exact ⟨_, rfl, .inr (.inl ⟨_, rfl⟩), fun _ _ _ e => by cases e⟩
  · exact ⟨_, rfl, .inr (.inr (.inl rfl)), fun _ _ _ e => by cases e⟩
  · exact ⟨_, rfl, .inr (.inr (.inr (.inl ⟨_, rfl⟩))), fun _ _ _ e => by cases e⟩
  · exact ⟨_, rfl, .inr (.inr (.inr (.inr (.inl ⟨_, rfl⟩)))), fun _ _ _ e => by cases e⟩
  · exact ⟨_, rfl, .inr (.inr (.inr (.inr (.inr ⟨_, rfl⟩)))), fun _ _ _ e => by cases e⟩
theorem ok_law (T : Tx K mg) : FnOk P w K mg base CX0 7 T.d_law.a T.d_law.fd ["_law_script"] (spTrue K) := by
  refine ok_forget (R := RO K T.c_Room T.c_Keeper) T.d_law.F sc_law (fun _ => rfl) none (fun G _ => rfl) fun cdv A outer s H E hr => ⟨_, (pss_cons (ps_set (i := 1) sc_law.nd rfl (by first | exact Or.inl rfl | exact Or.inr rfl) (pe_call (ok__law_drawn T) (hr.mono (by decide)) (by rfl) T.d__law_drawn.g T.d__law_drawn.F.kp T.d__law_drawn.b .nil pass0 (pa_cons (pe_call (ok__law_mixed T) (hr.mono (by decide)) (by rfl) T.d__law_mixed.g T.d__law_mixed.F.kp T.d__law_mixed.b .nil pass0 (pa_cons (pv 0) (pa_cons pe_int pa_nil))) (pa_cons (pe_lst (pa_cons pe_int (pa_cons pe_int (pa_cons pe_int (pa_cons pe_int (pa_cons pe_int (pa_cons pe_int (pa_cons pe_int (pa_cons pe_int (pa_cons pe_int pa_nil)))))))))) pa_nil))))
    (pss_cons (ps_set (i := 2) sc_law.nd rfl (by first | exact Or.inl rfl | exact Or.inr rfl) (pe_op op_add pe_int (pe_ix ix_list (pv 1) pe_int (fun _ _ => rfl))))
    (pss_cons (ps_set (i := 3) sc_law.nd rfl (by first | exact Or.inl rfl | exact Or.inr rfl) (pe_make T.d_Room_init.m (ok_Room_init T) (hr.mono (by decide)) (by rfl) T.mg_Room T.d_Room_init.b .nil passLN (pa_cons (pv 2) pa_nil)))
    (pss_cons (ps_if (pt_cmpR op_eq (pe_ix ix_list (pv 1) pe_int (fun _ _ => rfl)) pe_int (nomark _)) (pss_one (ps_expr (pe_call (ok__law_led T) (hr.mono (by decide)) (by rfl) T.d__law_led.g T.d__law_led.F.kp T.d__law_led.b .nil passLN (pa_cons (pv 3) (pa_cons (pv 2) (pa_cons (pe_ix ix_list (pv 1) pe_int (fun _ _ => rfl)) pa_nil)))))) pss_nil)
    (pss_cons (ps_set (i := 4) sc_law.nd rfl (by first | exact Or.inl rfl | exact Or.inr rfl) (pe_call (ok__law_all_of T) (hr.mono (by decide)) (by rfl) T.d__law_all_of.g T.d__law_all_of.F.kp T.d__law_all_of.b .nil passLN (pa_cons (pv 3) (pa_cons (pv 2) pa_nil))))
    (pss_cons (ps_set (i := 5) sc_law.nd rfl (by first | exact Or.inl rfl | exact Or.inr rfl) (pe_ix ix_list (pe_lst (pa_cons (pe_op op_sub (pe_un un_neg pe_int) (pe_ix ix_list (pv 1) pe_int (fun _ _ => rfl))) (pa_cons (pv 2) (pa_cons (pe_op op_add (pv 2) (pe_ix ix_list (pv 1) pe_int (fun _ _ => rfl))) (pa_cons (pe_op op_pow pe_int pe_int) (pa_cons (pe_un un_neg (pe_op op_pow pe_int pe_int)) pa_nil)))))) (pe_ix ix_list (pv 1) pe_int (fun _ _ => rfl)) (fun _ _ => rfl)))
    (pss_cons (ps_set (i := 6) sc_law.nd rfl (by first | exact Or.inl rfl | exact Or.inr rfl) (pe_op op_mod (pe_ix ix_list (pv 1) pe_int (fun _ _ => rfl)) (pv 2)))
    (pss_cons (ps_if (PW.pt (pw_and (pt_cmpR op_eq (pe_ix ix_list (pv 1) pe_int (fun _ _ => rfl)) pe_int (nomark _)) (pw_and1 (pt_cmpR op_lt (pe_ix ix_list (pv 1) pe_int (fun _ _ => rfl)) pe_int (nomark _))))) (pss_one (ps_set (i := 6) sc_law.nd rfl (by first | exact Or.inl rfl | exact Or.inr rfl) pe_int)) pss_nil)
    (pss_cons (ps_set (i := 7) sc_law.nd rfl (by first | exact Or.inl rfl | exact Or.inr rfl) (pe_op op_mod (pe_op op_add (pv 6) pe_int) (pv 2)))
    (pss_cons (ps_if (PW.pt (pw_or (pt_cmpR op_ne (pe_call (ok__law_kind_of T) (hr.mono (by decide)) (by rfl) T.d__law_kind_of.g T.d__law_kind_of.F.kp T.d__law_kind_of.b .nil passLN (pa_cons (pv 3) (pa_cons (pe_ix ix_list (pv 1) pe_int (fun _ _ => rfl)) (pa_cons (pv 6) (pa_cons (pv 7) (pa_cons (pv 5) pa_nil)))))) pe_int (nomark _)) (pw_or1 (pt_cmpR (op_neD hr.units) (pe_call (ok__law_all_of T) (hr.mono (by decide)) (by rfl) T.d__law_all_of.g T.d__law_all_of.F.kp T.d__law_all_of.b .nil passLN (pa_cons (pv 3) (pa_cons (pv 2) pa_nil))) (pv 4) (nomark _))))) (pss_one (ps_ret pe_bl)) pss_nil)
    (pss_cons (ps_if (PW.pt (pw_or (pt_cmpR op_eq (pe_ix ix_list (pv 1) pe_int (fun _ _ => rfl)) pe_int (nomark _)) (pw_or1 (pt_cmpR op_gt (pv 6) pe_int (nomark _))))) (pss_one (ps_if (PW.pt (pw_or (pt_cmpR op_ne (pe_call (ok__law_idle_kind T) (hr.mono (by decide)) (by rfl) T.d__law_idle_kind.g T.d__law_idle_kind.F.kp T.d__law_idle_kind.b .nil passLN (pa_cons (pv 3) (pa_cons (pe_ix ix_list (pv 1) pe_int (fun _ _ => rfl)) (pa_cons (pv 6) (pa_cons (pv 7) pa_nil))))) pe_int (nomark _)) (pw_or1 (pt_cmpR op_ne (pe_call (ok__law_caught T) (hr.mono (by decide)) (by rfl) T.d__law_caught.g T.d__law_caught.F.kp T.d__law_caught.b .nil passLN (pa_cons (pv 3) (pa_cons (pv 6) (pa_cons (pv 7) (pa_cons (pv 5) pa_nil))))) pe_int (nomark _))))) (pss_one (ps_ret pe_bl)) pss_nil)) pss_nil)
    (pss_cons (ps_if (PW.pt (pw_or (pt_cmpR (op_neD hr.units) (pe_call (ok__law_all_of T) (hr.mono (by decide)) (by rfl) T.d__law_all_of.g T.d__law_all_of.F.kp T.d__law_all_of.b .nil passLN (pa_cons (pv 3) (pa_cons (pv 2) pa_nil))) (pv 4) (nomark _)) (pw_or1 (PW.pt (pw_and (pt_cmpR op_eq (pe_ix ix_list (pv 1) pe_int (fun _ _ => rfl)) pe_int (nomark _)) (pw_and1 (pt_not (pt_val (pe_call (ok__law_leads_on T) (hr.mono (by decide)) (by rfl) T.d__law_leads_on.g T.d__law_leads_on.F.kp T.d__law_leads_on.b .nil passLN (pa_cons (pv 3) (pa_cons (pv 2) (pa_cons (pe_ix ix_list (pv 1) pe_int (fun _ _ => rfl)) pa_nil)))))))))))) (pss_one (ps_ret pe_bl)) pss_nil)
    (pss_one (ps_ret (pe_call (ok__law_no_room T) (hr.mono (by decide)) (by rfl) T.d__law_no_room.g T.d__law_no_room.F.kp T.d__law_no_room.b .nil pass0 (pa_cons (pe_ix ix_list (pe_lst (pa_cons pe_int (pa_cons (pe_un un_neg pe_int) (pa_cons pe_int (pa_cons (pe_op op_pow pe_int pe_int) (pa_cons (pe_un un_neg pe_int) (pa_cons pe_bl (pa_cons pe_bl (pa_cons pe_non (pa_cons pe_str (pa_cons (pe_lst (pa_cons pe_int pa_nil)) (pa_cons (pe_tup (pa_cons pe_int pa_nil)) pa_nil)))))))))))) (pe_ix ix_list (pv 1) pe_int (fun _ _ => rfl)) (fun _ _ => rfl)) pa_nil)))))))))))))))), ?_⟩
  rintro ns hns
  refine sp_asg (ev_drawn (zs := [9, 2, 5, 12, 3, 9, 7, 2, 11]) (ev_mixed (ev_var rfl) ev_int (by decide)) (ev_lst (ea_cons ev_int (ea_cons ev_int (ea_cons ev_int (ea_cons ev_int (ea_cons ev_int (ea_cons ev_int (ea_cons ev_int (ea_cons ev_int (ea_cons ev_int ea_nil))))))))) (by show 9 ≤ sizeLine; decide)) (by decide) (by decide)) ?_
  obtain ⟨q0, q1, q2, q3, q4, q5, q6, q7, q8, hd, h0, h1, h2, h3, h6, h7, h8⟩ := draws14 (mixed ns 0)
  rw [hd]
  clear hd
  obtain ⟨n, hn⟩ : ∃ n : Nat, 1 + q0 = (n : Int) := ⟨(1 + q0).toNat, by omega⟩
  have hn1 : 1 ≤ n := by omega
  have hn9 : n ≤ 9 := by omega
  refine sp_asg ((ev_op ev_int (ev_op (ev_var rfl) ev_int (opIxL (d := .int q0) rfl)) opI).is (congrArg PyData.int hn)) ?_
  refine sp_asgS (ev_room rfl (fun r => ea_cons (ev_var rfl) ea_nil) (n := (n : Int)) (by omega) (by omega)) ?_
  rintro _ _ ⟨p, rfl, rfl⟩
  show SP K _ _ _ _ (some (⟨p, n, fun _ => {}⟩ : RSt)) _
  refine sp_seq (N := fun e' r' => ∃ s : RSt, e' = [.dat (scrD ns), .dat (osD [q0, q1, q2, q3, q4, q5, q6, q7, q8]), .dat (.int (s.n : Int)), .dat (objD s.p), .hid, .hid, .hid, .hid] ∧ r' = some s ∧ Rm14 q1 q7 n s) ?_ ?_
  · refine sp_if (et_test (ev_op (ev_op (ev_var rfl) ev_int (opIxL (d := .int q1) rfl)) ev_int opEqI)) (fun hb => ?_) fun hb => ?_
    · obtain ⟨h, hh⟩ : ∃ h : Nat, q7 = (h : Int) := ⟨q7.toNat, by omega⟩
      subst hh
      have hh : h = 0 ∨ h = 1 := by omega
      refine sp_drop (EvX.s (evx_call ((p, n, h) : Addr × Nat × Nat) (ea_cons (ev_var rfl) (ea_cons (ev_var rfl) (ea_cons (ev_op (ev_var rfl) ev_int (opIxL (d := .int (h : Int)) rfl)) ea_nil))) ⟨rfl, hn1, hn9, hh⟩) fun _ _ z => z) ?_
      rintro d r' ⟨_, s', rfl, hL⟩
      have hL : Ld p n h s' := hL
      obtain ⟨g, hW⟩ := id hL.w
      obtain rfl := hW.p
      obtain rfl := hW.n
      exact ⟨s', rfl, rfl, rfl, fun _ => ⟨h, rfl, hh, hL⟩, fun z => (z (of_decide_eq_true hb)).elim⟩
    · exact sp_next ⟨_, rfl, rfl, rfl, fun z => (of_decide_eq_false hb z).elim, fun _ => rfl⟩
  rintro _ _ ⟨s, rfl, rfl, hR⟩
  have hsn := hR.n
  have hg := hR.good hn9
  have hrow : ∀ i, rowOk (s.st i).row := fun i => (hR.g0 i).ok
  have all : ∀ {e : SE}, e[3]? = some (.dat (objD s.p)) → e[2]? = some (.dat (.int (s.n : Int))) → EvD K (RO K T.c_Room T.c_Keeper) (tCall (sp_all_of K T.c_Room T.c_Keeper) [] E0 (tCons (tVar 3) (tCons (tVar 2) tNil))) e (some s) (allK s) := fun {e} g1 g2 =>
    EvX.s (evx_call s (ea_cons (ev_var g1) (ea_cons (ev_var g2) ea_nil)) ⟨rfl, by omega, fun i _ => (hR.g0 i).s0⟩) fun _ _ z => z
  refine sp_asg (all rfl rfl) ?_
  obtain ⟨w, hw, hbad⟩ := wrong_at (n := (s.n : Int)) (q := q6) (k := q2) h6.1 (by omega) h2.1 h2.2
  refine sp_asg (ev_op (ev_lst (ds := [PyData.int (-1 - q6), .int (s.n : Int), .int ((s.n : Int) + q6), .int bigI, .int (-bigI)]) (ea_cons (ev_op (ev_un ev_int opNeg) (ev_op (ev_var rfl) ev_int (opIxL (d := .int q6) rfl)) opI) (ea_cons (ev_var rfl) (ea_cons (ev_op (ev_var rfl) (ev_op (ev_var rfl) ev_int (opIxL (d := .int q6) rfl)) opI)
    (ea_cons ((ev_op ev_int ev_int (opIC ⟨by decide, by decide, by decide⟩)).is (congrArg PyData.int bigI_eq)) (ea_cons (ev_un ((ev_op ev_int ev_int (opIC ⟨by decide, by decide, by decide⟩)).is (congrArg PyData.int bigI_eq)) opNeg) ea_nil))))) (by show 5 ≤ sizeLine; decide)) (ev_op (ev_var rfl) ev_int (opIxL (d := .int q2) rfl)) (opIxL hw)) ?_
  clear hw
  refine sp_asg (ev_op (ev_op (ev_var rfl) ev_int (opIxL (d := .int q5) rfl)) (ev_var rfl) (opIC (show (0 : Int) < (s.n : Int) by omega))) ?_
  have k0 : 0 ≤ q5 % (s.n : Int) := Int.emod_nonneg _ (by omega)
  have k1 : q5 % (s.n : Int) < s.n := Int.emod_lt_of_pos _ (by omega)
  generalize q5 % (s.n : Int) = kk at k0 k1
  refine sp_seq (N := fun e' r' => ∃ k : Int, (0 ≤ k ∧ k < s.n) ∧ e' = [.dat (scrD ns), .dat (osD [q0, q1, q2, q3, q4, q5, q6, q7, q8]), .dat (.int (s.n : Int)), .dat (objD s.p), .dat (allK s), .dat (.int w), .dat (.int k), .hid] ∧ r' = some s) ?_ ?_
  · refine sp_if (et_and (et_test (ev_op (ev_op (ev_var rfl) ev_int (opIxL (d := .int q1) rfl)) ev_int opEqI)) fun _ => et_test (ev_op (ev_op (ev_var rfl) ev_int (opIxL (d := .int q6) rfl)) ev_int opB)) (fun _ => ?_) fun _ => ?_
    · exact sp_asg1 ev_int ⟨0, ⟨by omega, by omega⟩, rfl, rfl⟩
    · exact sp_next ⟨kk, ⟨k0, k1⟩, rfl, rfl⟩
  clear k0 k1 kk
  rintro _ _ ⟨k, hk, rfl, rfl⟩
  refine sp_asg (ev_op (ev_op (ev_var rfl) ev_int opI) (ev_var rfl) (opIC (show (0 : Int) < (s.n : Int) by omega))) ?_
  have o0 : 0 ≤ (k + 1) % (s.n : Int) := Int.emod_nonneg _ (by omega)
  have o1 : (k + 1) % (s.n : Int) < s.n := Int.emod_lt_of_pos _ (by omega)
  generalize (k + 1) % (s.n : Int) = o at o0 o1
  refine sp_when (b := false) ((et_or (a := false) (b := false) (et_test (ev_op (EvX.s (evx_call (s, q3, k, o, w) (ea_cons (ev_var rfl) (ea_cons (ev_op (ev_var rfl) ev_int (opIxL (d := .int q3) rfl)) (ea_cons (ev_var rfl) (ea_cons (ev_var rfl) (ea_cons (ev_var rfl) ea_nil))))) ⟨rfl, hg, h3, hk, hbad⟩) fun _ _ z => z) ev_int opNeI)) fun _ => et_test (ev_op (all rfl rfl) (ev_var rfl) (opNeAll hrow))).is rfl) (fun h => nomatch h) fun _ => ?_
  refine sp_seq (N := fun e' r' => e' = [.dat (scrD ns), .dat (osD [q0, q1, q2, q3, q4, q5, q6, q7, q8]), .dat (.int (s.n : Int)), .dat (objD s.p), .dat (allK s), .dat (.int w), .dat (.int k), .dat (.int o)] ∧ r' = some s) ?_ ?_
  · refine sp_if (et_or (et_test (ev_op (ev_op (ev_var rfl) ev_int (opIxL (d := .int q1) rfl)) ev_int opEqI)) fun _ => et_test (ev_op (ev_var rfl) ev_int opB)) (fun hb => ?_) fun _ => sp_next ⟨rfl, rfl⟩
    have hb : q1 = 0 ∨ 0 < k := (Bool.or_eq_true_iff.mp hb).elim (fun z => .inl (of_decide_eq_true z)) fun z => .inr (of_decide_eq_true z)
    have hidle : (s.st k.toNat).leads = false := hR.idle (by omega) fun c => by omega
    refine sp_if (b := false) ((et_or (a := false) (b := false) (et_test (ev_op (EvX.s (evx_call (s, q4, k, o) (ea_cons (ev_var rfl) (ea_cons (ev_op (ev_var rfl) ev_int (opIxL (d := .int q4) rfl)) (ea_cons (ev_var rfl) (ea_cons (ev_var rfl) ea_nil)))) ⟨rfl, hg, hk, ⟨o0, o1⟩, hidle⟩) fun _ _ z => z) ev_int opNeI)) fun _ =>
      et_test (ev_op (EvX.s (evx_call (s, k, o, w) (ea_cons (ev_var rfl) (ea_cons (ev_var rfl) (ea_cons (ev_var rfl) (ea_cons (ev_var rfl) ea_nil)))) ⟨rfl, hg, hk, hbad, hidle⟩) fun _ _ z => z) ev_int opNeI)).is rfl) (fun h => nomatch h) fun _ => sp_next ⟨rfl, rfl⟩
  rintro _ _ ⟨rfl, rfl⟩
  refine sp_whenS (Pb := fun b r' => b = false ∧ ∃ s', r' = some s') (ets_orF (r1 := some s) (et_test (ev_op (all rfl rfl) (ev_var rfl) (opNeAll hrow))) ?_) ?_ ?_
  · by_cases c : q1 = 1
    · obtain ⟨h, rfl, hh, hL⟩ := hR.led c
      refine ets_andT (r1 := some s) (et_test ((ev_op (ev_op (ev_var rfl) ev_int (opIxL (d := .int q1) rfl)) ev_int opEqI).is (by rw [decide_eq_true c]))) ?_
      exact evts_not (evts_B (P := fun d r' => d = .bool true ∧ ∃ s', r' = some s') (EvX.s (evx_call (s, h) (ea_cons (ev_var rfl) (ea_cons (ev_var rfl) (ea_cons (ev_op (ev_var rfl) ev_int (opIxL (d := .int (h : Int)) rfl)) ea_nil))) ⟨rfl, hL, (by show 1 ≤ s.n; omega), hh⟩) fun _ _ z => z) (PB := fun b r' => b = true ∧ ∃ s', r' = some s') fun d r' z => ⟨true, z.1, rfl, z.2⟩) fun b r' z => ⟨by rw [z.1]; rfl, z.2⟩
    · exact EvTS.imp (et_and (a := false) (b := false) (et_test ((ev_op (ev_op (ev_var rfl) ev_int (opIxL (d := .int q1) rfl)) ev_int opEqI).is (by rw [decide_eq_false c]))) fun z => nomatch z) fun b r' z => ⟨z.1, s, z.2⟩
  · rintro _ ⟨z, _⟩; cases z
  rintro _ ⟨_, s', rfl⟩
  obtain ⟨d, hd, hc, hb⟩ := cnts14_at h8.1 h8.2
  refine sp_ret (ev_call d (ea_cons (ev_op (ev_lst (ds := cnts14) (ea_cons ev_int (ea_cons (ev_un ev_int opNeg) (ea_cons ev_int (ea_cons ((ev_op ev_int ev_int (opIC ⟨by decide, by decide, by decide⟩)).is (congrArg PyData.int bigI_eq)) (ea_cons (ev_un ev_int opNeg) (ea_cons ev_bl (ea_cons ev_bl (ea_cons ev_non (ea_cons ev_str (ea_cons (ev_lst (ea_cons ev_int ea_nil) (by show 1 ≤ sizeLine; decide)) (ea_cons (ev_tup (ea_cons ev_int ea_nil) (by show 1 ≤ sizeLine; decide)) ea_nil)))))))))))
    (by show 11 ≤ sizeLine; decide)) (ev_op (ev_var rfl) ev_int (opIxL (d := .int q8) rfl)) (opIxL hd)) ea_nil) ⟨hc, hb⟩) rfl

end
theorem all_mk {l : PySem.W.OpenLaw} {w : World} {K : PySem.W.Frag} {h : Heap} {mg : Str → Option Value} {fa : Addr} (X : K.In h) (G : h.Ns mainGlobals mg) (hfa : mg "law" = some (.ref fa))
    {c_RoomError c_NoRoom c_NoKeeper c_NotLeading c_OutOfPlace c_Keeper c_Room f_last_term f_as_new f_agrees f_filled f_settled_by f_Keeper_init f_Keeper_hear f_Keeper_asked f_Keeper_begin f_Room_init f_Room_keeper f_Room_leader f_Room_stand f_Room_write f_Room_hand f_Room_settle f_Room_rest f_Room_term_of f_Room_row_of f_Room_leading f_Room_settled_of f__law_cell_at f__law_mixed f__law_drawn f__law_asked f__law_done f__law_idle f__law_kind f__law_kind_of f__law_idle_kind f__law_caught f__law_no_room f__law_all_of f__law_led f__law_leads_on f_law : Addr}
    {od_last_term an_last_term od_as_new an_as_new od_agrees an_agrees od_filled an_filled od_settled_by an_settled_by od_Keeper_init an_Keeper_init od_Keeper_hear an_Keeper_hear od_Keeper_asked an_Keeper_asked od_Keeper_begin an_Keeper_begin od_Room_init an_Room_init od_Room_keeper an_Room_keeper od_Room_leader an_Room_leader od_Room_stand an_Room_stand od_Room_write an_Room_write od_Room_hand an_Room_hand od_Room_settle an_Room_settle od_Room_rest an_Room_rest od_Room_term_of an_Room_term_of od_Room_row_of an_Room_row_of od_Room_leading an_Room_leading od_Room_settled_of an_Room_settled_of od__law_cell_at an__law_cell_at od__law_mixed an__law_mixed od__law_drawn an__law_drawn od__law_asked an__law_asked od__law_done an__law_done od__law_idle an__law_idle od__law_kind an__law_kind od__law_kind_of an__law_kind_of od__law_idle_kind an__law_idle_kind od__law_caught an__law_caught od__law_no_room an__law_no_room od__law_all_of an__law_all_of od__law_led an__law_led od__law_leads_on an__law_leads_on od_law an_law : Option Addr} {sl_last_term sl_as_new sl_agrees sl_filled sl_settled_by sl_Keeper_init sl_Keeper_hear sl_Keeper_asked sl_Keeper_begin sl_Room_init sl_Room_keeper sl_Room_leader sl_Room_stand sl_Room_write sl_Room_hand sl_Room_settle sl_Room_rest sl_Room_term_of sl_Room_row_of sl_Room_leading sl_Room_settled_of sl__law_cell_at sl__law_mixed sl__law_drawn sl__law_asked sl__law_done sl__law_idle sl__law_kind sl__law_kind_of sl__law_idle_kind sl__law_caught sl__law_no_room sl__law_all_of sl__law_led sl__law_leads_on sl_law : Array (Option Value)} {t_MOST : Tok}
    {oc_last_term kV_last_term dc_last_term pm_last_term cd_last_term ct_last_term oc_as_new kV_as_new dc_as_new pm_as_new cd_as_new ct_as_new oc_agrees kV_agrees dc_agrees pm_agrees cd_agrees ct_agrees oc_filled kV_filled dc_filled pm_filled cd_filled ct_filled oc_settled_by kV_settled_by dc_settled_by pm_settled_by cd_settled_by ct_settled_by oc_Keeper_init kV_Keeper_init dc_Keeper_init pm_Keeper_init cd_Keeper_init ct_Keeper_init oc_Keeper_hear kV_Keeper_hear dc_Keeper_hear pm_Keeper_hear cd_Keeper_hear ct_Keeper_hear oc_Keeper_asked kV_Keeper_asked dc_Keeper_asked pm_Keeper_asked cd_Keeper_asked ct_Keeper_asked oc_Keeper_begin kV_Keeper_begin dc_Keeper_begin pm_Keeper_begin cd_Keeper_begin ct_Keeper_begin oc_Room_init kV_Room_init dc_Room_init pm_Room_init cd_Room_init ct_Room_init oc_Room_keeper kV_Room_keeper dc_Room_keeper pm_Room_keeper cd_Room_keeper ct_Room_keeper oc_Room_leader kV_Room_leader dc_Room_leader pm_Room_leader cd_Room_leader ct_Room_leader oc_Room_stand kV_Room_stand dc_Room_stand pm_Room_stand cd_Room_stand ct_Room_stand oc_Room_write kV_Room_write dc_Room_write pm_Room_write cd_Room_write ct_Room_write oc_Room_hand kV_Room_hand dc_Room_hand pm_Room_hand cd_Room_hand ct_Room_hand oc_Room_settle kV_Room_settle dc_Room_settle pm_Room_settle cd_Room_settle ct_Room_settle oc_Room_rest kV_Room_rest dc_Room_rest pm_Room_rest cd_Room_rest ct_Room_rest oc_Room_term_of kV_Room_term_of dc_Room_term_of pm_Room_term_of cd_Room_term_of ct_Room_term_of oc_Room_row_of kV_Room_row_of dc_Room_row_of pm_Room_row_of cd_Room_row_of ct_Room_row_of oc_Room_leading kV_Room_leading dc_Room_leading pm_Room_leading cd_Room_leading ct_Room_leading oc_Room_settled_of kV_Room_settled_of dc_Room_settled_of pm_Room_settled_of cd_Room_settled_of ct_Room_settled_of oc__law_cell_at kV__law_cell_at dc__law_cell_at pm__law_cell_at cd__law_cell_at ct__law_cell_at oc__law_mixed kV__law_mixed dc__law_mixed pm__law_mixed cd__law_mixed ct__law_mixed oc__law_drawn kV__law_drawn dc__law_drawn pm__law_drawn cd__law_drawn ct__law_drawn oc__law_asked kV__law_asked dc__law_asked pm__law_asked cd__law_asked ct__law_asked oc__law_done kV__law_done dc__law_done pm__law_done cd__law_done ct__law_done oc__law_idle kV__law_idle dc__law_idle pm__law_idle cd__law_idle ct__law_idle oc__law_kind kV__law_kind dc__law_kind pm__law_kind cd__law_kind ct__law_kind oc__law_kind_of kV__law_kind_of dc__law_kind_of pm__law_kind_of cd__law_kind_of ct__law_kind_of oc__law_idle_kind kV__law_idle_kind dc__law_idle_kind pm__law_idle_kind cd__law_idle_kind ct__law_idle_kind oc__law_caught kV__law_caught dc__law_caught pm__law_caught cd__law_caught ct__law_caught oc__law_no_room kV__law_no_room dc__law_no_room pm__law_no_room cd__law_no_room ct__law_no_room oc__law_all_of kV__law_all_of dc__law_all_of pm__law_all_of cd__law_all_of ct__law_all_of oc__law_led kV__law_led dc__law_led pm__law_led cd__law_led ct__law_led oc__law_leads_on kV__law_leads_on dc__law_leads_on pm__law_leads_on cd__law_leads_on ct__law_leads_on oc_law kV_law dc_law pm_law cd_law ct_law : Value}
    (aC_RoomError : PySem.W.nsIn K mainGlobals "RoomError" = some (some (.ref c_RoomError)))
    (aC_NoRoom : PySem.W.nsIn K mainGlobals "NoRoom" = some (some (.ref c_NoRoom)))
    (aC_NoKeeper : PySem.W.nsIn K mainGlobals "NoKeeper" = some (some (.ref c_NoKeeper)))
    (aC_NotLeading : PySem.W.nsIn K mainGlobals "NotLeading" = some (some (.ref c_NotLeading)))
    (aC_OutOfPlace : PySem.W.nsIn K mainGlobals "OutOfPlace" = some (some (.ref c_OutOfPlace)))
    (aC_Keeper : PySem.W.nsIn K mainGlobals "Keeper" = some (some (.ref c_Keeper)))
    (aC_Room : PySem.W.nsIn K mainGlobals "Room" = some (some (.ref c_Room)))
    (x_RoomError : PySem.W.excIn K c_RoomError [.type "ValueError", .type "Exception", .type "BaseException", .type "object"] "ValueError.__new__" = true)
    (kx_RoomError : PySem.W.keepIn K (.ref c_RoomError) = true)
    (bx_RoomError : PySem.W.subIn K (.ref c_RoomError) (.type "BaseException") = some true)
    (tx_RoomError : PySem.W.typeIn K (.ref c_RoomError) = some (.type "type"))
    (hx_RoomError : PySem.W.hasDictIn K c_RoomError = true)
    (sx_RoomError_RoomError : PySem.W.subIn K (.ref c_RoomError) (.ref c_RoomError) = some true)
    (sx_RoomError_NoRoom : PySem.W.subIn K (.ref c_RoomError) (.ref c_NoRoom) = some false)
    (sx_RoomError_NoKeeper : PySem.W.subIn K (.ref c_RoomError) (.ref c_NoKeeper) = some false)
    (sx_RoomError_NotLeading : PySem.W.subIn K (.ref c_RoomError) (.ref c_NotLeading) = some false)
    (sx_RoomError_OutOfPlace : PySem.W.subIn K (.ref c_RoomError) (.ref c_OutOfPlace) = some false)
    (x_NoRoom : PySem.W.excIn K c_NoRoom [.type "ValueError", .type "Exception", .type "BaseException", .type "object"] "ValueError.__new__" = true)
    (kx_NoRoom : PySem.W.keepIn K (.ref c_NoRoom) = true)
    (bx_NoRoom : PySem.W.subIn K (.ref c_NoRoom) (.type "BaseException") = some true)
    (tx_NoRoom : PySem.W.typeIn K (.ref c_NoRoom) = some (.type "type"))
    (hx_NoRoom : PySem.W.hasDictIn K c_NoRoom = true)
    (sx_NoRoom_RoomError : PySem.W.subIn K (.ref c_NoRoom) (.ref c_RoomError) = some true)
    (sx_NoRoom_NoRoom : PySem.W.subIn K (.ref c_NoRoom) (.ref c_NoRoom) = some true)
    (sx_NoRoom_NoKeeper : PySem.W.subIn K (.ref c_NoRoom) (.ref c_NoKeeper) = some false)
    (sx_NoRoom_NotLeading : PySem.W.subIn K (.ref c_NoRoom) (.ref c_NotLeading) = some false)
    (sx_NoRoom_OutOfPlace : PySem.W.subIn K (.ref c_NoRoom) (.ref c_OutOfPlace) = some false)
    (x_NoKeeper : PySem.W.excIn K c_NoKeeper [.type "ValueError", .type "Exception", .type "BaseException", .type "object"] "ValueError.__new__" = true)
    (kx_NoKeeper : PySem.W.keepIn K (.ref c_NoKeeper) = true)
    (bx_NoKeeper : PySem.W.subIn K (.ref c_NoKeeper) (.type "BaseException") = some true)
    (tx_NoKeeper : PySem.W.typeIn K (.ref c_NoKeeper) = some (.type "type"))
    (hx_NoKeeper : PySem.W.hasDictIn K c_NoKeeper = true)
    (sx_NoKeeper_RoomError : PySem.W.subIn K (.ref c_NoKeeper) (.ref c_RoomError) = some true)
    (sx_NoKeeper_NoRoom : PySem.W.subIn K (.ref c_NoKeeper) (.ref c_NoRoom) = some false)
    (sx_NoKeeper_NoKeeper : PySem.W.subIn K (.ref c_NoKeeper) (.ref c_NoKeeper) = some true)
    (sx_NoKeeper_NotLeading : PySem.W.subIn K (.ref c_NoKeeper) (.ref c_NotLeading) = some false)
    (sx_NoKeeper_OutOfPlace : PySem.W.subIn K (.ref c_NoKeeper) (.ref c_OutOfPlace) = some false)
    (x_NotLeading : PySem.W.excIn K c_NotLeading [.type "ValueError", .type "Exception", .type "BaseException", .type "object"] "ValueError.__new__" = true)
    (kx_NotLeading : PySem.W.keepIn K (.ref c_NotLeading) = true)
    (bx_NotLeading : PySem.W.subIn K (.ref c_NotLeading) (.type "BaseException") = some true)
    (tx_NotLeading : PySem.W.typeIn K (.ref c_NotLeading) = some (.type "type"))
    (hx_NotLeading : PySem.W.hasDictIn K c_NotLeading = true)
    (sx_NotLeading_RoomError : PySem.W.subIn K (.ref c_NotLeading) (.ref c_RoomError) = some true)
    (sx_NotLeading_NoRoom : PySem.W.subIn K (.ref c_NotLeading) (.ref c_NoRoom) = some false)
    (sx_NotLeading_NoKeeper : PySem.W.subIn K (.ref c_NotLeading) (.ref c_NoKeeper) = some false)
    (sx_NotLeading_NotLeading : PySem.W.subIn K (.ref c_NotLeading) (.ref c_NotLeading) = some true)
    (sx_NotLeading_OutOfPlace : PySem.W.subIn K (.ref c_NotLeading) (.ref c_OutOfPlace) = some false)
    (x_OutOfPlace : PySem.W.excIn K c_OutOfPlace [.type "ValueError", .type "Exception", .type "BaseException", .type "object"] "ValueError.__new__" = true)
    (kx_OutOfPlace : PySem.W.keepIn K (.ref c_OutOfPlace) = true)
    (bx_OutOfPlace : PySem.W.subIn K (.ref c_OutOfPlace) (.type "BaseException") = some true)
    (tx_OutOfPlace : PySem.W.typeIn K (.ref c_OutOfPlace) = some (.type "type"))
    (hx_OutOfPlace : PySem.W.hasDictIn K c_OutOfPlace = true)
    (sx_OutOfPlace_RoomError : PySem.W.subIn K (.ref c_OutOfPlace) (.ref c_RoomError) = some true)
    (sx_OutOfPlace_NoRoom : PySem.W.subIn K (.ref c_OutOfPlace) (.ref c_NoRoom) = some false)
    (sx_OutOfPlace_NoKeeper : PySem.W.subIn K (.ref c_OutOfPlace) (.ref c_NoKeeper) = some false)
    (sx_OutOfPlace_NotLeading : PySem.W.subIn K (.ref c_OutOfPlace) (.ref c_NotLeading) = some false)
    (sx_OutOfPlace_OutOfPlace : PySem.W.subIn K (.ref c_OutOfPlace) (.ref c_OutOfPlace) = some true)
    (pg_Keeper : PySem.W.plainGet K c_Keeper Str.empty = true)
    (hd_Keeper : PySem.W.hasDictIn K c_Keeper = true)
    (po_Keeper : PySem.W.plainOver K c_Keeper = true)
    (sa_Keeper : PySem.W.findIn K (.ref c_Keeper) "__setattr__" = some (some (.builtin "object.__setattr__")))
    (mk_Keeper : PySem.W.makesIn K c_Keeper = true)
    (kc_Keeper : PySem.W.keepIn K (.ref c_Keeper) = true)
    (na_Keeper_term : PySem.W.findIn K (.ref c_Keeper) "term" = some none)
    (na_Keeper_row : PySem.W.findIn K (.ref c_Keeper) "row" = some none)
    (na_Keeper_leads : PySem.W.findIn K (.ref c_Keeper) "leads" = some none)
    (na_Keeper_settled : PySem.W.findIn K (.ref c_Keeper) "settled" = some none)
    (na_Keeper_ahead : PySem.W.findIn K (.ref c_Keeper) "ahead" = some none)
    (na_Keeper_held : PySem.W.findIn K (.ref c_Keeper) "held" = some none)
    (pg_Room : PySem.W.plainGet K c_Room Str.empty = true)
    (hd_Room : PySem.W.hasDictIn K c_Room = true)
    (po_Room : PySem.W.plainOver K c_Room = true)
    (sa_Room : PySem.W.findIn K (.ref c_Room) "__setattr__" = some (some (.builtin "object.__setattr__")))
    (mk_Room : PySem.W.makesIn K c_Room = true)
    (kc_Room : PySem.W.keepIn K (.ref c_Room) = true)
    (na_Room_keepers : PySem.W.findIn K (.ref c_Room) "keepers" = some none)
    (a_last_term : PySem.W.nsIn K mainGlobals "last_term" = some (some (.ref f_last_term)))
    (l_last_term : K.lookup f_last_term = some ⟨oc_last_term, od_last_term, .func (PySem.W.fnOf "last_term" "last_term" (defArgs s_last_term) (defBody s_last_term) (defScope s_last_term) .none kV_last_term dc_last_term pm_last_term an_last_term cd_last_term ct_last_term), sl_last_term⟩)
    (c_last_term_ : PySem.W.codeIn K cd_last_term "last_term" = true)
    (k_last_term : PySem.W.keepIn K (.ref f_last_term) = true)
    (a_as_new : PySem.W.nsIn K mainGlobals "as_new" = some (some (.ref f_as_new)))
    (l_as_new : K.lookup f_as_new = some ⟨oc_as_new, od_as_new, .func (PySem.W.fnOf "as_new" "as_new" (defArgs s_as_new) (defBody s_as_new) (defScope s_as_new) .none kV_as_new dc_as_new pm_as_new an_as_new cd_as_new ct_as_new), sl_as_new⟩)
    (c_as_new_ : PySem.W.codeIn K cd_as_new "as_new" = true)
    (k_as_new : PySem.W.keepIn K (.ref f_as_new) = true)
    (a_agrees : PySem.W.nsIn K mainGlobals "agrees" = some (some (.ref f_agrees)))
    (l_agrees : K.lookup f_agrees = some ⟨oc_agrees, od_agrees, .func (PySem.W.fnOf "agrees" "agrees" (defArgs s_agrees) (defBody s_agrees) (defScope s_agrees) .none kV_agrees dc_agrees pm_agrees an_agrees cd_agrees ct_agrees), sl_agrees⟩)
    (c_agrees_ : PySem.W.codeIn K cd_agrees "agrees" = true)
    (k_agrees : PySem.W.keepIn K (.ref f_agrees) = true)
    (a_filled : PySem.W.nsIn K mainGlobals "filled" = some (some (.ref f_filled)))
    (l_filled : K.lookup f_filled = some ⟨oc_filled, od_filled, .func (PySem.W.fnOf "filled" "filled" (defArgs s_filled) (defBody s_filled) (defScope s_filled) .none kV_filled dc_filled pm_filled an_filled cd_filled ct_filled), sl_filled⟩)
    (c_filled_ : PySem.W.codeIn K cd_filled "filled" = true)
    (k_filled : PySem.W.keepIn K (.ref f_filled) = true)
    (a_settled_by : PySem.W.nsIn K mainGlobals "settled_by" = some (some (.ref f_settled_by)))
    (l_settled_by : K.lookup f_settled_by = some ⟨oc_settled_by, od_settled_by, .func (PySem.W.fnOf "settled_by" "settled_by" (defArgs s_settled_by) (defBody s_settled_by) (defScope s_settled_by) .none kV_settled_by dc_settled_by pm_settled_by an_settled_by cd_settled_by ct_settled_by), sl_settled_by⟩)
    (c_settled_by_ : PySem.W.codeIn K cd_settled_by "settled_by" = true)
    (k_settled_by : PySem.W.keepIn K (.ref f_settled_by) = true)
    (a_Keeper_init : PySem.W.findIn K (.ref c_Keeper) "__init__" = some (some (.ref f_Keeper_init)))
    (i_Keeper_init : PySem.W.isFn K (.ref f_Keeper_init) = true)
    (l_Keeper_init : K.lookup f_Keeper_init = some ⟨oc_Keeper_init, od_Keeper_init, .func (PySem.W.fnOf "__init__" "Keeper.__init__" (defArgs s_Keeper_init) (defBody s_Keeper_init) (defScope s_Keeper_init) .none kV_Keeper_init dc_Keeper_init pm_Keeper_init an_Keeper_init cd_Keeper_init ct_Keeper_init), sl_Keeper_init⟩)
    (c_Keeper_init_ : PySem.W.codeIn K cd_Keeper_init "Keeper.__init__" = true)
    (k_Keeper_init : PySem.W.keepIn K (.ref f_Keeper_init) = true)
    (a_Keeper_hear : PySem.W.findIn K (.ref c_Keeper) "hear" = some (some (.ref f_Keeper_hear)))
    (i_Keeper_hear : PySem.W.isFn K (.ref f_Keeper_hear) = true)
    (l_Keeper_hear : K.lookup f_Keeper_hear = some ⟨oc_Keeper_hear, od_Keeper_hear, .func (PySem.W.fnOf "hear" "Keeper.hear" (defArgs s_Keeper_hear) (defBody s_Keeper_hear) (defScope s_Keeper_hear) .none kV_Keeper_hear dc_Keeper_hear pm_Keeper_hear an_Keeper_hear cd_Keeper_hear ct_Keeper_hear), sl_Keeper_hear⟩)
    (c_Keeper_hear_ : PySem.W.codeIn K cd_Keeper_hear "Keeper.hear" = true)
    (k_Keeper_hear : PySem.W.keepIn K (.ref f_Keeper_hear) = true)
    (a_Keeper_asked : PySem.W.findIn K (.ref c_Keeper) "asked" = some (some (.ref f_Keeper_asked)))
    (i_Keeper_asked : PySem.W.isFn K (.ref f_Keeper_asked) = true)
    (l_Keeper_asked : K.lookup f_Keeper_asked = some ⟨oc_Keeper_asked, od_Keeper_asked, .func (PySem.W.fnOf "asked" "Keeper.asked" (defArgs s_Keeper_asked) (defBody s_Keeper_asked) (defScope s_Keeper_asked) .none kV_Keeper_asked dc_Keeper_asked pm_Keeper_asked an_Keeper_asked cd_Keeper_asked ct_Keeper_asked), sl_Keeper_asked⟩)
    (c_Keeper_asked_ : PySem.W.codeIn K cd_Keeper_asked "Keeper.asked" = true)
    (k_Keeper_asked : PySem.W.keepIn K (.ref f_Keeper_asked) = true)
    (a_Keeper_begin : PySem.W.findIn K (.ref c_Keeper) "begin" = some (some (.ref f_Keeper_begin)))
    (i_Keeper_begin : PySem.W.isFn K (.ref f_Keeper_begin) = true)
    (l_Keeper_begin : K.lookup f_Keeper_begin = some ⟨oc_Keeper_begin, od_Keeper_begin, .func (PySem.W.fnOf "begin" "Keeper.begin" (defArgs s_Keeper_begin) (defBody s_Keeper_begin) (defScope s_Keeper_begin) .none kV_Keeper_begin dc_Keeper_begin pm_Keeper_begin an_Keeper_begin cd_Keeper_begin ct_Keeper_begin), sl_Keeper_begin⟩)
    (c_Keeper_begin_ : PySem.W.codeIn K cd_Keeper_begin "Keeper.begin" = true)
    (k_Keeper_begin : PySem.W.keepIn K (.ref f_Keeper_begin) = true)
    (a_Room_init : PySem.W.findIn K (.ref c_Room) "__init__" = some (some (.ref f_Room_init)))
    (i_Room_init : PySem.W.isFn K (.ref f_Room_init) = true)
    (l_Room_init : K.lookup f_Room_init = some ⟨oc_Room_init, od_Room_init, .func (PySem.W.fnOf "__init__" "Room.__init__" (defArgs s_Room_init) (defBody s_Room_init) (defScope s_Room_init) .none kV_Room_init dc_Room_init pm_Room_init an_Room_init cd_Room_init ct_Room_init), sl_Room_init⟩)
    (c_Room_init_ : PySem.W.codeIn K cd_Room_init "Room.__init__" = true)
    (k_Room_init : PySem.W.keepIn K (.ref f_Room_init) = true)
    (a_Room_keeper : PySem.W.findIn K (.ref c_Room) "keeper" = some (some (.ref f_Room_keeper)))
    (i_Room_keeper : PySem.W.isFn K (.ref f_Room_keeper) = true)
    (l_Room_keeper : K.lookup f_Room_keeper = some ⟨oc_Room_keeper, od_Room_keeper, .func (PySem.W.fnOf "keeper" "Room.keeper" (defArgs s_Room_keeper) (defBody s_Room_keeper) (defScope s_Room_keeper) .none kV_Room_keeper dc_Room_keeper pm_Room_keeper an_Room_keeper cd_Room_keeper ct_Room_keeper), sl_Room_keeper⟩)
    (c_Room_keeper_ : PySem.W.codeIn K cd_Room_keeper "Room.keeper" = true)
    (k_Room_keeper : PySem.W.keepIn K (.ref f_Room_keeper) = true)
    (a_Room_leader : PySem.W.findIn K (.ref c_Room) "leader" = some (some (.ref f_Room_leader)))
    (i_Room_leader : PySem.W.isFn K (.ref f_Room_leader) = true)
    (l_Room_leader : K.lookup f_Room_leader = some ⟨oc_Room_leader, od_Room_leader, .func (PySem.W.fnOf "leader" "Room.leader" (defArgs s_Room_leader) (defBody s_Room_leader) (defScope s_Room_leader) .none kV_Room_leader dc_Room_leader pm_Room_leader an_Room_leader cd_Room_leader ct_Room_leader), sl_Room_leader⟩)
    (c_Room_leader_ : PySem.W.codeIn K cd_Room_leader "Room.leader" = true)
    (k_Room_leader : PySem.W.keepIn K (.ref f_Room_leader) = true)
    (a_Room_stand : PySem.W.findIn K (.ref c_Room) "stand" = some (some (.ref f_Room_stand)))
    (i_Room_stand : PySem.W.isFn K (.ref f_Room_stand) = true)
    (l_Room_stand : K.lookup f_Room_stand = some ⟨oc_Room_stand, od_Room_stand, .func (PySem.W.fnOf "stand" "Room.stand" (defArgs s_Room_stand) (defBody s_Room_stand) (defScope s_Room_stand) .none kV_Room_stand dc_Room_stand pm_Room_stand an_Room_stand cd_Room_stand ct_Room_stand), sl_Room_stand⟩)
    (c_Room_stand_ : PySem.W.codeIn K cd_Room_stand "Room.stand" = true)
    (k_Room_stand : PySem.W.keepIn K (.ref f_Room_stand) = true)
    (a_Room_write : PySem.W.findIn K (.ref c_Room) "write" = some (some (.ref f_Room_write)))
    (i_Room_write : PySem.W.isFn K (.ref f_Room_write) = true)
    (l_Room_write : K.lookup f_Room_write = some ⟨oc_Room_write, od_Room_write, .func (PySem.W.fnOf "write" "Room.write" (defArgs s_Room_write) (defBody s_Room_write) (defScope s_Room_write) .none kV_Room_write dc_Room_write pm_Room_write an_Room_write cd_Room_write ct_Room_write), sl_Room_write⟩)
    (c_Room_write_ : PySem.W.codeIn K cd_Room_write "Room.write" = true)
    (k_Room_write : PySem.W.keepIn K (.ref f_Room_write) = true)
    (a_Room_hand : PySem.W.findIn K (.ref c_Room) "hand" = some (some (.ref f_Room_hand)))
    (i_Room_hand : PySem.W.isFn K (.ref f_Room_hand) = true)
    (l_Room_hand : K.lookup f_Room_hand = some ⟨oc_Room_hand, od_Room_hand, .func (PySem.W.fnOf "hand" "Room.hand" (defArgs s_Room_hand) (defBody s_Room_hand) (defScope s_Room_hand) .none kV_Room_hand dc_Room_hand pm_Room_hand an_Room_hand cd_Room_hand ct_Room_hand), sl_Room_hand⟩)
    (c_Room_hand_ : PySem.W.codeIn K cd_Room_hand "Room.hand" = true)
    (k_Room_hand : PySem.W.keepIn K (.ref f_Room_hand) = true)
    (a_Room_settle : PySem.W.findIn K (.ref c_Room) "settle" = some (some (.ref f_Room_settle)))
    (i_Room_settle : PySem.W.isFn K (.ref f_Room_settle) = true)
    (l_Room_settle : K.lookup f_Room_settle = some ⟨oc_Room_settle, od_Room_settle, .func (PySem.W.fnOf "settle" "Room.settle" (defArgs s_Room_settle) (defBody s_Room_settle) (defScope s_Room_settle) .none kV_Room_settle dc_Room_settle pm_Room_settle an_Room_settle cd_Room_settle ct_Room_settle), sl_Room_settle⟩)
    (c_Room_settle_ : PySem.W.codeIn K cd_Room_settle "Room.settle" = true)
    (k_Room_settle : PySem.W.keepIn K (.ref f_Room_settle) = true)
    (a_Room_rest : PySem.W.findIn K (.ref c_Room) "rest" = some (some (.ref f_Room_rest)))
    (i_Room_rest : PySem.W.isFn K (.ref f_Room_rest) = true)
    (l_Room_rest : K.lookup f_Room_rest = some ⟨oc_Room_rest, od_Room_rest, .func (PySem.W.fnOf "rest" "Room.rest" (defArgs s_Room_rest) (defBody s_Room_rest) (defScope s_Room_rest) .none kV_Room_rest dc_Room_rest pm_Room_rest an_Room_rest cd_Room_rest ct_Room_rest), sl_Room_rest⟩)
    (c_Room_rest_ : PySem.W.codeIn K cd_Room_rest "Room.rest" = true)
    (k_Room_rest : PySem.W.keepIn K (.ref f_Room_rest) = true)
    (a_Room_term_of : PySem.W.findIn K (.ref c_Room) "term_of" = some (some (.ref f_Room_term_of)))
    (i_Room_term_of : PySem.W.isFn K (.ref f_Room_term_of) = true)
    (l_Room_term_of : K.lookup f_Room_term_of = some ⟨oc_Room_term_of, od_Room_term_of, .func (PySem.W.fnOf "term_of" "Room.term_of" (defArgs s_Room_term_of) (defBody s_Room_term_of) (defScope s_Room_term_of) .none kV_Room_term_of dc_Room_term_of pm_Room_term_of an_Room_term_of cd_Room_term_of ct_Room_term_of), sl_Room_term_of⟩)
    (c_Room_term_of_ : PySem.W.codeIn K cd_Room_term_of "Room.term_of" = true)
    (k_Room_term_of : PySem.W.keepIn K (.ref f_Room_term_of) = true)
    (a_Room_row_of : PySem.W.findIn K (.ref c_Room) "row_of" = some (some (.ref f_Room_row_of)))
    (i_Room_row_of : PySem.W.isFn K (.ref f_Room_row_of) = true)
    (l_Room_row_of : K.lookup f_Room_row_of = some ⟨oc_Room_row_of, od_Room_row_of, .func (PySem.W.fnOf "row_of" "Room.row_of" (defArgs s_Room_row_of) (defBody s_Room_row_of) (defScope s_Room_row_of) .none kV_Room_row_of dc_Room_row_of pm_Room_row_of an_Room_row_of cd_Room_row_of ct_Room_row_of), sl_Room_row_of⟩)
    (c_Room_row_of_ : PySem.W.codeIn K cd_Room_row_of "Room.row_of" = true)
    (k_Room_row_of : PySem.W.keepIn K (.ref f_Room_row_of) = true)
    (a_Room_leading : PySem.W.findIn K (.ref c_Room) "leading" = some (some (.ref f_Room_leading)))
    (i_Room_leading : PySem.W.isFn K (.ref f_Room_leading) = true)
    (l_Room_leading : K.lookup f_Room_leading = some ⟨oc_Room_leading, od_Room_leading, .func (PySem.W.fnOf "leading" "Room.leading" (defArgs s_Room_leading) (defBody s_Room_leading) (defScope s_Room_leading) .none kV_Room_leading dc_Room_leading pm_Room_leading an_Room_leading cd_Room_leading ct_Room_leading), sl_Room_leading⟩)
    (c_Room_leading_ : PySem.W.codeIn K cd_Room_leading "Room.leading" = true)
    (k_Room_leading : PySem.W.keepIn K (.ref f_Room_leading) = true)
    (a_Room_settled_of : PySem.W.findIn K (.ref c_Room) "settled_of" = some (some (.ref f_Room_settled_of)))
    (i_Room_settled_of : PySem.W.isFn K (.ref f_Room_settled_of) = true)
    (l_Room_settled_of : K.lookup f_Room_settled_of = some ⟨oc_Room_settled_of, od_Room_settled_of, .func (PySem.W.fnOf "settled_of" "Room.settled_of" (defArgs s_Room_settled_of) (defBody s_Room_settled_of) (defScope s_Room_settled_of) .none kV_Room_settled_of dc_Room_settled_of pm_Room_settled_of an_Room_settled_of cd_Room_settled_of ct_Room_settled_of), sl_Room_settled_of⟩)
    (c_Room_settled_of_ : PySem.W.codeIn K cd_Room_settled_of "Room.settled_of" = true)
    (k_Room_settled_of : PySem.W.keepIn K (.ref f_Room_settled_of) = true)
    (a__law_cell_at : PySem.W.nsIn K mainGlobals "_law_cell_at" = some (some (.ref f__law_cell_at)))
    (l__law_cell_at : K.lookup f__law_cell_at = some ⟨oc__law_cell_at, od__law_cell_at, .func (PySem.W.fnOf "_law_cell_at" "_law_cell_at" (defArgs s__law_cell_at) (defBody s__law_cell_at) (defScope s__law_cell_at) .none kV__law_cell_at dc__law_cell_at pm__law_cell_at an__law_cell_at cd__law_cell_at ct__law_cell_at), sl__law_cell_at⟩)
    (c__law_cell_at_ : PySem.W.codeIn K cd__law_cell_at "_law_cell_at" = true)
    (k__law_cell_at : PySem.W.keepIn K (.ref f__law_cell_at) = true)
    (a__law_mixed : PySem.W.nsIn K mainGlobals "_law_mixed" = some (some (.ref f__law_mixed)))
    (l__law_mixed : K.lookup f__law_mixed = some ⟨oc__law_mixed, od__law_mixed, .func (PySem.W.fnOf "_law_mixed" "_law_mixed" (defArgs s__law_mixed) (defBody s__law_mixed) (defScope s__law_mixed) .none kV__law_mixed dc__law_mixed pm__law_mixed an__law_mixed cd__law_mixed ct__law_mixed), sl__law_mixed⟩)
    (c__law_mixed_ : PySem.W.codeIn K cd__law_mixed "_law_mixed" = true)
    (k__law_mixed : PySem.W.keepIn K (.ref f__law_mixed) = true)
    (a__law_drawn : PySem.W.nsIn K mainGlobals "_law_drawn" = some (some (.ref f__law_drawn)))
    (l__law_drawn : K.lookup f__law_drawn = some ⟨oc__law_drawn, od__law_drawn, .func (PySem.W.fnOf "_law_drawn" "_law_drawn" (defArgs s__law_drawn) (defBody s__law_drawn) (defScope s__law_drawn) .none kV__law_drawn dc__law_drawn pm__law_drawn an__law_drawn cd__law_drawn ct__law_drawn), sl__law_drawn⟩)
    (c__law_drawn_ : PySem.W.codeIn K cd__law_drawn "_law_drawn" = true)
    (k__law_drawn : PySem.W.keepIn K (.ref f__law_drawn) = true)
    (a__law_asked : PySem.W.nsIn K mainGlobals "_law_asked" = some (some (.ref f__law_asked)))
    (l__law_asked : K.lookup f__law_asked = some ⟨oc__law_asked, od__law_asked, .func (PySem.W.fnOf "_law_asked" "_law_asked" (defArgs s__law_asked) (defBody s__law_asked) (defScope s__law_asked) .none kV__law_asked dc__law_asked pm__law_asked an__law_asked cd__law_asked ct__law_asked), sl__law_asked⟩)
    (c__law_asked_ : PySem.W.codeIn K cd__law_asked "_law_asked" = true)
    (k__law_asked : PySem.W.keepIn K (.ref f__law_asked) = true)
    (a__law_done : PySem.W.nsIn K mainGlobals "_law_done" = some (some (.ref f__law_done)))
    (l__law_done : K.lookup f__law_done = some ⟨oc__law_done, od__law_done, .func (PySem.W.fnOf "_law_done" "_law_done" (defArgs s__law_done) (defBody s__law_done) (defScope s__law_done) .none kV__law_done dc__law_done pm__law_done an__law_done cd__law_done ct__law_done), sl__law_done⟩)
    (c__law_done_ : PySem.W.codeIn K cd__law_done "_law_done" = true)
    (k__law_done : PySem.W.keepIn K (.ref f__law_done) = true)
    (a__law_idle : PySem.W.nsIn K mainGlobals "_law_idle" = some (some (.ref f__law_idle)))
    (l__law_idle : K.lookup f__law_idle = some ⟨oc__law_idle, od__law_idle, .func (PySem.W.fnOf "_law_idle" "_law_idle" (defArgs s__law_idle) (defBody s__law_idle) (defScope s__law_idle) .none kV__law_idle dc__law_idle pm__law_idle an__law_idle cd__law_idle ct__law_idle), sl__law_idle⟩)
    (c__law_idle_ : PySem.W.codeIn K cd__law_idle "_law_idle" = true)
    (k__law_idle : PySem.W.keepIn K (.ref f__law_idle) = true)
    (a__law_kind : PySem.W.nsIn K mainGlobals "_law_kind" = some (some (.ref f__law_kind)))
    (l__law_kind : K.lookup f__law_kind = some ⟨oc__law_kind, od__law_kind, .func (PySem.W.fnOf "_law_kind" "_law_kind" (defArgs s__law_kind) (defBody s__law_kind) (defScope s__law_kind) .none kV__law_kind dc__law_kind pm__law_kind an__law_kind cd__law_kind ct__law_kind), sl__law_kind⟩)
    (c__law_kind_ : PySem.W.codeIn K cd__law_kind "_law_kind" = true)
    (k__law_kind : PySem.W.keepIn K (.ref f__law_kind) = true)
    (a__law_kind_of : PySem.W.nsIn K mainGlobals "_law_kind_of" = some (some (.ref f__law_kind_of)))
    (l__law_kind_of : K.lookup f__law_kind_of = some ⟨oc__law_kind_of, od__law_kind_of, .func (PySem.W.fnOf "_law_kind_of" "_law_kind_of" (defArgs s__law_kind_of) (defBody s__law_kind_of) (defScope s__law_kind_of) .none kV__law_kind_of dc__law_kind_of pm__law_kind_of an__law_kind_of cd__law_kind_of ct__law_kind_of), sl__law_kind_of⟩)
    (c__law_kind_of_ : PySem.W.codeIn K cd__law_kind_of "_law_kind_of" = true)
    (k__law_kind_of : PySem.W.keepIn K (.ref f__law_kind_of) = true)
    (a__law_idle_kind : PySem.W.nsIn K mainGlobals "_law_idle_kind" = some (some (.ref f__law_idle_kind)))
    (l__law_idle_kind : K.lookup f__law_idle_kind = some ⟨oc__law_idle_kind, od__law_idle_kind, .func (PySem.W.fnOf "_law_idle_kind" "_law_idle_kind" (defArgs s__law_idle_kind) (defBody s__law_idle_kind) (defScope s__law_idle_kind) .none kV__law_idle_kind dc__law_idle_kind pm__law_idle_kind an__law_idle_kind cd__law_idle_kind ct__law_idle_kind), sl__law_idle_kind⟩)
    (c__law_idle_kind_ : PySem.W.codeIn K cd__law_idle_kind "_law_idle_kind" = true)
    (k__law_idle_kind : PySem.W.keepIn K (.ref f__law_idle_kind) = true)
    (a__law_caught : PySem.W.nsIn K mainGlobals "_law_caught" = some (some (.ref f__law_caught)))
    (l__law_caught : K.lookup f__law_caught = some ⟨oc__law_caught, od__law_caught, .func (PySem.W.fnOf "_law_caught" "_law_caught" (defArgs s__law_caught) (defBody s__law_caught) (defScope s__law_caught) .none kV__law_caught dc__law_caught pm__law_caught an__law_caught cd__law_caught ct__law_caught), sl__law_caught⟩)
    (c__law_caught_ : PySem.W.codeIn K cd__law_caught "_law_caught" = true)
    (k__law_caught : PySem.W.keepIn K (.ref f__law_caught) = true)
    (a__law_no_room : PySem.W.nsIn K mainGlobals "_law_no_room" = some (some (.ref f__law_no_room)))
    (l__law_no_room : K.lookup f__law_no_room = some ⟨oc__law_no_room, od__law_no_room, .func (PySem.W.fnOf "_law_no_room" "_law_no_room" (defArgs s__law_no_room) (defBody s__law_no_room) (defScope s__law_no_room) .none kV__law_no_room dc__law_no_room pm__law_no_room an__law_no_room cd__law_no_room ct__law_no_room), sl__law_no_room⟩)
    (c__law_no_room_ : PySem.W.codeIn K cd__law_no_room "_law_no_room" = true)
    (k__law_no_room : PySem.W.keepIn K (.ref f__law_no_room) = true)
    (a__law_all_of : PySem.W.nsIn K mainGlobals "_law_all_of" = some (some (.ref f__law_all_of)))
    (l__law_all_of : K.lookup f__law_all_of = some ⟨oc__law_all_of, od__law_all_of, .func (PySem.W.fnOf "_law_all_of" "_law_all_of" (defArgs s__law_all_of) (defBody s__law_all_of) (defScope s__law_all_of) .none kV__law_all_of dc__law_all_of pm__law_all_of an__law_all_of cd__law_all_of ct__law_all_of), sl__law_all_of⟩)
    (c__law_all_of_ : PySem.W.codeIn K cd__law_all_of "_law_all_of" = true)
    (k__law_all_of : PySem.W.keepIn K (.ref f__law_all_of) = true)
    (a__law_led : PySem.W.nsIn K mainGlobals "_law_led" = some (some (.ref f__law_led)))
    (l__law_led : K.lookup f__law_led = some ⟨oc__law_led, od__law_led, .func (PySem.W.fnOf "_law_led" "_law_led" (defArgs s__law_led) (defBody s__law_led) (defScope s__law_led) .none kV__law_led dc__law_led pm__law_led an__law_led cd__law_led ct__law_led), sl__law_led⟩)
    (c__law_led_ : PySem.W.codeIn K cd__law_led "_law_led" = true)
    (k__law_led : PySem.W.keepIn K (.ref f__law_led) = true)
    (a__law_leads_on : PySem.W.nsIn K mainGlobals "_law_leads_on" = some (some (.ref f__law_leads_on)))
    (l__law_leads_on : K.lookup f__law_leads_on = some ⟨oc__law_leads_on, od__law_leads_on, .func (PySem.W.fnOf "_law_leads_on" "_law_leads_on" (defArgs s__law_leads_on) (defBody s__law_leads_on) (defScope s__law_leads_on) .none kV__law_leads_on dc__law_leads_on pm__law_leads_on an__law_leads_on cd__law_leads_on ct__law_leads_on), sl__law_leads_on⟩)
    (c__law_leads_on_ : PySem.W.codeIn K cd__law_leads_on "_law_leads_on" = true)
    (k__law_leads_on : PySem.W.keepIn K (.ref f__law_leads_on) = true)
    (a_law : PySem.W.nsIn K mainGlobals "law" = some (some (.ref f_law)))
    (l_law : K.lookup f_law = some ⟨oc_law, od_law, .func (PySem.W.fnOf "law" "law" (defArgs s_law) (defBody s_law) (defScope s_law) .none kV_law dc_law pm_law an_law cd_law ct_law), sl_law⟩)
    (c_law_ : PySem.W.codeIn K cd_law "law" = true)
    (k_law : PySem.W.keepIn K (.ref f_law) = true)
    (eg_NoKeeper : PySem.W.findIn K (.ref c_NoKeeper) "__getattribute__" = some (some (.builtin "BaseException.__getattribute__")))
    (ek_NoKeeper : PySem.W.findIn K (.ref c_NoKeeper) "__getattr__" = some none)
    (ea_NoKeeper : PySem.W.findIn K (.ref c_NoKeeper) "__class__" = some (some (.builtin "object.__class__")))
    (en_NoKeeper : PySem.W.specialIn K (.builtin "object.__class__") "__get__" = some (some (.builtin "getset_descriptor.__get__")))
    (et_NoKeeper : PySem.W.takesIn K (.builtin "object.__class__") = some true)
    (em_NoKeeper : PySem.W.mroIn K c_NoKeeper (.type "object") = some true)
    (eg_NoRoom : PySem.W.findIn K (.ref c_NoRoom) "__getattribute__" = some (some (.builtin "BaseException.__getattribute__")))
    (ek_NoRoom : PySem.W.findIn K (.ref c_NoRoom) "__getattr__" = some none)
    (ea_NoRoom : PySem.W.findIn K (.ref c_NoRoom) "__class__" = some (some (.builtin "object.__class__")))
    (en_NoRoom : PySem.W.specialIn K (.builtin "object.__class__") "__get__" = some (some (.builtin "getset_descriptor.__get__")))
    (et_NoRoom : PySem.W.takesIn K (.builtin "object.__class__") = some true)
    (em_NoRoom : PySem.W.mroIn K c_NoRoom (.type "object") = some true)
    (eg_NotLeading : PySem.W.findIn K (.ref c_NotLeading) "__getattribute__" = some (some (.builtin "BaseException.__getattribute__")))
    (ek_NotLeading : PySem.W.findIn K (.ref c_NotLeading) "__getattr__" = some none)
    (ea_NotLeading : PySem.W.findIn K (.ref c_NotLeading) "__class__" = some (some (.builtin "object.__class__")))
    (en_NotLeading : PySem.W.specialIn K (.builtin "object.__class__") "__get__" = some (some (.builtin "getset_descriptor.__get__")))
    (et_NotLeading : PySem.W.takesIn K (.builtin "object.__class__") = some true)
    (em_NotLeading : PySem.W.mroIn K c_NotLeading (.type "object") = some true)
    (ki_NoKeeper_NoKeeper : PySem.W.kitOne K (.ref c_NoKeeper) (.ref c_NoKeeper) = some true)
    (ki_NoKeeper_NotLeading : PySem.W.kitOne K (.ref c_NoKeeper) (.ref c_NotLeading) = some false)
    (ki_NoKeeper_NoRoom : PySem.W.kitOne K (.ref c_NoKeeper) (.ref c_NoRoom) = some false)
    (ki_NoKeeper_OutOfPlace : PySem.W.kitOne K (.ref c_NoKeeper) (.ref c_OutOfPlace) = some false)
    (ki_NoKeeper_ValueError : PySem.W.kitOne K (.ref c_NoKeeper) (.type "ValueError") = some true)
    (ki_NoKeeper_RoomError : PySem.W.kitOne K (.ref c_NoKeeper) (.ref c_RoomError) = some true)
    (ki_NotLeading_NoKeeper : PySem.W.kitOne K (.ref c_NotLeading) (.ref c_NoKeeper) = some false)
    (ki_NotLeading_NotLeading : PySem.W.kitOne K (.ref c_NotLeading) (.ref c_NotLeading) = some true)
    (ki_NotLeading_NoRoom : PySem.W.kitOne K (.ref c_NotLeading) (.ref c_NoRoom) = some false)
    (ki_NotLeading_OutOfPlace : PySem.W.kitOne K (.ref c_NotLeading) (.ref c_OutOfPlace) = some false)
    (ki_NotLeading_ValueError : PySem.W.kitOne K (.ref c_NotLeading) (.type "ValueError") = some true)
    (ki_NotLeading_RoomError : PySem.W.kitOne K (.ref c_NotLeading) (.ref c_RoomError) = some true)
    (ki_NoRoom_NoKeeper : PySem.W.kitOne K (.ref c_NoRoom) (.ref c_NoKeeper) = some false)
    (ki_NoRoom_NotLeading : PySem.W.kitOne K (.ref c_NoRoom) (.ref c_NotLeading) = some false)
    (ki_NoRoom_NoRoom : PySem.W.kitOne K (.ref c_NoRoom) (.ref c_NoRoom) = some true)
    (ki_NoRoom_OutOfPlace : PySem.W.kitOne K (.ref c_NoRoom) (.ref c_OutOfPlace) = some false)
    (ki_NoRoom_ValueError : PySem.W.kitOne K (.ref c_NoRoom) (.type "ValueError") = some true)
    (ki_NoRoom_RoomError : PySem.W.kitOne K (.ref c_NoRoom) (.ref c_RoomError) = some true)
    (z_ValueError : PySem.W.nsIn K mainGlobals "ValueError" = some none)
    (z_abs : PySem.W.nsIn K mainGlobals "abs" = some none)
    (z_bool : PySem.W.nsIn K mainGlobals "bool" = some none)
    (z_int : PySem.W.nsIn K mainGlobals "int" = some none)
    (z_isinstance : PySem.W.nsIn K mainGlobals "isinstance" = some none)
    (z_len : PySem.W.nsIn K mainGlobals "len" = some none)
    (z_list : PySem.W.nsIn K mainGlobals "list" = some none)
    (z_max : PySem.W.nsIn K mainGlobals "max" = some none)
    (z_min : PySem.W.nsIn K mainGlobals "min" = some none)
    (z_range : PySem.W.nsIn K mainGlobals "range" = some none)
    (v_MOST : PySem.W.nsIn K mainGlobals "MOST" = some (some (.int 9 t_MOST))) :
    ∃ fd : FuncData, (∀ (s : Shared) (v : Value), BindsTo s fd ⟨[v], []⟩ [("_law_script", v)]) ∧ ∀ base : Heap, K.In base → base.Ns mainGlobals mg → FnOk l.prog w K mg base CX0 7 fa fd ["_law_script"] (spLaw K) := by
  have e := hfa.symm.trans (PySem.W.mg_of X G a_law)
  cases e
  let T : Tx K mg := {
    c_RoomError := c_RoomError
    c_NoRoom := c_NoRoom
    c_NoKeeper := c_NoKeeper
    c_NotLeading := c_NotLeading
    c_OutOfPlace := c_OutOfPlace
    c_Keeper := c_Keeper
    c_Room := c_Room
    mg_RoomError := PySem.W.mg_of X G aC_RoomError
    x_RoomError := x_RoomError
    kx_RoomError := kx_RoomError
    bx_RoomError := bx_RoomError
    tx_RoomError := tx_RoomError
    sx_RoomError_RoomError := PySem.W.exm_ref bx_RoomError hx_RoomError tx_RoomError sx_RoomError_RoomError
    sx_RoomError_NoRoom := PySem.W.exm_ref bx_NoRoom hx_NoRoom tx_NoRoom sx_RoomError_NoRoom
    sx_RoomError_NoKeeper := PySem.W.exm_ref bx_NoKeeper hx_NoKeeper tx_NoKeeper sx_RoomError_NoKeeper
    sx_RoomError_NotLeading := PySem.W.exm_ref bx_NotLeading hx_NotLeading tx_NotLeading sx_RoomError_NotLeading
    sx_RoomError_OutOfPlace := PySem.W.exm_ref bx_OutOfPlace hx_OutOfPlace tx_OutOfPlace sx_RoomError_OutOfPlace
    mg_NoRoom := PySem.W.mg_of X G aC_NoRoom
    x_NoRoom := x_NoRoom
    kx_NoRoom := kx_NoRoom
    bx_NoRoom := bx_NoRoom
    tx_NoRoom := tx_NoRoom
    sx_NoRoom_RoomError := PySem.W.exm_ref bx_RoomError hx_RoomError tx_RoomError sx_NoRoom_RoomError
    sx_NoRoom_NoRoom := PySem.W.exm_ref bx_NoRoom hx_NoRoom tx_NoRoom sx_NoRoom_NoRoom
    sx_NoRoom_NoKeeper := PySem.W.exm_ref bx_NoKeeper hx_NoKeeper tx_NoKeeper sx_NoRoom_NoKeeper
    sx_NoRoom_NotLeading := PySem.W.exm_ref bx_NotLeading hx_NotLeading tx_NotLeading sx_NoRoom_NotLeading
    sx_NoRoom_OutOfPlace := PySem.W.exm_ref bx_OutOfPlace hx_OutOfPlace tx_OutOfPlace sx_NoRoom_OutOfPlace
    mg_NoKeeper := PySem.W.mg_of X G aC_NoKeeper
    x_NoKeeper := x_NoKeeper
    kx_NoKeeper := kx_NoKeeper
    bx_NoKeeper := bx_NoKeeper
    tx_NoKeeper := tx_NoKeeper
    sx_NoKeeper_RoomError := PySem.W.exm_ref bx_RoomError hx_RoomError tx_RoomError sx_NoKeeper_RoomError
    sx_NoKeeper_NoRoom := PySem.W.exm_ref bx_NoRoom hx_NoRoom tx_NoRoom sx_NoKeeper_NoRoom
    sx_NoKeeper_NoKeeper := PySem.W.exm_ref bx_NoKeeper hx_NoKeeper tx_NoKeeper sx_NoKeeper_NoKeeper
    sx_NoKeeper_NotLeading := PySem.W.exm_ref bx_NotLeading hx_NotLeading tx_NotLeading sx_NoKeeper_NotLeading
    sx_NoKeeper_OutOfPlace := PySem.W.exm_ref bx_OutOfPlace hx_OutOfPlace tx_OutOfPlace sx_NoKeeper_OutOfPlace
    mg_NotLeading := PySem.W.mg_of X G aC_NotLeading
    x_NotLeading := x_NotLeading
    kx_NotLeading := kx_NotLeading
    bx_NotLeading := bx_NotLeading
    tx_NotLeading := tx_NotLeading
    sx_NotLeading_RoomError := PySem.W.exm_ref bx_RoomError hx_RoomError tx_RoomError sx_NotLeading_RoomError
    sx_NotLeading_NoRoom := PySem.W.exm_ref bx_NoRoom hx_NoRoom tx_NoRoom sx_NotLeading_NoRoom
    sx_NotLeading_NoKeeper := PySem.W.exm_ref bx_NoKeeper hx_NoKeeper tx_NoKeeper sx_NotLeading_NoKeeper
    sx_NotLeading_NotLeading := PySem.W.exm_ref bx_NotLeading hx_NotLeading tx_NotLeading sx_NotLeading_NotLeading
    sx_NotLeading_OutOfPlace := PySem.W.exm_ref bx_OutOfPlace hx_OutOfPlace tx_OutOfPlace sx_NotLeading_OutOfPlace
    mg_OutOfPlace := PySem.W.mg_of X G aC_OutOfPlace
    x_OutOfPlace := x_OutOfPlace
    kx_OutOfPlace := kx_OutOfPlace
    bx_OutOfPlace := bx_OutOfPlace
    tx_OutOfPlace := tx_OutOfPlace
    sx_OutOfPlace_RoomError := PySem.W.exm_ref bx_RoomError hx_RoomError tx_RoomError sx_OutOfPlace_RoomError
    sx_OutOfPlace_NoRoom := PySem.W.exm_ref bx_NoRoom hx_NoRoom tx_NoRoom sx_OutOfPlace_NoRoom
    sx_OutOfPlace_NoKeeper := PySem.W.exm_ref bx_NoKeeper hx_NoKeeper tx_NoKeeper sx_OutOfPlace_NoKeeper
    sx_OutOfPlace_NotLeading := PySem.W.exm_ref bx_NotLeading hx_NotLeading tx_NotLeading sx_OutOfPlace_NotLeading
    sx_OutOfPlace_OutOfPlace := PySem.W.exm_ref bx_OutOfPlace hx_OutOfPlace tx_OutOfPlace sx_OutOfPlace_OutOfPlace
    cl_Keeper := ⟨pg_Keeper, hd_Keeper, po_Keeper, sa_Keeper⟩
    mg_Keeper := PySem.W.mg_of X G aC_Keeper
    na_Keeper_term := na_Keeper_term
    na_Keeper_row := na_Keeper_row
    na_Keeper_leads := na_Keeper_leads
    na_Keeper_settled := na_Keeper_settled
    na_Keeper_ahead := na_Keeper_ahead
    na_Keeper_held := na_Keeper_held
    cl_Room := ⟨pg_Room, hd_Room, po_Room, sa_Room⟩
    mg_Room := PySem.W.mg_of X G aC_Room
    na_Room_keepers := na_Room_keepers
    d_last_term := ⟨f_last_term, _, fun_mk (st := s_last_term) l_last_term c_last_term_ k_last_term, (fun_mk (st := s_last_term) l_last_term c_last_term_ k_last_term).binds (ps := ["row"]) (fun _ _ _ _ _ _ us hl => (match us, hl with | [_], _ => rfl)), PySem.W.mg_of X G a_last_term⟩
    d_as_new := ⟨f_as_new, _, fun_mk (st := s_as_new) l_as_new c_as_new_ k_as_new, (fun_mk (st := s_as_new) l_as_new c_as_new_ k_as_new).binds (ps := ["row", "other"]) (fun _ _ _ _ _ _ us hl => (match us, hl with | [_, _], _ => rfl)), PySem.W.mg_of X G a_as_new⟩
    d_agrees := ⟨f_agrees, _, fun_mk (st := s_agrees) l_agrees c_agrees_ k_agrees, (fun_mk (st := s_agrees) l_agrees c_agrees_ k_agrees).binds (ps := ["row", "at", "term"]) (fun _ _ _ _ _ _ us hl => (match us, hl with | [_, _, _], _ => rfl)), PySem.W.mg_of X G a_agrees⟩
    d_filled := ⟨f_filled, _, fun_mk (st := s_filled) l_filled c_filled_ k_filled, (fun_mk (st := s_filled) l_filled c_filled_ k_filled).binds (ps := ["row", "at", "some"]) (fun _ _ _ _ _ _ us hl => (match us, hl with | [_, _, _], _ => rfl)), PySem.W.mg_of X G a_filled⟩
    d_settled_by := ⟨f_settled_by, _, fun_mk (st := s_settled_by) l_settled_by c_settled_by_ k_settled_by, (fun_mk (st := s_settled_by) l_settled_by c_settled_by_ k_settled_by).binds (ps := ["row", "term", "held"]) (fun _ _ _ _ _ _ us hl => (match us, hl with | [_, _, _], _ => rfl)), PySem.W.mg_of X G a_settled_by⟩
    d_Keeper_init := ⟨f_Keeper_init, _, fun_mk (st := s_Keeper_init) l_Keeper_init c_Keeper_init_ k_Keeper_init, (fun_mk (st := s_Keeper_init) l_Keeper_init c_Keeper_init_ k_Keeper_init).binds (ps := ["self", "row"]) (fun _ _ _ _ _ _ us hl => (match us, hl with | [_, _], _ => rfl)), ⟨mk_Keeper, a_Keeper_init, i_Keeper_init, kc_Keeper⟩⟩
    d_Keeper_hear := ⟨f_Keeper_hear, _, fun_mk (st := s_Keeper_hear) l_Keeper_hear c_Keeper_hear_ k_Keeper_hear, (fun_mk (st := s_Keeper_hear) l_Keeper_hear c_Keeper_hear_ k_Keeper_hear).binds (ps := ["self", "term"]) (fun _ _ _ _ _ _ us hl => (match us, hl with | [_, _], _ => rfl)), ⟨a_Keeper_hear, i_Keeper_hear, k_Keeper_hear⟩⟩
    d_Keeper_asked := ⟨f_Keeper_asked, _, fun_mk (st := s_Keeper_asked) l_Keeper_asked c_Keeper_asked_ k_Keeper_asked, (fun_mk (st := s_Keeper_asked) l_Keeper_asked c_Keeper_asked_ k_Keeper_asked).binds (ps := ["self", "term", "row"]) (fun _ _ _ _ _ _ us hl => (match us, hl with | [_, _, _], _ => rfl)), ⟨a_Keeper_asked, i_Keeper_asked, k_Keeper_asked⟩⟩
    d_Keeper_begin := ⟨f_Keeper_begin, _, fun_mk (st := s_Keeper_begin) l_Keeper_begin c_Keeper_begin_ k_Keeper_begin, (fun_mk (st := s_Keeper_begin) l_Keeper_begin c_Keeper_begin_ k_Keeper_begin).binds (ps := ["self", "count"]) (fun _ _ _ _ _ _ us hl => (match us, hl with | [_, _], _ => rfl)), ⟨a_Keeper_begin, i_Keeper_begin, k_Keeper_begin⟩⟩
    d_Room_init := ⟨f_Room_init, _, fun_mk (st := s_Room_init) l_Room_init c_Room_init_ k_Room_init, (fun_mk (st := s_Room_init) l_Room_init c_Room_init_ k_Room_init).binds (ps := ["self", "count"]) (fun _ _ _ _ _ _ us hl => (match us, hl with | [_, _], _ => rfl)), ⟨mk_Room, a_Room_init, i_Room_init, kc_Room⟩⟩
    d_Room_keeper := ⟨f_Room_keeper, _, fun_mk (st := s_Room_keeper) l_Room_keeper c_Room_keeper_ k_Room_keeper, (fun_mk (st := s_Room_keeper) l_Room_keeper c_Room_keeper_ k_Room_keeper).binds (ps := ["self", "k"]) (fun _ _ _ _ _ _ us hl => (match us, hl with | [_, _], _ => rfl)), ⟨a_Room_keeper, i_Room_keeper, k_Room_keeper⟩⟩
    d_Room_leader := ⟨f_Room_leader, _, fun_mk (st := s_Room_leader) l_Room_leader c_Room_leader_ k_Room_leader, (fun_mk (st := s_Room_leader) l_Room_leader c_Room_leader_ k_Room_leader).binds (ps := ["self", "k"]) (fun _ _ _ _ _ _ us hl => (match us, hl with | [_, _], _ => rfl)), ⟨a_Room_leader, i_Room_leader, k_Room_leader⟩⟩
    d_Room_stand := ⟨f_Room_stand, _, fun_mk (st := s_Room_stand) l_Room_stand c_Room_stand_ k_Room_stand, (fun_mk (st := s_Room_stand) l_Room_stand c_Room_stand_ k_Room_stand).binds (ps := ["self", "k", "others"]) (fun _ _ _ _ _ _ us hl => (match us, hl with | [_, _, _], _ => rfl)), ⟨a_Room_stand, i_Room_stand, k_Room_stand⟩⟩
    d_Room_write := ⟨f_Room_write, _, fun_mk (st := s_Room_write) l_Room_write c_Room_write_ k_Room_write, (fun_mk (st := s_Room_write) l_Room_write c_Room_write_ k_Room_write).binds (ps := ["self", "k", "word"]) (fun _ _ _ _ _ _ us hl => (match us, hl with | [_, _, _], _ => rfl)), ⟨a_Room_write, i_Room_write, k_Room_write⟩⟩
    d_Room_hand := ⟨f_Room_hand, _, fun_mk (st := s_Room_hand) l_Room_hand c_Room_hand_ k_Room_hand, (fun_mk (st := s_Room_hand) l_Room_hand c_Room_hand_ k_Room_hand).binds (ps := ["self", "k", "other", "many"]) (fun _ _ _ _ _ _ us hl => (match us, hl with | [_, _, _, _], _ => rfl)), ⟨a_Room_hand, i_Room_hand, k_Room_hand⟩⟩
    d_Room_settle := ⟨f_Room_settle, _, fun_mk (st := s_Room_settle) l_Room_settle c_Room_settle_ k_Room_settle, (fun_mk (st := s_Room_settle) l_Room_settle c_Room_settle_ k_Room_settle).binds (ps := ["self", "k"]) (fun _ _ _ _ _ _ us hl => (match us, hl with | [_, _], _ => rfl)), ⟨a_Room_settle, i_Room_settle, k_Room_settle⟩⟩
    d_Room_rest := ⟨f_Room_rest, _, fun_mk (st := s_Room_rest) l_Room_rest c_Room_rest_ k_Room_rest, (fun_mk (st := s_Room_rest) l_Room_rest c_Room_rest_ k_Room_rest).binds (ps := ["self", "k"]) (fun _ _ _ _ _ _ us hl => (match us, hl with | [_, _], _ => rfl)), ⟨a_Room_rest, i_Room_rest, k_Room_rest⟩⟩
    d_Room_term_of := ⟨f_Room_term_of, _, fun_mk (st := s_Room_term_of) l_Room_term_of c_Room_term_of_ k_Room_term_of, (fun_mk (st := s_Room_term_of) l_Room_term_of c_Room_term_of_ k_Room_term_of).binds (ps := ["self", "k"]) (fun _ _ _ _ _ _ us hl => (match us, hl with | [_, _], _ => rfl)), ⟨a_Room_term_of, i_Room_term_of, k_Room_term_of⟩⟩
    d_Room_row_of := ⟨f_Room_row_of, _, fun_mk (st := s_Room_row_of) l_Room_row_of c_Room_row_of_ k_Room_row_of, (fun_mk (st := s_Room_row_of) l_Room_row_of c_Room_row_of_ k_Room_row_of).binds (ps := ["self", "k"]) (fun _ _ _ _ _ _ us hl => (match us, hl with | [_, _], _ => rfl)), ⟨a_Room_row_of, i_Room_row_of, k_Room_row_of⟩⟩
    d_Room_leading := ⟨f_Room_leading, _, fun_mk (st := s_Room_leading) l_Room_leading c_Room_leading_ k_Room_leading, (fun_mk (st := s_Room_leading) l_Room_leading c_Room_leading_ k_Room_leading).binds (ps := ["self", "k"]) (fun _ _ _ _ _ _ us hl => (match us, hl with | [_, _], _ => rfl)), ⟨a_Room_leading, i_Room_leading, k_Room_leading⟩⟩
    d_Room_settled_of := ⟨f_Room_settled_of, _, fun_mk (st := s_Room_settled_of) l_Room_settled_of c_Room_settled_of_ k_Room_settled_of, (fun_mk (st := s_Room_settled_of) l_Room_settled_of c_Room_settled_of_ k_Room_settled_of).binds (ps := ["self", "k"]) (fun _ _ _ _ _ _ us hl => (match us, hl with | [_, _], _ => rfl)), ⟨a_Room_settled_of, i_Room_settled_of, k_Room_settled_of⟩⟩
    d__law_cell_at := ⟨f__law_cell_at, _, fun_mk (st := s__law_cell_at) l__law_cell_at c__law_cell_at_ k__law_cell_at, (fun_mk (st := s__law_cell_at) l__law_cell_at c__law_cell_at_ k__law_cell_at).binds (ps := ["_law_script", "_law_k"]) (fun _ _ _ _ _ _ us hl => (match us, hl with | [_, _], _ => rfl)), PySem.W.mg_of X G a__law_cell_at⟩
    d__law_mixed := ⟨f__law_mixed, _, fun_mk (st := s__law_mixed) l__law_mixed c__law_mixed_ k__law_mixed, (fun_mk (st := s__law_mixed) l__law_mixed c__law_mixed_ k__law_mixed).binds (ps := ["_law_script", "_law_k"]) (fun _ _ _ _ _ _ us hl => (match us, hl with | [_, _], _ => rfl)), PySem.W.mg_of X G a__law_mixed⟩
    d__law_drawn := ⟨f__law_drawn, _, fun_mk (st := s__law_drawn) l__law_drawn c__law_drawn_ k__law_drawn, (fun_mk (st := s__law_drawn) l__law_drawn c__law_drawn_ k__law_drawn).binds (ps := ["_law_number", "_law_sizes"]) (fun _ _ _ _ _ _ us hl => (match us, hl with | [_, _], _ => rfl)), PySem.W.mg_of X G a__law_drawn⟩
    d__law_asked := ⟨f__law_asked, _, fun_mk (st := s__law_asked) l__law_asked c__law_asked_ k__law_asked, (fun_mk (st := s__law_asked) l__law_asked c__law_asked_ k__law_asked).binds (ps := ["_law_k", "_law_other", "_law_wrong", "_law_place"]) (fun _ _ _ _ _ _ us hl => (match us, hl with | [_, _, _, _], _ => rfl)), PySem.W.mg_of X G a__law_asked⟩
    d__law_done := ⟨f__law_done, _, fun_mk (st := s__law_done) l__law_done c__law_done_ k__law_done, (fun_mk (st := s__law_done) l__law_done c__law_done_ k__law_done).binds (ps := ["_law_room", "_law_way", "_law_k", "_law_other", "_law_wrong"]) (fun _ _ _ _ _ _ us hl => (match us, hl with | [_, _, _, _, _], _ => rfl)), PySem.W.mg_of X G a__law_done⟩
    d__law_idle := ⟨f__law_idle, _, fun_mk (st := s__law_idle) l__law_idle c__law_idle_ k__law_idle, (fun_mk (st := s__law_idle) l__law_idle c__law_idle_ k__law_idle).binds (ps := ["_law_room", "_law_way", "_law_k", "_law_other"]) (fun _ _ _ _ _ _ us hl => (match us, hl with | [_, _, _, _], _ => rfl)), PySem.W.mg_of X G a__law_idle⟩
    d__law_kind := ⟨f__law_kind, _, fun_mk (st := s__law_kind) l__law_kind c__law_kind_ k__law_kind, (fun_mk (st := s__law_kind) l__law_kind c__law_kind_ k__law_kind).binds (ps := ["_law_e"]) (fun _ _ _ _ _ _ us hl => (match us, hl with | [_], _ => rfl)), PySem.W.mg_of X G a__law_kind⟩
    d__law_kind_of := ⟨f__law_kind_of, _, fun_mk (st := s__law_kind_of) l__law_kind_of c__law_kind_of_ k__law_kind_of, (fun_mk (st := s__law_kind_of) l__law_kind_of c__law_kind_of_ k__law_kind_of).binds (ps := ["_law_room", "_law_way", "_law_k", "_law_other", "_law_wrong"]) (fun _ _ _ _ _ _ us hl => (match us, hl with | [_, _, _, _, _], _ => rfl)), PySem.W.mg_of X G a__law_kind_of⟩
    d__law_idle_kind := ⟨f__law_idle_kind, _, fun_mk (st := s__law_idle_kind) l__law_idle_kind c__law_idle_kind_ k__law_idle_kind, (fun_mk (st := s__law_idle_kind) l__law_idle_kind c__law_idle_kind_ k__law_idle_kind).binds (ps := ["_law_room", "_law_way", "_law_k", "_law_other"]) (fun _ _ _ _ _ _ us hl => (match us, hl with | [_, _, _, _], _ => rfl)), PySem.W.mg_of X G a__law_idle_kind⟩
    d__law_caught := ⟨f__law_caught, _, fun_mk (st := s__law_caught) l__law_caught c__law_caught_ k__law_caught, (fun_mk (st := s__law_caught) l__law_caught c__law_caught_ k__law_caught).binds (ps := ["_law_room", "_law_k", "_law_other", "_law_wrong"]) (fun _ _ _ _ _ _ us hl => (match us, hl with | [_, _, _, _], _ => rfl)), PySem.W.mg_of X G a__law_caught⟩
    d__law_no_room := ⟨f__law_no_room, _, fun_mk (st := s__law_no_room) l__law_no_room c__law_no_room_ k__law_no_room, (fun_mk (st := s__law_no_room) l__law_no_room c__law_no_room_ k__law_no_room).binds (ps := ["_law_count"]) (fun _ _ _ _ _ _ us hl => (match us, hl with | [_], _ => rfl)), PySem.W.mg_of X G a__law_no_room⟩
    d__law_all_of := ⟨f__law_all_of, _, fun_mk (st := s__law_all_of) l__law_all_of c__law_all_of_ k__law_all_of, (fun_mk (st := s__law_all_of) l__law_all_of c__law_all_of_ k__law_all_of).binds (ps := ["_law_room", "_law_count"]) (fun _ _ _ _ _ _ us hl => (match us, hl with | [_, _], _ => rfl)), PySem.W.mg_of X G a__law_all_of⟩
    d__law_led := ⟨f__law_led, _, fun_mk (st := s__law_led) l__law_led c__law_led_ k__law_led, (fun_mk (st := s__law_led) l__law_led c__law_led_ k__law_led).binds (ps := ["_law_room", "_law_count", "_law_all_held"]) (fun _ _ _ _ _ _ us hl => (match us, hl with | [_, _, _], _ => rfl)), PySem.W.mg_of X G a__law_led⟩
    d__law_leads_on := ⟨f__law_leads_on, _, fun_mk (st := s__law_leads_on) l__law_leads_on c__law_leads_on_ k__law_leads_on, (fun_mk (st := s__law_leads_on) l__law_leads_on c__law_leads_on_ k__law_leads_on).binds (ps := ["_law_room", "_law_count", "_law_all_held"]) (fun _ _ _ _ _ _ us hl => (match us, hl with | [_, _, _], _ => rfl)), PySem.W.mg_of X G a__law_leads_on⟩
    d_law := ⟨fa, _, fun_mk (st := s_law) l_law c_law_ k_law, (fun_mk (st := s_law) l_law c_law_ k_law).binds (ps := ["_law_script"]) (fun _ _ _ _ _ _ us hl => (match us, hl with | [_], _ => rfl)), PySem.W.mg_of X G a_law⟩
    ec_NoKeeper := ⟨eg_NoKeeper, ek_NoKeeper, bx_NoKeeper, hx_NoKeeper, ea_NoKeeper, en_NoKeeper, et_NoKeeper, em_NoKeeper⟩
    ec_NoRoom := ⟨eg_NoRoom, ek_NoRoom, bx_NoRoom, hx_NoRoom, ea_NoRoom, en_NoRoom, et_NoRoom, em_NoRoom⟩
    ec_NotLeading := ⟨eg_NotLeading, ek_NotLeading, bx_NotLeading, hx_NotLeading, ea_NotLeading, en_NotLeading, et_NotLeading, em_NotLeading⟩
    ki_NoKeeper_NoKeeper := ki_NoKeeper_NoKeeper
    ki_NoKeeper_NotLeading := ki_NoKeeper_NotLeading
    ki_NoKeeper_NoRoom := ki_NoKeeper_NoRoom
    ki_NoKeeper_OutOfPlace := ki_NoKeeper_OutOfPlace
    ki_NoKeeper_ValueError := ki_NoKeeper_ValueError
    ki_NoKeeper_RoomError := ki_NoKeeper_RoomError
    ki_NotLeading_NoKeeper := ki_NotLeading_NoKeeper
    ki_NotLeading_NotLeading := ki_NotLeading_NotLeading
    ki_NotLeading_NoRoom := ki_NotLeading_NoRoom
    ki_NotLeading_OutOfPlace := ki_NotLeading_OutOfPlace
    ki_NotLeading_ValueError := ki_NotLeading_ValueError
    ki_NotLeading_RoomError := ki_NotLeading_RoomError
    ki_NoRoom_NoKeeper := ki_NoRoom_NoKeeper
    ki_NoRoom_NotLeading := ki_NoRoom_NotLeading
    ki_NoRoom_NoRoom := ki_NoRoom_NoRoom
    ki_NoRoom_OutOfPlace := ki_NoRoom_OutOfPlace
    ki_NoRoom_ValueError := ki_NoRoom_ValueError
    ki_NoRoom_RoomError := ki_NoRoom_RoomError
    z_ValueError := PySem.W.mg_none_of X G z_ValueError
    z_abs := PySem.W.mg_none_of X G z_abs
    z_bool := PySem.W.mg_none_of X G z_bool
    z_int := PySem.W.mg_none_of X G z_int
    z_isinstance := PySem.W.mg_none_of X G z_isinstance
    z_len := PySem.W.mg_none_of X G z_len
    z_list := PySem.W.mg_none_of X G z_list
    z_max := PySem.W.mg_none_of X G z_max
    z_min := PySem.W.mg_none_of X G z_min
    z_range := PySem.W.mg_none_of X G z_range
    t_MOST := t_MOST
    v_MOST := PySem.W.mg_of X G v_MOST }
  exact ⟨T.d_law.fd, fun s v => .of_eq rfl, fun base _ _ => spLaw_of (ok_law T)⟩
theorem walk {l : PySem.W.OpenLaw} {q : Program} {loose : List Str} {XP : (Str → Option Value) → Heap → Prop} {YP : World → Heap → Prop} {d : DefRec} {K : Params → PySem.W.Frag} (hn : l.most = some 63) (hdf : d.params.defaults = [])
    (hY : ∀ (w : World) (h : Heap), YP w h → (K w.params).In h)
    (F : ∀ (w : World) (mg : Str → Option Value) (fa : Addr) (h : Heap), (K w.params).In h → h.Ns mainGlobals mg → mg d.name = some (.ref fa) →
      ∃ fd : FuncData, (∀ (s : Shared) (u : Value), BindsTo s fd ⟨[u], []⟩ [("_law_script", u)]) ∧ ∀ base : Heap, (K w.params).In base → base.Ns mainGlobals mg → FnOk l.prog w (K w.params) mg base CX0 7 fa fd ["_law_script"] (spLaw (K w.params))) :
    PySem.W.WalkO q loose XP YP l.row.toRowW d [] (fun f vs => PySem.call f vs) :=
  L2.walk_of (n := 63) (k := 7) (x := "_law_script") (CX := fun _ => CX0) (sp := fun w => spLaw (K w.params)) hn (by decide) hdf ⟨rfl, by decide, by decide⟩ hY F (fun _ _ a ns hl _ hS => ⟨a, ns, rfl, hS, hl, fun _ => rfl⟩) fun _ _ _ _ _ z => z
end My
open PySem PySem.W PyProof.Rows in
set_option maxRecDepth 100000 in
set_option maxHeartbeats 0 in
theorem PySem.Challenge.cw_logreplica_k14_refused_holds : PySem.Challenge.rw_logreplica_k14_refused.Holds := by
  w_on; o_law; k_head; (case hw => w_witness2)
  k_fill
  refine My.walk (l := PySem.Challenge.rw_logreplica_k14_refused) rfl rfl (fun w h Y => PySem.W.kIn_of Y) ?F
  case F =>
    intro w mg fa h KX G hmg
    refine' My.all_mk KX G hmg ?aC_RoomError ?aC_NoRoom ?aC_NoKeeper ?aC_NotLeading ?aC_OutOfPlace ?aC_Keeper ?aC_Room ?x_RoomError ?kx_RoomError ?bx_RoomError ?tx_RoomError ?hx_RoomError ?sx_RoomError_RoomError ?sx_RoomError_NoRoom ?sx_RoomError_NoKeeper ?sx_RoomError_NotLeading ?sx_RoomError_OutOfPlace ?x_NoRoom ?kx_NoRoom ?bx_NoRoom ?tx_NoRoom ?hx_NoRoom ?sx_NoRoom_RoomError ?sx_NoRoom_NoRoom ?sx_NoRoom_NoKeeper ?sx_NoRoom_NotLeading ?sx_NoRoom_OutOfPlace ?x_NoKeeper ?kx_NoKeeper ?bx_NoKeeper ?tx_NoKeeper ?hx_NoKeeper ?sx_NoKeeper_RoomError ?sx_NoKeeper_NoRoom ?sx_NoKeeper_NoKeeper ?sx_NoKeeper_NotLeading ?sx_NoKeeper_OutOfPlace ?x_NotLeading ?kx_NotLeading ?bx_NotLeading ?tx_NotLeading ?hx_NotLeading ?sx_NotLeading_RoomError ?sx_NotLeading_NoRoom ?sx_NotLeading_NoKeeper ?sx_NotLeading_NotLeading ?sx_NotLeading_OutOfPlace ?x_OutOfPlace ?kx_OutOfPlace ?bx_OutOfPlace ?tx_OutOfPlace ?hx_OutOfPlace ?sx_OutOfPlace_RoomError ?sx_OutOfPlace_NoRoom ?sx_OutOfPlace_NoKeeper ?sx_OutOfPlace_NotLeading ?sx_OutOfPlace_OutOfPlace ?pg_Keeper ?hd_Keeper ?po_Keeper ?sa_Keeper ?mk_Keeper ?kc_Keeper ?na_Keeper_term ?na_Keeper_row ?na_Keeper_leads ?na_Keeper_settled ?na_Keeper_ahead ?na_Keeper_held ?pg_Room ?hd_Room ?po_Room ?sa_Room ?mk_Room ?kc_Room ?na_Room_keepers ?a_last_term ?l_last_term ?c_last_term_ ?k_last_term ?a_as_new ?l_as_new ?c_as_new_ ?k_as_new ?a_agrees ?l_agrees ?c_agrees_ ?k_agrees ?a_filled ?l_filled ?c_filled_ ?k_filled ?a_settled_by ?l_settled_by ?c_settled_by_ ?k_settled_by ?a_Keeper_init ?i_Keeper_init ?l_Keeper_init ?c_Keeper_init_ ?k_Keeper_init ?a_Keeper_hear ?i_Keeper_hear ?l_Keeper_hear ?c_Keeper_hear_ ?k_Keeper_hear ?a_Keeper_asked ?i_Keeper_asked ?l_Keeper_asked ?c_Keeper_asked_ ?k_Keeper_asked ?a_Keeper_begin ?i_Keeper_begin ?l_Keeper_begin ?c_Keeper_begin_ ?k_Keeper_begin ?a_Room_init ?i_Room_init ?l_Room_init ?c_Room_init_ ?k_Room_init ?a_Room_keeper ?i_Room_keeper ?l_Room_keeper ?c_Room_keeper_ ?k_Room_keeper ?a_Room_leader ?i_Room_leader ?l_Room_leader ?c_Room_leader_ ?k_Room_leader ?a_Room_stand ?i_Room_stand ?l_Room_stand ?c_Room_stand_ ?k_Room_stand ?a_Room_write ?i_Room_write ?l_Room_write ?c_Room_write_ ?k_Room_write ?a_Room_hand ?i_Room_hand ?l_Room_hand ?c_Room_hand_ ?k_Room_hand ?a_Room_settle ?i_Room_settle ?l_Room_settle ?c_Room_settle_ ?k_Room_settle ?a_Room_rest ?i_Room_rest ?l_Room_rest ?c_Room_rest_ ?k_Room_rest ?a_Room_term_of ?i_Room_term_of ?l_Room_term_of ?c_Room_term_of_ ?k_Room_term_of ?a_Room_row_of ?i_Room_row_of ?l_Room_row_of ?c_Room_row_of_ ?k_Room_row_of ?a_Room_leading ?i_Room_leading ?l_Room_leading ?c_Room_leading_ ?k_Room_leading ?a_Room_settled_of ?i_Room_settled_of ?l_Room_settled_of ?c_Room_settled_of_ ?k_Room_settled_of ?a__law_cell_at ?l__law_cell_at ?c__law_cell_at_ ?k__law_cell_at ?a__law_mixed ?l__law_mixed ?c__law_mixed_ ?k__law_mixed ?a__law_drawn ?l__law_drawn ?c__law_drawn_ ?k__law_drawn ?a__law_asked ?l__law_asked ?c__law_asked_ ?k__law_asked ?a__law_done ?l__law_done ?c__law_done_ ?k__law_done ?a__law_idle ?l__law_idle ?c__law_idle_ ?k__law_idle ?a__law_kind ?l__law_kind ?c__law_kind_ ?k__law_kind ?a__law_kind_of ?l__law_kind_of ?c__law_kind_of_ ?k__law_kind_of ?a__law_idle_kind ?l__law_idle_kind ?c__law_idle_kind_ ?k__law_idle_kind ?a__law_caught ?l__law_caught ?c__law_caught_ ?k__law_caught ?a__law_no_room ?l__law_no_room ?c__law_no_room_ ?k__law_no_room ?a__law_all_of ?l__law_all_of ?c__law_all_of_ ?k__law_all_of ?a__law_led ?l__law_led ?c__law_led_ ?k__law_led ?a__law_leads_on ?l__law_leads_on ?c__law_leads_on_ ?k__law_leads_on ?a_law ?l_law ?c_law_ ?k_law ?eg_NoKeeper ?ek_NoKeeper ?ea_NoKeeper ?en_NoKeeper ?et_NoKeeper ?em_NoKeeper ?eg_NoRoom ?ek_NoRoom ?ea_NoRoom ?en_NoRoom ?et_NoRoom ?em_NoRoom ?eg_NotLeading ?ek_NotLeading ?ea_NotLeading ?en_NotLeading ?et_NotLeading ?em_NotLeading ?ki_NoKeeper_NoKeeper ?ki_NoKeeper_NotLeading ?ki_NoKeeper_NoRoom ?ki_NoKeeper_OutOfPlace ?ki_NoKeeper_ValueError ?ki_NoKeeper_RoomError ?ki_NotLeading_NoKeeper ?ki_NotLeading_NotLeading ?ki_NotLeading_NoRoom ?ki_NotLeading_OutOfPlace ?ki_NotLeading_ValueError ?ki_NotLeading_RoomError ?ki_NoRoom_NoKeeper ?ki_NoRoom_NotLeading ?ki_NoRoom_NoRoom ?ki_NoRoom_OutOfPlace ?ki_NoRoom_ValueError ?ki_NoRoom_RoomError ?z_ValueError ?z_abs ?z_bool ?z_int ?z_isinstance ?z_len ?z_list ?z_max ?z_min ?z_range ?v_MOST
    (case aC_RoomError => k_is)
    (case aC_NoRoom => k_is)
    (case aC_NoKeeper => k_is)
    (case aC_NotLeading => k_is)
    (case aC_OutOfPlace => k_is)
    (case aC_Keeper => k_is)
    (case aC_Room => k_is)
    (case x_RoomError => k_exc)
    (case kx_RoomError => k_is)
    (case bx_RoomError => k_is)
    (case tx_RoomError => k_is)
    (case hx_RoomError => k_is)
    (case sx_RoomError_RoomError => k_is)
    (case sx_RoomError_NoRoom => k_is)
    (case sx_RoomError_NoKeeper => k_is)
    (case sx_RoomError_NotLeading => k_is)
    (case sx_RoomError_OutOfPlace => k_is)
    (case x_NoRoom => k_exc)
    (case kx_NoRoom => k_is)
    (case bx_NoRoom => k_is)
    (case tx_NoRoom => k_is)
    (case hx_NoRoom => k_is)
    (case sx_NoRoom_RoomError => k_is)
    (case sx_NoRoom_NoRoom => k_is)
    (case sx_NoRoom_NoKeeper => k_is)
    (case sx_NoRoom_NotLeading => k_is)
    (case sx_NoRoom_OutOfPlace => k_is)
    (case x_NoKeeper => k_exc)
    (case kx_NoKeeper => k_is)
    (case bx_NoKeeper => k_is)
    (case tx_NoKeeper => k_is)
    (case hx_NoKeeper => k_is)
    (case sx_NoKeeper_RoomError => k_is)
    (case sx_NoKeeper_NoRoom => k_is)
    (case sx_NoKeeper_NoKeeper => k_is)
    (case sx_NoKeeper_NotLeading => k_is)
    (case sx_NoKeeper_OutOfPlace => k_is)
    (case x_NotLeading => k_exc)
    (case kx_NotLeading => k_is)
    (case bx_NotLeading => k_is)
    (case tx_NotLeading => k_is)
    (case hx_NotLeading => k_is)
    (case sx_NotLeading_RoomError => k_is)
    (case sx_NotLeading_NoRoom => k_is)
    (case sx_NotLeading_NoKeeper => k_is)
    (case sx_NotLeading_NotLeading => k_is)
    (case sx_NotLeading_OutOfPlace => k_is)
    (case x_OutOfPlace => k_exc)
    (case kx_OutOfPlace => k_is)
    (case bx_OutOfPlace => k_is)
    (case tx_OutOfPlace => k_is)
    (case hx_OutOfPlace => k_is)
    (case sx_OutOfPlace_RoomError => k_is)
    (case sx_OutOfPlace_NoRoom => k_is)
    (case sx_OutOfPlace_NoKeeper => k_is)
    (case sx_OutOfPlace_NotLeading => k_is)
    (case sx_OutOfPlace_OutOfPlace => k_is)
    (case pg_Keeper => k_is)
    (case hd_Keeper => k_is)
    (case po_Keeper => k_is)
    (case sa_Keeper => k_is)
    (case mk_Keeper => k_is)
    (case kc_Keeper => k_is)
    (case na_Keeper_term => k_is)
    (case na_Keeper_row => k_is)
    (case na_Keeper_leads => k_is)
    (case na_Keeper_settled => k_is)
    (case na_Keeper_ahead => k_is)
    (case na_Keeper_held => k_is)
    (case pg_Room => k_is)
    (case hd_Room => k_is)
    (case po_Room => k_is)
    (case sa_Room => k_is)
    (case mk_Room => k_is)
    (case kc_Room => k_is)
    (case na_Room_keepers => k_is)
    (case a_last_term => k_is)
    (case l_last_term => k_is)
    (case c_last_term_ => k_is)
    (case k_last_term => k_is)
    (case a_as_new => k_is)
    (case l_as_new => k_is)
    (case c_as_new_ => k_is)
    (case k_as_new => k_is)
    (case a_agrees => k_is)
    (case l_agrees => k_is)
    (case c_agrees_ => k_is)
    (case k_agrees => k_is)
    (case a_filled => k_is)
    (case l_filled => k_is)
    (case c_filled_ => k_is)
    (case k_filled => k_is)
    (case a_settled_by => k_is)
    (case l_settled_by => k_is)
    (case c_settled_by_ => k_is)
    (case k_settled_by => k_is)
    (case a_Keeper_init => k_is)
    (case i_Keeper_init => k_is)
    (case l_Keeper_init => k_is)
    (case c_Keeper_init_ => k_is)
    (case k_Keeper_init => k_is)
    (case a_Keeper_hear => k_is)
    (case i_Keeper_hear => k_is)
    (case l_Keeper_hear => k_is)
    (case c_Keeper_hear_ => k_is)
    (case k_Keeper_hear => k_is)
    (case a_Keeper_asked => k_is)
    (case i_Keeper_asked => k_is)
    (case l_Keeper_asked => k_is)
    (case c_Keeper_asked_ => k_is)
    (case k_Keeper_asked => k_is)
    (case a_Keeper_begin => k_is)
    (case i_Keeper_begin => k_is)
    (case l_Keeper_begin => k_is)
    (case c_Keeper_begin_ => k_is)
    (case k_Keeper_begin => k_is)
    (case a_Room_init => k_is)
    (case i_Room_init => k_is)
    (case l_Room_init => k_is)
    (case c_Room_init_ => k_is)
    (case k_Room_init => k_is)
    (case a_Room_keeper => k_is)
    (case i_Room_keeper => k_is)
    (case l_Room_keeper => k_is)
    (case c_Room_keeper_ => k_is)
    (case k_Room_keeper => k_is)
    (case a_Room_leader => k_is)
    (case i_Room_leader => k_is)
    (case l_Room_leader => k_is)
    (case c_Room_leader_ => k_is)
    (case k_Room_leader => k_is)
    (case a_Room_stand => k_is)
    (case i_Room_stand => k_is)
    (case l_Room_stand => k_is)
    (case c_Room_stand_ => k_is)
    (case k_Room_stand => k_is)
    (case a_Room_write => k_is)
    (case i_Room_write => k_is)
    (case l_Room_write => k_is)
    (case c_Room_write_ => k_is)
    (case k_Room_write => k_is)
    (case a_Room_hand => k_is)
    (case i_Room_hand => k_is)
    (case l_Room_hand => k_is)
    (case c_Room_hand_ => k_is)
    (case k_Room_hand => k_is)
    (case a_Room_settle => k_is)
    (case i_Room_settle => k_is)
    (case l_Room_settle => k_is)
    (case c_Room_settle_ => k_is)
    (case k_Room_settle => k_is)
    (case a_Room_rest => k_is)
    (case i_Room_rest => k_is)
    (case l_Room_rest => k_is)
    (case c_Room_rest_ => k_is)
    (case k_Room_rest => k_is)
    (case a_Room_term_of => k_is)
    (case i_Room_term_of => k_is)
    (case l_Room_term_of => k_is)
    (case c_Room_term_of_ => k_is)
    (case k_Room_term_of => k_is)
    (case a_Room_row_of => k_is)
    (case i_Room_row_of => k_is)
    (case l_Room_row_of => k_is)
    (case c_Room_row_of_ => k_is)
    (case k_Room_row_of => k_is)
    (case a_Room_leading => k_is)
    (case i_Room_leading => k_is)
    (case l_Room_leading => k_is)
    (case c_Room_leading_ => k_is)
    (case k_Room_leading => k_is)
    (case a_Room_settled_of => k_is)
    (case i_Room_settled_of => k_is)
    (case l_Room_settled_of => k_is)
    (case c_Room_settled_of_ => k_is)
    (case k_Room_settled_of => k_is)
    (case a__law_cell_at => k_is)
    (case l__law_cell_at => k_is)
    (case c__law_cell_at_ => k_is)
    (case k__law_cell_at => k_is)
    (case a__law_mixed => k_is)
    (case l__law_mixed => k_is)
    (case c__law_mixed_ => k_is)
    (case k__law_mixed => k_is)
    (case a__law_drawn => k_is)
    (case l__law_drawn => k_is)
    (case c__law_drawn_ => k_is)
    (case k__law_drawn => k_is)
    (case a__law_asked => k_is)
    (case l__law_asked => k_is)
    (case c__law_asked_ => k_is)
    (case k__law_asked => k_is)
    (case a__law_done => k_is)
    (case l__law_done => k_is)
    (case c__law_done_ => k_is)
    (case k__law_done => k_is)
    (case a__law_idle => k_is)
    (case l__law_idle => k_is)
    (case c__law_idle_ => k_is)
    (case k__law_idle => k_is)
    (case a__law_kind => k_is)
    (case l__law_kind => k_is)
    (case c__law_kind_ => k_is)
    (case k__law_kind => k_is)
    (case a__law_kind_of => k_is)
    (case l__law_kind_of => k_is)
    (case c__law_kind_of_ => k_is)
    (case k__law_kind_of => k_is)
    (case a__law_idle_kind => k_is)
    (case l__law_idle_kind => k_is)
    (case c__law_idle_kind_ => k_is)
    (case k__law_idle_kind => k_is)
    (case a__law_caught => k_is)
    (case l__law_caught => k_is)
    (case c__law_caught_ => k_is)
    (case k__law_caught => k_is)
    (case a__law_no_room => k_is)
    (case l__law_no_room => k_is)
    (case c__law_no_room_ => k_is)
    (case k__law_no_room => k_is)
    (case a__law_all_of => k_is)
    (case l__law_all_of => k_is)
    (case c__law_all_of_ => k_is)
    (case k__law_all_of => k_is)
    (case a__law_led => k_is)
    (case l__law_led => k_is)
    (case c__law_led_ => k_is)
    (case k__law_led => k_is)
    (case a__law_leads_on => k_is)
    (case l__law_leads_on => k_is)
    (case c__law_leads_on_ => k_is)
    (case k__law_leads_on => k_is)
    (case a_law => k_is)
    (case l_law => k_is)
    (case c_law_ => k_is)
    (case k_law => k_is)
    (case eg_NoKeeper => k_is)
    (case ek_NoKeeper => k_is)
    (case ea_NoKeeper => k_is)
    (case en_NoKeeper => k_is)
    (case et_NoKeeper => k_is)
    (case em_NoKeeper => k_is)
    (case eg_NoRoom => k_is)
    (case ek_NoRoom => k_is)
    (case ea_NoRoom => k_is)
    (case en_NoRoom => k_is)
    (case et_NoRoom => k_is)
    (case em_NoRoom => k_is)
    (case eg_NotLeading => k_is)
    (case ek_NotLeading => k_is)
    (case ea_NotLeading => k_is)
    (case en_NotLeading => k_is)
    (case et_NotLeading => k_is)
    (case em_NotLeading => k_is)
    (case ki_NoKeeper_NoKeeper => kit_is)
    (case ki_NoKeeper_NotLeading => kit_is)
    (case ki_NoKeeper_NoRoom => kit_is)
    (case ki_NoKeeper_OutOfPlace => kit_is)
    (case ki_NoKeeper_ValueError => kit_is)
    (case ki_NoKeeper_RoomError => kit_is)
    (case ki_NotLeading_NoKeeper => kit_is)
    (case ki_NotLeading_NotLeading => kit_is)
    (case ki_NotLeading_NoRoom => kit_is)
    (case ki_NotLeading_OutOfPlace => kit_is)
    (case ki_NotLeading_ValueError => kit_is)
    (case ki_NotLeading_RoomError => kit_is)
    (case ki_NoRoom_NoKeeper => kit_is)
    (case ki_NoRoom_NotLeading => kit_is)
    (case ki_NoRoom_NoRoom => kit_is)
    (case ki_NoRoom_OutOfPlace => kit_is)
    (case ki_NoRoom_ValueError => kit_is)
    (case ki_NoRoom_RoomError => kit_is)
    (case z_ValueError => k_is)
    (case z_abs => k_is)
    (case z_bool => k_is)
    (case z_int => k_is)
    (case z_isinstance => k_is)
    (case z_len => k_is)
    (case z_list => k_is)
    (case z_max => k_is)
    (case z_min => k_is)
    (case z_range => k_is)
    (case v_MOST => k_is)
#print axioms PySem.Challenge.cw_logreplica_k14_refused_holds


