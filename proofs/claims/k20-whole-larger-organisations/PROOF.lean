import PyProof.Rows.All
import Wide.All
import OpenK.AllK
import Wide.FinOn
import HandS.ForMost
import HandS.TupAny
import HandS.Style
import HandS.Walk
import HandS.DictComp
import HandS.Conv
import HandS.Defaults
import HandS.MakeKwOnly
import KE.KStar
import KE.GoesMore
import KE.GoesEnum
import PyProof.Draws
import HandS.Strs
import HandS.Zip
import HandS.Steps
import HandS.More
import HandS.Property
import HandS.HeadHook1
import HandS.Flow
import HandS.HeadHook2
import HandS.HeadHook3
import PySem.Challenge.RW_whoevermay_k20_whole_larger_organisation
import KE.KStateDown
import Lean
import HandS.Ends
import HandS.Head0
import HandS.Head1
import HandS.Head2
import HandS.HeadEnd
import HandS.Codes
import HandS.TryOnly
import HandS.Lambda
set_option Elab.async false
set_option linter.all false
set_option maxRecDepth 100000
/-! ## Dat -/
set_option maxHeartbeats 4000000
/-! Data as trees over the abstract heap; evaluation of expressions to data. -/
namespace WM
open PySem L2

/-! ### data -/
inductive Da where
  | non | bl (b : Bool) | int (i : Int) | str (s : Str)
  | tup (l : List Da) | lst (l : List Da)
  | ins (C : Addr) (fs : List (Str × Da))
  | dic (kvs : List (Str × Da))
  | scr (ns : List Int)

mutual
inductive Is (K : PySem.W.Frag) (B : Hp) : V → Da → Prop
  | non : Is K B .non .non
  | bl (b : Bool) : Is K B (.bl b) (.bl b)
  | int (i : Int) : Is K B (.int i) (.int i)
  | str (s : Str) : Is K B (.str s) (.str s)
  | tup {a : Addr} {vs : List V} {ds : List Da} : B a = some (.tup vs) → IsL K B vs ds → Is K B (.ref a) (.tup ds)
  | lst {a : Addr} {vs : List V} {ds : List Da} : B a = some (.lst vs) → IsL K B vs ds → Is K B (.ref a) (.lst ds)
  | ins {a C dx : Addr} {vs : List (Str × V)} {fs : List (Str × Da)} : B a = some (.ins C dx vs) → IsF K B vs fs → Is K B (.ref a) (.ins C fs)
  | dic {a : Addr} {kvs : List (Key × V)} {fs : List (Str × Da)} : B a = some (.dK kvs) → IsK K B kvs fs → Is K B (.ref a) (.dic fs)
  | scr {a : Addr} {ns : List Int} : SqL K B a (ns.map V.int) → Is K B (.ref a) (.scr ns)
inductive IsL (K : PySem.W.Frag) (B : Hp) : List V → List Da → Prop
  | nil : IsL K B [] []
  | cons {v : V} {d : Da} {vs : List V} {ds : List Da} : Is K B v d → IsL K B vs ds → IsL K B (v :: vs) (d :: ds)
inductive IsF (K : PySem.W.Frag) (B : Hp) : List (Str × V) → List (Str × Da) → Prop
  | nil : IsF K B [] []
  | cons {x : Str} {v : V} {d : Da} {vs : List (Str × V)} {ds : List (Str × Da)} : Is K B v d → IsF K B vs ds → IsF K B ((x, v) :: vs) ((x, d) :: ds)
inductive IsK (K : PySem.W.Frag) (B : Hp) : List (Key × V) → List (Str × Da) → Prop
  | nil : IsK K B [] []
  | cons {x : Str} {v : V} {d : Da} {vs : List (Key × V)} {ds : List (Str × Da)} : Is K B v d → IsK K B vs ds → IsK K B ((.inr x, v) :: vs) ((x, d) :: ds)
end

/-- all that stands in the one stands in the other -/
abbrev Ex (H H' : Hp) : Prop := ∀ a o, H a = some o → H' a = some o
theorem Ex.refl (H : Hp) : Ex H H := fun _ _ h => h
theorem Ex.trans {H H1 H2 : Hp} (a : Ex H H1) (b : Ex H1 H2) : Ex H H2 := fun x o h => b x o (a x o h)
theorem Ex.new {H : Hp} {p : Addr} {o : HO} (h : H p = none) : Ex H (upd H p o) := fun a u e => by
  rw [upd_ne (ne_of_none e h)]
  exact e
theorem Ex.mut {H H' : Hp} {p : Addr} {o : HO} (e : Ex H H') (h : H p = none) : Ex H (upd H' p o) := fun a u ha => by
  rw [upd_ne (ne_of_none ha h)]
  exact e a u ha
theorem Ex.free {H H' : Hp} {p : Addr} (e : Ex H H') (h : H' p = none) : H p = none := by
  cases h1 : H p with
  | none => rfl
  | some o => rw [e p o h1] at h; cases h
theorem ex_l {K : PySem.W.Frag} {H H' : Hp} {a : Addr} {xs : List V} (e : Ex H H') (h : SqL K H a xs) : SqL K H' a xs := by
  rcases h with (h | ⟨o, h⟩) | h
  · exact .inl (.inl (e _ _ h))
  · exact .inl (.inr ⟨o, e _ _ h⟩)
  · exact .inr h
theorem sq_of {K : PySem.W.Frag} {H : Hp} {a : Addr} {xs : List V} (h : H a = some (.lst xs)) : SqL K H a xs := Or.inl (Or.inl h)
theorem st_of {K : PySem.W.Frag} {H : Hp} {a : Addr} {xs : List V} (h : H a = some (.tup xs)) : SqT K H a xs := Or.inl (Or.inl h)
theorem sz_of {n : Nat} (h : n ≤ 100000) : n ≤ sizeLine := Nat.le_trans h (by decide)
theorem sz_lt {n : Nat} (h : n < 100000) : n < sizeLine := Nat.lt_of_lt_of_le h (by decide)

section
variable {K : PySem.W.Frag} {B B' : Hp}
mutual
theorem Is.mono (e : Ex B B') : ∀ {v : V} {d : Da}, Is K B v d → Is K B' v d
  | _, _, .non => .non
  | _, _, .bl b => .bl b
  | _, _, .int i => .int i
  | _, _, .str s => .str s
  | _, _, .tup h r => .tup (e _ _ h) (IsL.mono e r)
  | _, _, .lst h r => .lst (e _ _ h) (IsL.mono e r)
  | _, _, .ins h r => .ins (e _ _ h) (IsF.mono e r)
  | _, _, .dic h r => .dic (e _ _ h) (IsK.mono e r)
  | _, _, .scr h => .scr (ex_l e h)
theorem IsL.mono (e : Ex B B') : ∀ {v : List V} {d : List Da}, IsL K B v d → IsL K B' v d
  | _, _, .nil => .nil
  | _, _, .cons h r => .cons (Is.mono e h) (IsL.mono e r)
theorem IsF.mono (e : Ex B B') : ∀ {v : List (Str × V)} {d : List (Str × Da)}, IsF K B v d → IsF K B' v d
  | _, _, .nil => .nil
  | _, _, .cons h r => .cons (Is.mono e h) (IsF.mono e r)
theorem IsK.mono (e : Ex B B') : ∀ {v : List (Key × V)} {d : List (Str × Da)}, IsK K B v d → IsK K B' v d
  | _, _, .nil => .nil
  | _, _, .cons h r => .cons (Is.mono e h) (IsK.mono e r)
end
theorem IsL.length : ∀ {vs : List V} {ds : List Da}, IsL K B vs ds → vs.length = ds.length
  | _, _, .nil => rfl
  | _, _, .cons _ r => congrArg Nat.succ (IsL.length r)
theorem IsL.get : ∀ {vs : List V} {ds : List Da} {i : Nat} {d : Da}, IsL K B vs ds → ds[i]? = some d → ∃ v, vs[i]? = some v ∧ Is K B v d
  | _, _, _, _, .nil, e => by simp at e
  | _, _, 0, _, .cons h _, e => by
    have e1 : _ = _ := Option.some.inj e
    subst e1
    exact ⟨_, rfl, h⟩
  | _, _, i + 1, d, .cons _ r, e => by
    obtain ⟨v, h1, h2⟩ := IsL.get (i := i) (d := d) r (by simpa using e)
    exact ⟨v, by simpa using h1, h2⟩
theorem IsL.get' : ∀ {vs : List V} {ds : List Da} {i : Nat} {v : V}, IsL K B vs ds → vs[i]? = some v → ∃ d, ds[i]? = some d ∧ Is K B v d
  | _, _, _, _, .nil, e => by simp at e
  | _, _, 0, _, .cons h _, e => by
    have e1 : _ = _ := Option.some.inj e
    subst e1
    exact ⟨_, rfl, h⟩
  | _, _, i + 1, d, .cons _ r, e => by
    obtain ⟨v, h1, h2⟩ := IsL.get' (i := i) (v := d) r (by simpa using e)
    exact ⟨v, by simpa using h1, h2⟩
theorem IsL.append : ∀ {vs us : List V} {ds es : List Da}, IsL K B vs ds → IsL K B us es → IsL K B (vs ++ us) (ds ++ es)
  | _, _, _, _, .nil, s => s
  | _, _, _, _, .cons h r, s => .cons h (IsL.append r s)
theorem IsL.take : ∀ {vs : List V} {ds : List Da} (n : Nat), IsL K B vs ds → IsL K B (vs.take n) (ds.take n)
  | _, _, 0, _ => .nil
  | _, _, _ + 1, .nil => .nil
  | _, _, n + 1, .cons h r => .cons h (IsL.take n r)
theorem IsL.drop : ∀ {vs : List V} {ds : List Da} (n : Nat), IsL K B vs ds → IsL K B (vs.drop n) (ds.drop n)
  | _, _, 0, r => r
  | _, _, _ + 1, .nil => .nil
  | _, _, n + 1, .cons _ r => IsL.drop n r
theorem IsL.rev : ∀ {vs : List V} {ds : List Da}, IsL K B vs ds → IsL K B vs.reverse ds.reverse
  | _, _, .nil => .nil
  | _, _, .cons h r => by
    rw [List.reverse_cons, List.reverse_cons]
    exact (IsL.rev r).append (.cons h .nil)
theorem IsL.set {v : V} {d : Da} (h : Is K B v d) : ∀ {vs : List V} {ds : List Da} (i : Nat), IsL K B vs ds → IsL K B (vs.set i v) (ds.set i d)
  | _, _, _, .nil => .nil
  | _, _, 0, .cons _ r => .cons h r
  | _, _, i + 1, .cons q r => .cons q (IsL.set h i r)
theorem IsF.lookup {f : Str} {d : Da} : ∀ {vs : List (Str × V)} {fs : List (Str × Da)}, IsF K B vs fs → fs.lookup f = some d → ∃ v, vs.lookup f = some v ∧ Is K B v d
  | _, _, .nil, e => by cases e
  | _, _, .cons (x := x) h r, e => by
    rw [List.lookup_cons] at e ⊢
    cases hb : f == x with
    | true =>
      rw [hb] at e
      have e1 := Option.some.inj e
      subst e1
      exact ⟨_, rfl, h⟩
    | false =>
      rw [hb] at e
      exact IsF.lookup r e
theorem IsF.lookup_none {f : Str} : ∀ {vs : List (Str × V)} {fs : List (Str × Da)}, IsF K B vs fs → fs.lookup f = none → vs.lookup f = none
  | _, _, .nil, e => rfl
  | _, _, .cons (x := x) h r, e => by
    rw [List.lookup_cons] at e ⊢
    cases hb : f == x with
    | true => rw [hb] at e; cases e
    | false =>
      rw [hb] at e
      exact IsF.lookup_none r e
theorem IsF.length : ∀ {vs : List (Str × V)} {fs : List (Str × Da)}, IsF K B vs fs → vs.length = fs.length
  | _, _, .nil => rfl
  | _, _, .cons _ r => congrArg Nat.succ (IsF.length r)
/-- a field is stored -/
def putD (f : Str) (d : Da) : List (Str × Da) → List (Str × Da)
  | [] => [(f, d)]
  | (g, e) :: r => if g = f then (g, d) :: r else (g, e) :: putD f d r
theorem IsF.put {f : Str} {v : V} {d : Da} (h : Is K B v d) : ∀ {vs : List (Str × V)} {fs : List (Str × Da)}, IsF K B vs fs → IsF K B (putF f v vs) (putD f d fs)
  | _, _, .nil => .cons h .nil
  | _, _, .cons (x := x) q r => by
    unfold putF putD
    by_cases e : x = f
    · rw [if_pos e, if_pos e]; exact .cons h r
    · rw [if_neg e, if_neg e]; exact .cons q (IsF.put h r)
end
end WM

/-! ## Ev1 -/
set_option maxHeartbeats 4000000
/-! Steps of heaps, environments of slots, evaluation. -/
namespace WM
open PySem L2

/-! ### scalars, thin data -/
def scV : Da → V
  | .bl b => .bl b
  | .int i => .int i
  | .str s => .str s
  | _ => .non
def flatD : Da → Bool
  | .non => true
  | .bl _ => true
  | .int _ => true
  | .str _ => true
  | _ => false
section
variable {K : PySem.W.Frag} {B B' : Hp}
theorem Is.flat {v : V} {d : Da} (f : flatD d = true) (h : Is K B v d) : v = scV d := by
  cases h <;> first | rfl | cases f
theorem Is.sc {d : Da} (f : flatD d = true) : Is K B (scV d) d := by
  cases d with
  | non => exact .non
  | bl b => exact .bl b
  | int i => exact .int i
  | str s => exact .str s
  | _ => cases f
theorem flat_scV {d : Da} (f : flatD d = true) : flatV (scV d) = true := by
  cases d <;> first | rfl | cases f
theorem IsL.flat : ∀ {vs : List V} {ds : List Da}, ds.all flatD = true → IsL K B vs ds → vs = ds.map scV
  | _, _, _, .nil => rfl
  | _, _, f, .cons h r => by
    rw [List.all_cons, Bool.and_eq_true] at f
    rw [List.map_cons, ← IsL.flat f.2 r, ← h.flat f.1]
theorem flat_map : ∀ {ds : List Da}, ds.all flatD = true → (ds.map scV).all flatV = true
  | [], _ => rfl
  | d :: ds, f => by
    rw [List.all_cons, Bool.and_eq_true] at f
    rw [List.map_cons, List.all_cons, flat_scV f.1, flat_map f.2] <;> rfl
theorem Is.str_inv {v : V} {s : Str} (h : Is K B v (.str s)) : v = .str s := by cases h; rfl
theorem Is.int_inv {v : V} {s : Int} (h : Is K B v (.int s)) : v = .int s := by cases h; rfl
theorem Is.bl_inv {v : V} {s : Bool} (h : Is K B v (.bl s)) : v = .bl s := by cases h; rfl
theorem Is.non_inv {v : V} (h : Is K B v .non) : v = .non := by cases h; rfl
theorem Is.tup_inv {v : V} {ds : List Da} (h : Is K B v (.tup ds)) : ∃ a vs, v = .ref a ∧ B a = some (.tup vs) ∧ IsL K B vs ds := by
  cases h with
  | tup h r => exact ⟨_, _, rfl, h, r⟩
theorem Is.lst_inv {v : V} {ds : List Da} (h : Is K B v (.lst ds)) : ∃ a vs, v = .ref a ∧ B a = some (.lst vs) ∧ IsL K B vs ds := by
  cases h with
  | lst h r => exact ⟨_, _, rfl, h, r⟩
theorem Is.ins_inv {v : V} {C : Addr} {fs : List (Str × Da)} (h : Is K B v (.ins C fs)) : ∃ a dx vs, v = .ref a ∧ B a = some (.ins C dx vs) ∧ IsF K B vs fs := by
  cases h with
  | ins h r => exact ⟨_, _, _, rfl, h, r⟩
theorem Is.dic_inv {v : V} {fs : List (Str × Da)} (h : Is K B v (.dic fs)) : ∃ a kvs, v = .ref a ∧ B a = some (.dK kvs) ∧ IsK K B kvs fs := by
  cases h with
  | dic h r => exact ⟨_, _, rfl, h, r⟩
theorem Is.scr_inv {v : V} {ns : List Int} (h : Is K B v (.scr ns)) : ∃ a, v = .ref a ∧ SqL K B a (ns.map V.int) := by
  cases h with
  | scr h => exact ⟨_, rfl, h⟩
end
/-- the tuples alone -/
def tups (B : Hp) : Hp := fun a => match B a with
  | some (.tup x) => some (.tup x)
  | _ => none
theorem tups_some {B : Hp} {a : Addr} {o : HO} (h : tups B a = some o) : ∃ x, o = .tup x ∧ B a = some (.tup x) := by
  unfold tups at h
  cases e : B a with
  | none => rw [e] at h; cases h
  | some u =>
    rw [e] at h
    cases u <;> first | (cases h; exact ⟨_, rfl, rfl⟩) | cases h
theorem tups_of {B : Hp} {a : Addr} {x : List V} (h : B a = some (.tup x)) : tups B a = some (.tup x) := by
  unfold tups
  rw [h]
/-- data that leans on tuples alone -/
def Thin (d : Da) : Prop := ∀ (K : PySem.W.Frag) (B : Hp) (v : V), Is K B v d → Is K (tups B) v d
theorem Thin.flat {d : Da} (f : flatD d = true) : Thin d := fun K B v h => by
  rw [h.flat f]
  exact Is.sc f
theorem Thin.all {K : PySem.W.Frag} {B : Hp} : ∀ {vs : List V} {ds : List Da}, (∀ d ∈ ds, Thin d) → IsL K B vs ds → IsL K (tups B) vs ds
  | _, _, _, .nil => .nil
  | _, _, f, .cons h r => .cons (f _ (List.mem_cons_self ..) K B _ h) (Thin.all (fun d hd => f d (List.mem_cons_of_mem _ hd)) r)
theorem Thin.tup {ds : List Da} (f : ∀ d ∈ ds, Thin d) : Thin (.tup ds) := fun K B v h => by
  obtain ⟨a, vs, rfl, ha, r⟩ := h.tup_inv
  exact .tup (tups_of ha) (Thin.all f r)
theorem Thin.tupF {ds : List Da} (f : ds.all flatD = true) : Thin (.tup ds) := Thin.tup fun d hd => Thin.flat (List.all_eq_true.mp f d hd)

/-! ### a step: heap and base grow -/
structure Step (B H B' H' : Hp) : Prop where
  hh : Ex H H'
  bb : Ex B B'
  bh : Ex B' H'
  nw : ∀ a o, B' a = some o → H a = none ∨ B a = some o
theorem Step.refl {B H : Hp} (e : Ex B H) : Step B H B H := ⟨Ex.refl H, Ex.refl B, e, fun _ _ h => .inr h⟩
theorem Step.trans {B H B1 H1 B2 H2 : Hp} (a : Step B H B1 H1) (b : Step B1 H1 B2 H2) : Step B H B2 H2 :=
  ⟨a.hh.trans b.hh, a.bb.trans b.bb, b.bh, fun x o h => by
    rcases b.nw x o h with q | q
    · exact .inl (a.hh.free q)
    · exact a.nw x o q⟩
theorem Step.laid {B H : Hp} {p : Addr} {o : HO} (e : Ex B H) (h : H p = none) : Step B H (upd B p o) (upd H p o) := by
  have hb : B p = none := e.free h
  refine ⟨Ex.new h, Ex.new hb, fun a u q => ?_, fun a u q => ?_⟩
  · by_cases z : a = p
    · subst z; rw [upd_same] at q ⊢; exact q
    · rw [upd_ne z] at q ⊢; exact e a u q
  · by_cases z : a = p
    · subst z; exact .inl h
    · rw [upd_ne z] at q; exact .inr q
theorem Step.keepN {B H B' H' : Hp} (s : Step B H B' H') {p : Addr} {o : HO} (h : H p = some o) (hb : B p = none) : B' p = none := by
  cases e : B' p with
  | none => rfl
  | some u =>
    rcases s.nw p u e with q | q
    · rw [h] at q; cases q
    · rw [hb] at q; cases q

/-! ### slots -/
inductive Sl where
  | un | dat (d : Da) | own (l : List Da) | obj (p C : Addr) (fs : List (Str × Da))
def isOwn : Sl → Bool
  | .own _ => true
  | .obj _ _ _ => true
  | _ => false
def SlOk (K : PySem.W.Frag) (H0 B H : Hp) (ov : Option V) : Sl → Prop
  | .un => True
  | .dat d => ∃ v, ov = some v ∧ Is K B v d
  | .own l => ∃ p vs, ov = some (.ref p) ∧ H p = some (.lst vs) ∧ IsL K B vs l ∧ B p = none ∧ H0 p = none
  | .obj p C fs => ∃ dx vs, ov = some (.ref p) ∧ H p = some (.ins C dx vs) ∧ IsF K B vs fs ∧ B p = none ∧ H0 p = none
structure Env (K : PySem.W.Frag) (H0 B H : Hp) (σ : L2.St) (Γ : List Sl) : Prop where
  bh : Ex B H
  len : σ.length = Γ.length
  sl : ∀ (i : Nat) (s : Sl) (ov : Option V), Γ[i]? = some s → σ[i]? = some ov → SlOk K H0 B H ov s
  sep : ∀ (i j : Nat) (s t : Sl) (p : Addr), i ≠ j → Γ[i]? = some s → Γ[j]? = some t → isOwn s = true → isOwn t = true → σ[i]? = some (some (.ref p)) → σ[j]? = some (some (.ref p)) → False
section
variable {K : PySem.W.Frag} {H0 B H B' H' : Hp} {σ : L2.St} {Γ : List Sl}
theorem SlOk.step {ov : Option V} {s : Sl} (h : SlOk K H0 B H ov s) (t : Step B H B' H') : SlOk K H0 B' H' ov s := by
  cases s with
  | un => trivial
  | dat d => obtain ⟨v, e, q⟩ := h; exact ⟨v, e, q.mono t.bb⟩
  | own l => obtain ⟨p, vs, e, h1, h2, h3, h4⟩ := h; exact ⟨p, vs, e, t.hh _ _ h1, h2.mono t.bb, t.keepN h1 h3, h4⟩
  | obj p C fs => obtain ⟨dx, vs, e, h1, h2, h3, h4⟩ := h; exact ⟨dx, vs, e, t.hh _ _ h1, h2.mono t.bb, t.keepN h1 h3, h4⟩
theorem Env.step (h : Env K H0 B H σ Γ) (t : Step B H B' H') : Env K H0 B' H' σ Γ :=
  ⟨t.bh, h.len, fun i s ov a b => (h.sl i s ov a b).step t, h.sep⟩
theorem Env.at_ (h : Env K H0 B H σ Γ) {i : Nat} {s : Sl} (e : Γ[i]? = some s) : ∃ ov, σ[i]? = some ov ∧ SlOk K H0 B H ov s := by
  have hi : i < Γ.length := (List.getElem?_eq_some_iff.mp e).1
  have hs : i < σ.length := by rw [h.len]; exact hi
  exact ⟨σ[i], List.getElem?_eq_getElem hs, h.sl i s _ e (List.getElem?_eq_getElem hs)⟩
theorem Env.dat (h : Env K H0 B H σ Γ) {i : Nat} {d : Da} (e : Γ[i]? = some (.dat d)) : ∃ v, σ[i]? = some (some v) ∧ Is K B v d := by
  obtain ⟨ov, h1, v, rfl, h2⟩ := h.at_ e
  exact ⟨v, h1, h2⟩
theorem Env.own (h : Env K H0 B H σ Γ) {i : Nat} {l : List Da} (e : Γ[i]? = some (.own l)) : ∃ p vs, σ[i]? = some (some (.ref p)) ∧ H p = some (.lst vs) ∧ IsL K B vs l ∧ B p = none ∧ H0 p = none := by
  obtain ⟨ov, h1, p, vs, rfl, h2⟩ := h.at_ e
  exact ⟨p, vs, h1, h2⟩
theorem Env.obj (h : Env K H0 B H σ Γ) {i : Nat} {p C : Addr} {fs : List (Str × Da)} (e : Γ[i]? = some (.obj p C fs)) : ∃ dx vs, σ[i]? = some (some (.ref p)) ∧ H p = some (.ins C dx vs) ∧ IsF K B vs fs ∧ B p = none ∧ H0 p = none := by
  obtain ⟨ov, h1, dx, vs, rfl, h2⟩ := h.at_ e
  exact ⟨dx, vs, h1, h2⟩
theorem isOwn_set {i j : Nat} {s t : Sl} (hs : isOwn s = false) (h : (Γ.set i s)[j]? = some t) (ht : isOwn t = true) : j ≠ i ∧ Γ[j]? = some t := by
  by_cases e : i = j
  · subst e
    rw [List.getElem?_set_self'] at h
    cases q : Γ[i]? with
    | none => rw [q] at h; cases h
    | some z =>
      rw [q] at h
      have e1 : s = t := Option.some.inj h
      rw [← e1, hs] at ht
      cases ht
  · rw [List.getElem?_set_ne e] at h
    exact ⟨fun q => e q.symm, h⟩
/-- slot i takes a new value: not owned -/
theorem Env.put (h : Env K H0 B H σ Γ) {i : Nat} {ov : Option V} {s : Sl} (hn : isOwn s = false) (q : SlOk K H0 B H ov s) : Env K H0 B H (σ.set i ov) (Γ.set i s) := by
  refine ⟨h.bh, by rw [List.length_set, List.length_set, h.len], fun j t ow a b => ?_, fun j k t u p hjk a b ot ou c d => ?_⟩
  · by_cases e : i = j
    · subst e
      rw [List.getElem?_set_self'] at a b
      cases qa : Γ[i]? with
      | none => rw [qa] at a; cases a
      | some z =>
        cases qb : σ[i]? with
        | none => rw [qb] at b; cases b
        | some y =>
          rw [qa] at a; rw [qb] at b
          have e1 : s = t := Option.some.inj a
          have e2 : ov = ow := Option.some.inj b
          rw [← e1, ← e2]
          exact q
    · rw [List.getElem?_set_ne e] at a b
      exact h.sl j t ow a b
  · obtain ⟨n1, a'⟩ := isOwn_set hn a ot
    obtain ⟨n2, b'⟩ := isOwn_set hn b ou
    rw [List.getElem?_set_ne (Ne.symm n1)] at c
    rw [List.getElem?_set_ne (Ne.symm n2)] at d
    exact h.sep j k t u p hjk a' b' ot ou c d
theorem Env.putD (h : Env K H0 B H σ Γ) {i : Nat} {v : V} {d : Da} (q : Is K B v d) : Env K H0 B H (σ.set i (some v)) (Γ.set i (.dat d)) := h.put rfl ⟨v, rfl, q⟩
theorem Env.unset (h : Env K H0 B H σ Γ) {i : Nat} {ov : Option V} : Env K H0 B H (σ.set i ov) (Γ.set i .un) := h.put rfl trivial
/-- slot i takes a new owned object at p, which no other slot owns -/
theorem Env.putO (h : Env K H0 B H σ Γ) {i : Nat} {p : Addr} {s : Sl} (q : SlOk K H0 B H (some (.ref p)) s)
    (hp : ∀ (j : Nat) (t : Sl), Γ[j]? = some t → j ≠ i → isOwn t = true → σ[j]? = some (some (.ref p)) → False) : Env K H0 B H (σ.set i (some (.ref p))) (Γ.set i s) := by
  refine ⟨h.bh, by rw [List.length_set, List.length_set, h.len], fun j t ow a b => ?_, fun j k t u r hjk a b ot ou c d => ?_⟩
  · by_cases e : i = j
    · subst e
      rw [List.getElem?_set_self'] at a b
      cases qa : Γ[i]? with
      | none => rw [qa] at a; cases a
      | some z =>
        cases qb : σ[i]? with
        | none => rw [qb] at b; cases b
        | some y =>
          rw [qa] at a; rw [qb] at b
          have e1 : s = t := Option.some.inj a
          have e2 : some (V.ref p) = ow := Option.some.inj b
          rw [← e1, ← e2]
          exact q
    · rw [List.getElem?_set_ne e] at a b
      exact h.sl j t ow a b
  · by_cases ej : i = j
    · subst ej
      rw [List.getElem?_set_self'] at c
      have er : r = p := by
        cases qb : σ[i]? with
        | none => rw [qb] at c; cases c
        | some y => rw [qb] at c; cases c; rfl
      subst er
      rw [List.getElem?_set_ne hjk] at b d
      exact hp k u b (Ne.symm hjk) ou d
    · by_cases ek : i = k
      · subst ek
        rw [List.getElem?_set_self'] at d
        have er : r = p := by
          cases qb : σ[i]? with
          | none => rw [qb] at d; cases d
          | some y => rw [qb] at d; cases d; rfl
        subst er
        rw [List.getElem?_set_ne ej] at a c
        exact hp j t a (Ne.symm ej) ot c
      · rw [List.getElem?_set_ne ej] at a c
        rw [List.getElem?_set_ne ek] at b d
        exact h.sep j k t u r hjk a b ot ou c d
theorem Env.owned (h : Env K H0 B H σ Γ) {j : Nat} {t : Sl} {p : Addr} (a : Γ[j]? = some t) (ot : isOwn t = true) (c : σ[j]? = some (some (.ref p))) : (∃ o, H p = some o) ∧ B p = none ∧ H0 p = none := by
  have q := h.sl j t _ a c
  cases t with
  | own l => obtain ⟨p', vs, e, h1, _, h3, h4⟩ := q; cases e; exact ⟨⟨_, h1⟩, h3, h4⟩
  | obj p' C fs => obtain ⟨dx, vs, e, h1, _, h3, h4⟩ := q; cases e; exact ⟨⟨_, h1⟩, h3, h4⟩
  | un => cases ot
  | dat d => cases ot
/-- a fresh one -/
theorem Env.putN (h : Env K H0 B H σ Γ) {i : Nat} {p : Addr} {s : Sl} (t : Step B H B' H') (hp : H p = none) (q : SlOk K H0 B' H' (some (.ref p)) s) : Env K H0 B' H' (σ.set i (some (.ref p))) (Γ.set i s) := by
  refine (h.step t).putO q fun j u a _ ou c => ?_
  obtain ⟨⟨o, e⟩, _⟩ := h.owned a ou c
  rw [hp] at e
  cases e
/-- an owned object changes, its slot with it -/
theorem Env.chg (h : Env K H0 B H σ Γ) {i : Nat} {p : Addr} {s s' : Sl} {o : HO} (a : Γ[i]? = some s) (os : isOwn s = true) (c : σ[i]? = some (some (.ref p)))
    (q : SlOk K H0 B (upd H p o) (some (.ref p)) s') : Env K H0 B (upd H p o) σ (Γ.set i s') := by
  obtain ⟨_, hb, h0⟩ := h.owned a os c
  have hi : i < Γ.length := (List.getElem?_eq_some_iff.mp a).1
  refine ⟨h.bh.mut hb, by rw [List.length_set, h.len], fun j t ow a' b' => ?_, fun j k t u r hjk a' b' ot ou c' d' => ?_⟩
  · by_cases e : i = j
    · subst e
      rw [List.getElem?_set_self hi] at a'
      have e1 : s' = t := Option.some.inj a'
      rw [c] at b'
      have e2 : some (V.ref p) = ow := Option.some.inj b'
      rw [← e1, ← e2]
      exact q
    · rw [List.getElem?_set_ne e] at a'
      have z := h.sl j t ow a' b'
      cases t with
      | un => trivial
      | dat d => exact z
      | own l =>
        obtain ⟨p', vs, e', h1, h2, h3, h4⟩ := z
        subst e'
        have np : p' ≠ p := fun w => by subst w; exact h.sep i j s _ p' e a a' os rfl c b'
        exact ⟨p', vs, rfl, by rw [upd_ne np]; exact h1, h2, h3, h4⟩
      | obj p' C fs =>
        obtain ⟨dx, vs, e', h1, h2, h3, h4⟩ := z
        subst e'
        have np : p' ≠ p := fun w => by subst w; exact h.sep i j s _ p' e a a' os rfl c b'
        exact ⟨dx, vs, rfl, by rw [upd_ne np]; exact h1, h2, h3, h4⟩
  · have pick : ∀ (m : Nat) (x : Sl), (Γ.set i s')[m]? = some x → isOwn x = true → ∃ y, Γ[m]? = some y ∧ isOwn y = true := fun m x am ox => by
      by_cases e : i = m
      · subst e; exact ⟨s, a, os⟩
      · rw [List.getElem?_set_ne e] at am; exact ⟨x, am, ox⟩
    obtain ⟨t', a2, o2⟩ := pick j t a' ot
    obtain ⟨u', b2, p2⟩ := pick k u b' ou
    exact h.sep j k t' u' r hjk a2 b2 o2 p2 c' d'
end
end WM

/-! ## Ev2 -/
set_option maxHeartbeats 4000000
namespace WM
open PySem L2

/-! ### what is owned, taken as data -/
def frz1 : Sl → Sl
  | .own l => .dat (.lst l)
  | .obj _ C fs => .dat (.ins C fs)
  | s => s
theorem frz1_no (s : Sl) : isOwn (frz1 s) = false := by cases s <;> rfl
section
variable {K : PySem.W.Frag} {H0 B H B' H' : Hp} {σ : L2.St} {Γ : List Sl}
def OwnAdr (Γ : List Sl) (σ : L2.St) (a : Addr) : Prop := ∃ (i : Nat) (s : Sl), Γ[i]? = some s ∧ isOwn s = true ∧ σ[i]? = some (some (.ref a))
open Classical in
noncomputable def frzB (Γ : List Sl) (σ : L2.St) (B H : Hp) : Hp := fun a => if OwnAdr Γ σ a then H a else B a
theorem frzB_in {a : Addr} (h : OwnAdr Γ σ a) : frzB Γ σ B H a = H a := by unfold frzB; rw [if_pos h]
theorem frzB_out {a : Addr} (h : ¬ OwnAdr Γ σ a) : frzB Γ σ B H a = B a := by unfold frzB; rw [if_neg h]
theorem Env.frzEx (h : Env K H0 B H σ Γ) : Ex B (frzB Γ σ B H) := fun a o e => by
  by_cases q : OwnAdr Γ σ a
  · obtain ⟨i, s, a1, a2, a3⟩ := q
    have z := (h.owned a1 a2 a3).2.1
    rw [e] at z; cases z
  · rw [frzB_out q]; exact e
theorem Env.frzUp (h : Env K H0 B H σ Γ) : Ex (frzB Γ σ B H) H := fun a o e => by
  by_cases q : OwnAdr Γ σ a
  · rw [frzB_in q] at e; exact e
  · rw [frzB_out q] at e; exact h.bh a o e
theorem Env.frz (h : Env K H0 B H σ Γ) : Env K H0 (frzB Γ σ B H) H σ (Γ.map frz1) := by
  refine ⟨h.frzUp, by rw [List.length_map, h.len], fun i s ov a b => ?_, fun i j s t p _ a b os _ _ _ => ?_⟩
  · rw [List.getElem?_map] at a
    cases e : Γ[i]? with
    | none => rw [e] at a; cases a
    | some z =>
      rw [e] at a
      have e1 : frz1 z = s := Option.some.inj a
      subst e1
      have q := h.sl i z ov e b
      cases z with
      | un => trivial
      | dat d => obtain ⟨v, e1, q⟩ := q; exact ⟨v, e1, q.mono h.frzEx⟩
      | own l =>
        obtain ⟨p, vs, e1, h1, h2, h3, h4⟩ := q
        subst e1
        exact ⟨_, rfl, .lst (by rw [frzB_in ⟨i, _, e, rfl, b⟩]; exact h1) (h2.mono h.frzEx)⟩
      | obj p C fs =>
        obtain ⟨dx, vs, e1, h1, h2, h3, h4⟩ := q
        subst e1
        exact ⟨_, rfl, .ins (by rw [frzB_in ⟨i, _, e, rfl, b⟩]; exact h1) (h2.mono h.frzEx)⟩
  · rw [List.getElem?_map] at a
    cases e : Γ[i]? with
    | none => rw [e] at a; cases a
    | some z =>
      rw [e] at a
      have e1 : frz1 z = s := Option.some.inj a
      rw [← e1, frz1_no] at os
      cases os
/-- a step over the frozen base, told over the base itself: the new alone -/
def thaw (B H B' : Hp) : Hp := fun a => match H a with
  | none => B' a
  | some _ => B a
theorem thaw_none {a : Addr} (h : H a = none) : thaw B H B' a = B' a := by unfold thaw; rw [h]
theorem thaw_some {a : Addr} {o : HO} (h : H a = some o) : thaw B H B' a = B a := by unfold thaw; rw [h]
theorem Step.thaw {F : Hp} (e : Ex B H) (f : Ex B F) (s : Step F H B' H') : Step B H (thaw B H B') H' := by
  refine ⟨s.hh, fun a o q => ?_, fun a o q => ?_, fun a o q => ?_⟩
  · rw [thaw_some (e a o q)]; exact q
  · cases z : H a with
    | none => rw [thaw_none z] at q; exact s.bh a o q
    | some u => rw [thaw_some z] at q; exact s.hh a o (e a o q)
  · cases z : H a with
    | none => exact .inl rfl
    | some u => rw [thaw_some z] at q; exact .inr q
theorem Env.thawT (h : Env K H0 B H σ Γ) (s : Step (frzB Γ σ B H) H B' H') : Ex (tups B') (thaw B H B') := fun a o q => by
  obtain ⟨x, rfl, e⟩ := tups_some q
  cases z : H a with
  | none => rw [thaw_none z]; exact e
  | some u =>
    rw [thaw_some z]
    rcases s.nw a _ e with w | w
    · rw [z] at w; cases w
    · by_cases y : OwnAdr Γ σ a
      · obtain ⟨i, t, a1, a2, a3⟩ := y
        have q2 := h.sl i t _ a1 a3
        rw [frzB_in ⟨i, t, a1, a2, a3⟩] at w
        cases t with
        | own l => obtain ⟨p, vs, e1, h1, _⟩ := q2; cases e1; rw [h1] at w; cases w
        | obj p C fs => obtain ⟨dx, vs, e1, h1, _⟩ := q2; cases e1; rw [h1] at w; cases w
        | un => cases a2
        | dat d => cases a2
      · rw [frzB_out y] at w; exact w
end

/-! ### evaluation -/
def Ev (K : PySem.W.Frag) (te : TE) (Γ : List Sl) (d : Da) : Prop :=
  ∀ (H0 B H : Hp) (σ : L2.St), Env K H0 B H σ Γ → ∀ Q : VK, (∀ v B' H', Step B H B' H' → Is K B' v d → Q v H') → te σ H Q
/-- a new list of one's own -/
def EvO (K : PySem.W.Frag) (te : TE) (Γ : List Sl) (l : List Da) : Prop :=
  ∀ (H0 B H : Hp) (σ : L2.St), Env K H0 B H σ Γ → ∀ Q : VK, (∀ p vs B' H', Step B H B' H' → H p = none → B' p = none → H' p = some (.lst vs) → IsL K B' vs l → Q (.ref p) H') → te σ H Q
/-- a new instance of one's own -/
def EvI (K : PySem.W.Frag) (te : TE) (Γ : List Sl) (C : Addr) (fs : List (Str × Da)) : Prop :=
  ∀ (H0 B H : Hp) (σ : L2.St), Env K H0 B H σ Γ → ∀ Q : VK, (∀ p dx vs B' H', Step B H B' H' → H p = none → B' p = none → H' p = some (.ins C dx vs) → IsF K B' vs fs → Q (.ref p) H') → te σ H Q
def EvT (K : PySem.W.Frag) (tt : TT) (Γ : List Sl) (b : Bool) : Prop :=
  ∀ (H0 B H : Hp) (σ : L2.St), Env K H0 B H σ Γ → ∀ Q : Bool → Hp → Prop, (∀ B' H', Step B H B' H' → Q b H') → tt σ H Q
def EvA (K : PySem.W.Frag) (ta : TA) (Γ : List Sl) (ds : List Da) : Prop :=
  ∀ (H0 B H : Hp) (σ : L2.St), Env K H0 B H σ Γ → ∀ Q : List V → Hp → Prop, (∀ vs B' H', Step B H B' H' → IsL K B' vs ds → Q vs H') → ta σ H Q
def EvP (K : PySem.W.Frag) (to : TO) (Γ : List Sl) (o : Option Int) : Prop :=
  ∀ (H0 B H : Hp) (σ : L2.St), Env K H0 B H σ Γ → ∀ Q : Option Int → Hp → Prop, (∀ B' H', Step B H B' H' → Q o H') → to σ H Q
/-- an operation on values; a call on values -/
def RV (K : PySem.W.Frag) (r : R2) (x y z : Da) : Prop :=
  ∀ (B H : Hp) (v u : V), Ex B H → Is K B v x → Is K B u y → ∀ Q : VK, (∀ w B' H', Step B H B' H' → Is K B' w z → Q w H') → r v u H Q
def RC (K : PySem.W.Frag) (r : List V → Hp → VK → Prop) (xs : List Da) (z : Da) : Prop :=
  ∀ (B H : Hp) (vs : List V), Ex B H → IsL K B vs xs → ∀ Q : VK, (∀ w B' H', Step B H B' H' → Is K B' w z → Q w H') → r vs H Q
section
variable {K : PySem.W.Frag} {Γ : List Sl} {ta tb te tx : TE} {t u : TT} {x y z d : Da} {r : R2}
theorem EvO.ev {l : List Da} (h : EvO K te Γ l) : Ev K te Γ (.lst l) := fun H0 B H σ e Q q =>
  h H0 B H σ e Q fun p vs B' H' s hp hb hv r => by
    have bh : Ex (upd B' p (.lst vs)) H' := fun a o w => by
      by_cases z : a = p
      · subst z; rw [upd_same] at w; rw [hv]; exact w
      · rw [upd_ne z] at w; exact s.bh a o w
    refine q _ (upd B' p (.lst vs)) H' ⟨s.hh, s.bb.trans (Ex.new hb), bh, fun a o w => ?_⟩ (.lst upd_same (r.mono (Ex.new hb)))
    by_cases z : a = p
    · subst z; exact .inl hp
    · rw [upd_ne z] at w; exact s.nw a o w
theorem EvI.ev {C : Addr} {fs : List (Str × Da)} (h : EvI K te Γ C fs) : Ev K te Γ (.ins C fs) := fun H0 B H σ e Q q =>
  h H0 B H σ e Q fun p dx vs B' H' s hp hb hv r => by
    have bh : Ex (upd B' p (.ins C dx vs)) H' := fun a o w => by
      by_cases z : a = p
      · subst z; rw [upd_same] at w; rw [hv]; exact w
      · rw [upd_ne z] at w; exact s.bh a o w
    refine q _ (upd B' p (.ins C dx vs)) H' ⟨s.hh, s.bb.trans (Ex.new hb), bh, fun a o w => ?_⟩ (.ins upd_same (r.mono (Ex.new hb)))
    by_cases z : a = p
    · subst z; exact .inl hp
    · rw [upd_ne z] at w; exact s.nw a o w
/-- what is owned may be read on the way -/
theorem ev_frz (h : Ev K te (Γ.map frz1) d) (th : Thin d) : Ev K te Γ d := fun H0 B H σ e Q q =>
  h H0 (frzB Γ σ B H) H σ e.frz Q fun v B' H' s hv => q v _ H' (Step.thaw e.bh e.frzEx s) ((th K B' v hv).mono (e.thawT s))
theorem evt_frz {b : Bool} (h : EvT K t (Γ.map frz1) b) : EvT K t Γ b := fun H0 B H σ e Q q =>
  h H0 (frzB Γ σ B H) H σ e.frz Q fun B' H' s => q _ H' (Step.thaw e.bh e.frzEx s)
theorem ev_is {w : Da} (h : Ev K te Γ d) (e : d = w) : Ev K te Γ w := e ▸ h
theorem evt_is {a b : Bool} (h : EvT K t Γ a) (e : a = b) : EvT K t Γ b := e ▸ h
theorem evo_is {a b : List Da} (h : EvO K te Γ a) (e : a = b) : EvO K te Γ b := e ▸ h
theorem ev_var {i : Nat} (h : Γ[i]? = some (.dat d)) : Ev K (tVar i) Γ d := fun H0 B H σ e Q q => by
  obtain ⟨v, h1, h2⟩ := e.dat h
  exact ⟨v, h1, q v B H (Step.refl e.bh) h2⟩
theorem ev_int {i : Int} : Ev K (tC (.int i)) Γ (.int i) := fun H0 B H σ e Q q => q _ B H (Step.refl e.bh) (.int i)
theorem ev_str {s : Str} : Ev K (tC (.str s)) Γ (.str s) := fun H0 B H σ e Q q => q _ B H (Step.refl e.bh) (.str s)
theorem ev_bl {b : Bool} : Ev K (tC (.bl b)) Γ (.bl b) := fun H0 B H σ e Q q => q _ B H (Step.refl e.bh) (.bl b)
theorem ev_non : Ev K (tC .non) Γ .non := fun H0 B H σ e Q q => q _ B H (Step.refl e.bh) .non
theorem ev_op (ha : Ev K ta Γ x) (hb : Ev K tb Γ y) (hr : RV K r x y z) : Ev K (tOp r ta tb) Γ z := fun H0 B H σ e Q q =>
  ha H0 B H σ e _ fun v B1 H1 s1 h1 => hb H0 B1 H1 σ (e.step s1) _ fun u B2 H2 s2 h2 => hr B2 H2 v u s2.bh (h1.mono s2.bb) h2 Q fun w B3 H3 s3 h3 => q w B3 H3 ((s1.trans s2).trans s3) h3
theorem ea_nil : EvA K tNil Γ [] := fun H0 B H σ e Q q => q _ B H (Step.refl e.bh) .nil
theorem ea_cons {tr : TA} {ds : List Da} (h : Ev K te Γ x) (hr : EvA K tr Γ ds) : EvA K (tCons te tr) Γ (x :: ds) := fun H0 B H σ e Q q =>
  h H0 B H σ e _ fun v B1 H1 s1 h1 => hr H0 B1 H1 σ (e.step s1) _ fun vs B2 H2 s2 h2 => q _ B2 H2 (s1.trans s2) (.cons (h1.mono s2.bb) h2)
theorem ev_tup {ta : TA} {ds : List Da} (h : EvA K ta Γ ds) (hl : ds.length ≤ 100000) : Ev K (tTup ta) Γ (.tup ds) := fun H0 B H σ e Q q =>
  h H0 B H σ e _ fun vs B1 H1 s1 h1 => ⟨by rw [h1.length]; exact sz_of hl, fun p hp => q _ _ _ (s1.trans (Step.laid s1.bh hp)) (.tup upd_same (h1.mono (Ex.new (s1.bh.free hp))))⟩
theorem eo_lst {ta : TA} {ds : List Da} (h : EvA K ta Γ ds) (hl : ds.length ≤ 100000) : EvO K (tLst ta) Γ ds := fun H0 B H σ e Q q =>
  h H0 B H σ e _ fun vs B1 H1 s1 h1 => ⟨by rw [h1.length]; exact sz_of hl, fun p hp => q p vs B1 (upd H1 p (.lst vs))
    (s1.trans ⟨Ex.new hp, Ex.refl _, s1.bh.trans (Ex.new hp), fun _ _ w => .inr w⟩) (s1.hh.free hp) (s1.bh.free hp) upd_same h1⟩
theorem ev_lst {ta : TA} {ds : List Da} (h : EvA K ta Γ ds) (hl : ds.length ≤ 100000) : Ev K (tLst ta) Γ (.lst ds) := (eo_lst h hl).ev
theorem ev_cb {r : List V → Hp → VK → Prop} {ta : TA} {ds : List Da} (h : EvA K ta Γ ds) (hr : RC K r ds z) : Ev K (tCB r ta) Γ z := fun H0 B H σ e Q q =>
  h H0 B H σ e _ fun vs B1 H1 s1 h1 => hr B1 H1 vs s1.bh h1 Q fun w B2 H2 s2 h2 => q w B2 H2 (s1.trans s2) h2
theorem ev_fld {C : Addr} {fs : List (Str × Da)} {f : Str} (h : Ev K ta Γ (.ins C fs)) (hc : Cls K C) (hn : NoAttr K C f) (hl : fs.lookup f = some d) : Ev K (tFld K ta f) Γ d := fun H0 B H σ e Q q =>
  h H0 B H σ e _ fun v B1 H1 s1 h1 => by
    obtain ⟨a, dx, vs, rfl, ha, hf⟩ := h1.ins_inv
    obtain ⟨w, e1, hw⟩ := hf.lookup hl
    exact ⟨a, C, dx, vs, w, rfl, s1.bh _ _ ha, hc, hn, e1, q w B1 H1 s1 hw⟩
/-! tests -/
theorem et_test {b : Bool} (h : Ev K te Γ (.bl b)) : EvT K (tTest te) Γ b := fun H0 B H σ e Q q => h H0 B H σ e _ fun v B1 H1 s1 h1 => ⟨b, h1.bl_inv, q B1 H1 s1⟩
theorem et_B {b : Bool} (h : Ev K te Γ (.bl b)) : EvT K (tB te) Γ b := fun H0 B H σ e Q q => h H0 B H σ e _ fun v B1 H1 s1 h1 => ⟨b, h1.bl_inv, q B1 H1 s1⟩
theorem et_and {a b : Bool} (h1 : EvT K t Γ a) (h2 : a = true → EvT K u Γ b) : EvT K (tAnd t u) Γ (a && b) := fun H0 B H σ e Q q => h1 H0 B H σ e _ fun B1 H1 s1 => by
  cases a with
  | true =>
    show u σ H1 Q
    exact h2 rfl H0 B1 H1 σ (e.step s1) Q fun B2 H2 s2 => q B2 H2 (s1.trans s2)
  | false =>
    show Q false H1
    exact q B1 H1 s1
theorem et_or {a b : Bool} (h1 : EvT K t Γ a) (h2 : a = false → EvT K u Γ b) : EvT K (tOr t u) Γ (a || b) := fun H0 B H σ e Q q => h1 H0 B H σ e _ fun B1 H1 s1 => by
  cases a with
  | true =>
    show Q true H1
    exact q B1 H1 s1
  | false =>
    show u σ H1 Q
    exact h2 rfl H0 B1 H1 σ (e.step s1) Q fun B2 H2 s2 => q B2 H2 (s1.trans s2)
theorem et_not {a : Bool} (h : EvT K t Γ a) : EvT K (tNot t) Γ (!a) := fun H0 B H σ e Q q => h H0 B H σ e _ fun B1 H1 s1 => q B1 H1 s1
theorem ev_and {a b : Bool} (h1 : Ev K ta Γ (.bl a)) (h2 : a = true → Ev K tb Γ (.bl b)) : Ev K (tAndV ta tb) Γ (.bl (a && b)) := fun H0 B H σ e Q q => h1 H0 B H σ e _ fun v B1 H1 s1 hv => ⟨a, hv.bl_inv, by
  cases a with
  | true =>
    show tb σ H1 Q
    exact h2 rfl H0 B1 H1 σ (e.step s1) Q fun w B2 H2 s2 hw => q w B2 H2 (s1.trans s2) hw
  | false =>
    show Q (.bl false) H1
    exact q _ B1 H1 s1 (.bl false)⟩
theorem ev_or {a b : Bool} (h1 : Ev K ta Γ (.bl a)) (h2 : a = false → Ev K tb Γ (.bl b)) : Ev K (tOrV ta tb) Γ (.bl (a || b)) := fun H0 B H σ e Q q => h1 H0 B H σ e _ fun v B1 H1 s1 hv => ⟨a, hv.bl_inv, by
  cases a with
  | true =>
    show Q (.bl true) H1
    exact q _ B1 H1 s1 (.bl true)
  | false =>
    show tb σ H1 Q
    exact h2 rfl H0 B1 H1 σ (e.step s1) Q fun w B2 H2 s2 hw => q w B2 H2 (s1.trans s2) hw⟩
theorem ev_not {a : Bool} (h1 : Ev K ta Γ (.bl a)) : Ev K (tNotV ta) Γ (.bl (!a)) := fun H0 B H σ e Q q => h1 H0 B H σ e _ fun v B1 H1 s1 hv => ⟨a, hv.bl_inv, q _ B1 H1 s1 (.bl _)⟩
theorem ep_none : EvP K tNoPart Γ none := fun H0 B H σ e Q q => q B H (Step.refl e.bh)
theorem ep_some {i : Int} (h : Ev K te Γ (.int i)) : EvP K (tPart te) Γ (some i) := fun H0 B H σ e Q q => h H0 B H σ e _ fun v B1 H1 s1 hv => ⟨i, hv.int_inv, q B1 H1 s1⟩
/-! chains: a r b r' c -/
theorem ev_chain {r r' : R2} {tc : TE} {w : Da} {a b : Bool} (ha : Ev K ta Γ x) (hb : Ev K tb Γ y) (hr : RV K r x y (.bl a)) (hc : a = true → Ev K tc Γ w) (hr' : a = true → RV K r' y w (.bl b)) : Ev K (tChain r r' ta tb tc) Γ (.bl (a && b)) := fun H0 B H σ e Q q =>
  ha H0 B H σ e _ fun v B1 H1 s1 h1 => hb H0 B1 H1 σ (e.step s1) _ fun u B2 H2 s2 h2 => hr B2 H2 v u s2.bh (h1.mono s2.bb) h2 _ fun z B3 H3 s3 h3 => ⟨a, h3.bl_inv, by
    have s13 := (s1.trans s2).trans s3
    cases a with
    | true =>
      show tc σ H3 fun w' H4 => r' u w' H4 Q
      exact hc rfl H0 B3 H3 σ (e.step s13) _ fun w' B4 H4 s4 h4 => hr' rfl B4 H4 u w' s4.bh (h2.mono (s3.bb.trans s4.bb)) h4 Q fun y' B5 H5 s5 h5 => q y' B5 H5 (s13.trans (s4.trans s5)) h5
    | false =>
      show Q (.bl false) H3
      exact q _ B3 H3 s13 (.bl false)⟩
end
end WM

/-! ## Wp1 -/
set_option maxHeartbeats 4000000
namespace WM
open PySem L2

/-! ### promises -/
/-- data in, data out: the heap only grows -/
def spP (K : PySem.W.Frag) (R : List Da → Da → Prop) : Sp := fun vs H Q _ => ∃ (B : Hp) (ds : List Da) (d : Da), Ex B H ∧ IsL K B vs ds ∧ R ds d ∧ ∀ v B' H', Step B H B' H' → Is K B' v d → Q v H'
/-- data in, a new list of the caller's own out -/
def spO (K : PySem.W.Frag) (R : List Da → List Da → Prop) : Sp := fun vs H Q _ => ∃ (B : Hp) (ds l : List Da), Ex B H ∧ IsL K B vs ds ∧ R ds l ∧
  ∀ p us B' H', Step B H B' H' → H p = none → B' p = none → H' p = some (.lst us) → IsL K B' us l → Q (.ref p) H'
/-- __init__ of the class at C -/
def spI (K : PySem.W.Frag) (C : Addr) (R : List Da → List (Str × Da) → Prop) : Sp := fun vs H Q _ => ∃ (B Hs : Hp) (p dx : Addr) (us : List V) (ds : List Da) (fs : List (Str × Da)),
  vs = .ref p :: us ∧ Ex B Hs ∧ Hs p = none ∧ Hs dx = none ∧ dx ≠ p ∧ H = upd (upd Hs dx (.own p)) p (.ins C dx []) ∧ IsL K B us ds ∧ R ds fs ∧
  ∀ dy ws B' H', Step B Hs B' H' → B' p = none → H' p = some (.ins C dy ws) → IsF K B' ws fs → Q .non H'

section
variable {K : PySem.W.Frag} {Γ : List Sl} {te : TE} {ta tk : TA} {d x : Da} {ds es : List Da} {E : XK}
theorem ev_call {R : List Da → Da → Prop} (h : EvA K ta Γ ds) (hr : R ds d) : Ev K (tCall (spP K R) [] E ta) Γ d := fun H0 B H σ e Q q =>
  h H0 B H σ e _ fun vs B1 H1 s1 h1 => by
    rw [List.append_nil]
    exact ⟨B1, ds, d, s1.bh, h1, hr, fun v B2 H2 s2 h2 => q v B2 H2 (s1.trans s2) h2⟩
theorem eo_call {R : List Da → List Da → Prop} {l : List Da} (h : EvA K ta Γ ds) (hr : R ds l) : EvO K (tCall (spO K R) [] E ta) Γ l := fun H0 B H σ e Q q =>
  h H0 B H σ e _ fun vs B1 H1 s1 h1 => by
    rw [List.append_nil]
    exact ⟨B1, ds, l, s1.bh, h1, hr, fun p us B2 H2 s2 hp hb hv h2 => q p us B2 H2 (s1.trans s2) (s1.hh.free hp) hb hv h2⟩
theorem ev_meth {R : List Da → Da → Prop} {C : Addr} {fs : List (Str × Da)} {m : Str} (h : Ev K te Γ (.ins C fs)) (hm : fs.lookup m = none) (ha : EvA K ta Γ ds) (hr : R (.ins C fs :: ds) d) : Ev K (tMeth C m (spP K R) [] E te ta) Γ d := fun H0 B H σ e Q q =>
  h H0 B H σ e _ fun v B1 H1 s1 h1 => by
    obtain ⟨a, dx, vs, rfl, hv, hf⟩ := h1.ins_inv
    refine ⟨a, dx, vs, rfl, s1.bh _ _ hv, hf.lookup_none hm, ha H0 B1 H1 σ (e.step s1) _ fun us B2 H2 s2 h2 => ?_⟩
    rw [List.append_nil]
    exact ⟨B2, _, d, s2.bh, .cons (h1.mono s2.bb) h2, hr, fun w B3 H3 s3 h3 => q w B3 H3 ((s1.trans s2).trans s3) h3⟩
theorem step_made {B H : Hp} {C p dx : Addr} {dy : Addr} (e : Ex B H) (hp : H p = none) (hd : H dx = none) (hn : dx ≠ p) : Step B H B (upd (upd H dx (.own p)) p (.ins C dx [])) :=
  ⟨(Ex.new hd).mut hp, Ex.refl B, (e.trans (Ex.new hd)).mut (e.free hp), fun _ _ w => .inr w⟩
/-- C(e, .., k = v, ..) -/
theorem ei_make {R : List Da → List (Str × Da) → Prop} {C : Addr} {n m : Nat} {fs : List (Str × Da)} (h : EvA K ta Γ ds) (hk : EvA K tk Γ es) (hn : ds.length = n) (hm : es.length = m) (hr : R (ds ++ es) fs) :
    EvI K (tMakeK C n m (spI K C R) (fun vs zs => vs ++ zs) E ta tk) Γ C fs := fun H0 B H σ e Q q =>
  h H0 B H σ e _ fun vs B1 H1 s1 h1 => hk H0 B1 H1 σ (e.step s1) _ fun zs B2 H2 s2 h2 => by
    refine ⟨h1.length.trans hn, h2.length.trans hm, fun p dx hp hd hne => ?_⟩
    refine ⟨B2, H2, p, dx, vs ++ zs, ds ++ es, fs, rfl, s2.bh, hp, hd, hne, rfl, (h1.mono s2.bb).append h2, hr, fun dy ws B3 H3 s3 hb hv hf => ⟨rfl, ?_⟩⟩
    exact q p dy ws B3 H3 ((s1.trans s2).trans s3) ((s1.trans s2).hh.free hp) hb hv hf
end

/-! ### statements -/
structure En where
  nx : List Sl → Prop
  rt : Da → Prop
  ro : List Da → Prop := fun _ => False
  bk : List Sl → Prop := fun _ => False
  ct : List Sl → Prop := fun _ => False
structure Ok (K : PySem.W.Frag) (B0 H0 : Hp) (E : En) (D : Ends) : Prop where
  nx : ∀ B H σ Γ, Step B0 H0 B H → Env K H0 B H σ Γ → E.nx Γ → D.nx σ H
  rt : ∀ v B H d, Step B0 H0 B H → Is K B v d → E.rt d → D.rt v H
  ro : ∀ p vs B H l, Step B0 H0 B H → B p = none → H0 p = none → H p = some (.lst vs) → IsL K B vs l → E.ro l → D.rt (.ref p) H
  bk : ∀ B H σ Γ, Step B0 H0 B H → Env K H0 B H σ Γ → E.bk Γ → D.bk σ H
  ct : ∀ B H σ Γ, Step B0 H0 B H → Env K H0 B H σ Γ → E.ct Γ → D.ct σ H
def Wp (K : PySem.W.Frag) (t : TS) (Γ : List Sl) (E : En) : Prop :=
  ∀ (B0 H0 B H : Hp) (σ : L2.St) (D : Ends), Step B0 H0 B H → Env K H0 B H σ Γ → Ok K B0 H0 E D → t D σ H
/-- a target takes data: which slots it sets -/
def Tg (K : PySem.W.Frag) (g : TG) (js : List Nat) (Γ : List Sl) (d : Da) (N : List Sl → Prop) : Prop :=
  ∀ (H0 B H : Hp) (σ : L2.St) (v : V), Env K H0 B H σ Γ → Is K B v d → ∀ Qs : L2.St → Hp → Prop,
    (∀ Γ' σ', N Γ' → Env K H0 B H σ' Γ' → (∀ ws, (∀ j ∈ js, j ∈ ws) → wipe σ' ws = wipe σ ws) → Qs σ' H) → g v σ H Qs
section
variable {K : PySem.W.Frag} {Γ : List Sl} {te ta tb : TE} {t u : TS} {c : TT} {d x : Da} {ds : List Da} {E : En}
theorem Ok.nxt {B0 H0 : Hp} {D : Ends} (ok : Ok K B0 H0 E D) (N : List Sl → Prop) (M : L2.St → Hp → Prop) (h : ∀ B H σ Γ, Step B0 H0 B H → Env K H0 B H σ Γ → N Γ → M σ H) : Ok K B0 H0 { E with nx := N } { D with nx := M } :=
  ⟨h, ok.rt, ok.ro, ok.bk, ok.ct⟩
theorem wp_seq (h : Wp K t Γ { E with nx := fun Γ' => Wp K u Γ' E }) : Wp K (tSeq t u) Γ E := fun B0 H0 B H σ D s e ok =>
  h B0 H0 B H σ { D with nx := u D } s e (ok.nxt _ _ fun B1 H1 σ1 Γ1 s1 e1 hu => hu B0 H0 B1 H1 σ1 D s1 e1 ok)
theorem wp_next (h : E.nx Γ) : Wp K tNext Γ E := fun B0 H0 B H σ D s e ok => ok.nx B H σ Γ s e h
theorem wp_brk (h : E.bk Γ) : Wp K tBreak Γ E := fun B0 H0 B H σ D s e ok => ok.bk B H σ Γ s e h
theorem wp_cont (h : E.ct Γ) : Wp K tCont Γ E := fun B0 H0 B H σ D s e ok => ok.ct B H σ Γ s e h
theorem wp_never (h : False) : Wp K t Γ E := h.elim
theorem wp_frz (h : Wp K t (Γ.map frz1) E) : Wp K t Γ E := fun B0 H0 B H σ D s e ok => by
  refine h B0 H0 (frzB Γ σ B H) H σ D ⟨s.hh, s.bb.trans e.frzEx, e.frzUp, fun a o w => ?_⟩ e.frz ok
  by_cases q : OwnAdr Γ σ a
  · obtain ⟨i, z, a1, a2, a3⟩ := q
    exact .inl (e.owned a1 a2 a3).2.2
  · rw [frzB_out q] at w; exact s.nw a o w
theorem wp_asg {i : Nat} (h : Ev K te Γ d) (k : E.nx (Γ.set i (.dat d))) : Wp K (tAsg te (gName i)) Γ E := fun B0 H0 B H σ D s e ok =>
  h H0 B H σ e _ fun v B1 H1 s1 hv => ok.nx B1 H1 _ _ (s.trans s1) ((e.step s1).putD hv) k
theorem Step.free0 {B0 H0 B H : Hp} (s : Step B0 H0 B H) {p : Addr} (h : H p = none) : H0 p = none := s.hh.free h
theorem wp_asgO {i : Nat} {l : List Da} (h : EvO K te Γ l) (k : E.nx (Γ.set i (.own l))) : Wp K (tAsg te (gName i)) Γ E := fun B0 H0 B H σ D s e ok =>
  h H0 B H σ e _ fun p vs B1 H1 s1 hp hb hv r => ok.nx B1 H1 _ _ (s.trans s1) (e.putN (s := .own l) s1 hp ⟨p, vs, rfl, hv, r, hb, s.hh.free hp⟩) k
theorem wp_asgI {i : Nat} {C : Addr} {fs : List (Str × Da)} (h : EvI K te Γ C fs) (k : ∀ p, E.nx (Γ.set i (.obj p C fs))) : Wp K (tAsg te (gName i)) Γ E := fun B0 H0 B H σ D s e ok =>
  h H0 B H σ e _ fun p dx vs B1 H1 s1 hp hb hv r => ok.nx B1 H1 _ _ (s.trans s1) (e.putN (s := .obj p C fs) s1 hp ⟨dx, vs, rfl, hv, r, hb, s.hh.free hp⟩) (k p)
theorem wp_asgT {js : List Nat} {g : TG} (h : Ev K te Γ d) (hg : Tg K g js Γ d E.nx) : Wp K (tAsg te g) Γ E := fun B0 H0 B H σ D s e ok =>
  h H0 B H σ e _ fun v B1 H1 s1 hv => hg H0 B1 H1 σ v (e.step s1) hv _ fun Γ' σ' n e' _ => ok.nx B1 H1 σ' Γ' (s.trans s1) e' n
theorem wp_ret (h : Ev K te Γ d) (k : E.rt d) : Wp K (tRet te) Γ E := fun B0 H0 B H σ D s e ok =>
  h H0 B H σ e _ fun v B1 H1 s1 hv => ok.rt v B1 H1 d (s.trans s1) hv k
theorem wp_retN (k : E.rt .non) : Wp K (tRet (tC .non)) Γ E := wp_ret ev_non k
/-- return x, x a list of one's own -/
theorem wp_retO {i : Nat} {l : List Da} (h : Γ[i]? = some (.own l)) (k : E.ro l) : Wp K (tRet (tVar i)) Γ E := fun B0 H0 B H σ D s e ok => by
  obtain ⟨p, vs, h1, h2, h3, h4, h5⟩ := e.own h
  exact ⟨_, h1, ok.ro p vs B H l s h4 h5 h2 h3 k⟩
theorem wp_drop (h : Ev K te Γ d) (k : E.nx Γ) : Wp K (tDrop te) Γ E := fun B0 H0 B H σ D s e ok =>
  h H0 B H σ e _ fun v B1 H1 s1 hv => ok.nx B1 H1 σ Γ (s.trans s1) (e.step s1) k
theorem wp_if {b : Bool} (h : EvT K c Γ b) (h1 : b = true → Wp K t Γ E) (h2 : b = false → Wp K u Γ E) : Wp K (tIfS c t u) Γ E := fun B0 H0 B H σ D s e ok =>
  h H0 B H σ e _ fun B1 H1 s1 => by
    cases b with
    | true =>
      show t D σ H1
      exact h1 rfl B0 H0 B1 H1 σ D (s.trans s1) (e.step s1) ok
    | false =>
      show u D σ H1
      exact h2 rfl B0 H0 B1 H1 σ D (s.trans s1) (e.step s1) ok
/-- a step of an owned cell -/
theorem Step.chg {B0 H0 B H : Hp} (s : Step B0 H0 B H) {p : Addr} {o : HO} (h0 : H0 p = none) (hb : B p = none) : Step B0 H0 B (upd H p o) :=
  ⟨s.hh.mut h0, s.bb, s.bh.mut hb, s.nw⟩
/-- xs.append(e), xs a list of one's own -/
theorem wp_app {i : Nat} {l : List Da} (hx : Γ[i]? = some (.own l)) (h : Ev K te Γ d) (hz : l.length < 100000) (k : E.nx (Γ.set i (.own (l ++ [d])))) :
    Wp K (tDrop (tBM K "list" rAppend (tVar i) (tCons te tNil))) Γ E := fun B0 H0 B H σ D s e ok => by
  obtain ⟨p, vs, h1, h2, h3, h4, h5⟩ := e.own hx
  refine ⟨_, h1, Or.inl ⟨rfl, vs, sq_of h2⟩, h H0 B H σ e _ fun v B1 H1 s1 hv => ?_⟩
  have hp := s1.hh _ _ h2
  have hb := s1.keepN h2 h4
  refine ⟨p, vs, v, rfl, rfl, hp, by rw [h3.length]; exact sz_lt hz, ?_⟩
  exact ok.nx B1 _ σ _ ((s.trans s1).chg h5 hb) ((e.step s1).chg (s' := .own (l ++ [d])) hx rfl h1 ⟨p, _, rfl, upd_same, (h3.mono s1.bb).append (.cons hv .nil), hb, h5⟩) k
theorem ixN_nat {n j : Nat} (hj : j < n) : ixN n (j : Int) = some j := by
  unfold ixN
  rw [if_pos (by omega), if_pos (by omega)]
  simp
/-- xs[j] = e, xs a list of one's own -/
theorem wp_setO {i j : Nat} {l : List Da} (hx : Γ[i]? = some (.own l)) (h : Ev K te Γ d) (hj : Ev K tb Γ (.int (j : Int))) (hl : j < l.length) (k : E.nx (Γ.set i (.own (l.set j d)))) :
    Wp K (tAsg te (gSub (tVar i) tb rSetL)) Γ E := fun B0 H0 B H σ D s e ok => by
  obtain ⟨p, vs, h1, h2, h3, h4, h5⟩ := e.own hx
  refine h H0 B H σ e _ fun v B1 H1 s1 hv => ⟨_, h1, hj H0 B1 H1 σ (e.step s1) _ fun w B2 H2 s2 hw => ?_⟩
  have s12 := s1.trans s2
  have hp := s12.hh _ _ h2
  have hb := s12.keepN h2 h4
  rw [hw.int_inv]
  refine ⟨p, vs, (j : Int), j, rfl, rfl, hp, ixN_nat (by rw [h3.length]; exact hl), ?_⟩
  exact ok.nx B2 _ σ _ ((s.trans s12).chg h5 hb) ((e.step s12).chg (s' := .own (l.set j d)) hx rfl h1 ⟨p, _, rfl, upd_same, (h3.mono s12.bb).set (hv.mono s2.bb) j, hb, h5⟩) k
/-- o.f = e, o an instance of one's own -/
theorem wp_fld {i : Nat} {p C : Addr} {fs : List (Str × Da)} {f : Str} (hx : Γ[i]? = some (.obj p C fs)) (h : Ev K te Γ d) (hc : Cls K C) (hn : NoAttr K C f) (hl : fs.length < 1000) (k : E.nx (Γ.set i (.obj p C (putD f d fs)))) :
    Wp K (sFld K (tVar i) te f) Γ E := fun B0 H0 B H σ D s e ok => by
  obtain ⟨dx, vs, h1, h2, h3, h4, h5⟩ := e.obj hx
  refine h H0 B H σ e _ fun v B1 H1 s1 hv => ⟨_, h1, p, C, dx, vs, rfl, s1.hh _ _ h2, hc, hn, by rw [h3.length]; exact hl, ?_⟩
  have hb := s1.keepN h2 h4
  exact ok.nx B1 _ σ _ ((s.trans s1).chg h5 hb) ((e.step s1).chg (s' := .obj p C (putD f d fs)) hx rfl h1 ⟨dx, _, rfl, upd_same, (h3.mono s1.bb).put hv, hb, h5⟩) k
/-! targets -/
theorem wipe_set {σ : L2.St} {j : Nat} {ov : Option V} : ∀ {ws : List Nat}, j ∈ ws → wipe (σ.set j ov) ws = wipe σ ws
  | [], h => by cases h
  | w :: ws, h => by
    show (wipe (σ.set j ov) ws).set w none = (wipe σ ws).set w none
    by_cases hm : j ∈ ws
    · rw [wipe_set hm]
    · have e : w = j := by
        rcases List.mem_cons.mp h with e | e
        · exact e.symm
        · exact absurd e hm
      subst e
      have key : ∀ (ws : List Nat), w ∉ ws → (wipe (σ.set w ov) ws).set w none = (wipe σ ws).set w none := by
        intro ws
        induction ws with
        | nil =>
          intro _
          show (σ.set w ov).set w none = σ.set w none
          rw [List.set_set]
        | cons y r ih =>
          intro hw
          have h1 : w ≠ y := fun e => hw (by rw [e]; exact List.mem_cons_self ..)
          have h2 : w ∉ r := fun e => hw (List.mem_cons_of_mem _ e)
          show ((wipe (σ.set w ov) r).set y none).set w none = ((wipe σ r).set y none).set w none
          rw [List.set_comm _ _ (Ne.symm h1), ih h2, List.set_comm _ _ h1]
      exact key ws hm
theorem tg_name {i : Nat} {N : List Sl → Prop} (h : N (Γ.set i (.dat d))) : Tg K (gName i) [i] Γ d N := fun H0 B H σ v e hv Qs q =>
  q _ _ h (e.putD hv) fun ws hw => wipe_set (hw i (List.mem_cons_self ..))
theorem tg_tup2 {i j : Nat} {x y : Da} {N : List Sl → Prop} (h : N ((Γ.set i (.dat x)).set j (.dat y))) : Tg K (gTup K 2 (gCons (gName i) (gCons (gName j) gNil))) [i, j] Γ (.tup [x, y]) N := fun H0 B H σ v e hv Qs q => by
  obtain ⟨a, vs, rfl, ha, r⟩ := hv.tup_inv
  cases r with
  | cons h1 r => cases r with
    | cons h2 r => cases r with
      | nil =>
        refine ⟨a, _, rfl, st_of (e.bh _ _ ha), rfl, _, _, rfl, _, _, rfl, rfl, ?_⟩
        refine q _ _ h ((e.putD h1).putD h2) fun ws hw => ?_
        rw [wipe_set (hw j (by simp)), wipe_set (hw i (by simp))]
theorem tg_tup3 {i j k : Nat} {x y z : Da} {N : List Sl → Prop} (h : N (((Γ.set i (.dat x)).set j (.dat y)).set k (.dat z))) : Tg K (gTup K 3 (gCons (gName i) (gCons (gName j) (gCons (gName k) gNil)))) [i, j, k] Γ (.tup [x, y, z]) N := fun H0 B H σ v e hv Qs q => by
  obtain ⟨a, vs, rfl, ha, r⟩ := hv.tup_inv
  cases r with
  | cons h1 r => cases r with
    | cons h2 r => cases r with
      | cons h3 r => cases r with
        | nil =>
          refine ⟨a, _, rfl, st_of (e.bh _ _ ha), rfl, _, _, rfl, _, _, rfl, _, _, rfl, rfl, ?_⟩
          refine q _ _ h (((e.putD h1).putD h2).putD h3) fun ws hw => ?_
          rw [wipe_set (hw k (by simp)), wipe_set (hw j (by simp)), wipe_set (hw i (by simp))]
/-! ### what is walked -/
/-- an iterator comes that gives xs -/
def ItD (K : PySem.W.Frag) (wi : TI) (Γ : List Sl) (xs : List Da) : Prop :=
  ∀ (H0 B H : Hp) (σ : L2.St), Env K H0 B H σ Γ → ∀ R : It → Hp → Prop,
    (∀ (J : It) (B1 H1 : Hp) (G : Hp → Prop) (Y : Nat → Hp → V → Hp → Prop), Step B H B1 H1 → Walk J xs.length G Y → (∀ H', Ex B1 H' → G H') →
      (∀ i Hc v H', i < xs.length → Y i Hc v H' → ∀ B', Ex B1 B' → Ex B' Hc → ∃ x B'', xs[i]? = some x ∧ Step B' Hc B'' H' ∧ Is K B'' v x) → R J H1) → wi σ H R
theorem it_list {xs : List Da} (h : Ev K te Γ (.lst xs)) : ItD K (iList K te) Γ xs := fun H0 B H σ e R q =>
  h H0 B H σ e _ fun v B1 H1 s1 hv => by
    obtain ⟨a, vs, rfl, ha, r⟩ := hv.lst_inv
    refine ⟨a, rfl, ⟨vs, sq_of (s1.bh _ _ ha)⟩, q (Itl K a) B1 H1 _ _ s1 (r.length ▸ walk_list (xs := vs)) (fun H' ex => sq_of (ex _ _ ha)) fun i Hc v H' lt y B' b1 b2 => ?_⟩
    obtain ⟨rfl, hy⟩ := y
    obtain ⟨x, hx, hi⟩ := r.get' hy
    exact ⟨x, B', hx, Step.refl b2, hi.mono b1⟩
theorem it_tup {xs : List Da} (h : Ev K te Γ (.tup xs)) : ItD K (iTup K te) Γ xs := fun H0 B H σ e R q =>
  h H0 B H σ e _ fun v B1 H1 s1 hv => by
    obtain ⟨a, vs, rfl, ha, r⟩ := hv.tup_inv
    refine ⟨a, rfl, ⟨vs, st_of (s1.bh _ _ ha)⟩, q (Itt K a) B1 H1 _ _ s1 (r.length ▸ walk_tup (xs := vs)) (fun H' ex => st_of (ex _ _ ha)) fun i Hc v H' lt y B' b1 b2 => ?_⟩
    obtain ⟨rfl, hy⟩ := y
    obtain ⟨x, hx, hi⟩ := r.get' hy
    exact ⟨x, B', hx, Step.refl b2, hi.mono b1⟩
/-- the signs of a text -/
def chars (z : Str) : List Str := z.cps.toList.map fun c => ⟨#[c]⟩
theorem it_str {z : Str} (h : Ev K te Γ (.str z)) : ItD K (iStr te) Γ ((chars z).map .str) := fun H0 B H σ e R q =>
  h H0 B H σ e _ fun v B1 H1 s1 hv => by
    refine ⟨z, hv.str_inv, q (Its z) B1 H1 _ _ s1 (by simpa [chars] using walk_str (z := z)) (fun H' ex => trivial) fun i Hc v H' lt y B' b1 b2 => ?_⟩
    obtain ⟨rfl, c, hc, rfl⟩ := y
    refine ⟨.str ⟨#[c]⟩, B', ?_, Step.refl b2, .str _⟩
    simp [chars, hc]
def rangeD (n : Nat) : List Da := (List.range n).map fun (i : Nat) => Da.int (i : Int)
theorem it_range {ta : TA} {n : Int} (h : EvA K ta Γ [.int n]) (hn : n ≤ 100000) (h0 : 0 ≤ n) : ItD K (iRng1 ta) Γ (rangeD n.toNat) := fun H0 B H σ e R q =>
  h H0 B H σ e _ fun vs B1 H1 s1 hv => by
    cases hv with
    | cons h1 r => cases r with
      | nil =>
        rw [h1.int_inv]
        refine ⟨n, rfl, by omega, by omega, q (Itr 0 n.toNat) B1 H1 _ _ s1 (by simpa [rangeD] using walk_range (lo := 0) (n := n.toNat)) (fun H' ex => trivial) fun i Hc v H' lt y B' b1 b2 => ?_⟩
        obtain ⟨rfl, rfl⟩ := y
        have lt2 : i < n.toNat := by simpa [rangeD] using lt
        refine ⟨.int (i : Int), B', by simp [rangeD, lt2], Step.refl b2, ?_⟩
        exact Is.int _
theorem it_enumL {ta : TA} {xs : List Da} (h : EvA K ta Γ [.lst xs]) : ItD K (iEnum K ta) Γ (xs.zipIdx.map fun p => .tup [.int (p.2 : Int), p.1]) := fun H0 B H σ e R q =>
  h H0 B H σ e _ fun vs B1 H1 s1 hv => by
    cases hv with
    | cons h1 r => cases r with
      | nil =>
        obtain ⟨a, vs, rfl, ha, r⟩ := h1.lst_inv
        refine ⟨a, vs, rfl, sq_of (s1.bh _ _ ha), q (Ite K a) B1 H1 _ _ s1 (by rw [List.length_map, List.length_zipIdx, ← r.length]; exact walk_enum (xs := vs)) (fun H' ex => sq_of (ex _ _ ha)) fun i Hc v H' lt y B' b1 b2 => ?_⟩
        obtain ⟨T, x, y, rfl, hT, rfl, e1, e2⟩ := y
        cases e1
        obtain ⟨d, hd, hi⟩ := r.get' e2
        refine ⟨.tup [.int (i : Int), d], upd B' T (.tup [.int (i : Int), y]), ?_, Step.laid b2 hT, .tup upd_same (.cons (.int _) (.cons (hi.mono (b1.trans (Ex.new (b2.free hT)))) .nil))⟩
        simp [hd]
theorem wp_for {wi : TI} {g : TG} {js : List Nat} {xs : List Da} (hi : ItD K wi Γ xs) (I : Nat → List Sl → Prop) (h0 : I 0 Γ)
    (hs : ∀ i x Γ', xs[i]? = some x → I i Γ' → Tg K g js Γ' x fun Γ2 => Wp K t Γ2 { E with nx := I (i + 1), ct := I (i + 1), bk := E.nx })
    (hd : ∀ Γ', I xs.length Γ' → E.nx Γ') : Wp K (tFor wi g t) Γ E := fun B0 H0 B H σ D s e ok =>
  hi H0 B H σ e _ fun J B1 H1 G Y s1 hw hG hY => by
    have e1 := e.step s1
    have s01 := s.trans s1
    have back : ∀ {B' H'}, Step B1 H0 B' H' → Step B0 H0 B' H' := fun {B' H'} z => ⟨z.hh, s01.bb.trans z.bb, z.bh, fun a o w => by
      rcases z.nw a o w with q | q
      · exact .inl q
      · exact s01.nw a o q⟩
    refine for_it hw (fun i σ' H' => ∃ B' Γ', Step B1 H0 B' H' ∧ Env K H0 B' H' σ' Γ' ∧ I i Γ') ⟨B1, Γ, ⟨s01.hh, Ex.refl B1, s01.bh, fun _ _ w => .inr w⟩, e1, h0⟩ (fun i σ' H' _ ⟨B', Γ', z, _, _⟩ => hG H' (z.bb.trans z.bh)) (fun i v σ' Hc H' lt ⟨B', Γ', z, e', iv⟩ y => ?_)
      (fun σ' H' ⟨B', Γ', z, e', iv⟩ => ok.nx B' H' σ' Γ' (back z) e' (hd Γ' iv))
    obtain ⟨x, B2, hx, s2, hv⟩ := hY i Hc v H' lt y B' z.bb z.bh
    refine hs i x Γ' hx iv H0 B2 H' σ' v (e'.step s2) hv _ fun Γ2 σ2 hb e2 _ => ?_
    refine hb B1 H0 B2 H' σ2 _ ⟨z.hh.trans s2.hh, z.bb.trans s2.bb, s2.bh, fun a o w => ?_⟩ e2 ⟨fun B3 H3 σ3 Γ3 z3 e3 i3 => ⟨B3, Γ3, z3, e3, i3⟩, fun v B3 H3 d z3 => ok.rt v B3 H3 d (back z3), fun p vs B3 H3 l z3 => ok.ro p vs B3 H3 l (back z3), fun B3 H3 σ3 Γ3 z3 e3 n3 => ok.nx B3 H3 σ3 Γ3 (back z3) e3 n3,
      fun B3 H3 σ3 Γ3 z3 e3 i3 => ⟨B3, Γ3, z3, e3, i3⟩⟩
    rcases s2.nw a o w with q | q
    · exact .inl (z.hh.free q)
    · exact z.nw a o q
theorem wp_while (I : Nat → List Sl → Prop) (m0 : Nat) (h0 : I m0 Γ)
    (hs : ∀ m Γ', I m Γ' → ∃ b, EvT K c Γ' b ∧ (b = true → Wp K t Γ' { E with nx := fun Γ2 => ∃ m', m' < m ∧ I m' Γ2, ct := fun Γ2 => ∃ m', m' < m ∧ I m' Γ2, bk := E.nx }) ∧ (b = false → E.nx Γ')) : Wp K (tWhile c t) Γ E := fun B0 H0 B H σ D s e ok => by
  refine ⟨fun m σ' H' => ∃ B' Γ', Step B0 H0 B' H' ∧ Env K H0 B' H' σ' Γ' ∧ I m Γ', ⟨m0, B, Γ, s, e, h0⟩, fun m σ' H' ⟨B', Γ', z, e', iv⟩ => ?_⟩
  obtain ⟨b, hb, h1, h2⟩ := hs m Γ' iv
  refine hb H0 B' H' σ' e' _ fun B1 H1 s1 => ?_
  cases b with
  | true =>
    refine ⟨fun σ2 H2 => ∃ B2 Γ2, Step B0 H0 B2 H2 ∧ Env K H0 B2 H2 σ2 Γ2 ∧ ∃ m', m' < m ∧ I m' Γ2, fun σ2 H2 ⟨B2, Γ2, z2, e2, m', hm, i2⟩ => ⟨m', hm, B2, Γ2, z2, e2, i2⟩, ?_⟩
    exact h1 rfl B0 H0 B1 H1 σ' _ (z.trans s1) (e'.step s1) ⟨fun B3 H3 σ3 Γ3 z3 e3 i3 => ⟨B3, Γ3, z3, e3, i3⟩, ok.rt, ok.ro, fun B3 H3 σ3 Γ3 z3 e3 n3 => ok.nx B3 H3 σ3 Γ3 z3 e3 n3, fun B3 H3 σ3 Γ3 z3 e3 i3 => ⟨B3, Γ3, z3, e3, i3⟩⟩
  | false => exact ok.nx B1 H1 σ' Γ' (z.trans s1) (e'.step s1) (h2 rfl)
/-! ### comprehensions -/
def wipeG (Γ : List Sl) : List Nat → List Sl
  | [] => Γ
  | v :: vs => (wipeG Γ vs).set v .un
theorem Env.wipe {H0 B H : Hp} {σ : L2.St} (e : Env K H0 B H σ Γ) : ∀ vs : List Nat, Env K H0 B H (wipe σ vs) (wipeG Γ vs)
  | [] => e
  | v :: vs => (Env.wipe e vs).unset
theorem wipe_wipe (σ : L2.St) (vs : List Nat) : wipe (wipe σ vs) vs = wipe σ vs := by
  have key : ∀ (us ws : List Nat), (∀ u ∈ us, u ∈ ws) → wipe (wipe σ us) ws = wipe σ ws := by
    intro us
    induction us with
    | nil => intro ws _; rfl
    | cons u r ih =>
      intro ws h
      show wipe ((wipe σ r).set u none) ws = wipe σ ws
      rw [wipe_set (h u (List.mem_cons_self ..)), ih ws fun x hx => h x (List.mem_cons_of_mem _ hx)]
  exact key vs vs fun _ h => h
theorem eo_lc {wi : TI} {g : TG} {js vs : List Nat} {xs : List Da} {tt : TT} (hi : ItD K wi Γ xs) (hz : xs.length ≤ 50000) (f : Da → Bool) (m : Da → Da) (hj : ∀ j ∈ js, j ∈ vs)
    (hs : ∀ (i : Nat) x, xs[i]? = some x → Tg K g js (wipeG Γ vs) x fun Γ2 => EvT K tt Γ2 (f x) ∧ (f x = true → Ev K te Γ2 (m x))) : EvO K (tLc wi g tt te vs) Γ ((xs.filter f).map m) := fun H0 B H σ e Q q =>
  hi H0 B H σ e _ fun J B1 H1 G Y s1 hw hG hY => fun D hD => by
    have e1 := e.step s1
    refine lc_it hw (fun i H' => ∃ B' acc, Step B1 H1 B' H' ∧ B' D = none ∧ H' D = some (.lst acc) ∧ IsL K B' acc (((xs.take i).filter f).map m)) ⟨B1, [], ⟨Ex.new hD, Ex.refl _, s1.bh.trans (Ex.new hD), fun _ _ w => .inr w⟩, s1.bh.free hD, upd_same, .nil⟩
      (fun i H' _ ⟨B', acc, z, _⟩ => hG H' (z.bb.trans z.bh)) (fun i v Hc H' lt ⟨B', acc, z, zb, zh, zl⟩ y => ?_) (fun H' ⟨B', acc, z, zb, zh, zl⟩ => ?_)
    · obtain ⟨x, B2, hx, s2, hv⟩ := hY i Hc v H' lt y B' z.bb z.bh
      -- the state ahead of the turn: the base at B2
      have sz : Step B1 H1 B2 H' := z.trans s2
      have eD : Env K H0 B2 H' (wipe σ vs) (wipeG Γ vs) := ((e1.step z).step s2).wipe vs
      have n2 : B2 D = none := s2.keepN zh zb
      have h2 : H' D = some (.lst acc) := s2.hh _ _ zh
      have tk : (xs.take (i + 1)) = xs.take i ++ [x] := by
        rw [List.take_add_one, hx] <;> rfl
      refine hs i x hx H0 B2 H' (wipe σ vs) v eD hv _ fun Γ2 σ2 ⟨ht, he⟩ e2 hwp => ⟨?_, ?_⟩
      · rw [hwp vs hj]
        exact wipe_wipe σ vs
      · refine ht H0 B2 H' σ2 e2 _ fun B3 H3 s3 => ?_
        have n3 := s3.keepN h2 n2
        have h3 := s3.hh _ _ h2
        cases hf : f x with
        | true =>
          show te σ2 H3 _
          refine he hf H0 B3 H3 σ2 (e2.step s3) _ fun w B4 H4 s4 hw4 => ?_
          have n4 := s4.keepN h3 n3
          have h4 := s4.hh _ _ h3
          have s14 := (sz.trans s3).trans s4
          refine ⟨acc, h4, ?_, B4, acc ++ [w], ⟨s14.hh.mut hD, s14.bb, s14.bh.mut n4, s14.nw⟩, n4, upd_same, ?_⟩
          · have l1 := zl.length
            have l2 : ((List.take i xs).filter f).length ≤ (List.take i xs).length := List.length_filter_le _ _
            have l3 : (List.take i xs).length ≤ xs.length := by rw [List.length_take]; exact Nat.min_le_right _ _
            rw [List.length_map] at l1
            rw [l1]
            exact sz_lt (by omega)
          · rw [tk, List.filter_append, List.map_append]
            have e5 : List.map m (List.filter f [x]) = [m x] := by simp [hf]
            rw [e5]
            exact (zl.mono (s2.bb.trans (s3.bb.trans s4.bb))).append (.cons hw4 .nil)
        | false =>
          refine ⟨B3, acc, sz.trans s3, n3, h3, ?_⟩
          rw [tk, List.filter_append, List.map_append]
          have e5 : List.map m (List.filter f [x]) = [] := by simp [hf]
          rw [e5, List.append_nil]
          exact zl.mono (s2.bb.trans s3.bb)
    · rw [List.take_length] at zl
      exact q D acc B' H' (s1.trans z) (s1.hh.free hD) zb zh zl
end
end WM

/-! ## Own1 -/
set_option maxHeartbeats 4000000
/-! Rules of syntax that the layer lacks: a star in a display, enumerate(tuple), dict(d), len(set(texts)). -/
namespace WM
open PySem PySem.Spec PyProof.Rows L2

/-! ### *xs in a display -/
def tStar (K : PySem.W.Frag) (te : TE) (tr : TA) : TA := fun σ H Q => te σ H fun x H1 => ∃ a xs, x = .ref a ∧ SqT K H1 a xs ∧ tr σ H1 fun ys H2 => Q (xs ++ ys) H2
theorem pa_star {X : Cx} {e : Expr} {es : List Expr} {te : TE} {t : TA} {p : Pos} (ha : PE X e te) (hr : PA X es t) (hs : starEach (.Starred e p :: es) X.env = (true, eval e X.env) :: starEach es X.env := by rfl) : PA X (.Starred e p :: es) (tStar X.K te t) := by
  refine ⟨fun pos pins s σ H Q I h => PySem.W.items_star (thn (ha.run pins s σ H _ I h) fun u s1 ⟨x, H1, I1, r1, q1⟩ => ?_) hs⟩
  obtain ⟨a, xs, rfl, hq, q1⟩ := q1
  cases r1
  obtain ⟨its, rv, hT, hz⟩ := I1.tuple hq
  obtain ⟨o, ho, hc, n, hd⟩ := id hT
  have key : wpAny (model X.prog X.w) X.A (collect (.ref a)) (fun here s2 => wpAny (model X.prog X.w) X.A (spliced (backTo pos (starEach es X.env))) (fun vs s3 => AP X pins σ Q (here ++ vs) s3) X.xe s2) X.xe s1 := by
    refine wpAny_collect_seq a (.inr rfl) ho hc hd (fun h' hk => ?_) (by rw [List.size_toArray, ← rv.length]; exact hz)
    have I2 : Inv X pins σ H1 { s1 with heap := h' } := I1.kept (t' := s1.toks) hk
    refine thn (hr.run pos pins _ σ H1 _ I2 q1) fun us s3 ⟨ys, H3, I3, r3, q3⟩ => ⟨xs ++ ys, H3, I3, ?_, q3⟩
    exact Vals.append (by simpa using rv) r3
  unfold PySem.W.StarOf notIterableAtAll
  exact wpAny_bind (wpAny_specialOf ⟨o, ho, hc⟩ PySem.F.slot_tuple_iter.lookup (wpAny_pure ⟨rfl, key⟩))

/-! ### dict(d) -/
def rDictCp : List V → Hp → VK → Prop := fun xs H Q => ∃ a kvs, xs = [.ref a] ∧ Rd H a (.dK kvs) ∧ ∀ p, H p = none → Q (.ref p) (upd H p (.dK kvs))
theorem call_dictCp {X : Cx} : CallR X (.type "dict") rDictCp := by
  intro pins s σ H xs us Q I r h
  obtain ⟨a, kvs, rfl, hd, q⟩ := h
  obtain rfl := Vals.ref1 r
  exact d_copyOf I hd fun p s' hp I' => ⟨.ref p, _, I', rfl, q p hp⟩

/-! ### enumerate of a tuple -/
def IteT (K : PySem.W.Frag) (a : Addr) : It :=
  ⟨fun i H => ∃ (xs : List V) (x : V), SqT K H a xs ∧ xs[i]? = some x, fun i H v H' => ∃ T x, v = .ref T ∧ H T = none ∧ H' = upd H T (.tup [.int (i : Nat), x]) ∧ ∀ xs, SqT K H a xs → xs[i]? = some x,
    fun i H => ∃ xs : List V, SqT K H a xs ∧ xs.length = i⟩
theorem walk_enumT {K : PySem.W.Frag} {a : Addr} {xs : List V} : Walk (IteT K a) xs.length (fun H => SqT K H a xs) (YPair (fun i => some (.int (i : Nat))) (fun i => xs[i]?)) := by
  refine ⟨fun i _ hi q => ⟨xs, xs[i], q, by simp [hi]⟩, fun _ q => ⟨xs, q, rfl⟩, fun i H v H' _ q y => ?_⟩
  obtain ⟨T, x, h1, h2, h3, h4⟩ := y
  exact ⟨T, .int (i : Nat), x, h1, h2, h3, rfl, h4 xs q⟩
theorem turn_enumT {P : Program} {w : World} {K : PySem.W.Frag} {elts : List Expr} {kk : Nat} {tpos : Pos} (a e it : Addr) (hae : a ≠ e) (hai : a ≠ it) (hne : e ≠ it) :
    Turn P w K (.Tuple elts kk tpos) (IteT K a) [e, it] e (fun i h => (∃ old, IsEnum h e it ((i : Nat) : Int) old) ∧ h.IsTupleIter it a i) where
  mem := List.mem_cons_self ..
  obj := fun i h ⟨⟨old, he⟩, o, ho, hc, hd⟩ b hb => by
    rcases List.mem_cons.mp hb with rfl | hb
    · exact ⟨_, he, fun v q => nomatch q⟩
    · obtain rfl := List.mem_singleton.mp hb
      exact ⟨o, ho, fun v q => by rw [hd] at q; cases q⟩
  keep := fun i h h' ⟨⟨old, he⟩, hi⟩ k => ⟨⟨old, k e (by simp) _ he⟩, hi.at fun o q => k it (by simp) o q⟩
  item := by
    intro X hP hw hK hc i pins s σ H E I hf ⟨⟨old, he⟩, hit⟩ ⟨xs, x, hq, hx⟩
    subst hP hw hK
    obtain ⟨its, rv, p, hz⟩ := I.tuple hq
    obtain ⟨u, hu, ru⟩ := rv.get hx
    have hh : X.A.in1.handled = none := I.ok.hd hc
    have hlt : i < its.toArray.size := by
      have := (List.getElem?_eq_some_iff.mp hu).1
      simpa using this
    have hef : e ∉ [it, a] := by simp [hne, Ne.symm hae]
    have hel : e < s.heap.objs.size := Heap.lt_size he
    have hil : it < s.heap.objs.size := by obtain ⟨_, q, _⟩ := hit; exact Heap.lt_size q
    refine wpAny_pyNext_enum_itemD (Draws.tuple (prog := X.prog) (w := X.w) (A := X.A.in1) hh it a hai its.toArray) he ⟨hit, p⟩ hlt hne hef fun y h' tk hy ho hst hT hsz hk => ?_
    have ey : y = u := by
      have q : its.toArray[i]? = some u := by simpa using hu
      rw [q] at hy
      exact (Option.some.inj hy).symm
    subst ey
    refine ⟨_, rfl, wpAny_letOwnedTupleGo_enum (s := { s with heap := h', toks := tk + 1 }) ho fun h2 he2 sb => ?_⟩
    have hT2 : h2.get? s.heap.objs.size = some { cls := .type "tuple", data := .seq #[.int i tk, y] } := (sb.2 _ (Nat.ne_of_gt hel)).trans hT
    have new : ObjOk X.prog X.w (upd H s.heap.objs.size (.tup [.int (i : Nat), x])) h2 s.heap.objs.size (.tup [.int (i : Nat), x]) :=
      ⟨by show 2 ≤ sizeLine; decide, [.int i tk, y], .cons ⟨_, rfl⟩ (.cons ru .nil), _, hT2, rfl, _, rfl⟩
    have I1 : Inv X pins σ (upd H s.heap.objs.size (.tup [.int (i : Nat), x])) { s with heap := h2, toks := tk + 1 } := by
      refine I.turnedNew (ch := [e, it]) (fun b ob hb q => ?_) hf (Nat.le_refl _) new
      have b1 : b ≠ e := fun z => hb (by simp [z])
      have b2 : b ≠ it := fun z => hb (by simp [z])
      exact (sb.2 b b1).trans (hk b ob b1 b2 q)
    refine ⟨.ref s.heap.objs.size, _, I1, rfl, ⟨_, x, rfl, I.hok.fresh (Nat.le_refl _), rfl, fun ys hys => by rw [I.tuple_inj hys hq]; exact hx⟩, ⟨⟨y, ?_⟩, hst.1.at fun o q => (sb.2 it (Ne.symm hne)).trans q⟩, fun b hb => ?_⟩
    · rw [show ((i + 1 : Nat) : Int) = (i : Int) + 1 by omega]
      exact he2
    · have hb2 : b < s.heap.objs.size := by
        rcases List.mem_cons.mp hb with rfl | hb'
        · exact hel
        · rw [List.mem_singleton.mp hb']; exact hil
      rw [upd_ne (Nat.ne_of_lt hb2)]
      exact (hf b hb).1
  done := by
    intro X hP hw hK hc i pins s σ H E I hf ⟨⟨old, he⟩, hit⟩ ⟨xs, hq, hx⟩
    subst hP hw hK
    obtain ⟨its, rv, p, hz⟩ := I.tuple hq
    obtain ⟨f0, f1, f2, f3, f4, f5⟩ := hf it (by simp)
    have hh : X.A.in1.handled = none := I.ok.hd hc
    have hn : its.toArray.size = i := by rw [List.size_toArray, ← rv.length]; exact hx
    subst hn
    exact wpAny_pyNext_enum_endD (Draws.tuple (prog := X.prog) (w := X.w) (A := X.A.in1) hh it a hai its.toArray) he ⟨hit, p⟩ fun h' eb => ⟨rfl, I.turned (t' := s.toks) (fun b o hb q => eb b o hb q) f0 f1 f3 f4 f5⟩
  self := fun A i s Q E ⟨⟨_, he⟩, _⟩ h => wpAny_pyIter_enum he h
/-- enumerate.__new__ of a tuple -/
theorem meets_enumT {l : Addr} {items : Array Value} :
    Meets (Builtin.«enumerate.__new__» ⟨[.type "enumerate", .ref l], []⟩) (fun _ R s => s.heap.IsTuple l items ∧
      R (.ok (.ret (.ref (s.heap.push { cls := .type "tuple_iterator", data := .fields #[.ref l, .int 0 0] }).objs.size)))
        { s with heap := (s.heap.push { cls := .type "tuple_iterator", data := .fields #[.ref l, .int 0 0] }).push { cls := .type "enumerate", data := .fields #[.none, .bool false, .ref s.heap.objs.size, rawInt 0, .none, .none] } }) :=
  .of_wp fun prog w A R s h => by
    obtain ⟨hp, g, d, tk, os⟩ := s
    obtain ⟨hT, h⟩ := h
    have hsub := sub_enumerate
    have it1 : ∀ {A' : Around} {E : Value → Shared → Prop} {Q : Value → Shared → Prop}, Q (.ref hp.objs.size) ⟨hp.push { cls := .type "tuple_iterator", data := .fields #[.ref l, .int 0 0] }, g, d, tk, os⟩ → wpAny (model prog w) A' (pyIter (.ref l)) Q E ⟨hp, g, d, tk, os⟩ :=
      fun q => wpAny_pyIter_tuple (s := ⟨hp, g, d, tk, os⟩) hT q
    wp_walk using it1
    refine wpAny_stack_any fun st => wpAny_pure ?_
    split
    · rename_i c _ _ _ _ _
      cases hcc : (c == Value.type "enumerate") <;> (wp_walk using it1; exact ⟨_, rfl, h⟩)
    · wp_walk using it1
      exact ⟨_, rfl, h⟩
theorem call_enumT {prog : Program} {w : World} {A : Around} {E : Value → Shared → Prop} {s : Shared} {l : Addr} {items : Array Value} {Q : Value → Shared → Prop} (hT : s.heap.IsTuple l items)
    (h : ∀ h', IsEnum h' (s.heap.objs.size + 1) s.heap.objs.size 0 .none → h'.IsTupleIter s.heap.objs.size l 0 → (∀ b o, s.heap.get? b = some o → h'.get? b = some o) → Q (.ref (s.heap.objs.size + 1)) { s with heap := h' }) :
    wpAny (model prog w) A (call (.type "enumerate") [.ref l]) Q E s := by
  refine callType_new PySem.F.called_enumerate (by decide) (PySem.F.typeCall_enumerate_1 _) (PySem.F.newCall_enumerate_1 _) (fun obj => PySem.F.args_object_init_2 obj _) PySem.F.entry_enumerate_new meets_enumT ⟨hT, ?_⟩
  have hz : (s.heap.push { cls := .type "tuple_iterator", data := .fields #[.ref l, .int 0 0] }).objs.size = s.heap.objs.size + 1 := Heap.size_push ..
  have he := Heap.get?_push_size (s.heap.push { cls := .type "tuple_iterator", data := .fields #[.ref l, .int 0 0] }) (o := { cls := .type "enumerate", data := .fields #[.none, .bool false, .ref s.heap.objs.size, rawInt 0, .none, .none] }) rfl
  rw [hz] at he
  show _ ∧ _
  rw [hz]
  refine ⟨⟨_, he, rfl⟩, h _ he ⟨_, Heap.get?_push_of_some _ (Heap.get?_push_size _ rfl), rfl, rfl⟩ fun b o x => Heap.get?_push_of_some _ (Heap.get?_push_of_some _ x)⟩
def iEnumT (K : PySem.W.Frag) (ta : TA) : TI := fun σ H R => ta σ H fun vs H1 => ∃ a xs, vs = [.ref a] ∧ SqT K H1 a xs ∧ R (IteT K a) H1
theorem pi_enumT {X : Cx} {e : Expr} {ta : TA} {p pos tpos : Pos} {elts : List Expr} {kk : Nat} (hg : Gl X "enumerate") (hm : X.mg "enumerate" = none) (ha : PA X [e] ta) (hs : starEach [e] X.env = [(false, eval e X.env)] := by rfl) :
    PI X (.Tuple elts kk tpos) (.Call (.Name "enumerate" p) [e] [] pos) (iEnumT X.K ta) := by
  refine ⟨fun pins s σ H R I h => Call_ (ld_blt I hg hm boot_enumerate (PyProof.Rows.callWith_type1 (thn (ha.run pos pins s σ H _ I h) fun us s1 ⟨vs, H1, I1, r1, q1⟩ => ?_) hs rfl))⟩
  obtain ⟨a, xs, rfl, hq, q⟩ := q1
  obtain rfl := Vals.ref1 r1
  obtain ⟨its, rv, hT, hz⟩ := I1.tuple hq
  refine call_enumT hT fun h' he hit hk => wpAny_pyIter_enum he ?_
  have I2 : Inv X pins σ H1 { s1 with heap := h' } := I1.kept (t' := s1.toks) hk
  have ha2 : a < s1.heap.objs.size := by obtain ⟨_, z, _⟩ := hT; exact Heap.lt_size z
  refine ⟨s1.heap.objs.size + 1, [s1.heap.objs.size + 1, s1.heap.objs.size], _, _, H1, rfl, I2, turn_enumT a (s1.heap.objs.size + 1) s1.heap.objs.size (Nat.ne_of_lt (Nat.lt_succ_of_lt ha2)) (Nat.ne_of_lt ha2) (Nat.succ_ne_self _), ⟨⟨.none, he⟩, hit⟩, fun b hb => ?_, q⟩
  have hle : s1.heap.objs.size ≤ b := by
    rcases List.mem_cons.mp hb with rfl | hb'
    · exact Nat.le_succ _
    · rw [List.mem_singleton.mp hb']; exact Nat.le_refl _
  exact I1.fpOk hle (I1.hok.fresh hle)
theorem it_enumT {K : PySem.W.Frag} {Γ : List Sl} {ta : TA} {xs : List Da} (h : EvA K ta Γ [.tup xs]) : ItD K (iEnumT K ta) Γ (xs.zipIdx.map fun p => .tup [.int (p.2 : Int), p.1]) := fun H0 B H σ e R q =>
  h H0 B H σ e _ fun vs B1 H1 s1 hv => by
    cases hv with
    | cons h1 r => cases r with
      | nil =>
        obtain ⟨a, vs, rfl, ha, r⟩ := h1.tup_inv
        refine ⟨a, vs, rfl, st_of (s1.bh _ _ ha), q (IteT K a) B1 H1 _ _ s1 (by rw [List.length_map, List.length_zipIdx, ← r.length]; exact walk_enumT (xs := vs)) (fun H' ex => st_of (ex _ _ ha)) fun i Hc v H' lt y B' b1 b2 => ?_⟩
        obtain ⟨T, x, y, rfl, hT, rfl, e1, e2⟩ := y
        cases e1
        obtain ⟨d, hd, hi⟩ := r.get' e2
        refine ⟨.tup [.int (i : Int), d], upd B' T (.tup [.int (i : Int), y]), ?_, Step.laid b2 hT, .tup upd_same (.cons (.int _) (.cons (hi.mono (b1.trans (Ex.new (b2.free hT)))) .nil))⟩
        simp [hd]
end WM

/-! ## SetTxt -/
set_option maxHeartbeats 4000000
/-! set(xs) of different texts, any number below the scan's bound; len(set(xs)). -/
namespace WM
open PySem PySem.Spec PyProof.Rows L2

section
variable {prog : Program} {w : World} {A : Around} {R : Result → Shared → Prop} {I : Addr} {fp wr : List Addr} {G : Array GenState → Array GenState → Prop} {n : Nat} {P : Nat → Value → Prop} {St : Nat → Shared → Prop}
/-- the first i texts are in -/
abbrev TxtIn (prog : Program) (w : World) (S : Addr) (xs : List Str) (i : Nat) (h : Heap) : Prop := h.SetOf (PySem.strKind prog w) S (fun y => (xs.take i).any (· == y)) i
theorem txt_next {xs : List Str} {i : Nat} (nd : xs.Nodup) (hi : i < xs.length) {S : Addr} {h : Heap}
    (q : h.SetOf (PySem.strKind prog w) S (fun y => (xs.take i).any (· == y) || decide (y = xs.getD i Str.empty)) (if (xs.take i).any (· == xs.getD i Str.empty) then i else i + 1)) : TxtIn prog w S xs (i + 1) h := by
  have e1 : xs.getD i Str.empty = xs[i] := by simp [List.getD_eq_getElem?_getD, hi]
  have e2 : xs.take (i + 1) = xs.take i ++ [xs[i]] := by rw [List.take_add_one, List.getElem?_eq_getElem hi] <;> rfl
  have out : (xs.take i).any (· == xs[i]) = false := by
    rw [Bool.eq_false_iff]
    intro y
    obtain ⟨z, hz, ez⟩ := List.any_eq_true.mp y
    rw [eq_of_beq ez] at hz
    obtain ⟨j, hj, ej⟩ := List.mem_iff_getElem.mp hz
    rw [List.getElem_take] at ej
    have hj2 : j < i := by rw [List.length_take] at hj; omega
    exact List.pairwise_iff_getElem.mp nd j i (by omega) hi hj2 ej
  refine SetOf_congr q (fun y => ?_) ?_
  · rw [e2, List.any_append, e1]
    congr 1
    show decide (y = xs[i]) = ((xs[i] == y) || false)
    rw [Bool.or_false]
    by_cases e : y = xs[i]
    · rw [e]; simp
    · rw [decide_eq_false e]
      exact (beq_eq_false_iff_ne.mpr (Ne.symm e)).symm
  · rw [e1, out]; rfl
theorem txt_loop (W : WalksS prog w A.in1 I fp wr G n P St) (S : Addr) (hS0 : S ∉ fp) (xs : List Str) (hl : xs.length = n) (nd : xs.Nodup) (hb : n + 1 < scanBound) (val : ∀ i v, P i v → ∃ t, v = .str (xs.getD i Str.empty) t)
    :
    ∀ (k i : Nat) (s : Shared), n - i = k → i ≤ n → St i s → TxtIn prog w S xs i s.heap → (∀ s2, Moved (S :: wr) G s s2 → TxtIn prog w S xs n s2.heap → R (.ok (.ret .none)) s2) →
      codeAny (model prog w) A (.builtin "set.update.loop" ⟨[.ref S, .ref I], []⟩) R s := by
  have nw : S ∉ wr := fun h => hS0 (W.sub _ h)
  have up : ∀ b ∈ wr, b ∈ S :: wr := fun b h => List.mem_cons_of_mem _ h
  have go : ∀ {i : Nat} {s s1 : Shared}, TxtIn prog w S xs i s.heap → Moved wr G s s1 → TxtIn prog w S xs i s1.heap := fun ⟨o, es, ep, t, ho, r⟩ m => ⟨o, es, ep, t, m.heap S _ nw ho, r⟩
  intro k
  induction k with
  | zero =>
    intro i s hk hi st hS hR
    have e : i = n := by omega
    subst e
    refine codeAny_builtin PyProof.Rows.F.entry_set_update_loop ?_
    rw [Around.under_plainId PyProof.Rows.F.plain_set_update_loop _]
    refine wpAny_bind (m := pyNext (.ref I)) (W.done s _ _ st fun s1 m => ?_)
    exact wpAny_pure (a := PySem.Fin.done (.ret .none)) (hR s1 (m.mono up) (go hS m))
  | succ k ih =>
    intro i s hk hi st hS hR
    have lt : i < n := by omega
    refine codeAny_builtin PyProof.Rows.F.entry_set_update_loop ?_
    rw [Around.under_plainId PyProof.Rows.F.plain_set_update_loop _]
    refine wpAny_bind (m := pyNext (.ref I)) (W.item i s _ _ lt st fun v s1 hP st1 m => ?_)
    obtain ⟨t, rfl⟩ := val i v hP
    show wpAny _ A.in1 (holding [_] (setAdd S _) >>= _) _ _ s1
    refine wpAny_bind (wpAny_holding ?_)
    unfold setAdd
    refine wpAny_holding (wpAny_bind ((PySem.strKind prog w).pyHash (k := xs.getD i Str.empty) (strKind_is _ _ _ _) ?_))
    refine wpAny_setAddHashed_of (knd := PySem.strKind prog w) (s := { s1 with toks := s1.toks + 1 }) (strKind_is _ _ _ _) rfl (show TxtIn prog w S xs i s1.heap from go hS m) (by omega) fun h2 sb q => ?_
    refine wpAny_pure ⟨plainId_quiet PyProof.Rows.F.plain_set_update_loop _, ih (i + 1) _ (by omega) lt (W.frame _ s1 _ _ st1 (Nat.le_succ _) fun b hb o e => ?_) (txt_next nd (by omega) q) fun s2 m2 q2 => hR s2 (Moved.trans W.gtrans ((m.mono up).then_heap (Nat.le_succ _) fun b o hb e => ?_) m2) q2⟩
    · exact (sb.2 b fun z => hS0 (z ▸ hb)).trans e
    · exact (sb.2 b fun z => hb (z ▸ List.mem_cons_self ..)).trans e
end
section
variable {prog : Program} {w : World} {A : Around} {E : Value → Shared → Prop} {s : Shared}
abbrev newSetO (led : Bool) : Obj := { cls := .type "set", dict := none, data := .set #[] 0 (.fresh 0 0 led) }
/-- what set.__init__ leaves -/
abbrev SetLeft (prog : Program) (w : World) (xs : List Str) (s s2 : Shared) : Prop := ∃ h2 tk, s2 = { s with heap := h2, toks := tk } ∧ TxtIn prog w s.heap.objs.size xs xs.length h2 ∧ ∀ b o, b < s.heap.objs.size → s.heap.get? b = some o → h2.get? b = some o
theorem set_init_txt {l : Addr} {its : Array Value} {xs : List Str} {led : Bool} (hh : A.handled = none) (hl : s.heap.IsList l its) (hi : StrsAre its.toList xs) (nd : xs.Nodup) (hb : xs.length + 1 < scanBound)
    (hT : Shared.TypeIs { s with heap := s.heap.push (newSetO led) } (.ref s.heap.objs.size) "set") :
    wpAny (model prog w) A (Builtin.«set.__init__» ⟨[.ref s.heap.objs.size, .ref l], []⟩) (fun f s2 => f = .done (.ret .none) ∧ SetLeft prog w xs s s2) E { s with heap := s.heap.push (newSetO led) } := by
  obtain ⟨ol, hol, hcl, nl, hdl⟩ := id hl
  obtain ⟨oc, od, odt, osl⟩ := ol
  simp only at hcl hdl
  subst hcl hdl
  have hol2 : (s.heap.push (newSetO led)).get? l = some { cls := .type "list", dict := od, data := .seq its nl, slots := osl } := Heap.get?_push_of_some _ hol
  have hl2 : (s.heap.push (newSetO led)).IsList l its := ⟨_, hol2, rfl, nl, rfl⟩
  have n1 := PySem.F.sub_list_set
  have n2 := PySem.F.sub_list_frozenset
  have n3 : (Value.type "list" == Value.type "dict") = false := by decide
  unfold Builtin.«set.__init__» noKeywords Builtin.Frozenset.updateFrom
  generalize hPI : pyIter = PI
  wp_walk
  subst hPI
  refine wpAny_pyIter_list hl2 (wpAny_bind (wpAny_runValue ?_))
  have lt : l < s.heap.objs.size := Heap.lt_size hol
  have z : (s.heap.push (newSetO led)).objs.size = s.heap.objs.size + 1 := Heap.size_push ..
  have d1 : l ≠ (s.heap.push (newSetO led)).objs.size := by rw [z]; exact Nat.ne_of_lt (Nat.lt_succ_of_lt lt)
  have d2 : s.heap.objs.size ∉ [(s.heap.push (newSetO led)).objs.size, l] := by
    rw [z]
    intro q
    rcases List.mem_cons.mp q with q | q
    · exact absurd q (Nat.ne_of_lt (Nat.lt_succ_self _))
    · exact absurd (List.mem_singleton.mp q) (Nat.ne_of_gt lt)
  have len : xs.length = its.size := by rw [← StrsAre.len_eq hi, Array.length_toList]
  have h0 : A.in1.handled = none := by simp [hh]
  refine txt_loop ((Walks.list h0 _ l d1 its).toS) s.heap.objs.size d2 xs len nd (by rw [← len]; exact hb) (fun i v hv => SS.strs_at hi i v (by rw [Array.getElem?_toList]; exact hv)) (its.size - 0) 0 _ rfl (Nat.zero_le _)
    ⟨⟨_, Heap.get?_push_size _ rfl, rfl, rfl⟩, hl2.push _⟩ ?_ fun s2 hm q => ?_
  · exact SetOf_congr ((setObjOf_fresh (knd := PySem.strKind prog w) led).setOf (Heap.get?_push_of_some _ (Heap.get?_push_size _ rfl)) (by unfold scanBound; omega)) (fun _ => rfl) rfl
  · obtain ⟨h2, g2, d2', tk2, os2⟩ := s2
    obtain rfl : g2 = s.gens := hm.gens
    obtain rfl : d2' = s.drawn := hm.drawn
    obtain rfl : os2 = s.os := hm.os
    show wpAny _ _ _ _ _ _
    refine wpAny_pure (show wpAny _ _ (ret Value.none) _ _ _ from wpAny_pure ⟨rfl, h2, tk2, rfl, by rw [len]; exact q, fun b o hb e => ?_⟩)
    have b2 : b ≠ (s.heap.push (newSetO led)).objs.size := by rw [z]; exact Nat.ne_of_lt (Nat.lt_succ_of_lt hb)
    refine hm.heap b o (fun q => ?_) (Heap.get?_push_of_some _ (Heap.get?_push_of_some _ e))
    rcases List.mem_cons.mp q with q | q
    · exact Nat.ne_of_lt hb q
    · exact b2 (List.mem_singleton.mp q)
theorem call_set_txt {l : Addr} {its : Array Value} {xs : List Str} {Q : Value → Shared → Prop} (hh : A.handled = none) (hl : s.heap.IsList l its) (hi : StrsAre its.toList xs) (nd : xs.Nodup) (hb : xs.length + 1 < scanBound)
    (h : ∀ (h2 : Heap) (tk : Nat), TxtIn prog w s.heap.objs.size xs xs.length h2 → (∀ b o, b < s.heap.objs.size → s.heap.get? b = some o → h2.get? b = some o) → Q (.ref s.heap.objs.size) { s with heap := h2, toks := tk }) :
    wpAny (model prog w) A (call (.type "set") [.ref l]) Q E s := by
  have f1 := PySem.F.called_set.made
  have f2 := PySem.F.called_set.sub
  have f3 := PySem.F.called_set.notType
  have f4 := PySem.F.called_set.canCreate
  have f5 := PySem.F.typeCall_set_1 (.ref l)
  obtain ⟨c, tl, f6⟩ := PySem.F.called_set.mro
  refine wpAny_call (codeAny_of_tree (show wpAny _ _ (callAny (.type "set") _) _ _ _ from wpAny_pure ⟨Code.quiet_builtin _ (by decide +kernel), codeAny_builtin PySem.F.entry_type_call ?_⟩))
  rw [Around.under_plain (weight_type_call_type "set" [.ref l] []) rfl]
  repeat (any_goals (first | assumption | wp_step))
  refine codeAny_mono (code_set_new_1 (.ref l) (E := E) (Q₁ := fun v s1 => ∃ led : Bool, v = .ref s.heap.objs.size ∧ s1 = { s with heap := s.heap.push (newSetO led) }) fun led => ⟨led, rfl, rfl⟩) fun r s1 hr => ?_
  cases r with
  | error e => exact hr
  | ok fl => cases fl with
    | ret v =>
      obtain ⟨led, rfl, rfl⟩ := hr
      have hT : Shared.TypeIs { s with heap := s.heap.push (newSetO led) } (.ref s.heap.objs.size) "set" := ⟨_, Heap.get?_push_size _ rfl, rfl⟩
      have g1 := PySem.F.called_set.init.lookup
      have g2 := PySem.F.called_set.init.bind (.ref s.heap.objs.size)
      repeat (any_goals (first | assumption | wp_step))
      refine codeAny_mono (codeAny_call_builtin (R := wants (fun r2 s2 => r2 = .none ∧ SetLeft prog w xs s s2) E) PySem.F.called_set.init.plain PySem.F.entry_set_init (check_set_init_1 hT ?_)) fun r2 s2 hr2 => ?_
      · refine wpAny_mono (set_init_txt (A := _) (by simp [hh]) hl hi nd hb hT) (fun f s3 h3 => ?_) fun _ _ x => x
        obtain ⟨rfl, h3⟩ := h3
        exact ⟨rfl, h3⟩
      · cases r2 with
        | error e => exact hr2
        | ok fl2 => cases fl2 with
          | ret v2 =>
            obtain ⟨rfl, h2, tk, rfl, q, hk⟩ := hr2
            repeat (any_goals (first | assumption | wp_step))
            exact h h2 tk q hk
          | _ => exact hr2.elim
    | _ => exact hr.elim
end
/-- len(set(xs)), xs a list of different texts -/
def tLenSetT (K : PySem.W.Frag) (ta : TE) : TE := fun σ H Q => ta σ H fun x H1 => ∃ l, ∃ xs : List Str, x = .ref l ∧ SqL K H1 l (xs.map V.str) ∧ xs.Nodup ∧ xs.length ≤ 1000 ∧ Q (.int (xs.length : Nat)) H1
theorem pe_lenSetT {X : Cx} {a : Expr} {ta : TE} {p p2 q pos : Pos} (hg : Gl X "len") (hm : X.mg "len" = none) (hg2 : Gl X "set") (hm2 : X.mg "set" = none) (ha : PE X a ta) (hc : X.calm = true := by rfl)
    (na : starEach [a] X.env = (false, eval a X.env) :: starEach [] X.env := by rfl) : PE X (.Call (.Name "len" p) [.Call (.Name "set" p2) [a] [] q] [] pos) (tLenSetT X.K ta) := by
  refine ⟨fun pins s σ H Q I h => Call_ (ld_blt I hg hm boot_len (callWith_builtin1 (args_cons (Call_ (ld_blt I hg2 hm2 boot_set (callWith_type1 (args_cons (thn (ha.run pins s σ H _ I h) fun v s1 ⟨x, H1, I1, r1, q1⟩ => args_nil ?_) na) na rfl))) rfl) rfl rfl))⟩
  obtain ⟨l, xs, rfl, hq, nd, hl, q1⟩ := q1
  cases r1
  obtain ⟨its, r, pl, _⟩ := I1.list hq
  refine call_set_txt (I1.ok.hd hc) pl.isList (by simpa using strsAre_of r) nd (by unfold scanBound; omega) fun h2 tk z hk => args_nil ?_
  obtain ⟨o, es, ep, t, ho, hex, hd, _, _, _, hf, hn⟩ := z
  have I2 : Inv X pins σ H1 { s1 with heap := h2, toks := tk } := I1.kept fun b o e => hk b o (Heap.lt_size e) e
  exact call_len_set ho hex hd hf (by rw [hn]; omega) ⟨.int xs.length, H1, I2.tok _, ⟨_, by rw [hn]⟩, q1⟩
theorem ev_lenSet {K : PySem.W.Frag} {Γ : List Sl} {te : TE} {xs : List Str} (h : Ev K te Γ (.lst (xs.map .str))) (nd : xs.Nodup) (hl : xs.length ≤ 1000) : Ev K (tLenSetT K te) Γ (.int (xs.length : Nat)) := fun H0 B H σ e Q q =>
  h H0 B H σ e _ fun v B1 H1 s1 hv => by
    obtain ⟨a, vs, rfl, ha, r⟩ := hv.lst_inv
    have f : (xs.map Da.str).all flatD = true := by simp [flatD]
    have ev : vs = xs.map V.str := by
      rw [r.flat f, List.map_map]
      rfl
    subst ev
    exact ⟨a, xs, rfl, sq_of (s1.bh _ _ ha), nd, hl, q _ B1 H1 s1 (.int _)⟩
end WM

/-! ## Rv1 -/
set_option maxHeartbeats 4000000
/-! Operations by data. -/
namespace WM
open PySem L2
section
variable {X : Cx}
/-! ### one rule a sign of Python, whatever the kinds -/
def rAddG (K : PySem.W.Frag) : R2 := fun x y H Q => rI0 (fun i j => .int (i + j)) x y H Q ∨ (∃ i j, x = .str i ∧ y = .str j ∧ i.length + j.length ≤ sizeLine ∧ Q (.str (i ++ j)) H) ∨ rCat x y H Q ∨ rCatA K x y H Q
theorem op_addG : OpR X (binaryOp .Add) (rAddG X.K) := op_add.or (op_add_str.or (op_cat.or op_catA))
def rSlG (K : PySem.W.Frag) : V → Option Int → Option Int → Hp → VK → Prop := fun x lo hi H Q => rSlL K x lo hi H Q ∨ rSlA K x lo hi H Q ∨ rSlS x lo hi H Q
theorem sl_seq : SlR X (rSlG X.K) := sl_list.or (sl_tupA.or sl_str)
def iSeq (K : PySem.W.Frag) (te : TE) : TI := fun σ H R => iList K te σ H R ∨ iTup K te σ H R ∨ iStr te σ H R
theorem pi_seq {tg e : Expr} {te : TE} (h : PE X e te) : PI X tg e (iSeq X.K te) := ⟨fun pins s σ H R I q => by
  rcases q with q | q | q
  · exact (pi_list h).run pins s σ H R I q
  · exact (pi_tup h).run pins s σ H R I q
  · exact (pi_str h).run pins s σ H R I q⟩
def iEnumG (K : PySem.W.Frag) (ta : TA) : TI := fun σ H R => iEnum K ta σ H R ∨ iEnumT K ta σ H R
theorem pi_enumG {e : Expr} {ta : TA} {p pos tpos : Pos} {elts : List Expr} {kk : Nat} (hg : Gl X "enumerate") (hm : X.mg "enumerate" = none) (ha : PA X [e] ta) (hs : starEach [e] X.env = [(false, eval e X.env)] := by rfl) :
    PI X (.Tuple elts kk tpos) (.Call (.Name "enumerate" p) [e] [] pos) (iEnumG X.K ta) := ⟨fun pins s σ H R I q => by
  rcases q with q | q
  · exact (pi_enum hg hm ha hs).run pins s σ H R I q
  · exact (pi_enumT hg hm ha hs).run pins s σ H R I q⟩
def rLenG (K : PySem.W.Frag) : List V → Hp → VK → Prop := fun xs H Q => ∃ x n, xs = [x] ∧ LenV K x H n ∧ Q (.int n) H
theorem call_lenG : CallR X (.builtin "len") (rLenG X.K) := call_len
def rTupG (K : PySem.W.Frag) : List V → Hp → VK → Prop := fun xs H Q => ∃ p ys, xs = [.ref p] ∧ ((SqL K H p ys ∧ ∀ l, H l = none → Q (.ref l) (upd H l (.tup ys))) ∨ (SqT K H p ys ∧ Q (.ref p) H))
theorem call_tupG : CallR X (.type "tuple") (rTupG X.K) := call_tuple_of
def rLstG (K : PySem.W.Frag) : List V → Hp → VK → Prop := fun xs H Q => ∃ p ys, xs = [.ref p] ∧ (SqL K H p ys ∨ SqT K H p ys) ∧ ∀ l, H l = none → Q (.ref l) (upd H l (.lst ys))
theorem call_lstG : CallR X (.type "list") (rLstG X.K) := call_list_of
def rIntG : List V → Hp → VK → Prop := fun xs H Q => (∃ i, xs = [.int i] ∧ Q (.int i) H) ∨ ∃ k, xs = [.bl k] ∧ Q (.int (if k then 1 else 0)) H
theorem call_intG : CallR X (.type "int") rIntG := call_int1
def rAbsG : List V → Hp → VK → Prop := fun xs H Q => ∃ i, xs = [.int i] ∧ Q (.int (if i < 0 then -i else i)) H
theorem call_absG : CallR X (.builtin "abs") rAbsG := call_abs
def rMaxG : List V → Hp → VK → Prop := fun xs H Q => ∃ i j, xs = [.int i, .int j] ∧ Q (.int (if j > i then j else i)) H
theorem call_maxG (hc : X.calm = true) : CallR X (.builtin "max") rMaxG := call_max2 hc
def rMinG : List V → Hp → VK → Prop := fun xs H Q => ∃ i j, xs = [.int i, .int j] ∧ Q (.int (if j < i then j else i)) H
theorem call_minG (hc : X.calm = true) : CallR X (.builtin "min") rMinG := call_min2 hc
def rStrG : List V → Hp → VK → Prop := fun xs H Q => ∃ i, xs = [.int i] ∧ i.natAbs.log2 < 1920 ∧ Q (.str (toString i)) H
theorem call_strG : CallR X (.type "str") rStrG := call_str_int
def rJoinG (K : PySem.W.Frag) : V → List V → Hp → VK → Prop := fun x xs H Q => ∃ a p, ∃ ys : List Str, x = .str a ∧ xs = [.ref p] ∧ (SqL K H p (ys.map V.str) ∨ SqT K H p (ys.map V.str)) ∧ (ys.map (·.length)).sum + ys.length * a.length ≤ 16777216 ∧ Q (.str (Txt.join a ys)) H
end
/-! ### what they give of data -/
section
variable {K : PySem.W.Frag} {Γ : List Sl} {te ta tb : TE}
theorem atI_is {B : Hp} {vs : List V} {ds : List Da} {i : Int} {d : Da} (r : IsL K B vs ds) (h : atI ds i = some d) : ∃ v, atI vs i = some v ∧ Is K B v d := by
  unfold atI at h ⊢
  rw [r.length]
  cases e : ixN ds.length i with
  | none => rw [e] at h; cases h
  | some j =>
    rw [e] at h
    exact r.get h
theorem rv_fin {r : R2} {x y z : Da} (h : ∀ (B H : Hp) (v u : V), Ex B H → Is K B v x → Is K B u y → ∀ Q : VK, (∀ w, Is K B w z → Q w H) → r v u H Q) : RV K r x y z := fun B H v u e hv hu Q q =>
  h B H v u e hv hu Q fun w hw => q w B H (Step.refl e) hw
theorem rv_addI {i j : Int} : RV K (rAddG K) (.int i) (.int j) (.int (i + j)) := rv_fin fun B H v u e hv hu Q q => .inl ⟨i, j, hv.int_inv, hu.int_inv, q _ (.int _)⟩
theorem rv_addS {i j : Str} (h : i.length + j.length ≤ 100000) : RV K (rAddG K) (.str i) (.str j) (.str (i ++ j)) := rv_fin fun B H v u e hv hu Q q => .inr (.inl ⟨i, j, hv.str_inv, hu.str_inv, sz_of h, q _ (.str _)⟩)
theorem rv_addL {xs ys : List Da} (h : xs.length + ys.length ≤ 100000) : RV K (rAddG K) (.lst xs) (.lst ys) (.lst (xs ++ ys)) := fun B H v u e hv hu Q q => by
  obtain ⟨a, vs, rfl, ha, r⟩ := hv.lst_inv
  obtain ⟨b, us, rfl, hb, r'⟩ := hu.lst_inv
  refine .inr (.inr (.inl ⟨a, b, vs, us, rfl, rfl, e _ _ ha, e _ _ hb, by rw [r.length, r'.length]; exact sz_of h, fun p hp => q _ _ _ (Step.laid e hp) (.lst upd_same ?_)⟩))
  exact (r.append r').mono (Ex.new (e.free hp))
theorem rv_addT {xs ys : List Da} (h : xs.length + ys.length ≤ 100000) : RV K (rAddG K) (.tup xs) (.tup ys) (.tup (xs ++ ys)) := fun B H v u e hv hu Q q => by
  have hv0 := hv
  have hu0 := hu
  obtain ⟨a, vs, rfl, ha, r⟩ := hv.tup_inv
  obtain ⟨b, us, rfl, hb, r'⟩ := hu.tup_inv
  refine .inr (.inr (.inr ⟨a, b, vs, us, rfl, rfl, st_of (e _ _ ha), st_of (e _ _ hb), by rw [r.length, r'.length]; exact sz_of h, fun z => ?_, fun _ z => ?_, fun _ _ p hp => q _ _ _ (Step.laid e hp) (.tup upd_same ?_)⟩))
  · subst z
    cases r
    exact q _ B H (Step.refl e) hu0
  · subst z
    cases r'
    exact q _ B H (Step.refl e) (by rw [List.append_nil]; exact hv0)
  · exact (r.append r').mono (Ex.new (e.free hp))
theorem rv_I0 {g : Int → Int → Int} {i j : Int} : RV K (rI0 fun i j => .int (g i j)) (.int i) (.int j) (.int (g i j)) := rv_fin fun B H v u e hv hu Q q => ⟨i, j, hv.int_inv, hu.int_inv, q _ (.int _)⟩
theorem rv_B0 {g : Int → Int → Bool} {i j : Int} : RV K (rI0 fun i j => .bl (g i j)) (.int i) (.int j) (.bl (g i j)) := rv_fin fun B H v u e hv hu Q q => ⟨i, j, hv.int_inv, hu.int_inv, q _ (.bl _)⟩
theorem rv_I {C : Int → Int → Prop} {g : Int → Int → Int} {i j : Int} (c : C i j) : RV K (rI C fun i j => .int (g i j)) (.int i) (.int j) (.int (g i j)) := rv_fin fun B H v u e hv hu Q q => ⟨i, j, hv.int_inv, hu.int_inv, c, q _ (.int _)⟩
theorem rv_eqS {a b : Str} : RV K rEq (.str a) (.str b) (.bl (decide (a = b))) := rv_fin fun B H v u e hv hu Q q => by
  rw [hv.str_inv, hu.str_inv]
  refine ⟨rfl, q _ ?_⟩
  rw [show decide (V.str a = V.str b) = decide (a = b) by rw [dec_str]; by_cases h : a = b <;> simp [h]]
  exact .bl _
theorem rv_neS {a b : Str} : RV K rNe (.str a) (.str b) (.bl (!decide (a = b))) := rv_fin fun B H v u e hv hu Q q => by
  rw [hv.str_inv, hu.str_inv]
  refine ⟨rfl, q _ ?_⟩
  rw [show decide (V.str a = V.str b) = decide (a = b) by rw [dec_str]; by_cases h : a = b <;> simp [h]]
  exact .bl _
theorem rv_eqI {a b : Int} : RV K rEq (.int a) (.int b) (.bl (decide (a = b))) := rv_fin fun B H v u e hv hu Q q => by
  rw [hv.int_inv, hu.int_inv]
  refine ⟨rfl, q _ ?_⟩
  rw [show decide (V.int a = V.int b) = decide (a = b) by rw [dec_int]; by_cases h : a = b <;> simp [h]]
  exact .bl _
theorem rv_eqB {a b : Bool} : RV K rEq (.bl a) (.bl b) (.bl (a == b)) := rv_fin fun B H v u e hv hu Q q => by
  rw [hv.bl_inv, hu.bl_inv]
  refine ⟨rfl, q _ ?_⟩
  rw [dec_bl]
  exact .bl _
theorem rv_neB {a b : Bool} : RV K rNe (.bl a) (.bl b) (.bl (!(a == b))) := rv_fin fun B H v u e hv hu Q q => by
  rw [hv.bl_inv, hu.bl_inv]
  refine ⟨rfl, q _ ?_⟩
  rw [dec_bl]
  exact .bl _
/-- a text, or None, against a text -/
def isStr (s : Str) : Da → Bool
  | .str t => decide (t = s)
  | _ => false
theorem rv_eqN {a : Str} : RV K rEq .non (.str a) (.bl false) := rv_fin fun B H v u e hv hu Q q => by
  rw [hv.non_inv, hu.str_inv]
  exact ⟨rfl, q _ (.bl _)⟩
def isNon : Da → Bool
  | .non => true
  | _ => false
theorem non_dec {B : Hp} {v : V} {d : Da} (h : Is K B v d) : decide (v = .non) = isNon d := by
  cases h <;> first | rfl | exact decide_eq_false fun z => nomatch z
theorem rv_isN {d : Da} : RV K rIsN d .non (.bl (isNon d)) := rv_fin fun B H v u e hv hu Q q => ⟨hu.non_inv, by rw [non_dec hv]; exact q _ (.bl _)⟩
theorem rv_notN {d : Da} : RV K rNotN d .non (.bl (!isNon d)) := rv_fin fun B H v u e hv hu Q q => ⟨hu.non_inv, by rw [non_dec hv]; exact q _ (.bl _)⟩
theorem rv_ixL {l : List Da} {i : Int} {d : Da} (h : atI l i = some d) : RV K (rIx K) (.lst l) (.int i) d := rv_fin fun B H v u e hv hu Q q => by
  obtain ⟨a, vs, rfl, ha, r⟩ := hv.lst_inv
  obtain ⟨w, h1, h2⟩ := atI_is r h
  exact .inl ⟨a, vs, i, w, rfl, hu.int_inv, sq_of (e _ _ ha), h1, q w h2⟩
theorem rv_ixT {l : List Da} {i : Int} {d : Da} (h : atI l i = some d) : RV K (rIx K) (.tup l) (.int i) d := rv_fin fun B H v u e hv hu Q q => by
  obtain ⟨a, vs, rfl, ha, r⟩ := hv.tup_inv
  obtain ⟨w, h1, h2⟩ := atI_is r h
  exact .inr (.inl ⟨a, vs, i, w, rfl, hu.int_inv, st_of (e _ _ ha), h1, q w h2⟩)
theorem rv_ixS {z : Str} {i : Int} {c : Nat} (hz : z.length ≤ 100000) (h : atI z.cps.toList i = some c) : RV K (rIx K) (.str z) (.int i) (.str ⟨#[c]⟩) := rv_fin fun B H v u e hv hu Q q =>
  .inr (.inr ⟨z, i, c, hv.str_inv, hu.int_inv, sz_of hz, h, q _ (.str _)⟩)
def inD (x : Da) (ds : List Da) : Bool := inV (scV x) (ds.map scV)
theorem rv_inL {x : Da} {ds : List Da} (hx : flatD x = true) (hd : ds.all flatD = true) : RV K (rIn K false) x (.lst ds) (.bl (inD x ds)) := rv_fin fun B H v u e hv hu Q q => by
  obtain ⟨a, vs, rfl, ha, r⟩ := hu.lst_inv
  rw [hv.flat hx]
  refine ⟨a, vs, rfl, .inl (sq_of (e _ _ ha)), flat_scV hx, ?_, ?_⟩
  · rw [r.flat hd]; exact flat_map hd
  · rw [r.flat hd]; exact q _ (.bl _)
theorem rv_inT {x : Da} {ds : List Da} (hx : flatD x = true) (hd : ds.all flatD = true) : RV K (rIn K false) x (.tup ds) (.bl (inD x ds)) := rv_fin fun B H v u e hv hu Q q => by
  obtain ⟨a, vs, rfl, ha, r⟩ := hu.tup_inv
  rw [hv.flat hx]
  refine ⟨a, vs, rfl, .inr (st_of (e _ _ ha)), flat_scV hx, ?_, ?_⟩
  · rw [r.flat hd]; exact flat_map hd
  · rw [r.flat hd]; exact q _ (.bl _)
theorem rv_niL {x : Da} {ds : List Da} (hx : flatD x = true) (hd : ds.all flatD = true) : RV K (rIn K true) x (.lst ds) (.bl (!inD x ds)) := rv_fin fun B H v u e hv hu Q q => by
  obtain ⟨a, vs, rfl, ha, r⟩ := hu.lst_inv
  rw [hv.flat hx]
  refine ⟨a, vs, rfl, .inl (sq_of (e _ _ ha)), flat_scV hx, ?_, ?_⟩
  · rw [r.flat hd]; exact flat_map hd
  · rw [r.flat hd]; exact q _ (.bl _)
theorem rv_niT {x : Da} {ds : List Da} (hx : flatD x = true) (hd : ds.all flatD = true) : RV K (rIn K true) x (.tup ds) (.bl (!inD x ds)) := rv_fin fun B H v u e hv hu Q q => by
  obtain ⟨a, vs, rfl, ha, r⟩ := hu.tup_inv
  rw [hv.flat hx]
  refine ⟨a, vs, rfl, .inr (st_of (e _ _ ha)), flat_scV hx, ?_, ?_⟩
  · rw [r.flat hd]; exact flat_map hd
  · rw [r.flat hd]; exact q _ (.bl _)
theorem rv_inS {c : Nat} {z : Str} : RV K rInS (.str ⟨#[c]⟩) (.str z) (.bl (decide (c ∈ z.cps.toList))) := rv_fin fun B H v u e hv hu Q q => ⟨c, z, hv.str_inv, hu.str_inv, q _ (.bl _)⟩
/-! calls -/
theorem rc_fin {r : List V → Hp → VK → Prop} {xs : List Da} {z : Da} (h : ∀ (B H : Hp) (vs : List V), Ex B H → IsL K B vs xs → ∀ Q : VK, (∀ w, Is K B w z → Q w H) → r vs H Q) : RC K r xs z := fun B H vs e hv Q q =>
  h B H vs e hv Q fun w hw => q w B H (Step.refl e) hw
theorem one {B : Hp} {vs : List V} {x : Da} (h : IsL K B vs [x]) : ∃ v, vs = [v] ∧ Is K B v x := by
  cases h with
  | cons h r => cases r; exact ⟨_, rfl, h⟩
theorem two {B : Hp} {vs : List V} {x y : Da} (h : IsL K B vs [x, y]) : ∃ v u, vs = [v, u] ∧ Is K B v x ∧ Is K B u y := by
  cases h with
  | cons h r => cases r with
    | cons h2 r => cases r; exact ⟨_, _, rfl, h, h2⟩
theorem rc_lenL {l : List Da} : RC K (rLenG K) [.lst l] (.int (l.length : Nat)) := rc_fin fun B H vs e hv Q q => by
  obtain ⟨v, rfl, h⟩ := one hv
  obtain ⟨a, us, rfl, ha, r⟩ := h.lst_inv
  exact ⟨_, _, rfl, .inl ⟨us, sq_of (e _ _ ha), rfl⟩, by rw [r.length]; exact q _ (.int _)⟩
theorem rc_lenT {l : List Da} : RC K (rLenG K) [.tup l] (.int (l.length : Nat)) := rc_fin fun B H vs e hv Q q => by
  obtain ⟨v, rfl, h⟩ := one hv
  obtain ⟨a, us, rfl, ha, r⟩ := h.tup_inv
  exact ⟨_, _, rfl, .inr ⟨us, st_of (e _ _ ha), rfl⟩, by rw [r.length]; exact q _ (.int _)⟩
theorem rc_lenS {z : Str} (hz : z.length ≤ 100000) : RC K (rLenG K) [.str z] (.int (z.length : Nat)) := rc_fin fun B H vs e hv Q q => by
  obtain ⟨v, rfl, h⟩ := one hv
  exact ⟨_, z.length, rfl, by rw [h.str_inv]; exact ⟨sz_of hz, rfl⟩, q _ (.int _)⟩
theorem bl_map {B : Hp} : ∀ {vs : List V} {bs : List Bool}, IsL K B vs (bs.map Da.bl) → vs = bs.map V.bl
  | _, [], .nil => rfl
  | _, b :: bs, .cons h r => by rw [h.bl_inv, bl_map r] <;> rfl
theorem rc_all {bs : List Bool} : RC K (rAll K) [.lst (bs.map .bl)] (.bl (bs.all id)) := rc_fin fun B H vs e hv Q q => by
  obtain ⟨v, rfl, h⟩ := one hv
  obtain ⟨a, us, rfl, ha, r⟩ := h.lst_inv
  rw [bl_map r] at ha
  exact ⟨a, bs, rfl, sq_of (e _ _ ha), q _ (.bl _)⟩
theorem rc_any {bs : List Bool} : RC K (rAny K) [.lst (bs.map .bl)] (.bl (bs.any id)) := rc_fin fun B H vs e hv Q q => by
  obtain ⟨v, rfl, h⟩ := one hv
  obtain ⟨a, us, rfl, ha, r⟩ := h.lst_inv
  rw [bl_map r] at ha
  exact ⟨a, bs, rfl, sq_of (e _ _ ha), q _ (.bl _)⟩
theorem rc_tupL {l : List Da} : RC K (rTupG K) [.lst l] (.tup l) := fun B H vs e hv Q q => by
  obtain ⟨v, rfl, h⟩ := one hv
  obtain ⟨a, us, rfl, ha, r⟩ := h.lst_inv
  exact ⟨a, us, rfl, .inl ⟨sq_of (e _ _ ha), fun p hp => q _ _ _ (Step.laid e hp) (.tup upd_same (r.mono (Ex.new (e.free hp))))⟩⟩
theorem rc_tupT {l : List Da} : RC K (rTupG K) [.tup l] (.tup l) := rc_fin fun B H vs e hv Q q => by
  obtain ⟨v, rfl, h⟩ := one hv
  have h0 := h
  obtain ⟨a, us, rfl, ha, r⟩ := h.tup_inv
  exact ⟨a, us, rfl, .inr ⟨st_of (e _ _ ha), q _ h0⟩⟩
theorem eo_lstL {ta : TA} {l : List Da} (h : EvA K ta Γ [.lst l]) : EvO K (tCB (rLstG K) ta) Γ l := fun H0 B H σ e Q q => h H0 B H σ e _ fun vs B1 H1 s1 hv => by
  obtain ⟨v, rfl, h⟩ := one hv
  obtain ⟨a, us, rfl, ha, r⟩ := h.lst_inv
  exact ⟨a, us, rfl, .inl (sq_of (s1.bh _ _ ha)), fun p hp => q p us B1 _ (s1.trans ⟨Ex.new hp, Ex.refl _, s1.bh.trans (Ex.new hp), fun _ _ w => .inr w⟩) (s1.hh.free hp) (s1.bh.free hp) upd_same r⟩
theorem eo_lstT {ta : TA} {l : List Da} (h : EvA K ta Γ [.tup l]) : EvO K (tCB (rLstG K) ta) Γ l := fun H0 B H σ e Q q => h H0 B H σ e _ fun vs B1 H1 s1 hv => by
  obtain ⟨v, rfl, h⟩ := one hv
  obtain ⟨a, us, rfl, ha, r⟩ := h.tup_inv
  exact ⟨a, us, rfl, .inr (st_of (s1.bh _ _ ha)), fun p hp => q p us B1 _ (s1.trans ⟨Ex.new hp, Ex.refl _, s1.bh.trans (Ex.new hp), fun _ _ w => .inr w⟩) (s1.hh.free hp) (s1.bh.free hp) upd_same r⟩
theorem rc_intI {i : Int} : RC K rIntG [.int i] (.int i) := rc_fin fun B H vs e hv Q q => by
  obtain ⟨v, rfl, h⟩ := one hv
  exact .inl ⟨i, by rw [h.int_inv], q _ (.int _)⟩
theorem rc_intB {k : Bool} : RC K rIntG [.bl k] (.int (if k then 1 else 0)) := rc_fin fun B H vs e hv Q q => by
  obtain ⟨v, rfl, h⟩ := one hv
  exact .inr ⟨k, by rw [h.bl_inv], q _ (.int _)⟩
theorem rc_abs {i : Int} : RC K rAbsG [.int i] (.int (if i < 0 then -i else i)) := rc_fin fun B H vs e hv Q q => by
  obtain ⟨v, rfl, h⟩ := one hv
  exact ⟨i, by rw [h.int_inv], q _ (.int _)⟩
theorem rc_max {i j : Int} : RC K rMaxG [.int i, .int j] (.int (if j > i then j else i)) := rc_fin fun B H vs e hv Q q => by
  obtain ⟨v, u, rfl, h, h2⟩ := two hv
  exact ⟨i, j, by rw [h.int_inv, h2.int_inv], q _ (.int _)⟩
theorem rc_min {i j : Int} : RC K rMinG [.int i, .int j] (.int (if j < i then j else i)) := rc_fin fun B H vs e hv Q q => by
  obtain ⟨v, u, rfl, h, h2⟩ := two hv
  exact ⟨i, j, by rw [h.int_inv, h2.int_inv], q _ (.int _)⟩
theorem rc_str {i : Int} (hi : i.natAbs.log2 < 1920) : RC K rStrG [.int i] (.str (toString i)) := rc_fin fun B H vs e hv Q q => by
  obtain ⟨v, rfl, h⟩ := one hv
  exact ⟨i, by rw [h.int_inv], hi, q _ (.str _)⟩
end
end WM

/-! ## Rv2 -/
set_option maxHeartbeats 4000000
/-! More operations by data; what is walked; dicts; a def's promise by its body. -/
namespace WM
open PySem L2
section
variable {K : PySem.W.Frag} {Γ : List Sl} {te ta tb td ty : TE} {d x : Da}
/-! ### slices -/
def cutG {α : Type} (xs : List α) (lo hi : Option Int) : List α := (xs.drop (HT.sIx xs.length 0 lo)).take (HT.sIx xs.length xs.length hi - HT.sIx xs.length 0 lo)
theorem cut_is {B : Hp} {vs : List V} {ds : List Da} {lo hi : Option Int} (r : IsL K B vs ds) : IsL K B (cutV vs lo hi) (cutG ds lo hi) := by
  unfold cutV cutG
  rw [r.length]
  exact (r.drop _).take _
theorem eo_slL {tl th : TO} {l : List Da} {lo hi : Option Int} (h : Ev K te Γ (.lst l)) (h1 : EvP K tl Γ lo) (h2 : EvP K th Γ hi) : EvO K (tSl (rSlG K) te tl th) Γ (cutG l lo hi) := fun H0 B H σ e Q q =>
  h H0 B H σ e _ fun v B1 H1 s1 hv => h1 H0 B1 H1 σ (e.step s1) _ fun B2 H2 s2 => h2 H0 B2 H2 σ (e.step (s1.trans s2)) _ fun B3 H3 s3 => by
    have s13 := (s1.trans s2).trans s3
    obtain ⟨a, vs, rfl, ha, r⟩ := (hv.mono (s2.trans s3).bb).lst_inv
    exact .inl ⟨a, vs, rfl, sq_of (s3.bh _ _ ha), fun p hp => q p _ B3 _ (s13.trans ⟨Ex.new hp, Ex.refl _, s3.bh.trans (Ex.new hp), fun _ _ w => .inr w⟩) (s13.hh.free hp) (s3.bh.free hp) upd_same (cut_is r)⟩
theorem ev_slL {tl th : TO} {l : List Da} {lo hi : Option Int} (h : Ev K te Γ (.lst l)) (h1 : EvP K tl Γ lo) (h2 : EvP K th Γ hi) : Ev K (tSl (rSlG K) te tl th) Γ (.lst (cutG l lo hi)) := (eo_slL h h1 h2).ev
theorem ev_slT {tl th : TO} {l : List Da} {lo hi : Option Int} (h : Ev K te Γ (.tup l)) (h1 : EvP K tl Γ lo) (h2 : EvP K th Γ hi) : Ev K (tSl (rSlG K) te tl th) Γ (.tup (cutG l lo hi)) := fun H0 B H σ e Q q =>
  h H0 B H σ e _ fun v B1 H1 s1 hv => h1 H0 B1 H1 σ (e.step s1) _ fun B2 H2 s2 => h2 H0 B2 H2 σ (e.step (s1.trans s2)) _ fun B3 H3 s3 => by
    have s13 := (s1.trans s2).trans s3
    have hv3 := hv.mono (s2.trans s3).bb
    obtain ⟨a, vs, rfl, ha, r⟩ := hv3.tup_inv
    refine .inr (.inl ⟨a, vs, rfl, st_of (s3.bh _ _ ha), fun z => q _ B3 H3 s13 ?_, fun _ p hp => q _ _ _ (s13.trans (Step.laid s3.bh hp)) (.tup upd_same ((cut_is r).mono (Ex.new (s3.bh.free hp))))⟩)
    rw [r.length] at z
    have e1 : cutG l lo hi = l := by
      unfold cutG
      rw [z.1, z.2]
      simp
    rw [e1]
    exact .tup ha r
theorem ev_slS {tl th : TO} {z : Str} {lo hi : Option Int} (hz : z.length ≤ 100000) (h : Ev K te Γ (.str z)) (h1 : EvP K tl Γ lo) (h2 : EvP K th Γ hi) : Ev K (tSl (rSlG K) te tl th) Γ (.str (cutS z lo hi)) := fun H0 B H σ e Q q =>
  h H0 B H σ e _ fun v B1 H1 s1 hv => h1 H0 B1 H1 σ (e.step s1) _ fun B2 H2 s2 => h2 H0 B2 H2 σ (e.step (s1.trans s2)) _ fun B3 H3 s3 =>
    .inr (.inr ⟨z, hv.str_inv, sz_of hz, q _ B3 H3 ((s1.trans s2).trans s3) (.str _)⟩)
/-- of the script -/
theorem ev_slC {tl th : TO} {ns : List Int} {lo hi : Option Int} (h : Ev K te Γ (.scr ns)) (h1 : EvP K tl Γ lo) (h2 : EvP K th Γ hi) : Ev K (tSl (rSlG K) te tl th) Γ (.lst ((cutG ns lo hi).map .int)) := fun H0 B H σ e Q q =>
  h H0 B H σ e _ fun v B1 H1 s1 hv => h1 H0 B1 H1 σ (e.step s1) _ fun B2 H2 s2 => h2 H0 B2 H2 σ (e.step (s1.trans s2)) _ fun B3 H3 s3 => by
    have s13 := (s1.trans s2).trans s3
    obtain ⟨a, rfl, ha⟩ := (hv.mono (s2.trans s3).bb).scr_inv
    refine .inl ⟨a, _, rfl, ex_l s3.bh ha, fun p hp => ?_⟩
    have e1 : cutV (ns.map V.int) lo hi = (cutG ns lo hi).map V.int := by
      unfold cutV cutG
      rw [List.length_map, List.map_take, List.map_drop]
    have key : ∀ ms : List Int, IsL K B3 (ms.map V.int) (ms.map Da.int) := fun ms => by
      induction ms with
      | nil => exact .nil
      | cons m ms ih => exact .cons (.int m) ih
    rw [e1]
    exact q _ _ _ (s13.trans (Step.laid s3.bh hp)) (.lst upd_same ((key _).mono (Ex.new (s3.bh.free hp))))
theorem ev_revL {l : List Da} (h : Ev K te Γ (.lst l)) : Ev K (tRevL K te) Γ (.lst l.reverse) := fun H0 B H σ e Q q => h H0 B H σ e _ fun v B1 H1 s1 hv => by
  obtain ⟨a, vs, rfl, ha, r⟩ := hv.lst_inv
  exact ⟨a, vs, rfl, sq_of (s1.bh _ _ ha), fun p hp => q _ _ _ (s1.trans (Step.laid s1.bh hp)) (.lst upd_same (r.rev.mono (Ex.new (s1.bh.free hp))))⟩
/-! ### join, index -/
theorem str_map {B : Hp} : ∀ {vs : List V} {ss : List Str}, IsL K B vs (ss.map Da.str) → vs = ss.map V.str
  | _, [], .nil => rfl
  | _, b :: bs, .cons h r => by rw [h.str_inv, str_map r] <;> rfl
theorem ev_join {a : Str} {ys : List Str} (h : Ev K ta Γ (.str a)) (h1 : Ev K te Γ (.lst (ys.map .str))) (hz : (ys.map (·.length)).sum + ys.length * a.length ≤ 16777216) : Ev K (tM1 (rJoinG K) ta te) Γ (.str (Txt.join a ys)) := fun H0 B H σ e Q q =>
  h H0 B H σ e _ fun v B1 H1 s1 hv => by
    rw [hv.str_inv]
    refine ⟨⟨a, rfl⟩, h1 H0 B1 H1 σ (e.step s1) _ fun u B2 H2 s2 hu => ?_⟩
    obtain ⟨p, us, rfl, hp, r⟩ := hu.lst_inv
    rw [str_map r] at hp
    exact ⟨a, p, ys, rfl, rfl, .inl (sq_of (s2.bh _ _ hp)), hz, q _ B2 H2 (s1.trans s2) (.str _)⟩
theorem ev_index {ds : List Da} {j : Nat} {t : TA} {z : Da} (h : Ev K ta Γ (.lst ds)) (h1 : EvA K t Γ [x]) (hx : flatD x = true) (hd : ds.all flatD = true) (hj : ds[j]? = some z) (hz : eqV (scV z) (scV x) = true)
    (hno : ∀ (m : Nat) (z' : Da), m < j → ds[m]? = some z' → eqV (scV z') (scV x) = false) : Ev K (tBM K "list" (rIndex K) ta t) Γ (.int (j : Nat)) := fun H0 B H σ e Q q =>
  h H0 B H σ e _ fun v B1 H1 s1 hv => by
    obtain ⟨a, vs, rfl, ha, r⟩ := hv.lst_inv
    refine ⟨Or.inl ⟨rfl, vs, sq_of (s1.bh _ _ ha)⟩, h1 H0 B1 H1 σ (e.step s1) _ fun us B2 H2 s2 hu => ?_⟩
    obtain ⟨u, rfl, hu1⟩ := one hu
    have eu := hu1.flat hx
    subst eu
    have ef := r.flat hd
    refine ⟨a, vs, scV x, j, scV z, rfl, rfl, sq_of (s2.hh _ _ (s1.bh _ _ ha)), flat_scV hx, by rw [ef]; exact flat_map hd, by rw [ef, List.getElem?_map, hj] <;> rfl, hz, fun m z' hm hz' => ?_, q _ B2 H2 (s1.trans s2) (.int _)⟩
    rw [ef, List.getElem?_map] at hz'
    cases e1 : ds[m]? with
    | none => rw [e1] at hz'; cases hz'
    | some y =>
      rw [e1] at hz'
      have e2 : scV y = z' := Option.some.inj hz'
      rw [← e2]
      exact hno m y hm e1
/-! ### truth -/
def tTruG (K : PySem.W.Frag) (ta : TE) : TT := fun σ H Q => ta σ H fun x H' => ∃ k, TruV K x H' k ∧ Q k H'
theorem et_truL {l : List Da} (h : Ev K ta Γ (.lst l)) : EvT K (tTruG K ta) Γ (!l.isEmpty) := fun H0 B H σ e Q q => h H0 B H σ e _ fun v B1 H1 s1 hv => by
  obtain ⟨a, vs, rfl, ha, r⟩ := hv.lst_inv
  refine ⟨_, .inl ⟨vs, sq_of (s1.bh _ _ ha), rfl⟩, ?_⟩
  have e1 : vs.isEmpty = l.isEmpty := by cases r <;> rfl
  rw [e1]
  exact q B1 H1 s1
/-! ### what is walked, whatever its kind -/
theorem it_seqL {xs : List Da} (h : Ev K te Γ (.lst xs)) : ItD K (iSeq K te) Γ xs := fun H0 B H σ e R q => .inl (it_list h H0 B H σ e R q)
theorem it_seqT {xs : List Da} (h : Ev K te Γ (.tup xs)) : ItD K (iSeq K te) Γ xs := fun H0 B H σ e R q => .inr (.inl (it_tup h H0 B H σ e R q))
theorem it_seqS {z : Str} (h : Ev K te Γ (.str z)) : ItD K (iSeq K te) Γ ((chars z).map .str) := fun H0 B H σ e R q => .inr (.inr (it_str h H0 B H σ e R q))
theorem it_enL {t : TA} {xs : List Da} (h : EvA K t Γ [.lst xs]) : ItD K (iEnumG K t) Γ (xs.zipIdx.map fun p => .tup [.int (p.2 : Int), p.1]) := fun H0 B H σ e R q => .inl (it_enumL h H0 B H σ e R q)
theorem it_enT {t : TA} {xs : List Da} (h : EvA K t Γ [.tup xs]) : ItD K (iEnumG K t) Γ (xs.zipIdx.map fun p => .tup [.int (p.2 : Int), p.1]) := fun H0 B H σ e R q => .inr (it_enumT h H0 B H σ e R q)
theorem ev_lc {wi : TI} {g : TG} {js vs : List Nat} {xs : List Da} {tt : TT} (hi : ItD K wi Γ xs) (hz : xs.length ≤ 50000) (f : Da → Bool) (m : Da → Da) (hj : ∀ j ∈ js, j ∈ vs)
    (hs : ∀ (i : Nat) x, xs[i]? = some x → Tg K g js (wipeG Γ vs) x fun Γ2 => EvT K tt Γ2 (f x) ∧ (f x = true → Ev K te Γ2 (m x))) : Ev K (tLc wi g tt te vs) Γ (.lst ((xs.filter f).map m)) := (eo_lc hi hz f m hj hs).ev
theorem et_yes : EvT K tYes Γ true := fun H0 B H σ e Q q => q B H (Step.refl e.bh)
/-- a star in a display -/
theorem ea_star {tr : TA} {xs ds : List Da} (h : Ev K te Γ (.tup xs)) (hr : EvA K tr Γ ds) : EvA K (tStar K te tr) Γ (xs ++ ds) := fun H0 B H σ e Q q =>
  h H0 B H σ e _ fun v B1 H1 s1 h1 => by
    obtain ⟨a, vs, rfl, ha, r⟩ := h1.tup_inv
    exact ⟨a, vs, rfl, st_of (s1.bh _ _ ha), hr H0 B1 H1 σ (e.step s1) _ fun us B2 H2 s2 h2 => q _ B2 H2 (s1.trans s2) ((r.mono s2.bb).append h2)⟩
/-! ### dicts -/
theorem isK_get {B : Hp} {k : Str} : ∀ {vs : List (Key × V)} {fs : List (Str × Da)}, IsK K B vs fs → ∀ {d : Da}, fs.lookup k = some d → ∃ v, valV vs (.inr k) = some v ∧ Is K B v d
  | _, _, .nil, _, e => by cases e
  | _, _, .cons (x := y) h r, d, e => by
    rw [List.lookup_cons] at e
    by_cases c : k = y
    · subst c
      rw [beq_self_eq_true] at e
      have e1 := Option.some.inj e
      subst e1
      exact ⟨_, valV_pos rfl, h⟩
    · rw [beq_eq_false_iff_ne.mpr c] at e
      obtain ⟨v, h1, h2⟩ := isK_get r e
      exact ⟨v, by rw [valV_neg (fun z => c (Sum.inr.inj z).symm)]; exact h1, h2⟩
theorem isK_none {B : Hp} {k : Str} : ∀ {vs : List (Key × V)} {fs : List (Str × Da)}, IsK K B vs fs → fs.lookup k = none → valV vs (.inr k) = none
  | _, _, .nil, _ => rfl
  | _, _, .cons (x := y) h r, e => by
    rw [List.lookup_cons] at e
    by_cases c : k = y
    · subst c
      rw [beq_self_eq_true] at e
      cases e
    · rw [beq_eq_false_iff_ne.mpr c] at e
      rw [valV_neg (fun z => c (Sum.inr.inj z).symm)]
      exact isK_none r e
theorem ev_dget {fs : List (Str × Da)} {k : Str} (h : Ev K td Γ (.dic fs)) (hk : Ev K ty Γ (.str k)) (hl : fs.lookup k = some d) : Ev K (tDGet td ty) Γ d := fun H0 B H σ e Q q =>
  h H0 B H σ e _ fun v B1 H1 s1 h1 => hk H0 B1 H1 σ (e.step s1) _ fun u B2 H2 s2 h2 => by
    obtain ⟨a, vs, rfl, ha, r⟩ := (h1.mono s2.bb).dic_inv
    obtain ⟨w, e1, hw⟩ := isK_get r hl
    rw [h2.str_inv]
    refine ⟨a, w, rfl, ?_, q w B2 H2 (s1.trans s2) hw⟩
    have z := DGet.k (k := .inr k) (s2.bh _ _ ha)
    rw [e1] at z
    exact z
theorem ev_din {fs : List (Str × Da)} {k : Str} (h : Ev K td Γ (.dic fs)) (hk : Ev K ty Γ (.str k)) : Ev K (tDIn ty td) Γ (.bl (fs.lookup k).isSome) := fun H0 B H σ e Q q =>
  hk H0 B H σ e _ fun u B1 H1 s1 h1 => h H0 B1 H1 σ (e.step s1) _ fun v B2 H2 s2 h2 => by
    obtain ⟨a, vs, rfl, ha, r⟩ := h2.dic_inv
    rw [h1.str_inv]
    cases e1 : fs.lookup k with
    | none =>
      have z := DGet.k (k := .inr k) (s2.bh _ _ ha)
      rw [isK_none r e1] at z
      exact ⟨a, none, rfl, z, q _ B2 H2 (s1.trans s2) (by rw [e1]; exact .bl _)⟩
    | some d =>
      obtain ⟨w, e2, hw⟩ := isK_get r e1
      have z := DGet.k (k := .inr k) (s2.bh _ _ ha)
      rw [e2] at z
      exact ⟨a, some w, rfl, z, q _ B2 H2 (s1.trans s2) (by rw [e1]; exact .bl _)⟩
theorem ev_dnin {fs : List (Str × Da)} {k : Str} (h : Ev K td Γ (.dic fs)) (hk : Ev K ty Γ (.str k)) : Ev K (tDNotIn ty td) Γ (.bl (!(fs.lookup k).isSome)) := fun H0 B H σ e Q q =>
  hk H0 B H σ e _ fun u B1 H1 s1 h1 => h H0 B1 H1 σ (e.step s1) _ fun v B2 H2 s2 h2 => by
    obtain ⟨a, vs, rfl, ha, r⟩ := h2.dic_inv
    rw [h1.str_inv]
    cases e1 : fs.lookup k with
    | none =>
      have z := DGet.k (k := .inr k) (s2.bh _ _ ha)
      rw [isK_none r e1] at z
      exact ⟨a, none, rfl, z, q _ B2 H2 (s1.trans s2) (by rw [e1]; exact .bl _)⟩
    | some d =>
      obtain ⟨w, e2, hw⟩ := isK_get r e1
      have z := DGet.k (k := .inr k) (s2.bh _ _ ha)
      rw [e2] at z
      exact ⟨a, some w, rfl, z, q _ B2 H2 (s1.trans s2) (by rw [e1]; exact .bl _)⟩
theorem rc_dict {fs : List (Str × Da)} : RC K rDictCp [.dic fs] (.dic fs) := fun B H vs e hv Q q => by
  obtain ⟨v, rfl, h⟩ := one hv
  obtain ⟨a, us, rfl, ha, r⟩ := h.dic_inv
  exact ⟨a, us, rfl, .inl (e _ _ ha), fun p hp => q _ _ _ (Step.laid e hp) (.dic upd_same (r.mono (Ex.new (e.free hp))))⟩
/-- {k: v for ..}, keys that differ -/
theorem isK_append {B : Hp} : ∀ {vs us : List (Key × V)} {ds es : List (Str × Da)}, IsK K B vs ds → IsK K B us es → IsK K B (vs ++ us) (ds ++ es)
  | _, _, _, _, .nil, s => s
  | _, _, _, _, .cons h r, s => .cons h (isK_append r s)
theorem isK_len {B : Hp} : ∀ {vs : List (Key × V)} {ds : List (Str × Da)}, IsK K B vs ds → vs.length = ds.length
  | _, _, .nil => rfl
  | _, _, .cons _ r => congrArg Nat.succ (isK_len r)
theorem ev_dc {wi : TI} {g : TG} {js vs : List Nat} {xs : List Da} {tt : TT} {tk tv : TE} (hi : ItD K wi Γ xs) (hz : xs.length ≤ 50000) (key : Da → Str) (val : Da → Da) (nd : (xs.map key).Nodup) (hj : ∀ j ∈ js, j ∈ vs)
    (hs : ∀ (i : Nat) x, xs[i]? = some x → Tg K g js (wipeG Γ vs) x fun Γ2 => EvT K tt Γ2 true ∧ Ev K tk Γ2 (.str (key x)) ∧ Ev K tv Γ2 (val x)) : Ev K (tDc wi g tt tk tv vs) Γ (.dic (xs.map fun x => (key x, val x))) := fun H0 B H σ e Q q =>
  hi H0 B H σ e _ fun J B1 H1 G Y s1 hw hG hY => fun D hD => by
    have e1 := e.step s1
    let Pv : Nat → Hp → Prop := fun i H' => ∃ B' acc, Step B1 H1 B' H' ∧ B' D = none ∧ H' D = some (.dK acc) ∧ IsK K B' acc ((xs.take i).map fun x => (key x, val x))
    refine ⟨fun i m H' => m = xs.length - i ∧ i ≤ xs.length ∧ Pv i H', ⟨xs.length, by simp, Nat.zero_le _, B1, [], ⟨Ex.new hD, Ex.refl _, s1.bh.trans (Ex.new hD), fun _ _ w => .inr w⟩, s1.bh.free hD, upd_same, .nil⟩, ?_⟩
    rintro i m Hc ⟨rfl, hle, p⟩
    obtain ⟨B', acc, z, zb, zh, zl⟩ := id p
    have hg := hG Hc (z.bb.trans z.bh)
    by_cases lt : i < xs.length
    · refine .inr ⟨hw.goes i Hc lt hg, Pv (i + 1), fun H' p' => ⟨xs.length - (i + 1), by omega, rfl, lt, p'⟩, fun v H' y => ?_⟩
      obtain ⟨x, B2, hx, s2, hv⟩ := hY i Hc v H' lt (hw.yields i Hc v H' lt hg y) B' z.bb z.bh
      have sz : Step B1 H1 B2 H' := z.trans s2
      have eD : Env K H0 B2 H' (wipe σ vs) (wipeG Γ vs) := ((e1.step z).step s2).wipe vs
      have n2 : B2 D = none := s2.keepN zh zb
      have h2 : H' D = some (.dK acc) := s2.hh _ _ zh
      have tk1 : xs.take (i + 1) = xs.take i ++ [x] := by
        rw [List.take_add_one, hx] <;> rfl
      refine hs i x hx H0 B2 H' (wipe σ vs) v eD hv _ fun Γ2 σ2 ⟨ht, hk, he⟩ e2 hwp => ⟨?_, ?_⟩
      · rw [hwp vs hj]
        exact wipe_wipe σ vs
      · refine ht H0 B2 H' σ2 e2 _ fun B3 H3 s3 => ?_
        show tk σ2 H3 _
        refine hk H0 B3 H3 σ2 (e2.step s3) _ fun w B4 H4 s4 hw4 => he H0 B4 H4 σ2 (e2.step (s3.trans s4)) _ fun u B5 H5 s5 hu => ?_
        have s25 := (s3.trans s4).trans s5
        have n5 := s25.keepN h2 n2
        have h5 := s25.hh _ _ h2
        have s15 := sz.trans s25
        have zl5 := zl.mono (s2.bb.trans s25.bb)
        have hx2 : i < xs.length := lt
        have out : valV acc (.inr (key x)) = none := by
          refine isK_none zl5 ?_
          cases q1 : List.lookup (key x) ((xs.take i).map fun x => (key x, val x)) with
          | none => rfl
          | some d0 =>
            have mem : ∃ y ∈ xs.take i, key y = key x := by
              have : ∀ l : List Da, List.lookup (key x) (l.map fun x => (key x, val x)) = some d0 → ∃ y ∈ l, key y = key x := by
                intro l
                induction l with
                | nil => intro h; cases h
                | cons a l ih =>
                  intro h
                  rw [List.map_cons, List.lookup_cons] at h
                  by_cases c : key x = key a
                  · exact ⟨a, List.mem_cons_self .., c.symm⟩
                  · rw [beq_eq_false_iff_ne.mpr c] at h
                    obtain ⟨y, hy, ey⟩ := ih h
                    exact ⟨y, List.mem_cons_of_mem _ hy, ey⟩
              exact this _ q1
            obtain ⟨y, hy, ey⟩ := mem
            obtain ⟨j, hj2, ej⟩ := List.mem_iff_getElem.mp hy
            have hji : j < i := by rw [List.length_take] at hj2; omega
            rw [List.getElem_take] at ej
            have hxi : xs[i] = x := by
              rw [List.getElem?_eq_getElem lt] at hx
              exact Option.some.inj hx
            have c := List.pairwise_iff_getElem.mp nd j i (by rw [List.length_map]; omega) (by rw [List.length_map]; exact lt) hji
            rw [List.getElem_map, List.getElem_map, ej, hxi] at c
            exact absurd ey c
        rw [hw4.str_inv]
        refine ⟨acc, .inr (key x), rfl, h5, ?_, B5, acc ++ [(.inr (key x), u)], ⟨s15.hh.mut hD, s15.bb, s15.bh.mut n5, s15.nw⟩, n5, ?_, ?_⟩
        · rw [isK_len zl5, List.length_map]
          have l3 : (List.take i xs).length ≤ xs.length := by rw [List.length_take]; exact Nat.min_le_right _ _
          exact sz_lt (by omega)
        · rw [upd_same, putK_new _ out]
        · rw [tk1, List.map_append]
          exact isK_append zl5 (.cons hu .nil)
    · have e0 : i = xs.length := by omega
      subst e0
      refine .inl ⟨hw.stops Hc hg, ?_⟩
      rw [List.take_length] at zl
      have bh : Ex (upd B' D (.dK acc)) Hc := fun a o w => by
        by_cases c : a = D
        · subst c; rw [upd_same] at w; rw [zh]; exact w
        · rw [upd_ne c] at w; exact z.bh a o w
      refine q _ (upd B' D (.dK acc)) Hc (s1.trans ⟨z.hh, z.bb.trans (Ex.new zb), bh, fun a o w => ?_⟩) (.dic upd_same (zl.mono (Ex.new zb)))
      by_cases c : a = D
      · subst c; exact .inl hD
      · rw [upd_ne c] at w; exact z.nw a o w
end
end WM

/-! ## Fn1 -/
set_option maxHeartbeats 4000000
/-! A def's promise by its body. -/
namespace WM
open PySem PySem.Spec PyProof.Rows L2
def args (N : List Str) (ds : List Da) : List Sl := ds.map .dat ++ List.replicate (N.length - ds.length) .un
theorem env_start {K : PySem.W.Frag} {N : List Str} {H0 B H : Hp} {vs : List V} {ds : List Da} (e : Ex B H) (r : IsL K B vs ds) : Env K H0 B H (L2.start N vs) (args N ds) := by
  refine ⟨e, ?_, fun i s ov a b => ?_, fun i j s t p _ a _ os _ _ _ => ?_⟩
  · unfold L2.start args
    simp [r.length]
  · unfold L2.start at b
    unfold args at a
    by_cases lt : i < ds.length
    · rw [List.getElem?_append_left (by simpa using lt), List.getElem?_map] at a
      rw [List.getElem?_append_left (by simpa [r.length] using lt), List.getElem?_map] at b
      rw [List.getElem?_eq_getElem lt] at a
      obtain ⟨v, hv, hi⟩ := r.get (List.getElem?_eq_getElem lt)
      rw [hv] at b
      have e1 : Sl.dat ds[i] = s := Option.some.inj a
      have e2 : some v = ov := Option.some.inj b
      rw [← e1, ← e2]
      exact ⟨v, rfl, hi⟩
    · rw [List.getElem?_append_right (by simp; omega)] at a
      have := (List.getElem?_eq_some_iff.mp a).2
      rw [List.getElem_replicate] at this
      rw [← this]
      trivial
  · unfold args at a
    by_cases lt : i < ds.length
    · rw [List.getElem?_append_left (by simpa using lt), List.getElem?_map, List.getElem?_eq_getElem lt] at a
      have e1 : Sl.dat ds[i] = s := Option.some.inj a
      rw [← e1] at os
      cases os
    · rw [List.getElem?_append_right (by simp; omega)] at a
      have := (List.getElem?_eq_some_iff.mp a).2
      rw [List.getElem_replicate] at this
      rw [← this] at os
      cases os
theorem args_one {N : List Str} {d : Da} : ∀ {s : Sl}, (args N [d])[0]? = some (.dat d) := rfl
section
variable {P : Program} {w : World} {K : PySem.W.Frag} {mg : Str → Option Value} {base : Heap} {x qual : Str} {params : Arguments} {body : List Stmt} {scope : Scope} {kws : List (Str × V)} {f : Addr} {fd : FuncData} {N ps : List Str} {k : Nat}
theorem fn_pure {R : List Da → Da → Prop} (F : FunD K x qual params body scope [] kws f fd) (S : FnScope N ps scope) (len : ∀ ds d, R ds d → ds.length = ps.length)
    (hb : ∀ (cdv : Value) (A : Around) (outer : List PySem.Env) (s : Shared) (H : Hp) (E : XK), Room k (A.deeper (envOfC qual scope s.heap.objs.size f cdv)) →
      ∃ t, PSs (cxOf CX0 P w K mg base N qual scope f cdv A outer s H E).nox body t ∧ ∀ ds d, R ds d → Wp K t (args N ds) { nx := fun _ => d = .non, rt := fun z => z = d }) : FnOk P w K mg base CX0 (k + 1) f fd ps (spP K R) := by
  refine F.ok S (fun vs H Q E ⟨B, ds, d, _, r, h, _⟩ => r.length.trans (len ds d h)) fun cdv A outer s H vs Q E hr ⟨B, ds, d, e, r, h, q⟩ => ?_
  obtain ⟨t, ht, hw⟩ := hb cdv A outer s H E hr
  refine ⟨t, ht.nox, hw ds d h B H B H _ _ (Step.refl e) (env_start e r) ⟨fun B' H' σ Γ st _ z => ?_, fun v B' H' d' st hv z => ?_, fun _ _ _ _ _ _ _ _ _ _ z => z.elim, fun _ _ _ _ _ _ z => z.elim, fun _ _ _ _ _ _ z => z.elim⟩⟩
  · have z2 : d = .non := z
    subst z2
    exact q _ B' H' st .non
  · have z2 : d' = d := z
    subst z2
    exact q v B' H' st hv
/-- what is handed back is a new list of the caller's own -/
theorem fn_own {R : List Da → List Da → Prop} (F : FunD K x qual params body scope [] kws f fd) (S : FnScope N ps scope) (len : ∀ ds d, R ds d → ds.length = ps.length)
    (hb : ∀ (cdv : Value) (A : Around) (outer : List PySem.Env) (s : Shared) (H : Hp) (E : XK), Room k (A.deeper (envOfC qual scope s.heap.objs.size f cdv)) →
      ∃ t, PSs (cxOf CX0 P w K mg base N qual scope f cdv A outer s H E).nox body t ∧ ∀ ds l, R ds l → Wp K t (args N ds) { nx := fun _ => False, rt := fun _ => False, ro := fun z => z = l }) : FnOk P w K mg base CX0 (k + 1) f fd ps (spO K R) := by
  refine F.ok S (fun vs H Q E ⟨B, ds, d, _, r, h, _⟩ => r.length.trans (len ds d h)) fun cdv A outer s H vs Q E hr ⟨B, ds, l, e, r, h, q⟩ => ?_
  obtain ⟨t, ht, hw⟩ := hb cdv A outer s H E hr
  refine ⟨t, ht.nox, hw ds l h B H B H _ _ (Step.refl e) (env_start e r) ⟨fun _ _ _ _ _ _ z => z.elim, fun _ _ _ _ _ _ z => z.elim, fun p us B' H' l' st b h0 hv hr' z => ?_, fun _ _ _ _ _ _ z => z.elim, fun _ _ _ _ _ _ z => z.elim⟩⟩
  have z2 : l' = l := z
  subst z2
  exact q p us B' H' st h0 b hv hr'
/-- __init__ -/
theorem fn_init {C : Addr} {R : List Da → List (Str × Da) → Prop} (F : FunD K x qual params body scope [] kws f fd) (S : FnScope N ps scope) (len : ∀ ds d, R ds d → ds.length + 1 = ps.length) (hN : 0 < N.length)
    (hb : ∀ (cdv : Value) (A : Around) (outer : List PySem.Env) (s : Shared) (H : Hp) (E : XK), Room k (A.deeper (envOfC qual scope s.heap.objs.size f cdv)) →
      ∃ t, PSs (cxOf CX0 P w K mg base N qual scope f cdv A outer s H E).nox body t ∧ ∀ ds fs p, R ds fs → Wp K t (.obj p C [] :: args N.tail ds) { nx := fun Γ => Γ[0]? = some (.obj p C fs), rt := fun _ => False }) : FnOk P w K mg base CX0 (k + 1) f fd ps (spI K C R) := by
  refine F.ok S (fun vs H Q E ⟨B, Hs, p, dx, us, ds, fs, ev, _, _, _, _, _, r, h, _⟩ => by rw [ev, ← len ds fs h, List.length_cons, r.length]) fun cdv A outer s H vs Q E hr ⟨B, Hs, p, dx, us, ds, fs, ev, e, hp, hd, hn, eH, r, h, q⟩ => ?_
  obtain ⟨t, ht, hw⟩ := hb cdv A outer s H E hr
  subst ev
  have st0 : Step B Hs B H := eH ▸ step_made (dy := 0) e hp hd hn
  have e1 : L2.start N (.ref p :: us) = some (.ref p) :: L2.start N.tail us := by
    unfold L2.start
    rw [List.map_cons, List.cons_append, List.length_cons, List.length_tail]
    congr 3
    omega
  have ev : Env K Hs B H (L2.start N.tail us) (args N.tail ds) := env_start st0.bh r
  have env : Env K Hs B H (L2.start N (.ref p :: us)) (.obj p C [] :: args N.tail ds) := by
    rw [e1]
    refine ⟨st0.bh, by rw [List.length_cons, List.length_cons, ev.len], fun i s' ov a b => ?_, fun i j s' t' y hij a b os ot c c' => ?_⟩
    · cases i with
      | zero =>
        cases a
        cases b
        exact ⟨dx, [], rfl, by rw [eH, upd_same], .nil, e.free hp, hp⟩
      | succ i => exact ev.sl i s' ov a b
    · cases i with
      | zero => cases j with
        | zero => exact hij rfl
        | succ j =>
          have b2 : (args N.tail ds)[j]? = some t' := b
          unfold args at b2
          by_cases lt : j < ds.length
          · rw [List.getElem?_append_left (by simpa using lt), List.getElem?_map, List.getElem?_eq_getElem lt] at b2
            have z : Sl.dat ds[j] = t' := Option.some.inj b2
            rw [← z] at ot
            cases ot
          · rw [List.getElem?_append_right (by simp; omega)] at b2
            have := (List.getElem?_eq_some_iff.mp b2).2
            rw [List.getElem_replicate] at this
            rw [← this] at ot
            cases ot
      | succ i =>
        have a2 : (args N.tail ds)[i]? = some s' := a
        unfold args at a2
        by_cases lt : i < ds.length
        · rw [List.getElem?_append_left (by simpa using lt), List.getElem?_map, List.getElem?_eq_getElem lt] at a2
          have z : Sl.dat ds[i] = s' := Option.some.inj a2
          rw [← z] at os
          cases os
        · rw [List.getElem?_append_right (by simp; omega)] at a2
          have := (List.getElem?_eq_some_iff.mp a2).2
          rw [List.getElem_replicate] at this
          rw [← this] at os
          cases os
  refine ⟨t, ht.nox, hw ds fs p h B Hs B H _ _ st0 env ⟨fun B' H' σ Γ st en z => ?_, fun _ _ _ _ _ _ z => z.elim, fun _ _ _ _ _ _ _ _ _ _ z => z.elim, fun _ _ _ _ _ _ z => z.elim, fun _ _ _ _ _ _ z => z.elim⟩⟩
  obtain ⟨dy, ws, _, h2, h3, h4, _⟩ := en.obj z
  exact q dy ws B' H' st h4 h2 h3
/-- all keywords are written -/
theorem kb_all (F : FunD K x qual params body scope [] kws f fd) (n : Nat) (ks : List Str) 
    (h : ∀ (kV doc pm : Value) (an : Option Addr) (cdv ct : Value) (us ws : List Value), us.length = n → ws.length = ks.length → bindArgs (PySem.W.fnOf x qual params body scope .none kV doc pm an cdv ct) ⟨us, ks.zip ws⟩ = pure (ps.zip (us ++ ws))) :
    KBn K fd ps n ks (fun us ws => us ++ ws) (fun vs zs => vs ++ zs) := by
  obtain ⟨oc, od, dV, kV, doc, pm, an, cdv, ct, osl, rfl, lk, hcd, hD, hK⟩ := F.ex
  rcases hD with ⟨_, rfl⟩ | ⟨e, _⟩
  · exact ⟨fun s us ws _ h1 h2 => .of_eq (h kV doc pm an cdv ct us ws h1 h2), fun r1 r2 => r1.append r2⟩
  · exact absurd rfl e
end
end WM

/-! ## Fn2 -/
set_option maxHeartbeats 4000000
/-! What is told of a result by a property; callees by name. -/
namespace WM
open PySem PySem.Spec PyProof.Rows L2
/-- data in, some data out of which R is true -/
def spX (K : PySem.W.Frag) (A : List Da → Prop) (R : List Da → Da → Prop) : Sp := fun vs H Q _ => ∃ (B : Hp) (ds : List Da), Ex B H ∧ IsL K B vs ds ∧ A ds ∧ ∀ v B' H' d, R ds d → Step B H B' H' → Is K B' v d → Q v H'
def spXO (K : PySem.W.Frag) (A : List Da → Prop) (R : List Da → List Da → Prop) : Sp := fun vs H Q _ => ∃ (B : Hp) (ds : List Da), Ex B H ∧ IsL K B vs ds ∧ A ds ∧
  ∀ p us B' H' l, R ds l → Step B H B' H' → H p = none → B' p = none → H' p = some (.lst us) → IsL K B' us l → Q (.ref p) H'
def EvX (K : PySem.W.Frag) (te : TE) (Γ : List Sl) (P : Da → Prop) : Prop :=
  ∀ (H0 B H : Hp) (σ : L2.St), Env K H0 B H σ Γ → ∀ Q : VK, (∀ v B' H' d, P d → Step B H B' H' → Is K B' v d → Q v H') → te σ H Q
def EvXO (K : PySem.W.Frag) (te : TE) (Γ : List Sl) (P : List Da → Prop) : Prop :=
  ∀ (H0 B H : Hp) (σ : L2.St), Env K H0 B H σ Γ → ∀ Q : VK, (∀ p us B' H' l, P l → Step B H B' H' → H p = none → B' p = none → H' p = some (.lst us) → IsL K B' us l → Q (.ref p) H') → te σ H Q
section
variable {K : PySem.W.Frag} {Γ : List Sl} {te : TE} {ta : TA} {ds : List Da} {E0' : XK} {E : En} {t : TS}
theorem evx_call {A : List Da → Prop} {R : List Da → Da → Prop} (h : EvA K ta Γ ds) (ha : A ds) : EvX K (tCall (spX K A R) [] E0' ta) Γ (R ds) := fun H0 B H σ e Q q =>
  h H0 B H σ e _ fun vs B1 H1 s1 h1 => by
    rw [List.append_nil]
    exact ⟨B1, ds, s1.bh, h1, ha, fun v B2 H2 d hd s2 h2 => q v B2 H2 d hd (s1.trans s2) h2⟩
theorem evxo_call {A : List Da → Prop} {R : List Da → List Da → Prop} (h : EvA K ta Γ ds) (ha : A ds) : EvXO K (tCall (spXO K A R) [] E0' ta) Γ (R ds) := fun H0 B H σ e Q q =>
  h H0 B H σ e _ fun vs B1 H1 s1 h1 => by
    rw [List.append_nil]
    exact ⟨B1, ds, s1.bh, h1, ha, fun p us B2 H2 l hl s2 hp hb hv h2 => q p us B2 H2 l hl (s1.trans s2) (s1.hh.free hp) hb hv h2⟩
theorem EvXO.ev {P : List Da → Prop} (h : EvXO K te Γ P) : EvX K te Γ (fun d => ∃ l, d = .lst l ∧ P l) := fun H0 B H σ e Q q =>
  h H0 B H σ e Q fun p us B' H' l hl s hp hb hv r => by
    have bh : Ex (upd B' p (.lst us)) H' := fun a o w => by
      by_cases z : a = p
      · subst z; rw [upd_same] at w; rw [hv]; exact w
      · rw [upd_ne z] at w; exact s.bh a o w
    refine q _ (upd B' p (.lst us)) H' _ ⟨l, rfl, hl⟩ ⟨s.hh, s.bb.trans (Ex.new hb), bh, fun a o w => ?_⟩ (.lst upd_same (r.mono (Ex.new hb)))
    by_cases z : a = p
    · subst z; exact .inl hp
    · rw [upd_ne z] at w; exact s.nw a o w
theorem wp_asgX {i : Nat} {P : Da → Prop} (h : EvX K te Γ P) (k : ∀ d, P d → E.nx (Γ.set i (.dat d))) : Wp K (tAsg te (gName i)) Γ E := fun B0 H0 B H σ D s e ok =>
  h H0 B H σ e _ fun v B1 H1 d hd s1 hv => ok.nx B1 H1 _ _ (s.trans s1) ((e.step s1).putD hv) (k d hd)
theorem wp_asgXO {i : Nat} {P : List Da → Prop} (h : EvXO K te Γ P) (k : ∀ l, P l → E.nx (Γ.set i (.own l))) : Wp K (tAsg te (gName i)) Γ E := fun B0 H0 B H σ D s e ok =>
  h H0 B H σ e _ fun p vs B1 H1 l hl s1 hp hb hv r => ok.nx B1 H1 _ _ (s.trans s1) (e.putN (s := .own l) s1 hp ⟨p, vs, rfl, hv, r, hb, s.hh.free hp⟩) (k l hl)
theorem wp_asgTX {js : List Nat} {g : TG} {P : Da → Prop} (h : EvX K te Γ P) (hg : ∀ d, P d → Tg K g js Γ d E.nx) : Wp K (tAsg te g) Γ E := fun B0 H0 B H σ D s e ok =>
  h H0 B H σ e _ fun v B1 H1 d hd s1 hv => hg d hd H0 B1 H1 σ v (e.step s1) hv _ fun Γ' σ' n e' _ => ok.nx B1 H1 σ' Γ' (s.trans s1) e' n
theorem wp_retX {P : Da → Prop} (h : EvX K te Γ P) (k : ∀ d, P d → E.rt d) : Wp K (tRet te) Γ E := fun B0 H0 B H σ D s e ok =>
  h H0 B H σ e _ fun v B1 H1 d hd s1 hv => ok.rt v B1 H1 d (s.trans s1) hv (k d hd)
/-- an iterator comes that gives some xs of which P is true -/
def ItX (K : PySem.W.Frag) (wi : TI) (Γ : List Sl) (P : List Da → Prop) : Prop :=
  ∀ (H0 B H : Hp) (σ : L2.St), Env K H0 B H σ Γ → ∀ R : It → Hp → Prop,
    (∀ (xs : List Da) (J : It) (B1 H1 : Hp) (G : Hp → Prop) (Y : Nat → Hp → V → Hp → Prop), P xs → Step B H B1 H1 → Walk J xs.length G Y → (∀ H', Ex B1 H' → G H') →
      (∀ i Hc v H', i < xs.length → Y i Hc v H' → ∀ B', Ex B1 B' → Ex B' Hc → ∃ x B'', xs[i]? = some x ∧ Step B' Hc B'' H' ∧ Is K B'' v x) → R J H1) → wi σ H R
theorem itx_seq {P : List Da → Prop} (h : EvX K te Γ (fun d => ∃ xs, d = .lst xs ∧ P xs)) : ItX K (iSeq K te) Γ P := fun H0 B H σ e R q => .inl (
  h H0 B H σ e _ fun v B1 H1 d ⟨xs, hd, hP⟩ s1 hv => by
    subst hd
    obtain ⟨a, vs, rfl, ha, r⟩ := hv.lst_inv
    refine ⟨a, rfl, ⟨vs, sq_of (s1.bh _ _ ha)⟩, q xs (Itl K a) B1 H1 _ _ hP s1 (r.length ▸ walk_list (xs := vs)) (fun H' ex => sq_of (ex _ _ ha)) fun i Hc v H' lt y B' b1 b2 => ?_⟩
    obtain ⟨rfl, hy⟩ := y
    obtain ⟨x, hx, hi⟩ := r.get' hy
    exact ⟨x, B', hx, Step.refl b2, hi.mono b1⟩)
theorem wp_forX {wi : TI} {g : TG} {js : List Nat} {P : List Da → Prop} (hi : ItX K wi Γ P) (I : List Da → Nat → List Sl → Prop) (h0 : ∀ xs, P xs → I xs 0 Γ)
    (hs : ∀ xs i x Γ', P xs → xs[i]? = some x → I xs i Γ' → Tg K g js Γ' x fun Γ2 => Wp K t Γ2 { E with nx := I xs (i + 1), ct := I xs (i + 1), bk := E.nx })
    (hd : ∀ xs Γ', P xs → I xs xs.length Γ' → E.nx Γ') : Wp K (tFor wi g t) Γ E := fun B0 H0 B H σ D s e ok =>
  hi H0 B H σ e _ fun xs J B1 H1 G Y hP s1 hw hG hY => by
    have s01 := s.trans s1
    have back : ∀ {B' H'}, Step B1 H0 B' H' → Step B0 H0 B' H' := fun {B' H'} z => ⟨z.hh, s01.bb.trans z.bb, z.bh, fun a o w => by
      rcases z.nw a o w with q | q
      · exact .inl q
      · exact s01.nw a o q⟩
    refine for_it hw (fun i σ' H' => ∃ B' Γ', Step B1 H0 B' H' ∧ Env K H0 B' H' σ' Γ' ∧ I xs i Γ') ⟨B1, Γ, ⟨s01.hh, Ex.refl B1, s01.bh, fun _ _ w => .inr w⟩, e.step s1, h0 xs hP⟩ (fun i σ' H' _ ⟨B', Γ', z, _, _⟩ => hG H' (z.bb.trans z.bh)) (fun i v σ' Hc H' lt ⟨B', Γ', z, e', iv⟩ y => ?_)
      (fun σ' H' ⟨B', Γ', z, e', iv⟩ => ok.nx B' H' σ' Γ' (back z) e' (hd xs Γ' hP iv))
    obtain ⟨x, B2, hx, s2, hv⟩ := hY i Hc v H' lt y B' z.bb z.bh
    refine hs xs i x Γ' hP hx iv H0 B2 H' σ' v (e'.step s2) hv _ fun Γ2 σ2 hb e2 _ => ?_
    refine hb B1 H0 B2 H' σ2 _ ⟨z.hh.trans s2.hh, z.bb.trans s2.bb, s2.bh, fun a o w => ?_⟩ e2 ⟨fun B3 H3 σ3 Γ3 z3 e3 i3 => ⟨B3, Γ3, z3, e3, i3⟩, fun v B3 H3 d z3 => ok.rt v B3 H3 d (back z3), fun p vs B3 H3 l z3 => ok.ro p vs B3 H3 l (back z3), fun B3 H3 σ3 Γ3 z3 e3 n3 => ok.nx B3 H3 σ3 Γ3 (back z3) e3 n3,
      fun B3 H3 σ3 Γ3 z3 e3 i3 => ⟨B3, Γ3, z3, e3, i3⟩⟩
    rcases s2.nw a o w with q | q
    · exact .inl (z.hh.free q)
    · exact z.nw a o q
/-- a comprehension whose elements are told by a property -/
theorem exo_lc {wi : TI} {g : TG} {js vs : List Nat} {xs : List Da} {tt : TT} (hi : ItD K wi Γ xs) (hz : xs.length ≤ 50000) (P : Da → Da → Prop) (hj : ∀ j ∈ js, j ∈ vs)
    (hs : ∀ (i : Nat) x, xs[i]? = some x → Tg K g js (wipeG Γ vs) x fun Γ2 => EvT K tt Γ2 true ∧ EvX K te Γ2 (P x)) : EvXO K (tLc wi g tt te vs) Γ (fun l => l.length = xs.length ∧ ∀ (i : Nat) x y, xs[i]? = some x → l[i]? = some y → P x y) := fun H0 B H σ e Q q =>
  hi H0 B H σ e _ fun J B1 H1 G Y s1 hw hG hY => fun D hD => by
    have e1 := e.step s1
    refine lc_it hw (fun i H' => ∃ B' acc l, Step B1 H1 B' H' ∧ B' D = none ∧ H' D = some (.lst acc) ∧ IsL K B' acc l ∧ (i ≤ xs.length → l.length = i) ∧ ∀ (j : Nat) x y, xs[j]? = some x → l[j]? = some y → P x y)
      ⟨B1, [], [], ⟨Ex.new hD, Ex.refl _, s1.bh.trans (Ex.new hD), fun _ _ w => .inr w⟩, s1.bh.free hD, upd_same, .nil, fun _ => rfl, fun j x y _ h => by simp at h⟩
      (fun i H' _ ⟨B', acc, l, z, _⟩ => hG H' (z.bb.trans z.bh)) (fun i v Hc H' lt ⟨B', acc, l, z, zb, zh, zl, zn, zp⟩ y => ?_) (fun H' ⟨B', acc, l, z, zb, zh, zl, zn, zp⟩ => ?_)
    · obtain ⟨x, B2, hx, s2, hv⟩ := hY i Hc v H' lt y B' z.bb z.bh
      have sz : Step B1 H1 B2 H' := z.trans s2
      have eD : Env K H0 B2 H' (wipe σ vs) (wipeG Γ vs) := ((e1.step z).step s2).wipe vs
      have n2 : B2 D = none := s2.keepN zh zb
      have h2 : H' D = some (.lst acc) := s2.hh _ _ zh
      refine hs i x hx H0 B2 H' (wipe σ vs) v eD hv _ fun Γ2 σ2 ⟨ht, he⟩ e2 hwp => ⟨?_, ?_⟩
      · rw [hwp vs hj]
        exact wipe_wipe σ vs
      · refine ht H0 B2 H' σ2 e2 _ fun B3 H3 s3 => ?_
        show te σ2 H3 _
        refine he H0 B3 H3 σ2 (e2.step s3) _ fun w B4 H4 d hd s4 hw4 => ?_
        have s24 := s3.trans s4
        have n4 := s24.keepN h2 n2
        have h4 := s24.hh _ _ h2
        have s14 := sz.trans s24
        have l1 := zl.length
        have l2 := zn (Nat.le_of_lt lt)
        refine ⟨acc, h4, by rw [l1, l2]; exact sz_lt (by omega), B4, acc ++ [w], l ++ [d], ⟨s14.hh.mut hD, s14.bb, s14.bh.mut n4, s14.nw⟩, n4, upd_same, (zl.mono (s2.bb.trans s24.bb)).append (.cons hw4 .nil), fun _ => by simp [l2], fun j x' y' hx' hy' => ?_⟩
        by_cases c : j < l.length
        · rw [List.getElem?_append_left c] at hy'
          exact zp j x' y' hx' hy'
        · have e5 : j = l.length := by
            have := (List.getElem?_eq_some_iff.mp hy').1
            rw [List.length_append] at this
            simp at this
            omega
          subst e5
          rw [List.getElem?_append_right (Nat.le_refl _)] at hy'
          simp at hy'
          subst hy'
          rw [l2, hx] at hx'
          have e6 := Option.some.inj hx'
          subst e6
          exact hd
    · exact q D acc B' H' l ⟨zn (Nat.le_refl _), zp⟩ (s1.trans z) (s1.hh.free hD) zb zh zl
end
section
variable {P : Program} {w : World} {K : PySem.W.Frag} {mg : Str → Option Value} {base : Heap} {x qual : Str} {params : Arguments} {body : List Stmt} {scope : Scope} {kws : List (Str × V)} {f : Addr} {fd : FuncData} {N ps : List Str} {k : Nat}
theorem fn_x {A : List Da → Prop} {R : List Da → Da → Prop} (F : FunD K x qual params body scope [] kws f fd) (S : FnScope N ps scope) (len : ∀ ds, A ds → ds.length = ps.length)
    (hb : ∀ (cdv : Value) (A' : Around) (outer : List PySem.Env) (s : Shared) (H : Hp) (E : XK), Room k (A'.deeper (envOfC qual scope s.heap.objs.size f cdv)) →
      ∃ t, PSs (cxOf CX0 P w K mg base N qual scope f cdv A' outer s H E).nox body t ∧ ∀ ds, A ds → Wp K t (args N ds) { nx := fun _ => R ds .non, rt := R ds }) : FnOk P w K mg base CX0 (k + 1) f fd ps (spX K A R) := by
  refine F.ok S (fun vs H Q E ⟨B, ds, _, r, h, _⟩ => r.length.trans (len ds h)) fun cdv A' outer s H vs Q E hr ⟨B, ds, e, r, h, q⟩ => ?_
  obtain ⟨t, ht, hw⟩ := hb cdv A' outer s H E hr
  exact ⟨t, ht.nox, hw ds h B H B H _ _ (Step.refl e) (env_start e r) ⟨fun B' H' σ Γ st _ z => q _ B' H' _ z st .non, fun v B' H' d' st hv z => q v B' H' d' z st hv, fun _ _ _ _ _ _ _ _ _ _ z => z.elim, fun _ _ _ _ _ _ z => z.elim, fun _ _ _ _ _ _ z => z.elim⟩⟩
theorem fn_xo {A : List Da → Prop} {R : List Da → List Da → Prop} (F : FunD K x qual params body scope [] kws f fd) (S : FnScope N ps scope) (len : ∀ ds, A ds → ds.length = ps.length)
    (hb : ∀ (cdv : Value) (A' : Around) (outer : List PySem.Env) (s : Shared) (H : Hp) (E : XK), Room k (A'.deeper (envOfC qual scope s.heap.objs.size f cdv)) →
      ∃ t, PSs (cxOf CX0 P w K mg base N qual scope f cdv A' outer s H E).nox body t ∧ ∀ ds, A ds → Wp K t (args N ds) { nx := fun _ => False, rt := fun _ => False, ro := R ds }) : FnOk P w K mg base CX0 (k + 1) f fd ps (spXO K A R) := by
  refine F.ok S (fun vs H Q E ⟨B, ds, _, r, h, _⟩ => r.length.trans (len ds h)) fun cdv A' outer s H vs Q E hr ⟨B, ds, e, r, h, q⟩ => ?_
  obtain ⟨t, ht, hw⟩ := hb cdv A' outer s H E hr
  exact ⟨t, ht.nox, hw ds h B H B H _ _ (Step.refl e) (env_start e r) ⟨fun _ _ _ _ _ _ z => z.elim, fun _ _ _ _ _ _ z => z.elim, fun p us B' H' l st b h0 hv hr' z => q p us B' H' l z st h0 b hv hr', fun _ _ _ _ _ _ z => z.elim, fun _ _ _ _ _ _ z => z.elim⟩⟩
end

/-! ### callees by name -/
structure Cal (P : Program) (w : World) (K : PySem.W.Frag) (mg : Str → Option Value) (base : Heap) (x : Str) (f : Addr) (k : Nat) (ps : List Str) (sp : Sp) : Prop where
  ex : ∃ fd, FnOk P w K mg base CX0 k f fd ps sp ∧ Binds K fd ps []
  m : mg x = some (.ref f)
  kp : PySem.W.keepIn K (.ref f) = true
structure CalM (P : Program) (w : World) (K : PySem.W.Frag) (mg : Str → Option Value) (base : Heap) (C : Addr) (x : Str) (f : Addr) (k : Nat) (ps : List Str) (sp : Sp) : Prop where
  ex : ∃ fd, FnOk P w K mg base CX0 k f fd ps sp ∧ Binds K fd ps []
  cl : Cls K C
  m : Meth K C x f
section
variable {X : Cx} {x : Str} {f C : Addr} {k j : Nat} {ps : List Str} {sp : Sp} {e o : Expr} {es : List Expr} {t : TA} {ta : TE} {p pos apos cpos : Pos}
theorem pe_cal (G : Cal X.prog X.w X.K X.mg X.base x f k ps sp) (hr : Room j X.A) (ha : PA X (e :: es) t) (hkj : k ≤ j := by decide) (hg : Gl X x := by rfl) (hdb : (x == ("__debug__" : Str)) = false := by decide)
    (he : starEach (e :: es) X.env = (false, eval e X.env) :: starEach es X.env := by rfl) (hpl : (backTo pos (starEach es X.env)).any (·.1) = false := by rfl) : PE X (.Call (.Name x p) (e :: es) [] pos) (tCall sp [] E0 t) := by
  obtain ⟨fd, F, b⟩ := G.ex
  exact pe_call F (hr.mono hkj) hg G.m G.kp b .nil pass0 ha hdb he hpl
end
end WM

/-! ## Rv3 -/
set_option maxHeartbeats 4000000
namespace WM
open PySem PySem.Spec PyProof.Rows L2
abbrev SL := List Str
abbrev strsT (ss : SL) : Da := .tup (ss.map .str)
abbrev strsL (ss : SL) : Da := .lst (ss.map .str)
section
variable {K : PySem.W.Frag} {Γ : List Sl} {te ta tb : TE} {t : TS} {d : Da} {E : En}
theorem take_map {α : Type} {enc : α → Da} {l : List α} {i : Nat} {x : Da} (h : (l.map enc)[i]? = some x) : ∃ a, l[i]? = some a ∧ x = enc a := by
  rw [List.getElem?_map] at h
  cases e : l[i]? with
  | none => rw [e] at h; cases h
  | some a => rw [e] at h; exact ⟨a, rfl, (Option.some.inj h).symm⟩
/-- a comprehension over typed data -/
theorem eo_lcM {α : Type} (enc : α → Da) (l : List α) {wi : TI} {g : TG} {js vs : List Nat} {tt : TT} (hi : ItD K wi Γ (l.map enc)) (hz : l.length ≤ 50000) (f : α → Bool) (m : α → Da) (hj : ∀ j ∈ js, j ∈ vs)
    (hs : ∀ (i : Nat) a, l[i]? = some a → Tg K g js (wipeG Γ vs) (enc a) fun Γ2 => EvT K tt Γ2 (f a) ∧ (f a = true → Ev K te Γ2 (m a))) : EvO K (tLc wi g tt te vs) Γ ((l.filter f).map m) := fun H0 B H σ e Q q =>
  hi H0 B H σ e _ fun J B1 H1 G Y s1 hw hG hY => fun D hD => by
    have e1 := e.step s1
    have hlen : (l.map enc).length = l.length := List.length_map _
    refine lc_it hw (fun i H' => ∃ B' acc, Step B1 H1 B' H' ∧ B' D = none ∧ H' D = some (.lst acc) ∧ IsL K B' acc (((l.take i).filter f).map m)) ⟨B1, [], ⟨Ex.new hD, Ex.refl _, s1.bh.trans (Ex.new hD), fun _ _ w => .inr w⟩, s1.bh.free hD, upd_same, .nil⟩
      (fun i H' _ ⟨B', acc, z, _⟩ => hG H' (z.bb.trans z.bh)) (fun i v Hc H' lt ⟨B', acc, z, zb, zh, zl⟩ y => ?_) (fun H' ⟨B', acc, z, zb, zh, zl⟩ => ?_)
    · obtain ⟨x, B2, hx, s2, hv⟩ := hY i Hc v H' lt y B' z.bb z.bh
      obtain ⟨a, hxa, rfl⟩ := take_map hx
      have sz : Step B1 H1 B2 H' := z.trans s2
      have eD : Env K H0 B2 H' (wipe σ vs) (wipeG Γ vs) := ((e1.step z).step s2).wipe vs
      have n2 : B2 D = none := s2.keepN zh zb
      have h2 : H' D = some (.lst acc) := s2.hh _ _ zh
      have tk : (l.take (i + 1)) = l.take i ++ [a] := by
        rw [List.take_add_one, hxa] <;> rfl
      refine hs i a hxa H0 B2 H' (wipe σ vs) v eD hv _ fun Γ2 σ2 ⟨ht, he⟩ e2 hwp => ⟨?_, ?_⟩
      · rw [hwp vs hj]
        exact wipe_wipe σ vs
      · refine ht H0 B2 H' σ2 e2 _ fun B3 H3 s3 => ?_
        have n3 := s3.keepN h2 n2
        have h3 := s3.hh _ _ h2
        cases hf : f a with
        | true =>
          show te σ2 H3 _
          refine he hf H0 B3 H3 σ2 (e2.step s3) _ fun w B4 H4 s4 hw4 => ?_
          have n4 := s4.keepN h3 n3
          have h4 := s4.hh _ _ h3
          have s14 := (sz.trans s3).trans s4
          refine ⟨acc, h4, ?_, B4, acc ++ [w], ⟨s14.hh.mut hD, s14.bb, s14.bh.mut n4, s14.nw⟩, n4, upd_same, ?_⟩
          · have l1 := zl.length
            have l2 : ((List.take i l).filter f).length ≤ (List.take i l).length := List.length_filter_le _ _
            have l3 : (List.take i l).length ≤ l.length := by rw [List.length_take]; exact Nat.min_le_right _ _
            rw [List.length_map] at l1
            rw [l1]
            exact sz_lt (by omega)
          · rw [tk, List.filter_append, List.map_append]
            have e5 : List.map m (List.filter f [a]) = [m a] := by simp [hf]
            rw [e5]
            exact (zl.mono (s2.bb.trans (s3.bb.trans s4.bb))).append (.cons hw4 .nil)
        | false =>
          refine ⟨B3, acc, sz.trans s3, n3, h3, ?_⟩
          rw [tk, List.filter_append, List.map_append]
          have e5 : List.map m (List.filter f [a]) = [] := by simp [hf]
          rw [e5, List.append_nil]
          exact zl.mono (s2.bb.trans s3.bb)
    · rw [hlen, List.take_length] at zl
      exact q D acc B' H' (s1.trans z) (s1.hh.free hD) zb zh zl
theorem ev_lcM {α : Type} (enc : α → Da) (l : List α) {wi : TI} {g : TG} {js vs : List Nat} {tt : TT} (hi : ItD K wi Γ (l.map enc)) (hz : l.length ≤ 50000) (f : α → Bool) (m : α → Da) (hj : ∀ j ∈ js, j ∈ vs)
    (hs : ∀ (i : Nat) a, l[i]? = some a → Tg K g js (wipeG Γ vs) (enc a) fun Γ2 => EvT K tt Γ2 (f a) ∧ (f a = true → Ev K te Γ2 (m a))) : Ev K (tLc wi g tt te vs) Γ (.lst ((l.filter f).map m)) := (eo_lcM enc l hi hz f m hj hs).ev
/-- .. over a name's items, every one taken -/
theorem ev_lcA {α : Type} (enc : α → Da) (l : List α) {wi : TI} {j : Nat} {vs : List Nat} (hi : ItD K wi Γ (l.map enc)) (hz : l.length ≤ 50000) (m : α → Da) (hj : j ∈ vs)
    (hs : ∀ (i : Nat) a, l[i]? = some a → Ev K te ((wipeG Γ vs).set j (.dat (enc a))) (m a)) : Ev K (tLc wi (gName j) tYes te vs) Γ (.lst (l.map m)) := by
  have h := ev_lcM (K := K) (te := te) (tt := tYes) (g := gName j) (js := [j]) enc l hi hz (fun _ => true) m (fun x hx => by rw [List.mem_singleton.mp hx]; exact hj) fun i a ha => tg_name ⟨et_yes, fun _ => hs i a ha⟩
  rw [List.filter_eq_self.mpr fun _ _ => rfl] at h
  exact h
theorem rc_allM {α : Type} {l : List α} {p : α → Bool} : RC K (rAll K) [.lst (l.map fun a => .bl (p a))] (.bl (l.all p)) := by
  have h := rc_all (K := K) (bs := l.map p)
  rw [List.map_map, List.all_map] at h
  exact h
theorem rc_anyM {α : Type} {l : List α} {p : α → Bool} : RC K (rAny K) [.lst (l.map fun a => .bl (p a))] (.bl (l.any p)) := by
  have h := rc_any (K := K) (bs := l.map p)
  rw [List.map_map, List.any_map] at h
  exact h
/-! texts among texts -/
theorem strs_flat (ss : SL) : (ss.map Da.str).all flatD = true := by
  rw [List.all_map]
  exact List.all_eq_true.mpr fun _ _ => rfl
theorem inD_strs (s : Str) (ss : SL) : inD (.str s) (ss.map .str) = decide (s ∈ ss) := by
  unfold inD
  rw [List.map_map]
  show inV (.str s) (ss.map V.str) = _
  unfold inV
  rw [List.any_map]
  show (ss.any fun y => y == s) = _
  induction ss with
  | nil => rfl
  | cons y ys ih =>
    rw [List.any_cons, ih]
    by_cases e : y = s
    · subst e; simp
    · simp [e, Ne.symm e]
theorem inD_nons (ss : SL) : inD .non (ss.map .str) = false := by
  unfold inD
  rw [List.map_map]
  show inV .non (ss.map V.str) = _
  unfold inV
  rw [List.any_map]
  induction ss with
  | nil => rfl
  | cons y ys ih => rw [List.any_cons, ih]; rfl
theorem rv_isL {s : Str} {ss : SL} : RV K (rIn K false) (.str s) (strsL ss) (.bl (decide (s ∈ ss))) := inD_strs s ss ▸ rv_inL rfl (strs_flat ss)
theorem rv_isT {s : Str} {ss : SL} : RV K (rIn K false) (.str s) (strsT ss) (.bl (decide (s ∈ ss))) := inD_strs s ss ▸ rv_inT rfl (strs_flat ss)
theorem rv_noL {s : Str} {ss : SL} : RV K (rIn K true) (.str s) (strsL ss) (.bl (!decide (s ∈ ss))) := inD_strs s ss ▸ rv_niL rfl (strs_flat ss)
theorem rv_noT {s : Str} {ss : SL} : RV K (rIn K true) (.str s) (strsT ss) (.bl (!decide (s ∈ ss))) := inD_strs s ss ▸ rv_niT rfl (strs_flat ss)
theorem at0 {α : Type} {a : α} {l : List α} : atI (a :: l) 0 = some a := atI_nat (j := 0) rfl
theorem at1 {α : Type} {a b : α} {l : List α} : atI (a :: b :: l) 1 = some b := atI_nat (j := 1) rfl
theorem at2 {α : Type} {a b c : α} {l : List α} : atI (a :: b :: c :: l) 2 = some c := atI_nat (j := 2) rfl
theorem at3 {α : Type} {a b c d : α} {l : List α} : atI (a :: b :: c :: d :: l) 3 = some d := atI_nat (j := 3) rfl
theorem at4 {α : Type} {a b c d e : α} {l : List α} : atI (a :: b :: c :: d :: e :: l) 4 = some e := atI_nat (j := 4) rfl
theorem at5 {α : Type} {a b c d e f : α} {l : List α} : atI (a :: b :: c :: d :: e :: f :: l) 5 = some f := atI_nat (j := 5) rfl
theorem ev_un {i : Int} (h : Ev K te Γ (.int i)) : Ev K (tUn (rU fun i => .int (-i)) te) Γ (.int (-i)) := fun H0 B H σ e Q q => h H0 B H σ e _ fun v B1 H1 s1 hv => ⟨i, hv.int_inv, q _ B1 H1 s1 (.int _)⟩
theorem wp_par {i j : Nat} {t2 : TA} {x y : Da} (h : EvA K t2 Γ [x, y]) (k : E.nx ((Γ.set i (.dat x)).set j (.dat y))) : Wp K (tPar i j t2) Γ E := fun B0 H0 B H σ D s e ok =>
  h H0 B H σ e _ fun vs B1 H1 s1 hv => by
    obtain ⟨v, u, rfl, h1, h2⟩ := two hv
    exact ⟨v, u, rfl, ok.nx B1 H1 _ _ (s.trans s1) (((e.step s1).putD h1).putD h2) k⟩
theorem atL2 {α : Type} (l : List α) (u v : α) : atI (l ++ [u, v]) (-2) = some u := by
  unfold atI ixN
  rw [if_neg (by decide), if_pos (by rw [List.length_append]; simp; omega)]
  show (l ++ [u, v])[((-2 : Int) + ((l ++ [u, v]).length : Nat)).toNat]? = some u
  have e : ((-2 : Int) + ((l ++ [u, v]).length : Nat)).toNat = l.length := by rw [List.length_append]; simp; omega
  rw [e, List.getElem?_append_right (Nat.le_refl _)]
  simp
end
end WM

/-! ## Kx -/
set_option maxHeartbeats 4000000
/-! The rules with the written part named, so that they serve within a comprehension too. -/
namespace WM
open PySem PySem.Spec PyProof.Rows L2
section
variable {X : Cx} (K : PySem.W.Frag) (h : X.K = K)
include h
theorem op_inK : OpR X (compareOp .In) (rIn K false) := h ▸ op_in_seq
theorem op_niK : OpR X (compareOp .NotIn) (rIn K true) := h ▸ op_notIn_seq
theorem op_addK : OpR X (binaryOp .Add) (rAddG K) := h ▸ op_addG
theorem op_neK (hu : X.A.units + 64 < cLine) : OpR X (compareOp .NotEq) (rNeD K) := h ▸ op_neD hu
theorem ix_K : IxR X (rIx K) := h ▸ ix_seq
theorem sl_K : SlR X (rSlG K) := h ▸ sl_seq
theorem call_lenK : CallR X (.builtin "len") (rLenG K) := h ▸ call_lenG
theorem call_tupK : CallR X (.type "tuple") (rTupG K) := h ▸ call_tupG
theorem call_lstK : CallR X (.type "list") (rLstG K) := h ▸ call_lstG
theorem cr_allK (hc : X.calm = true) : CallR X (.builtin "all") (rAll K) := h ▸ cr_all hc
theorem cr_anyK (hc : X.calm = true) : CallR X (.builtin "any") (rAny K) := h ▸ cr_any hc
theorem mt_indexK : MtR X "list.index" (rIndex K) := h ▸ mt_index
variable {e o tg : Expr} {es : List Expr} {te to : TE} {t : TA} {pos apos cpos p tpos : Pos} {f : Str} {elts : List Expr} {kk : Nat}
theorem pi_seqK (he : PE X e te) : PI X tg e (iSeq K te) := h ▸ pi_seq he
theorem pi_enumK (hg : Gl X "enumerate") (hm : X.mg "enumerate" = none) (ha : PA X [e] t) (hs : starEach [e] X.env = [(false, eval e X.env)] := by rfl) :
    PI X (.Tuple elts kk tpos) (.Call (.Name "enumerate" p) [e] [] pos) (iEnumG K t) := h ▸ pi_enumG hg hm ha hs
theorem pe_fldK (he : PE X e te) (hb : attributeBase e f X.env (eval e X.env) = eval e X.env) : PE X (.Attribute e f pos) (tFld K te f) := h ▸ pe_fld he hb
theorem pg_tupK {g : TGs} {n : Nat} (hc : X.calm = true) (hg : PGs X es g) (hn : (assignEach es X.env).length = n := by rfl) (hst : (assignEach es X.env).findIdx? (·.1) = none := by rfl) : PG X (.Tuple es kk pos) (gTup K n g) := h ▸ pg_tup hc hg hn hst
theorem pa_starK (ha : PE X e te) (hr : PA X es t) (hs : starEach (.Starred e p :: es) X.env = (true, eval e X.env) :: starEach es X.env := by rfl) : PA X (.Starred e p :: es) (tStar K te t) := h ▸ pa_star ha hr hs
theorem pt_truthK (ha : PE X e te) (he : ∀ whole, isTrue e X.env whole = (do let v ← whole; standAt e.pos; holding [v] (truthy v))) : PT X e (tTruG K te) := h ▸ pt_truth ha he
theorem pe_revK {k : Nat} {p1 p2 p3 : Pos} (he : PE X e te) : PE X (.Subscript e (.Slice none none (some (.UnaryOp .USub (.Constant (.int 1) k p1) p2)) p3) pos) (tRevL K te) := h ▸ pe_revL he
theorem pe_lenSetK {p2 q : Pos} (hg : Gl X "len") (hm : X.mg "len" = none) (hg2 : Gl X "set") (hm2 : X.mg "set" = none) (ha : PE X e te) (hc : X.calm = true := by rfl)
    (na : starEach [e] X.env = (false, eval e X.env) :: starEach [] X.env := by rfl) : PE X (.Call (.Name "len" p) [.Call (.Name "set" p2) [e] [] q] [] pos) (tLenSetT K te) := h ▸ pe_lenSetT hg hm hg2 hm2 ha hc na
theorem pe_joinK (ho : PE X o to) (he : PE X e te) (hs : starEach [e] X.env = [(false, eval e X.env)] := by rfl) (hbase : attributeBase o "join" X.env (eval o X.env) = eval o X.env := by rfl) (hline : (apos.endLine == pos.line) = true := by rfl) :
    PE X (.Call (.Attribute o "join" apos) [e] [] pos) (tM1 (rJoinG K) to te) := h ▸ pe_join ho he hs hbase hline
theorem pe_notTK (ha : PE X e te) : PE X (.UnaryOp .Not e pos) (tNotT K te) := h ▸ pe_notT ha
end
/-! ### the module's own dict -/
def rKdIn (K : PySem.W.Frag) (d : Addr) : R2 := fun x y H Q => ∃ (z : Str) (r : Option Value), x = .str z ∧ y = .ref d ∧ PySem.W.nsIn K d z = some r ∧ Q (.bl r.isSome) H
theorem op_kdInK {X : Cx} (K : PySem.W.Frag) (h : X.K = K) {d : Addr} {es : Array DictEntry} {n : Nat} (D : KDict K X.w d es n) : OpR X (compareOp .In) (rKdIn K d) := by
  subst h
  exact op_in_kd D
def tKdGet (K : PySem.W.Frag) (d : Addr) (ty : TE) : TE := fun σ H Q => ty σ H fun y H1 => ∃ (z : Str) (u0 : Value) (v0 : V), y = .str z ∧ PySem.W.nsIn K d z = some (some u0) ∧ RelV v0 u0 ∧ Q v0 H1
theorem pe_kdget {X : Cx} (K : PySem.W.Frag) (h : X.K = K) {d : Addr} {es : Array DictEntry} {n : Nat} (D : KDict K X.w d es n) {x : Str} {i : Expr} {ty : TE} {p pos : Pos} (hg : Gl X x) (hm : X.mg x = some (.ref d)) (hi : PE X i ty) (hs : NoSl i)
    (hd : (x == ("__debug__" : Str)) = false := by decide) : PE X (.Subscript (.Name x p) i pos) (tKdGet K d ty) := by
  subst h
  refine ⟨fun pins s σ H Q I q => ?_⟩
  refine subD_of PySem.F.slot_dict_getitem.lookup hs (ld_glob I hg hm (thn (hi.run pins s σ H _ I q) fun u s1 ⟨y, H1, I1, r1, q1⟩ => ⟨kd_type D I1, ?_⟩) hd)
  obtain ⟨z, u0, v0, rfl, e, r, q1⟩ := q1
  exact op_item_kd D pins s1 σ H1 (.ref d) (.str z) (.ref d) u Q I1 rfl r1 ⟨z, u0, v0, rfl, rfl, e, r, q1⟩
section
variable {K : PySem.W.Frag} {Γ : List Sl} {te ta tb : TE} {d : Addr}
theorem ev_kdget {z : Str} {i : Int} {u : Value} (h : Ev K te Γ (.str z)) (e : PySem.W.nsIn K d z = some (some u)) (r : RelV (V.int i) u) : Ev K (tKdGet K d te) Γ (.int i) := fun H0 B H σ en Q q => h H0 B H σ en _ fun v B1 H1 s1 hv =>
  ⟨z, u, .int i, hv.str_inv, e, r, q _ B1 H1 s1 (.int i)⟩
theorem ev_kdin {z : Str} {u : Value} (h : Ev K te Γ (.str z)) (e : PySem.W.nsIn K d z = some (some u)) : Ev K (tOp (rKdIn K d) te (tC (.ref d))) Γ (.bl true) := fun H0 B H σ en Q q => h H0 B H σ en _ fun v B1 H1 s1 hv =>
  ⟨z, some u, hv.str_inv, rfl, e, q _ B1 H1 s1 (.bl true)⟩
theorem ev_notL {l : List Da} (h : Ev K te Γ (.lst l)) : Ev K (tNotT K te) Γ (.bl l.isEmpty) := fun H0 B H σ en Q q => h H0 B H σ en _ fun v B1 H1 s1 hv => by
  obtain ⟨a, vs, rfl, ha, r⟩ := hv.lst_inv
  refine ⟨_, .inl ⟨vs, sq_of (s1.bh _ _ ha), rfl⟩, ?_⟩
  have e1 : vs.isEmpty = l.isEmpty := by cases r <;> rfl
  rw [Bool.not_not, e1]
  exact q _ B1 H1 s1 (.bl _)
end
end WM

/-! ## Md -/
set_option maxHeartbeats 4000000
/-! Charters, rules, people as plain data. -/
namespace WM
open PySem L2
/-- a rule: join; claim and drop (solo); give, take and pass (duo) -/
inductive Rl where
  | join (n : Str) (rs : SL)
  | solo (k n : Str) (needs lacks : SL) (r : Str)
  | duo (k n : Str) (needs wants lacks : SL) (r : Str)
namespace Rl
def kind : Rl → Str
  | .join _ _ => "join"
  | .solo k _ _ _ _ => k
  | .duo k _ _ _ _ _ => k
def name : Rl → Str
  | .join n _ => n
  | .solo _ n _ _ _ => n
  | .duo _ n _ _ _ _ => n
def lists : Rl → List SL
  | .join _ rs => [rs]
  | .solo _ _ a b _ => [a, b]
  | .duo _ _ a b c _ => [a, b, c]
def da : Rl → Da
  | .join n rs => .tup [.str "join", .str n, strsT rs]
  | .solo k n a b r => .tup [.str k, .str n, strsT a, strsT b, .str r]
  | .duo k n a b c r => .tup [.str k, .str n, strsT a, strsT b, strsT c, .str r]
end Rl
/-- some of the rights, in their order -/
def Ord (rights l : SL) : Prop := rights.filter (fun r => decide (r ∈ l)) = l ∧ l.Nodup ∧ ∀ r ∈ l, r ∈ rights
def digits : Str := "0123456789"
def nameChars : Str := "abcdefghijklmnopqrstuvwxyz0123456789"
structure IsName (s : Str) : Prop where
  lo : 1 ≤ s.length
  hi : s.length ≤ 12
  first : ∀ c, s.cps.toList[0]? = some c → c ∉ digits.cps.toList
  all : ∀ c ∈ s.cps.toList, c ∈ nameChars.cps.toList
def Apart (a b : SL) : Prop := ∀ x ∈ a, x ∉ b
/-- a rule that a charter with these rights takes -/
inductive WfR (rights sole : SL) : Rl → Prop
  | join {n : Str} {rs : SL} : IsName n → Ord rights rs → Apart rs sole → WfR rights sole (.join n rs)
  | solo {k n : Str} {a b : SL} {r : Str} : (k = "claim" ∨ k = "drop") → IsName n → Ord rights a → Ord rights b → r ∈ rights → r ∉ a → r ∉ b → Apart b a → (k = "claim" → r ∉ sole) → WfR rights sole (.solo k n a b r)
  | duo {k n : Str} {a b c : SL} {r : Str} : (k = "give" ∨ k = "take" ∨ k = "pass") → IsName n → Ord rights a → Ord rights b → Ord rights c → r ∈ rights → r ∉ b → r ∉ c → Apart c b → (k = "give" → r ∉ sole) → (k = "pass" → r ∈ sole ∧ r ∉ a) → WfR rights sole (.duo k n a b c r)
structure Parts where
  rights : SL
  sole : SL
  founders : List (Str × SL)
  rules : List Rl
abbrev fD (f : Str × SL) : Da := .tup [.str f.1, strsT f.2]
structure Wf (p : Parts) : Prop where
  r1 : 1 ≤ p.rights.length
  r6 : p.rights.length ≤ 6
  rn : p.rights.Nodup
  rN : ∀ r ∈ p.rights, IsName r
  so : Ord p.rights p.sole
  f5 : p.founders.length ≤ 5
  fn : (p.founders.map (·.1)).Nodup
  fN : ∀ f ∈ p.founders, IsName f.1
  fo : ∀ f ∈ p.founders, Ord p.rights f.2
  fs : ∀ r ∈ p.sole, (p.founders.filter fun f => decide (r ∈ f.2)).length ≤ 1
  u12 : p.rules.length ≤ 12
  un : (p.rules.map Rl.name).Nodup
  uw : ∀ u ∈ p.rules, WfR p.rights p.sole u
end WM

/-! ## Txt -/
set_option maxHeartbeats 4000000
/-! The text by places; what its top leaves. -/
namespace WM
open PySem PySem.Spec PyProof.Rows L2
def top (i : Nat) : Stmt := PySem.Challenge.pw_whoevermay_k20_whole_larger_organisation.main.body.getD i (.Pass ⟨0, 0, 0, 0⟩)
/-- the property rule_names, its getter -/
def pRN (K : PySem.W.Frag) : Addr := He.ma K (He.ga K "Charter") "rule_names"
def gRN (K : PySem.W.Frag) : Addr := match PySem.W.recIn K (pRN K) "property" with
  | some (.ref g :: _) => g
  | _ => 0
abbrev s_is_name : Stmt := top 14
theorem sc_is_name : FnScope ["text", "char"] ["text"] (defScope s_is_name) := ⟨rfl, rfl, rfl, by decide +kernel, rfl, by decide +kernel, by decide +kernel⟩

abbrev s_are_different : Stmt := top 15
theorem sc_are_different : FnScope ["words", "number", "word"] ["words"] (defScope s_are_different) := ⟨rfl, rfl, rfl, by decide +kernel, rfl, by decide +kernel, by decide +kernel⟩

abbrev s_are_apart : Stmt := top 16
theorem sc_are_apart : FnScope ["one", "other", "word"] ["one", "other"] (defScope s_are_apart) := ⟨rfl, rfl, rfl, by decide +kernel, rfl, by decide +kernel, by decide +kernel⟩

abbrev s_require : Stmt := top 17
theorem sc_require : FnScope ["holds"] ["holds"] (defScope s_require) := ⟨rfl, rfl, rfl, by decide +kernel, rfl, by decide +kernel, by decide +kernel⟩

abbrev s_right_lists : Stmt := top 18
theorem sc_right_lists : FnScope ["rule"] ["rule"] (defScope s_right_lists) := ⟨rfl, rfl, rfl, by decide +kernel, rfl, by decide +kernel, by decide +kernel⟩

abbrev s_Charter_init : Stmt := inClass (top 19) 0
theorem sc_Charter_init : FnScope ["self", "rights", "sole", "founders", "rules", "right", "founder", "person", "held", "rule"] ["self", "rights", "sole", "founders", "rules"] (defScope s_Charter_init) := ⟨rfl, rfl, rfl, by decide +kernel, rfl, by decide +kernel, by decide +kernel⟩

abbrev s_Charter_some : Stmt := inClass (top 19) 1
theorem sc_Charter_some : FnScope ["self", "words", "word", "right"] ["self", "words"] (defScope s_Charter_some) := ⟨rfl, rfl, rfl, by decide +kernel, rfl, by decide +kernel, by decide +kernel⟩

abbrev s_Charter_check_founders : Stmt := inClass (top 19) 2
theorem sc_Charter_check_founders : FnScope ["self", "person", "_", "right", "held"] ["self"] (defScope s_Charter_check_founders) := ⟨rfl, rfl, rfl, by decide +kernel, rfl, by decide +kernel, by decide +kernel⟩

abbrev s_Charter_checked : Stmt := inClass (top 19) 3
theorem sc_Charter_checked : FnScope ["self", "rule", "kind", "name", "lists", "words", "right"] ["self", "rule"] (defScope s_Charter_checked) := ⟨rfl, rfl, rfl, by decide +kernel, rfl, by decide +kernel, by decide +kernel⟩

abbrev s_Charter_rule_names : Stmt := inClass (top 19) 6
theorem sc_Charter_rule_names : FnScope ["self", "rule"] ["self"] (defScope s_Charter_rule_names) := ⟨rfl, rfl, rfl, by decide +kernel, rfl, by decide +kernel, by decide +kernel⟩

abbrev s_Charter_rule : Stmt := inClass (top 19) 7
theorem sc_Charter_rule : FnScope ["self", "name", "rule"] ["self", "name"] (defScope s_Charter_rule) := ⟨rfl, rfl, rfl, by decide +kernel, rfl, by decide +kernel, by decide +kernel⟩

abbrev s_Charter_founder : Stmt := inClass (top 19) 8
theorem sc_Charter_founder : FnScope ["self", "person", "name", "held"] ["self", "person"] (defScope s_Charter_founder) := ⟨rfl, rfl, rfl, by decide +kernel, rfl, by decide +kernel, by decide +kernel⟩

abbrev s_Charter_ordered : Stmt := inClass (top 19) 9
theorem sc_Charter_ordered : FnScope ["self", "words", "word", "right"] ["self", "words"] (defScope s_Charter_ordered) := ⟨rfl, rfl, rfl, by decide +kernel, rfl, by decide +kernel, by decide +kernel⟩

abbrev s_check_trusted : Stmt := top 22
theorem sc_check_trusted : FnScope ["charter", "trusted", "name"] ["charter", "trusted"] (defScope s_check_trusted) := ⟨rfl, rfl, rfl, by decide +kernel, rfl, by decide +kernel, by decide +kernel⟩

abbrev s_check_goal : Stmt := top 23
theorem sc_check_goal : FnScope ["charter", "goal", "person", "holds", "lacks", "named", "_", "asked"] ["charter", "goal"] (defScope s_check_goal) := ⟨rfl, rfl, rfl, by decide +kernel, rfl, by decide +kernel, by decide +kernel⟩

abbrev s_fits : Stmt := top 24
theorem sc_fits : FnScope ["held", "needs", "lacks", "right"] ["held", "needs", "lacks"] (defScope s_fits) := ⟨rfl, rfl, rfl, by decide +kernel, rfl, by decide +kernel, by decide +kernel⟩

abbrev s_Organisation_init : Stmt := inClass (top 25) 0
theorem sc_Organisation_init : FnScope ["self", "charter", "trusted", "person", "held"] ["self", "charter", "trusted"] (defScope s_Organisation_init) := ⟨rfl, rfl, rfl, by decide +kernel, rfl, by decide +kernel, by decide +kernel⟩

abbrev s_Organisation_holds : Stmt := inClass (top 25) 2
theorem sc_Organisation_holds : FnScope ["self", "person"] ["self", "person"] (defScope s_Organisation_holds) := ⟨rfl, rfl, rfl, by decide +kernel, rfl, by decide +kernel, by decide +kernel⟩

abbrev s_Organisation_copy : Stmt := inClass (top 25) 4
theorem sc_Organisation_copy : FnScope ["self", "other"] ["self"] (defScope s_Organisation_copy) := ⟨rfl, rfl, rfl, by decide +kernel, rfl, by decide +kernel, by decide +kernel⟩

abbrev s_Organisation_may_act : Stmt := inClass (top 25) 5
theorem sc_Organisation_may_act : FnScope ["self", "actor"] ["self", "actor"] (defScope s_Organisation_may_act) := ⟨rfl, rfl, rfl, by decide +kernel, rfl, by decide +kernel, by decide +kernel⟩

abbrev s_Organisation_can_do : Stmt := inClass (top 25) 6
theorem sc_Organisation_can_do : FnScope ["self", "action", "name", "actor", "target", "rule"] ["self", "action"] (defScope s_Organisation_can_do) := ⟨rfl, rfl, rfl, by decide +kernel, rfl, by decide +kernel, by decide +kernel⟩

abbrev s_Organisation_can_alone : Stmt := inClass (top 25) 7
theorem sc_Organisation_can_alone : FnScope ["self", "rule", "actor", "held"] ["self", "rule", "actor"] (defScope s_Organisation_can_alone) := ⟨rfl, rfl, rfl, by decide +kernel, rfl, by decide +kernel, by decide +kernel⟩

abbrev s_Organisation_can_with : Stmt := inClass (top 25) 8
theorem sc_Organisation_can_with : FnScope ["self", "rule", "actor", "target", "held", "other"] ["self", "rule", "actor", "target"] (defScope s_Organisation_can_with) := ⟨rfl, rfl, rfl, by decide +kernel, rfl, by decide +kernel, by decide +kernel⟩

abbrev s_Organisation_put : Stmt := inClass (top 25) 9
theorem sc_Organisation_put : FnScope ["self", "person", "right"] ["self", "person", "right"] (defScope s_Organisation_put) := ⟨rfl, rfl, rfl, by decide +kernel, rfl, by decide +kernel, by decide +kernel⟩

abbrev s_Organisation_cut : Stmt := inClass (top 25) 10
theorem sc_Organisation_cut : FnScope ["self", "person", "right", "held"] ["self", "person", "right"] (defScope s_Organisation_cut) := ⟨rfl, rfl, rfl, by decide +kernel, rfl, by decide +kernel, by decide +kernel⟩

abbrev s_Organisation_do : Stmt := inClass (top 25) 11
theorem sc_Organisation_do : FnScope ["self", "action", "name", "actor", "target", "rule", "right"] ["self", "action"] (defScope s_Organisation_do) := ⟨rfl, rfl, rfl, by decide +kernel, rfl, by decide +kernel, by decide +kernel⟩

abbrev s_Organisation_stands_for : Stmt := inClass (top 25) 12
theorem sc_Organisation_stands_for : FnScope ["self", "demand", "person", "holds", "lacks", "name", "held"] ["self", "demand"] (defScope s_Organisation_stands_for) := ⟨rfl, rfl, rfl, by decide +kernel, rfl, by decide +kernel, by decide +kernel⟩

abbrev s_Organisation_meets : Stmt := inClass (top 25) 13
theorem sc_Organisation_meets : FnScope ["self", "goal", "demand"] ["self", "goal"] (defScope s_Organisation_meets) := ⟨rfl, rfl, rfl, by decide +kernel, rfl, by decide +kernel, by decide +kernel⟩

abbrev s_can_choose : Stmt := top 26
theorem sc_can_choose : FnScope ["lists", "chosen", "name"] ["lists", "chosen"] (defScope s_can_choose) := ⟨rfl, rfl, rfl, by decide +kernel, rfl, by decide +kernel, by decide +kernel⟩

abbrev s_History_init : Stmt := inClass (top 28) 0
theorem sc_History_init : FnScope ["self", "charter", "actions", "trusted", "organisation", "action"] ["self", "charter", "actions", "trusted"] (defScope s_History_init) := ⟨rfl, rfl, rfl, by decide +kernel, rfl, by decide +kernel, by decide +kernel⟩

abbrev s_History_at : Stmt := inClass (top 28) 2
theorem sc_History_at : FnScope ["self", "moment"] ["self", "moment"] (defScope s_History_at) := ⟨rfl, rfl, rfl, by decide +kernel, rfl, by decide +kernel, by decide +kernel⟩

abbrev s_History_first_moment : Stmt := inClass (top 28) 3
theorem sc_History_first_moment : FnScope ["self", "goal", "moment", "organisation"] ["self", "goal"] (defScope s_History_first_moment) := ⟨rfl, rfl, rfl, by decide +kernel, rfl, by decide +kernel, by decide +kernel⟩

abbrev s_l_row : Stmt := top 30
theorem sc_l_row : FnScope ["_law_cell", "_law_many_here", "_law_row_here", "_law_rest", "_law_mixed", "_law_k"] ["_law_cell", "_law_many_here"] (defScope s_l_row) := ⟨rfl, rfl, rfl, by decide +kernel, rfl, by decide +kernel, by decide +kernel⟩

abbrev s_l_numbers : Stmt := top 31
theorem sc_l_numbers : FnScope ["_law_script", "_law_many_here", "_law_cells", "_law_each", "_law_numbers_here", "_law_cell", "_law_number"] ["_law_script", "_law_many_here"] (defScope s_l_numbers) := ⟨rfl, rfl, rfl, by decide +kernel, rfl, by decide +kernel, by decide +kernel⟩

abbrev s_l_names : Stmt := top 32
theorem sc_l_names : FnScope ["_law_number", "_law_many_here", "_law_letters", "_law_size", "_law_rest", "_law_k", "_law_place", "_law_names_here", "_law_own", "_law_spot", "_law_step"] ["_law_number", "_law_many_here"] (defScope s_l_names) := ⟨rfl, rfl, rfl, by decide +kernel, rfl, by decide +kernel, by decide +kernel⟩

abbrev s_l_some : Stmt := top 33
theorem sc_l_some : FnScope ["_law_number", "_law_rights", "_law_found", "_law_rest", "_law_right"] ["_law_number", "_law_rights"] (defScope s_l_some) := ⟨rfl, rfl, rfl, by decide +kernel, rfl, by decide +kernel, by decide +kernel⟩

abbrev s_l_asked : Stmt := top 34
theorem sc_l_asked : FnScope ["_law_numbers_here", "_law_at", "_law_rights", "_law_right", "_law_others", "_law_other", "_law_needs", "_law_lacks"] ["_law_numbers_here", "_law_at", "_law_rights", "_law_right"] (defScope s_l_asked) := ⟨rfl, rfl, rfl, by decide +kernel, rfl, by decide +kernel, by decide +kernel⟩

abbrev s_l_rule : Stmt := top 35
theorem sc_l_rule : FnScope ["_law_numbers_here", "_law_at", "_law_name", "_law_rights", "_law_sole", "_law_shared", "_law_right", "_law_kind", "_law_needs", "_law_lacks", "_law_wants", "_law_other", "_law_one"] ["_law_numbers_here", "_law_at", "_law_name", "_law_rights", "_law_sole"] (defScope s_l_rule) := ⟨rfl, rfl, rfl, by decide +kernel, rfl, by decide +kernel, by decide +kernel⟩

abbrev s_l_parts : Stmt := top 36
theorem sc_l_parts : FnScope ["_law_numbers_here", "_law_at", "_law_rights", "_law_sole", "_law_shared", "_law_right", "_law_people", "_law_founders", "_law_k", "_law_held", "_law_names_here", "_law_rules"] ["_law_numbers_here", "_law_at"] (defScope s_l_parts) := ⟨rfl, rfl, rfl, by decide +kernel, rfl, by decide +kernel, by decide +kernel⟩

abbrev s_l_goal : Stmt := top 37
theorem sc_l_goal : FnScope ["_law_numbers_here", "_law_at", "_law_parts_here", "_law_goal_here", "_law_named", "_law_k", "_law_holds", "_law_lacks", "_law_right", "_law_person"] ["_law_numbers_here", "_law_at", "_law_parts_here"] (defScope s_l_goal) := ⟨rfl, rfl, rfl, by decide +kernel, rfl, by decide +kernel, by decide +kernel⟩

abbrev s_l_with : Stmt := top 38
theorem sc_l_with : FnScope ["_law_rights", "_law_held", "_law_right", "_law_one"] ["_law_rights", "_law_held", "_law_right"] (defScope s_l_with) := ⟨rfl, rfl, rfl, by decide +kernel, rfl, by decide +kernel, by decide +kernel⟩

abbrev s_l_less : Stmt := top 39
theorem sc_l_less : FnScope ["_law_held", "_law_right", "_law_one"] ["_law_held", "_law_right"] (defScope s_l_less) := ⟨rfl, rfl, rfl, by decide +kernel, rfl, by decide +kernel, by decide +kernel⟩

abbrev s_l_fits : Stmt := top 40
theorem sc_l_fits : FnScope ["_law_held", "_law_holds", "_law_lacks", "_law_right"] ["_law_held", "_law_holds", "_law_lacks"] (defScope s_l_fits) := ⟨rfl, rfl, rfl, by decide +kernel, rfl, by decide +kernel, by decide +kernel⟩

abbrev s_l_allows : Stmt := top 41
theorem sc_l_allows : FnScope ["_law_rule_here", "_law_actor", "_law_target"] ["_law_rule_here", "_law_actor", "_law_target"] (defScope s_l_allows) := ⟨rfl, rfl, rfl, by decide +kernel, rfl, by decide +kernel, by decide +kernel⟩

abbrev s_l_changed : Stmt := top 42
theorem sc_l_changed : FnScope ["_law_rights", "_law_rule_here", "_law_actor", "_law_target"] ["_law_rights", "_law_rule_here", "_law_actor", "_law_target"] (defScope s_l_changed) := ⟨rfl, rfl, rfl, by decide +kernel, rfl, by decide +kernel, by decide +kernel⟩

abbrev s_l_acted : Stmt := top 43
theorem sc_l_acted : FnScope ["_law_charter", "_law_people", "_law_action", "_law_rules", "_law_rule_here", "_law_names_here", "_law_person", "_law_right", "_law_actor", "_law_after", "_law_target", "_law_first", "_law_second"] ["_law_charter", "_law_people", "_law_action"] (defScope s_l_acted) := ⟨rfl, rfl, rfl, by decide +kernel, rfl, by decide +kernel, by decide +kernel⟩

abbrev s_l_founded : Stmt := top 44
theorem sc_l_founded : FnScope ["_law_charter", "_law_right", "_law_founder"] ["_law_charter"] (defScope s_l_founded) := ⟨rfl, rfl, rfl, by decide +kernel, rfl, by decide +kernel, by decide +kernel⟩

abbrev s_l_meets : Stmt := top 45
theorem sc_l_meets : FnScope ["_law_people", "_law_demands", "_law_name", "_law_holds", "_law_lacks", "_law_k"] ["_law_people", "_law_demands"] (defScope s_l_meets) := ⟨rfl, rfl, rfl, by decide +kernel, rfl, by decide +kernel, by decide +kernel⟩

abbrev s_l_made : Stmt := top 46
theorem sc_l_made : FnScope ["_law_parts_here", "_law_rules", "_law_rule_here"] ["_law_parts_here"] (defScope s_l_made) := ⟨rfl, rfl, rfl, by decide +kernel, rfl, by decide +kernel, by decide +kernel⟩

abbrev s_l_choices : Stmt := top 47
theorem sc_l_choices : FnScope ["_law_parts_here", "_law_people", "_law_trusted_here", "_law_fresh_here", "_law_found", "_law_rule_here", "_law_one", "_law_other"] ["_law_parts_here", "_law_people", "_law_trusted_here", "_law_fresh_here"] (defScope s_l_choices) := ⟨rfl, rfl, rfl, by decide +kernel, rfl, by decide +kernel, by decide +kernel⟩

abbrev s_l_fresh : Stmt := top 48
theorem sc_l_fresh : FnScope ["_law_names_here", "_law_start", "_law_fresh_here", "_law_turn"] ["_law_names_here", "_law_start"] (defScope s_l_fresh) := ⟨rfl, rfl, rfl, by decide +kernel, rfl, by decide +kernel, by decide +kernel⟩

abbrev s_l_drawn : Stmt := top 49
theorem sc_l_drawn : FnScope ["_law_parts_here", "_law_trusted_here", "_law_numbers_here", "_law_at", "_law_many_here", "_law_people", "_law_actions", "_law_k", "_law_fresh_here", "_law_one", "_law_choices_here", "_law_action"] ["_law_parts_here", "_law_trusted_here", "_law_numbers_here", "_law_at", "_law_many_here"] (defScope s_l_drawn) := ⟨rfl, rfl, rfl, by decide +kernel, rfl, by decide +kernel, by decide +kernel⟩

abbrev s_l_trusted : Stmt := top 50
theorem sc_l_trusted : FnScope ["_law_parts_here", "_law_number", "_law_found", "_law_rest", "_law_founder"] ["_law_parts_here", "_law_number"] (defScope s_l_trusted) := ⟨rfl, rfl, rfl, by decide +kernel, rfl, by decide +kernel, by decide +kernel⟩

abbrev s_l_many : Stmt := top 51
theorem sc_l_many : FnScope ["_law_parts_here", "_law_numbers_here", "_law_at", "_law_goal_here", "_law_demand", "_law_other"] ["_law_parts_here", "_law_numbers_here", "_law_at"] (defScope s_l_many) := ⟨rfl, rfl, rfl, by decide +kernel, rfl, by decide +kernel, by decide +kernel⟩

abbrev s_l_larger : Stmt := top 52
theorem sc_l_larger : FnScope ["_law_parts_here", "_law_numbers_here", "_law_at", "_law_shared", "_law_right", "_law_names_here", "_law_founder", "_law_k", "_law_founders", "_law_name", "_law_rule_here", "_law_rules"] ["_law_parts_here", "_law_numbers_here", "_law_at"] (defScope s_l_larger) := ⟨rfl, rfl, rfl, by decide +kernel, rfl, by decide +kernel, by decide +kernel⟩

abbrev s_l_told : Stmt := top 53
theorem sc_l_told : FnScope ["_law_charter", "_law_actions", "_law_trusted_here"] ["_law_charter", "_law_actions", "_law_trusted_here"] (defScope s_l_told) := ⟨rfl, rfl, rfl, by decide +kernel, rfl, by decide +kernel, by decide +kernel⟩

abbrev s_law : Stmt := top 54
theorem sc_law : FnScope ["_law_script", "_law_numbers_here", "_law_parts_here", "_law_trusted_here", "_law_actions", "_law_last", "_law_history", "_law_goals", "_law_k", "_law_people", "_law_organisation", "_law_one", "_law_goal_here", "_law_first"] ["_law_script"] (defScope s_law) := ⟨rfl, rfl, rfl, by decide +kernel, rfl, by decide +kernel, by decide +kernel⟩

structure Txt (w : World) (K : PySem.W.Frag) (mg : Str → Option Value) : Prop where
  f_len : mg "len" = none
  f_all : mg "all" = none
  f_any : mg "any" = none
  f_abs : mg "abs" = none
  f_max : mg "max" = none
  f_min : mg "min" = none
  f_tuple : mg "tuple" = none
  f_list : mg "list" = none
  f_int : mg "int" = none
  f_str : mg "str" = none
  f_dict : mg "dict" = none
  f_set : mg "set" = none
  f_range : mg "range" = none
  f_enumerate : mg "enumerate" = none
  g_NAME_CHARS : ∃ u, mg "NAME_CHARS" = some u ∧ RelV (V.str "abcdefghijklmnopqrstuvwxyz0123456789") u
  g_MOST_NAME_CHARS : ∃ u, mg "MOST_NAME_CHARS" = some u ∧ RelV (V.int 12) u
  g_MOST_RIGHTS : ∃ u, mg "MOST_RIGHTS" = some u ∧ RelV (V.int 6) u
  g_MOST_FOUNDERS : ∃ u, mg "MOST_FOUNDERS" = some u ∧ RelV (V.int 5) u
  g_MOST_RULES : ∃ u, mg "MOST_RULES" = some u ∧ RelV (V.int 12) u
  g_MOST_DEMANDS : ∃ u, mg "MOST_DEMANDS" = some u ∧ RelV (V.int 3) u
  m_PARTS : mg "PARTS" = some (.ref (He.ga K "PARTS"))
  parts : ∃ es n, KDict K w (He.ga K "PARTS") es n
  pt_join : ∃ u, PySem.W.nsIn K (He.ga K "PARTS") "join" = some (some u) ∧ RelV (V.int 3) u
  pt_claim : ∃ u, PySem.W.nsIn K (He.ga K "PARTS") "claim" = some (some u) ∧ RelV (V.int 5) u
  pt_drop : ∃ u, PySem.W.nsIn K (He.ga K "PARTS") "drop" = some (some u) ∧ RelV (V.int 5) u
  pt_give : ∃ u, PySem.W.nsIn K (He.ga K "PARTS") "give" = some (some u) ∧ RelV (V.int 6) u
  pt_take : ∃ u, PySem.W.nsIn K (He.ga K "PARTS") "take" = some (some u) ∧ RelV (V.int 6) u
  pt_pass : ∃ u, PySem.W.nsIn K (He.ga K "PARTS") "pass" = some (some u) ∧ RelV (V.int 6) u
  cl_Charter : Cls K (He.ga K "Charter")
  m_Charter : mg "Charter" = some (.ref (He.ga K "Charter"))
  mk_Charter : Mk K (He.ga K "Charter") (He.ma K (He.ga K "Charter") "__init__")
  na_Charter_rights : NoAttr K (He.ga K "Charter") "rights"
  na_Charter_sole : NoAttr K (He.ga K "Charter") "sole"
  na_Charter_founders : NoAttr K (He.ga K "Charter") "founders"
  na_Charter_rules : NoAttr K (He.ga K "Charter") "rules"
  cl_Organisation : Cls K (He.ga K "Organisation")
  m_Organisation : mg "Organisation" = some (.ref (He.ga K "Organisation"))
  mk_Organisation : Mk K (He.ga K "Organisation") (He.ma K (He.ga K "Organisation") "__init__")
  na_Organisation_charter : NoAttr K (He.ga K "Organisation") "charter"
  na_Organisation_trusted : NoAttr K (He.ga K "Organisation") "trusted"
  na_Organisation_count : NoAttr K (He.ga K "Organisation") "count"
  na_Organisation__held : NoAttr K (He.ga K "Organisation") "_held"
  cl_History : Cls K (He.ga K "History")
  m_History : mg "History" = some (.ref (He.ga K "History"))
  mk_History : Mk K (He.ga K "History") (He.ma K (He.ga K "History") "__init__")
  na_History_charter : NoAttr K (He.ga K "History") "charter"
  na_History_actions : NoAttr K (He.ga K "History") "actions"
  na_History__moments : NoAttr K (He.ga K "History") "_moments"
  m_InvalidAction : mg "InvalidAction" = some (.ref (He.ga K "InvalidAction"))
  pr_rule_names : PropOf K (He.ga K "Charter") "rule_names" (pRN K) (gRN K)
  d_is_name : ∃ fd, FunD K "is_name" "is_name" (defArgs s_is_name) (defBody s_is_name) (defScope s_is_name) [] [] (He.ga K "is_name") fd
  m_is_name : mg "is_name" = some (.ref (He.ga K "is_name"))
  d_are_different : ∃ fd, FunD K "are_different" "are_different" (defArgs s_are_different) (defBody s_are_different) (defScope s_are_different) [] [] (He.ga K "are_different") fd
  m_are_different : mg "are_different" = some (.ref (He.ga K "are_different"))
  d_are_apart : ∃ fd, FunD K "are_apart" "are_apart" (defArgs s_are_apart) (defBody s_are_apart) (defScope s_are_apart) [] [] (He.ga K "are_apart") fd
  m_are_apart : mg "are_apart" = some (.ref (He.ga K "are_apart"))
  d_require : ∃ fd, FunD K "require" "require" (defArgs s_require) (defBody s_require) (defScope s_require) [] [] (He.ga K "require") fd
  m_require : mg "require" = some (.ref (He.ga K "require"))
  d_right_lists : ∃ fd, FunD K "right_lists" "right_lists" (defArgs s_right_lists) (defBody s_right_lists) (defScope s_right_lists) [] [] (He.ga K "right_lists") fd
  m_right_lists : mg "right_lists" = some (.ref (He.ga K "right_lists"))
  d_Charter_init : ∃ fd, FunD K "__init__" "Charter.__init__" (defArgs s_Charter_init) (defBody s_Charter_init) (defScope s_Charter_init) [] [] (He.ma K (He.ga K "Charter") "__init__") fd
  d_Charter_some : ∃ fd, FunD K "some" "Charter.some" (defArgs s_Charter_some) (defBody s_Charter_some) (defScope s_Charter_some) [] [] (He.ma K (He.ga K "Charter") "some") fd
  mt_Charter_some : Meth K (He.ga K "Charter") "some" (He.ma K (He.ga K "Charter") "some")
  d_Charter_check_founders : ∃ fd, FunD K "check_founders" "Charter.check_founders" (defArgs s_Charter_check_founders) (defBody s_Charter_check_founders) (defScope s_Charter_check_founders) [] [] (He.ma K (He.ga K "Charter") "check_founders") fd
  mt_Charter_check_founders : Meth K (He.ga K "Charter") "check_founders" (He.ma K (He.ga K "Charter") "check_founders")
  d_Charter_checked : ∃ fd, FunD K "checked" "Charter.checked" (defArgs s_Charter_checked) (defBody s_Charter_checked) (defScope s_Charter_checked) [] [] (He.ma K (He.ga K "Charter") "checked") fd
  mt_Charter_checked : Meth K (He.ga K "Charter") "checked" (He.ma K (He.ga K "Charter") "checked")
  d_Charter_rule_names : ∃ fd, FunD K "rule_names" "Charter.rule_names" (defArgs s_Charter_rule_names) (defBody s_Charter_rule_names) (defScope s_Charter_rule_names) [] [] (gRN K) fd
  d_Charter_rule : ∃ fd, FunD K "rule" "Charter.rule" (defArgs s_Charter_rule) (defBody s_Charter_rule) (defScope s_Charter_rule) [] [] (He.ma K (He.ga K "Charter") "rule") fd
  mt_Charter_rule : Meth K (He.ga K "Charter") "rule" (He.ma K (He.ga K "Charter") "rule")
  d_Charter_founder : ∃ fd, FunD K "founder" "Charter.founder" (defArgs s_Charter_founder) (defBody s_Charter_founder) (defScope s_Charter_founder) [] [] (He.ma K (He.ga K "Charter") "founder") fd
  mt_Charter_founder : Meth K (He.ga K "Charter") "founder" (He.ma K (He.ga K "Charter") "founder")
  d_Charter_ordered : ∃ fd, FunD K "ordered" "Charter.ordered" (defArgs s_Charter_ordered) (defBody s_Charter_ordered) (defScope s_Charter_ordered) [] [] (He.ma K (He.ga K "Charter") "ordered") fd
  mt_Charter_ordered : Meth K (He.ga K "Charter") "ordered" (He.ma K (He.ga K "Charter") "ordered")
  d_check_trusted : ∃ fd, FunD K "check_trusted" "check_trusted" (defArgs s_check_trusted) (defBody s_check_trusted) (defScope s_check_trusted) [] [] (He.ga K "check_trusted") fd
  m_check_trusted : mg "check_trusted" = some (.ref (He.ga K "check_trusted"))
  d_check_goal : ∃ fd, FunD K "check_goal" "check_goal" (defArgs s_check_goal) (defBody s_check_goal) (defScope s_check_goal) [] [] (He.ga K "check_goal") fd
  m_check_goal : mg "check_goal" = some (.ref (He.ga K "check_goal"))
  d_fits : ∃ fd, FunD K "fits" "fits" (defArgs s_fits) (defBody s_fits) (defScope s_fits) [] [] (He.ga K "fits") fd
  m_fits : mg "fits" = some (.ref (He.ga K "fits"))
  d_Organisation_init : ∃ fd, FunD K "__init__" "Organisation.__init__" (defArgs s_Organisation_init) (defBody s_Organisation_init) (defScope s_Organisation_init) [] [] (He.ma K (He.ga K "Organisation") "__init__") fd
  d_Organisation_holds : ∃ fd, FunD K "holds" "Organisation.holds" (defArgs s_Organisation_holds) (defBody s_Organisation_holds) (defScope s_Organisation_holds) [] [] (He.ma K (He.ga K "Organisation") "holds") fd
  mt_Organisation_holds : Meth K (He.ga K "Organisation") "holds" (He.ma K (He.ga K "Organisation") "holds")
  d_Organisation_copy : ∃ fd, FunD K "copy" "Organisation.copy" (defArgs s_Organisation_copy) (defBody s_Organisation_copy) (defScope s_Organisation_copy) [] [] (He.ma K (He.ga K "Organisation") "copy") fd
  mt_Organisation_copy : Meth K (He.ga K "Organisation") "copy" (He.ma K (He.ga K "Organisation") "copy")
  d_Organisation_may_act : ∃ fd, FunD K "may_act" "Organisation.may_act" (defArgs s_Organisation_may_act) (defBody s_Organisation_may_act) (defScope s_Organisation_may_act) [] [] (He.ma K (He.ga K "Organisation") "may_act") fd
  mt_Organisation_may_act : Meth K (He.ga K "Organisation") "may_act" (He.ma K (He.ga K "Organisation") "may_act")
  d_Organisation_can_do : ∃ fd, FunD K "can_do" "Organisation.can_do" (defArgs s_Organisation_can_do) (defBody s_Organisation_can_do) (defScope s_Organisation_can_do) [] [] (He.ma K (He.ga K "Organisation") "can_do") fd
  mt_Organisation_can_do : Meth K (He.ga K "Organisation") "can_do" (He.ma K (He.ga K "Organisation") "can_do")
  d_Organisation_can_alone : ∃ fd, FunD K "can_alone" "Organisation.can_alone" (defArgs s_Organisation_can_alone) (defBody s_Organisation_can_alone) (defScope s_Organisation_can_alone) [] [] (He.ma K (He.ga K "Organisation") "can_alone") fd
  mt_Organisation_can_alone : Meth K (He.ga K "Organisation") "can_alone" (He.ma K (He.ga K "Organisation") "can_alone")
  d_Organisation_can_with : ∃ fd, FunD K "can_with" "Organisation.can_with" (defArgs s_Organisation_can_with) (defBody s_Organisation_can_with) (defScope s_Organisation_can_with) [] [] (He.ma K (He.ga K "Organisation") "can_with") fd
  mt_Organisation_can_with : Meth K (He.ga K "Organisation") "can_with" (He.ma K (He.ga K "Organisation") "can_with")
  d_Organisation_put : ∃ fd, FunD K "put" "Organisation.put" (defArgs s_Organisation_put) (defBody s_Organisation_put) (defScope s_Organisation_put) [] [] (He.ma K (He.ga K "Organisation") "put") fd
  mt_Organisation_put : Meth K (He.ga K "Organisation") "put" (He.ma K (He.ga K "Organisation") "put")
  d_Organisation_cut : ∃ fd, FunD K "cut" "Organisation.cut" (defArgs s_Organisation_cut) (defBody s_Organisation_cut) (defScope s_Organisation_cut) [] [] (He.ma K (He.ga K "Organisation") "cut") fd
  mt_Organisation_cut : Meth K (He.ga K "Organisation") "cut" (He.ma K (He.ga K "Organisation") "cut")
  d_Organisation_do : ∃ fd, FunD K "do" "Organisation.do" (defArgs s_Organisation_do) (defBody s_Organisation_do) (defScope s_Organisation_do) [] [] (He.ma K (He.ga K "Organisation") "do") fd
  mt_Organisation_do : Meth K (He.ga K "Organisation") "do" (He.ma K (He.ga K "Organisation") "do")
  d_Organisation_stands_for : ∃ fd, FunD K "stands_for" "Organisation.stands_for" (defArgs s_Organisation_stands_for) (defBody s_Organisation_stands_for) (defScope s_Organisation_stands_for) [] [] (He.ma K (He.ga K "Organisation") "stands_for") fd
  mt_Organisation_stands_for : Meth K (He.ga K "Organisation") "stands_for" (He.ma K (He.ga K "Organisation") "stands_for")
  d_Organisation_meets : ∃ fd, FunD K "meets" "Organisation.meets" (defArgs s_Organisation_meets) (defBody s_Organisation_meets) (defScope s_Organisation_meets) [] [] (He.ma K (He.ga K "Organisation") "meets") fd
  mt_Organisation_meets : Meth K (He.ga K "Organisation") "meets" (He.ma K (He.ga K "Organisation") "meets")
  d_can_choose : ∃ fd, FunD K "can_choose" "can_choose" (defArgs s_can_choose) (defBody s_can_choose) (defScope s_can_choose) [] [] (He.ga K "can_choose") fd
  m_can_choose : mg "can_choose" = some (.ref (He.ga K "can_choose"))
  d_History_init : ∃ fd, FunD K "__init__" "History.__init__" (defArgs s_History_init) (defBody s_History_init) (defScope s_History_init) [] [] (He.ma K (He.ga K "History") "__init__") fd
  d_History_at : ∃ fd, FunD K "at" "History.at" (defArgs s_History_at) (defBody s_History_at) (defScope s_History_at) [] [] (He.ma K (He.ga K "History") "at") fd
  mt_History_at : Meth K (He.ga K "History") "at" (He.ma K (He.ga K "History") "at")
  d_History_first_moment : ∃ fd, FunD K "first_moment" "History.first_moment" (defArgs s_History_first_moment) (defBody s_History_first_moment) (defScope s_History_first_moment) [] [] (He.ma K (He.ga K "History") "first_moment") fd
  mt_History_first_moment : Meth K (He.ga K "History") "first_moment" (He.ma K (He.ga K "History") "first_moment")
  d_l_row : ∃ fd, FunD K "_law_row" "_law_row" (defArgs s_l_row) (defBody s_l_row) (defScope s_l_row) [] [] (He.ga K "_law_row") fd
  m_l_row : mg "_law_row" = some (.ref (He.ga K "_law_row"))
  d_l_numbers : ∃ fd, FunD K "_law_numbers" "_law_numbers" (defArgs s_l_numbers) (defBody s_l_numbers) (defScope s_l_numbers) [] [] (He.ga K "_law_numbers") fd
  m_l_numbers : mg "_law_numbers" = some (.ref (He.ga K "_law_numbers"))
  d_l_names : ∃ fd, FunD K "_law_names" "_law_names" (defArgs s_l_names) (defBody s_l_names) (defScope s_l_names) [] [] (He.ga K "_law_names") fd
  m_l_names : mg "_law_names" = some (.ref (He.ga K "_law_names"))
  d_l_some : ∃ fd, FunD K "_law_some" "_law_some" (defArgs s_l_some) (defBody s_l_some) (defScope s_l_some) [] [] (He.ga K "_law_some") fd
  m_l_some : mg "_law_some" = some (.ref (He.ga K "_law_some"))
  d_l_asked : ∃ fd, FunD K "_law_asked" "_law_asked" (defArgs s_l_asked) (defBody s_l_asked) (defScope s_l_asked) [] [] (He.ga K "_law_asked") fd
  m_l_asked : mg "_law_asked" = some (.ref (He.ga K "_law_asked"))
  d_l_rule : ∃ fd, FunD K "_law_rule" "_law_rule" (defArgs s_l_rule) (defBody s_l_rule) (defScope s_l_rule) [] [] (He.ga K "_law_rule") fd
  m_l_rule : mg "_law_rule" = some (.ref (He.ga K "_law_rule"))
  d_l_parts : ∃ fd, FunD K "_law_parts" "_law_parts" (defArgs s_l_parts) (defBody s_l_parts) (defScope s_l_parts) [] [] (He.ga K "_law_parts") fd
  m_l_parts : mg "_law_parts" = some (.ref (He.ga K "_law_parts"))
  d_l_goal : ∃ fd, FunD K "_law_goal" "_law_goal" (defArgs s_l_goal) (defBody s_l_goal) (defScope s_l_goal) [] [] (He.ga K "_law_goal") fd
  m_l_goal : mg "_law_goal" = some (.ref (He.ga K "_law_goal"))
  d_l_with : ∃ fd, FunD K "_law_with" "_law_with" (defArgs s_l_with) (defBody s_l_with) (defScope s_l_with) [] [] (He.ga K "_law_with") fd
  m_l_with : mg "_law_with" = some (.ref (He.ga K "_law_with"))
  d_l_less : ∃ fd, FunD K "_law_less" "_law_less" (defArgs s_l_less) (defBody s_l_less) (defScope s_l_less) [] [] (He.ga K "_law_less") fd
  m_l_less : mg "_law_less" = some (.ref (He.ga K "_law_less"))
  d_l_fits : ∃ fd, FunD K "_law_fits" "_law_fits" (defArgs s_l_fits) (defBody s_l_fits) (defScope s_l_fits) [] [] (He.ga K "_law_fits") fd
  m_l_fits : mg "_law_fits" = some (.ref (He.ga K "_law_fits"))
  d_l_allows : ∃ fd, FunD K "_law_allows" "_law_allows" (defArgs s_l_allows) (defBody s_l_allows) (defScope s_l_allows) [] [] (He.ga K "_law_allows") fd
  m_l_allows : mg "_law_allows" = some (.ref (He.ga K "_law_allows"))
  d_l_changed : ∃ fd, FunD K "_law_changed" "_law_changed" (defArgs s_l_changed) (defBody s_l_changed) (defScope s_l_changed) [] [] (He.ga K "_law_changed") fd
  m_l_changed : mg "_law_changed" = some (.ref (He.ga K "_law_changed"))
  d_l_acted : ∃ fd, FunD K "_law_acted" "_law_acted" (defArgs s_l_acted) (defBody s_l_acted) (defScope s_l_acted) [] [] (He.ga K "_law_acted") fd
  m_l_acted : mg "_law_acted" = some (.ref (He.ga K "_law_acted"))
  d_l_founded : ∃ fd, FunD K "_law_founded" "_law_founded" (defArgs s_l_founded) (defBody s_l_founded) (defScope s_l_founded) [] [] (He.ga K "_law_founded") fd
  m_l_founded : mg "_law_founded" = some (.ref (He.ga K "_law_founded"))
  d_l_meets : ∃ fd, FunD K "_law_meets" "_law_meets" (defArgs s_l_meets) (defBody s_l_meets) (defScope s_l_meets) [] [] (He.ga K "_law_meets") fd
  m_l_meets : mg "_law_meets" = some (.ref (He.ga K "_law_meets"))
  d_l_made : ∃ fd, FunD K "_law_made" "_law_made" (defArgs s_l_made) (defBody s_l_made) (defScope s_l_made) [] [] (He.ga K "_law_made") fd
  m_l_made : mg "_law_made" = some (.ref (He.ga K "_law_made"))
  d_l_choices : ∃ fd, FunD K "_law_choices" "_law_choices" (defArgs s_l_choices) (defBody s_l_choices) (defScope s_l_choices) [] [] (He.ga K "_law_choices") fd
  m_l_choices : mg "_law_choices" = some (.ref (He.ga K "_law_choices"))
  d_l_fresh : ∃ fd, FunD K "_law_fresh" "_law_fresh" (defArgs s_l_fresh) (defBody s_l_fresh) (defScope s_l_fresh) [] [] (He.ga K "_law_fresh") fd
  m_l_fresh : mg "_law_fresh" = some (.ref (He.ga K "_law_fresh"))
  d_l_drawn : ∃ fd, FunD K "_law_drawn" "_law_drawn" (defArgs s_l_drawn) (defBody s_l_drawn) (defScope s_l_drawn) [] [] (He.ga K "_law_drawn") fd
  m_l_drawn : mg "_law_drawn" = some (.ref (He.ga K "_law_drawn"))
  d_l_trusted : ∃ fd, FunD K "_law_trusted" "_law_trusted" (defArgs s_l_trusted) (defBody s_l_trusted) (defScope s_l_trusted) [] [] (He.ga K "_law_trusted") fd
  m_l_trusted : mg "_law_trusted" = some (.ref (He.ga K "_law_trusted"))
  d_l_many : ∃ fd, FunD K "_law_many" "_law_many" (defArgs s_l_many) (defBody s_l_many) (defScope s_l_many) [] [] (He.ga K "_law_many") fd
  m_l_many : mg "_law_many" = some (.ref (He.ga K "_law_many"))
  d_l_larger : ∃ fd, FunD K "_law_larger" "_law_larger" (defArgs s_l_larger) (defBody s_l_larger) (defScope s_l_larger) [] [] (He.ga K "_law_larger") fd
  m_l_larger : mg "_law_larger" = some (.ref (He.ga K "_law_larger"))
  d_l_told : ∃ fd, FunD K "_law_told" "_law_told" (defArgs s_l_told) (defBody s_l_told) (defScope s_l_told) [] [] (He.ga K "_law_told") fd
  m_l_told : mg "_law_told" = some (.ref (He.ga K "_law_told"))
  d_law : ∃ fd, FunD K "law" "law" (defArgs s_law) (defBody s_law) (defScope s_law) [] [] (He.ga K "law") fd
  m_law : mg "law" = some (.ref (He.ga K "law"))
end WM

/-! ## HeadW -/
set_option maxHeartbeats 0
namespace WM
open PySem PySem.Spec PyProof.Rows L2
abbrev R : PySem.W.OpenRow := PySem.W.OpenLaw.row PySem.Challenge.rw_whoevermay_k20_whole_larger_organisation
def names1 : List PySem.Str := ["_wall", "WhoevermayError", "InvalidCharter", "InvalidGoal", "UnknownName", "InvalidAction", "NAME_CHARS", "MOST_NAME_CHARS", "MOST_RIGHTS", "MOST_FOUNDERS", "MOST_RULES", "PARTS", "is_name", "are_different", "are_apart", "require", "right_lists", "Charter", "MOST_DEMANDS", "check_trusted", "check_goal", "fits", "Organisation", "can_choose", "History"]
def names2 : List PySem.Str := ["_law_row", "_law_numbers", "_law_names", "_law_some", "_law_asked", "_law_rule", "_law_parts", "_law_goal", "_law_with", "_law_less", "_law_fits", "_law_allows", "_law_changed", "_law_acted", "_law_founded", "_law_meets", "_law_made", "_law_choices", "_law_fresh", "_law_drawn", "_law_trusted", "_law_many", "_law_larger", "_law_told"]
def loose : List PySem.Str := names1 ++ names2
def d0 : He.DefD := ⟨("is_name", none), "is_name", "is_name", defArgs s_is_name, defBody s_is_name, defScope s_is_name, [], []⟩
def d1 : He.DefD := ⟨("are_different", none), "are_different", "are_different", defArgs s_are_different, defBody s_are_different, defScope s_are_different, [], []⟩
def d2 : He.DefD := ⟨("are_apart", none), "are_apart", "are_apart", defArgs s_are_apart, defBody s_are_apart, defScope s_are_apart, [], []⟩
def d3 : He.DefD := ⟨("require", none), "require", "require", defArgs s_require, defBody s_require, defScope s_require, [], []⟩
def d4 : He.DefD := ⟨("right_lists", none), "right_lists", "right_lists", defArgs s_right_lists, defBody s_right_lists, defScope s_right_lists, [], []⟩
def d5 : He.DefD := ⟨("Charter", some "__init__"), "__init__", "Charter.__init__", defArgs s_Charter_init, defBody s_Charter_init, defScope s_Charter_init, [], []⟩
def d6 : He.DefD := ⟨("Charter", some "some"), "some", "Charter.some", defArgs s_Charter_some, defBody s_Charter_some, defScope s_Charter_some, [], []⟩
def d7 : He.DefD := ⟨("Charter", some "check_founders"), "check_founders", "Charter.check_founders", defArgs s_Charter_check_founders, defBody s_Charter_check_founders, defScope s_Charter_check_founders, [], []⟩
def d8 : He.DefD := ⟨("Charter", some "checked"), "checked", "Charter.checked", defArgs s_Charter_checked, defBody s_Charter_checked, defScope s_Charter_checked, [], []⟩
def d9 : He.DefD := ⟨("Charter", some "rule"), "rule", "Charter.rule", defArgs s_Charter_rule, defBody s_Charter_rule, defScope s_Charter_rule, [], []⟩
def d10 : He.DefD := ⟨("Charter", some "founder"), "founder", "Charter.founder", defArgs s_Charter_founder, defBody s_Charter_founder, defScope s_Charter_founder, [], []⟩
def d11 : He.DefD := ⟨("Charter", some "ordered"), "ordered", "Charter.ordered", defArgs s_Charter_ordered, defBody s_Charter_ordered, defScope s_Charter_ordered, [], []⟩
def d12 : He.DefD := ⟨("check_trusted", none), "check_trusted", "check_trusted", defArgs s_check_trusted, defBody s_check_trusted, defScope s_check_trusted, [], []⟩
def d13 : He.DefD := ⟨("check_goal", none), "check_goal", "check_goal", defArgs s_check_goal, defBody s_check_goal, defScope s_check_goal, [], []⟩
def d14 : He.DefD := ⟨("fits", none), "fits", "fits", defArgs s_fits, defBody s_fits, defScope s_fits, [], []⟩
def d15 : He.DefD := ⟨("Organisation", some "__init__"), "__init__", "Organisation.__init__", defArgs s_Organisation_init, defBody s_Organisation_init, defScope s_Organisation_init, [], []⟩
def d16 : He.DefD := ⟨("Organisation", some "holds"), "holds", "Organisation.holds", defArgs s_Organisation_holds, defBody s_Organisation_holds, defScope s_Organisation_holds, [], []⟩
def d17 : He.DefD := ⟨("Organisation", some "copy"), "copy", "Organisation.copy", defArgs s_Organisation_copy, defBody s_Organisation_copy, defScope s_Organisation_copy, [], []⟩
def d18 : He.DefD := ⟨("Organisation", some "may_act"), "may_act", "Organisation.may_act", defArgs s_Organisation_may_act, defBody s_Organisation_may_act, defScope s_Organisation_may_act, [], []⟩
def d19 : He.DefD := ⟨("Organisation", some "can_do"), "can_do", "Organisation.can_do", defArgs s_Organisation_can_do, defBody s_Organisation_can_do, defScope s_Organisation_can_do, [], []⟩
def d20 : He.DefD := ⟨("Organisation", some "can_alone"), "can_alone", "Organisation.can_alone", defArgs s_Organisation_can_alone, defBody s_Organisation_can_alone, defScope s_Organisation_can_alone, [], []⟩
def d21 : He.DefD := ⟨("Organisation", some "can_with"), "can_with", "Organisation.can_with", defArgs s_Organisation_can_with, defBody s_Organisation_can_with, defScope s_Organisation_can_with, [], []⟩
def d22 : He.DefD := ⟨("Organisation", some "put"), "put", "Organisation.put", defArgs s_Organisation_put, defBody s_Organisation_put, defScope s_Organisation_put, [], []⟩
def d23 : He.DefD := ⟨("Organisation", some "cut"), "cut", "Organisation.cut", defArgs s_Organisation_cut, defBody s_Organisation_cut, defScope s_Organisation_cut, [], []⟩
def d24 : He.DefD := ⟨("Organisation", some "do"), "do", "Organisation.do", defArgs s_Organisation_do, defBody s_Organisation_do, defScope s_Organisation_do, [], []⟩
def d25 : He.DefD := ⟨("Organisation", some "stands_for"), "stands_for", "Organisation.stands_for", defArgs s_Organisation_stands_for, defBody s_Organisation_stands_for, defScope s_Organisation_stands_for, [], []⟩
def d26 : He.DefD := ⟨("Organisation", some "meets"), "meets", "Organisation.meets", defArgs s_Organisation_meets, defBody s_Organisation_meets, defScope s_Organisation_meets, [], []⟩
def d27 : He.DefD := ⟨("can_choose", none), "can_choose", "can_choose", defArgs s_can_choose, defBody s_can_choose, defScope s_can_choose, [], []⟩
def d28 : He.DefD := ⟨("History", some "__init__"), "__init__", "History.__init__", defArgs s_History_init, defBody s_History_init, defScope s_History_init, [], []⟩
def d29 : He.DefD := ⟨("History", some "at"), "at", "History.at", defArgs s_History_at, defBody s_History_at, defScope s_History_at, [], []⟩
def d30 : He.DefD := ⟨("History", some "first_moment"), "first_moment", "History.first_moment", defArgs s_History_first_moment, defBody s_History_first_moment, defScope s_History_first_moment, [], []⟩
def d31 : He.DefD := ⟨("_law_row", none), "_law_row", "_law_row", defArgs s_l_row, defBody s_l_row, defScope s_l_row, [], []⟩
def d32 : He.DefD := ⟨("_law_numbers", none), "_law_numbers", "_law_numbers", defArgs s_l_numbers, defBody s_l_numbers, defScope s_l_numbers, [], []⟩
def d33 : He.DefD := ⟨("_law_names", none), "_law_names", "_law_names", defArgs s_l_names, defBody s_l_names, defScope s_l_names, [], []⟩
def d34 : He.DefD := ⟨("_law_some", none), "_law_some", "_law_some", defArgs s_l_some, defBody s_l_some, defScope s_l_some, [], []⟩
def d35 : He.DefD := ⟨("_law_asked", none), "_law_asked", "_law_asked", defArgs s_l_asked, defBody s_l_asked, defScope s_l_asked, [], []⟩
def d36 : He.DefD := ⟨("_law_rule", none), "_law_rule", "_law_rule", defArgs s_l_rule, defBody s_l_rule, defScope s_l_rule, [], []⟩
def d37 : He.DefD := ⟨("_law_parts", none), "_law_parts", "_law_parts", defArgs s_l_parts, defBody s_l_parts, defScope s_l_parts, [], []⟩
def d38 : He.DefD := ⟨("_law_goal", none), "_law_goal", "_law_goal", defArgs s_l_goal, defBody s_l_goal, defScope s_l_goal, [], []⟩
def d39 : He.DefD := ⟨("_law_with", none), "_law_with", "_law_with", defArgs s_l_with, defBody s_l_with, defScope s_l_with, [], []⟩
def d40 : He.DefD := ⟨("_law_less", none), "_law_less", "_law_less", defArgs s_l_less, defBody s_l_less, defScope s_l_less, [], []⟩
def d41 : He.DefD := ⟨("_law_fits", none), "_law_fits", "_law_fits", defArgs s_l_fits, defBody s_l_fits, defScope s_l_fits, [], []⟩
def d42 : He.DefD := ⟨("_law_allows", none), "_law_allows", "_law_allows", defArgs s_l_allows, defBody s_l_allows, defScope s_l_allows, [], []⟩
def d43 : He.DefD := ⟨("_law_changed", none), "_law_changed", "_law_changed", defArgs s_l_changed, defBody s_l_changed, defScope s_l_changed, [], []⟩
def d44 : He.DefD := ⟨("_law_acted", none), "_law_acted", "_law_acted", defArgs s_l_acted, defBody s_l_acted, defScope s_l_acted, [], []⟩
def d45 : He.DefD := ⟨("_law_founded", none), "_law_founded", "_law_founded", defArgs s_l_founded, defBody s_l_founded, defScope s_l_founded, [], []⟩
def d46 : He.DefD := ⟨("_law_meets", none), "_law_meets", "_law_meets", defArgs s_l_meets, defBody s_l_meets, defScope s_l_meets, [], []⟩
def d47 : He.DefD := ⟨("_law_made", none), "_law_made", "_law_made", defArgs s_l_made, defBody s_l_made, defScope s_l_made, [], []⟩
def d48 : He.DefD := ⟨("_law_choices", none), "_law_choices", "_law_choices", defArgs s_l_choices, defBody s_l_choices, defScope s_l_choices, [], []⟩
def d49 : He.DefD := ⟨("_law_fresh", none), "_law_fresh", "_law_fresh", defArgs s_l_fresh, defBody s_l_fresh, defScope s_l_fresh, [], []⟩
def d50 : He.DefD := ⟨("_law_drawn", none), "_law_drawn", "_law_drawn", defArgs s_l_drawn, defBody s_l_drawn, defScope s_l_drawn, [], []⟩
def d51 : He.DefD := ⟨("_law_trusted", none), "_law_trusted", "_law_trusted", defArgs s_l_trusted, defBody s_l_trusted, defScope s_l_trusted, [], []⟩
def d52 : He.DefD := ⟨("_law_many", none), "_law_many", "_law_many", defArgs s_l_many, defBody s_l_many, defScope s_l_many, [], []⟩
def d53 : He.DefD := ⟨("_law_larger", none), "_law_larger", "_law_larger", defArgs s_l_larger, defBody s_l_larger, defScope s_l_larger, [], []⟩
def d54 : He.DefD := ⟨("_law_told", none), "_law_told", "_law_told", defArgs s_l_told, defBody s_l_told, defScope s_l_told, [], []⟩
def d55 : He.DefD := ⟨("law", none), "law", "law", defArgs s_law, defBody s_law, defScope s_law, [], []⟩
def fnT : List He.DefD := [d0, d1, d2, d3, d4, d5, d6, d7, d8, d9, d10, d11, d12, d13, d14, d15, d16, d17, d18, d19, d20, d21, d22, d23, d24, d25, d26, d27, d28, d29, d30, d31, d32, d33, d34, d35, d36, d37, d38, d39, d40, d41, d42, d43, d44, d45, d46, d47, d48, d49, d50, d51, d52, d53, d54, d55]
def faT : List He.Fa := [.free "len", .free "all", .free "any", .free "abs", .free "max", .free "min", .free "tuple", .free "list", .free "int", .free "str", .free "dict", .free "set", .free "range", .free "enumerate", .str "NAME_CHARS" "abcdefghijklmnopqrstuvwxyz0123456789", .int "MOST_NAME_CHARS" 12, .int "MOST_RIGHTS" 6, .int "MOST_FOUNDERS" 5, .int "MOST_RULES" 12, .int "MOST_DEMANDS" 3, .glo "PARTS", .cls "Charter", .glo "Charter", .mkr "Charter", .noat "Charter" "rights", .noat "Charter" "sole", .noat "Charter" "founders", .noat "Charter" "rules", .cls "Organisation", .glo "Organisation", .mkr "Organisation", .noat "Organisation" "charter", .noat "Organisation" "trusted", .noat "Organisation" "count", .noat "Organisation" "_held", .cls "History", .glo "History", .mkr "History", .noat "History" "charter", .noat "History" "actions", .noat "History" "_moments", .glo "InvalidAction", .glo "is_name", .glo "are_different", .glo "are_apart", .glo "require", .glo "right_lists", .meth "Charter" "some", .meth "Charter" "check_founders", .meth "Charter" "checked", .meth "Charter" "rule", .meth "Charter" "founder", .meth "Charter" "ordered", .glo "check_trusted", .glo "check_goal", .glo "fits", .meth "Organisation" "holds", .meth "Organisation" "copy", .meth "Organisation" "may_act", .meth "Organisation" "can_do", .meth "Organisation" "can_alone", .meth "Organisation" "can_with", .meth "Organisation" "put", .meth "Organisation" "cut", .meth "Organisation" "do", .meth "Organisation" "stands_for", .meth "Organisation" "meets", .glo "can_choose", .meth "History" "at", .meth "History" "first_moment", .glo "_law_row", .glo "_law_numbers", .glo "_law_names", .glo "_law_some", .glo "_law_asked", .glo "_law_rule", .glo "_law_parts", .glo "_law_goal", .glo "_law_with", .glo "_law_less", .glo "_law_fits", .glo "_law_allows", .glo "_law_changed", .glo "_law_acted", .glo "_law_founded", .glo "_law_meets", .glo "_law_made", .glo "_law_choices", .glo "_law_fresh", .glo "_law_drawn", .glo "_law_trusted", .glo "_law_many", .glo "_law_larger", .glo "_law_told", .glo "law"]
def tsT : List He.Tab := [(fun K => He.ga K "PARTS", ["join", "claim", "drop", "give", "take", "pass"])]
def pvals : List (Str × He.Dv) := [("join", .int 3), ("claim", .int 5), ("drop", .int 5), ("give", .int 6), ("take", .int 6), ("pass", .int 6)]
def dRN : He.DefD := ⟨("", none), "rule_names", "Charter.rule_names", defArgs s_Charter_rule_names, defBody s_Charter_rule_names, defScope s_Charter_rule_names, [], []⟩
/-! ### what is told besides: the property's getter, the table's values -/
def fnHere (K : PySem.W.Frag) (a : Addr) : He.FnW := (K.lookup a).bind fun ob => match ob.data with
  | .func z => some (z.name, z.qualname, z.params, z.body, z.scope, z.globals, z.closure, z.builtins)
  | _ => none
def noDfl : Value → Bool
  | .none => true
  | _ => false
def okHere (K : PySem.W.Frag) (a : Addr) (q : Str) : Bool := PySem.W.keepIn K (.ref a) && ((K.lookup a).any fun ob => match ob.data with
  | .func z => PySem.W.codeIn K z.code q && noDfl z.defaults
  | _ => false)
theorem fn_here {K : PySem.W.Frag} {a : Addr} {d : He.DefD} (e : fnHere K a = d.val) (c : okHere K a d.qual = true) : ∃ fd, FunD K d.name d.qual d.params d.body d.scope [] [] a fd := by
  unfold okHere at c
  rw [Bool.and_eq_true] at c
  obtain ⟨kp, c⟩ := c
  unfold fnHere He.DefD.val at e
  cases h : K.lookup a with
  | none => rw [h] at c; cases c
  | some ob =>
    rw [h] at c e
    obtain ⟨x1, x2, dt, x4⟩ := ob
    cases dt with
    | func z =>
      have e' : (some (z.name, z.qualname, z.params, z.body, z.scope, z.globals, z.closure, z.builtins) : He.FnW) = some (d.name, d.qual, d.params, .stmts d.body, d.scope, mainGlobals, [], builtinsNs) := e
      have c' : (PySem.W.codeIn K z.code d.qual && noDfl z.defaults) = true := c
      rw [Bool.and_eq_true] at c'
      obtain ⟨y1, y2, y3, y4, y5, y6, y7, y8, y9, y10, y11, y12, y13, y14, y15⟩ := z
      simp only [Option.some.injEq, Prod.mk.injEq] at e'
      obtain ⟨z1, z2, z3, z4, z5, z6, z7, z8⟩ := e'
      have y8n : y8 = .none := by
        have hh : noDfl y8 = true := c'.2
        cases y8 <;> first | rfl | cases hh
      subst z1 z2 z3 z4 z5 z6 z7 z8 y8n
      exact ⟨_, ⟨x1, x2, .none, y9, y10, y11, y12, y13, y14, x4, rfl, h, c'.1, .inl ⟨rfl, rfl⟩, .inl rfl⟩, kp⟩
    | _ => cases e
def propB (K : PySem.W.Frag) : Bool := He.eqO (PySem.W.findIn K (.ref (He.ga K "Charter")) "rule_names") (some (some (.ref (pRN K)))) && (He.eqO (PySem.W.specialIn K (.ref (pRN K)) "__get__") (some (some (.builtin "property.__get__"))) &&
  (decide (PySem.W.takesIn K (.ref (pRN K)) = some true) && (match PySem.W.recIn K (pRN K) "property" with
    | some (.ref _ :: _) => true
    | _ => false)))
theorem propB_ok {K : PySem.W.Frag} (h : propB K = true) : PropOf K (He.ga K "Charter") "rule_names" (pRN K) (gRN K) := by
  unfold propB at h
  rw [Bool.and_eq_true, Bool.and_eq_true, Bool.and_eq_true] at h
  obtain ⟨h1, h2, h3, h4⟩ := h
  refine ⟨He.eqO_ok h1, He.eqO_ok h2, of_decide_eq_true h3, ?_⟩
  unfold gRN
  split at h4
  · rename_i a r e
    rw [e]
    exact ⟨r, rfl⟩
  · cases h4
def moreB (K : PySem.W.Frag) : Bool := He.valsB K (He.ga K "PARTS") pvals && (propB K && okHere K (gRN K) "Charter.rule_names")
abbrev AlW : Type := He.AlT × (Bool × He.FnW)
def seenW (K : PySem.W.Frag) : AlW := (He.obsT faT fnT tsT K, (moreB K, fnHere K (gRN K)))
def wantW (w : World) : AlW := (He.valT fnT tsT w, (true, dRN.val))
def isPr : Value → Bool
  | .type t => t == "property"
  | _ => false
def kin (ob : Obj) : List Addr := match ob.data with
  | .dict es _ => es.toList.flatMap fun e => He.refV e.val
  | .func z => He.refV z.code
  | .cls cd => [cd.ns]
  | .fields vs => if isPr ob.cls then vs.toList.flatMap He.refV else []
  | _ => []
def kinL (g : Addr → Option Obj) (l : List Addr) : List Addr := l.flatMap fun a => match g a with
  | some ob => kin ob
  | none => []
/-- a layer at a time: the globals, what they hold, what that holds .. -/
def layers (g : Addr → Option Obj) : Nat → List Addr → List Addr
  | 0, l => l
  | n + 1, l => l ++ layers g n (kinL g l)
def lookW (g : Addr → Option Obj) : AlW := seenW (He.frG g (layers g 5 [mainGlobals]))
def hkW : PySem.W.Hook where
  α := AlW
  obs := fun s => lookW s.heap.get?
  val := wantW
  says := fun w h => ∃ K : PySem.W.Frag, K.In h ∧ seenW K = wantW w
  of := fun _ _ e => ⟨_, He.frG_in, e⟩
  keeps := fun _ _ _ ⟨K, hK, c⟩ k => ⟨K, PySem.W.Frag.In.keeps hK k, c⟩
def obW (s : PySem.W.SharedT) : AlW := lookW (HandSHeadRun.getT s)
theorem obW_eq (s : PySem.W.SharedT) : obW s = hkW.obs s.abs := by
  have e : HandSHeadRun.getT s = s.abs.heap.get? := funext fun a => HandSHeadRun.getT_eq s a
  unfold obW
  rw [e]
  rfl
theorem runW (w : World) : HandSHeadRun.RunEq R (PySem.W.view R.prog [54]) hkW obW 8000 loose w := by
  refine PySem.W.byRow2 "special-get-raises" (P := fun w => HandSHeadRun.RunEq R (PySem.W.view R.prog [54]) hkW obW 8000 loose w) ?_ ?_ w
  · intro w os
    kernel_rfl
  · intro w os
    kernel_rfl
theorem txt_of {w : World} {K : PySem.W.Frag} {h : Heap} {mg : Str → Option Value} (X : K.In h) (G : h.Ns mainGlobals mg) (e : seenW K = wantW w) : Txt w K mg := by
  have ct : He.SaysT faT fnT tsT w K := congrArg (fun z : AlW => z.1) e
  have e2 : (moreB K, fnHere K (gRN K)) = (true, dRN.val) := congrArg (fun z : AlW => z.2) e
  have c := ct.d
  have hm : moreB K = true := congrArg Prod.fst e2
  have hf : fnHere K (gRN K) = dRN.val := congrArg Prod.snd e2
  unfold moreB at hm
  rw [Bool.and_eq_true, Bool.and_eq_true] at hm
  obtain ⟨hv, hp, ho⟩ := hm
  have hpr := propB_ok hp
  have hrn : ∃ fd, FunD K "rule_names" "Charter.rule_names" (defArgs s_Charter_rule_names) (defBody s_Charter_rule_names) (defScope s_Charter_rule_names) [] [] (gRN K) fd := fn_here (d := dRN) hf ho
  exact {
  f_len := He.free_ok X G (c.fact 0 (f := .free "len") rfl)
  f_all := He.free_ok X G (c.fact 1 (f := .free "all") rfl)
  f_any := He.free_ok X G (c.fact 2 (f := .free "any") rfl)
  f_abs := He.free_ok X G (c.fact 3 (f := .free "abs") rfl)
  f_max := He.free_ok X G (c.fact 4 (f := .free "max") rfl)
  f_min := He.free_ok X G (c.fact 5 (f := .free "min") rfl)
  f_tuple := He.free_ok X G (c.fact 6 (f := .free "tuple") rfl)
  f_list := He.free_ok X G (c.fact 7 (f := .free "list") rfl)
  f_int := He.free_ok X G (c.fact 8 (f := .free "int") rfl)
  f_str := He.free_ok X G (c.fact 9 (f := .free "str") rfl)
  f_dict := He.free_ok X G (c.fact 10 (f := .free "dict") rfl)
  f_set := He.free_ok X G (c.fact 11 (f := .free "set") rfl)
  f_range := He.free_ok X G (c.fact 12 (f := .free "range") rfl)
  f_enumerate := He.free_ok X G (c.fact 13 (f := .free "enumerate") rfl)
  g_NAME_CHARS := (let ⟨t, e⟩ := He.str_ok X G (c.fact 14 (f := .str "NAME_CHARS" "abcdefghijklmnopqrstuvwxyz0123456789") rfl); ⟨_, e, t, rfl⟩)
  g_MOST_NAME_CHARS := (let ⟨t, e⟩ := He.int_ok X G (c.fact 15 (f := .int "MOST_NAME_CHARS" 12) rfl); ⟨_, e, t, rfl⟩)
  g_MOST_RIGHTS := (let ⟨t, e⟩ := He.int_ok X G (c.fact 16 (f := .int "MOST_RIGHTS" 6) rfl); ⟨_, e, t, rfl⟩)
  g_MOST_FOUNDERS := (let ⟨t, e⟩ := He.int_ok X G (c.fact 17 (f := .int "MOST_FOUNDERS" 5) rfl); ⟨_, e, t, rfl⟩)
  g_MOST_RULES := (let ⟨t, e⟩ := He.int_ok X G (c.fact 18 (f := .int "MOST_RULES" 12) rfl); ⟨_, e, t, rfl⟩)
  g_MOST_DEMANDS := (let ⟨t, e⟩ := He.int_ok X G (c.fact 19 (f := .int "MOST_DEMANDS" 3) rfl); ⟨_, e, t, rfl⟩)
  m_PARTS := He.glo_ok X G (c.fact 20 (f := .glo "PARTS") rfl)
  parts := ct.tab 0 (t := (fun K => He.ga K "PARTS", ["join", "claim", "drop", "give", "take", "pass"])) rfl
  pt_join := He.valsB_ok hv (q := ("join", .int 3)) (by simp [pvals])
  pt_claim := He.valsB_ok hv (q := ("claim", .int 5)) (by simp [pvals])
  pt_drop := He.valsB_ok hv (q := ("drop", .int 5)) (by simp [pvals])
  pt_give := He.valsB_ok hv (q := ("give", .int 6)) (by simp [pvals])
  pt_take := He.valsB_ok hv (q := ("take", .int 6)) (by simp [pvals])
  pt_pass := He.valsB_ok hv (q := ("pass", .int 6)) (by simp [pvals])
  cl_Charter := He.cls_ok (c.fact 21 (f := .cls "Charter") rfl)
  m_Charter := He.glo_ok X G (c.fact 22 (f := .glo "Charter") rfl)
  mk_Charter := He.mkr_ok (c.fact 23 (f := .mkr "Charter") rfl)
  na_Charter_rights := He.noat_ok (c.fact 24 (f := .noat "Charter" "rights") rfl)
  na_Charter_sole := He.noat_ok (c.fact 25 (f := .noat "Charter" "sole") rfl)
  na_Charter_founders := He.noat_ok (c.fact 26 (f := .noat "Charter" "founders") rfl)
  na_Charter_rules := He.noat_ok (c.fact 27 (f := .noat "Charter" "rules") rfl)
  cl_Organisation := He.cls_ok (c.fact 28 (f := .cls "Organisation") rfl)
  m_Organisation := He.glo_ok X G (c.fact 29 (f := .glo "Organisation") rfl)
  mk_Organisation := He.mkr_ok (c.fact 30 (f := .mkr "Organisation") rfl)
  na_Organisation_charter := He.noat_ok (c.fact 31 (f := .noat "Organisation" "charter") rfl)
  na_Organisation_trusted := He.noat_ok (c.fact 32 (f := .noat "Organisation" "trusted") rfl)
  na_Organisation_count := He.noat_ok (c.fact 33 (f := .noat "Organisation" "count") rfl)
  na_Organisation__held := He.noat_ok (c.fact 34 (f := .noat "Organisation" "_held") rfl)
  cl_History := He.cls_ok (c.fact 35 (f := .cls "History") rfl)
  m_History := He.glo_ok X G (c.fact 36 (f := .glo "History") rfl)
  mk_History := He.mkr_ok (c.fact 37 (f := .mkr "History") rfl)
  na_History_charter := He.noat_ok (c.fact 38 (f := .noat "History" "charter") rfl)
  na_History_actions := He.noat_ok (c.fact 39 (f := .noat "History" "actions") rfl)
  na_History__moments := He.noat_ok (c.fact 40 (f := .noat "History" "_moments") rfl)
  m_InvalidAction := He.glo_ok X G (c.fact 41 (f := .glo "InvalidAction") rfl)
  pr_rule_names := hpr
  d_is_name := c.def_ 0 (d := d0) rfl
  m_is_name := He.glo_ok X G (c.fact 42 (f := .glo "is_name") rfl)
  d_are_different := c.def_ 1 (d := d1) rfl
  m_are_different := He.glo_ok X G (c.fact 43 (f := .glo "are_different") rfl)
  d_are_apart := c.def_ 2 (d := d2) rfl
  m_are_apart := He.glo_ok X G (c.fact 44 (f := .glo "are_apart") rfl)
  d_require := c.def_ 3 (d := d3) rfl
  m_require := He.glo_ok X G (c.fact 45 (f := .glo "require") rfl)
  d_right_lists := c.def_ 4 (d := d4) rfl
  m_right_lists := He.glo_ok X G (c.fact 46 (f := .glo "right_lists") rfl)
  d_Charter_init := c.def_ 5 (d := d5) rfl
  d_Charter_some := c.def_ 6 (d := d6) rfl
  mt_Charter_some := He.meth_ok (c.fact 47 (f := .meth "Charter" "some") rfl)
  d_Charter_check_founders := c.def_ 7 (d := d7) rfl
  mt_Charter_check_founders := He.meth_ok (c.fact 48 (f := .meth "Charter" "check_founders") rfl)
  d_Charter_checked := c.def_ 8 (d := d8) rfl
  mt_Charter_checked := He.meth_ok (c.fact 49 (f := .meth "Charter" "checked") rfl)
  d_Charter_rule_names := hrn
  d_Charter_rule := c.def_ 9 (d := d9) rfl
  mt_Charter_rule := He.meth_ok (c.fact 50 (f := .meth "Charter" "rule") rfl)
  d_Charter_founder := c.def_ 10 (d := d10) rfl
  mt_Charter_founder := He.meth_ok (c.fact 51 (f := .meth "Charter" "founder") rfl)
  d_Charter_ordered := c.def_ 11 (d := d11) rfl
  mt_Charter_ordered := He.meth_ok (c.fact 52 (f := .meth "Charter" "ordered") rfl)
  d_check_trusted := c.def_ 12 (d := d12) rfl
  m_check_trusted := He.glo_ok X G (c.fact 53 (f := .glo "check_trusted") rfl)
  d_check_goal := c.def_ 13 (d := d13) rfl
  m_check_goal := He.glo_ok X G (c.fact 54 (f := .glo "check_goal") rfl)
  d_fits := c.def_ 14 (d := d14) rfl
  m_fits := He.glo_ok X G (c.fact 55 (f := .glo "fits") rfl)
  d_Organisation_init := c.def_ 15 (d := d15) rfl
  d_Organisation_holds := c.def_ 16 (d := d16) rfl
  mt_Organisation_holds := He.meth_ok (c.fact 56 (f := .meth "Organisation" "holds") rfl)
  d_Organisation_copy := c.def_ 17 (d := d17) rfl
  mt_Organisation_copy := He.meth_ok (c.fact 57 (f := .meth "Organisation" "copy") rfl)
  d_Organisation_may_act := c.def_ 18 (d := d18) rfl
  mt_Organisation_may_act := He.meth_ok (c.fact 58 (f := .meth "Organisation" "may_act") rfl)
  d_Organisation_can_do := c.def_ 19 (d := d19) rfl
  mt_Organisation_can_do := He.meth_ok (c.fact 59 (f := .meth "Organisation" "can_do") rfl)
  d_Organisation_can_alone := c.def_ 20 (d := d20) rfl
  mt_Organisation_can_alone := He.meth_ok (c.fact 60 (f := .meth "Organisation" "can_alone") rfl)
  d_Organisation_can_with := c.def_ 21 (d := d21) rfl
  mt_Organisation_can_with := He.meth_ok (c.fact 61 (f := .meth "Organisation" "can_with") rfl)
  d_Organisation_put := c.def_ 22 (d := d22) rfl
  mt_Organisation_put := He.meth_ok (c.fact 62 (f := .meth "Organisation" "put") rfl)
  d_Organisation_cut := c.def_ 23 (d := d23) rfl
  mt_Organisation_cut := He.meth_ok (c.fact 63 (f := .meth "Organisation" "cut") rfl)
  d_Organisation_do := c.def_ 24 (d := d24) rfl
  mt_Organisation_do := He.meth_ok (c.fact 64 (f := .meth "Organisation" "do") rfl)
  d_Organisation_stands_for := c.def_ 25 (d := d25) rfl
  mt_Organisation_stands_for := He.meth_ok (c.fact 65 (f := .meth "Organisation" "stands_for") rfl)
  d_Organisation_meets := c.def_ 26 (d := d26) rfl
  mt_Organisation_meets := He.meth_ok (c.fact 66 (f := .meth "Organisation" "meets") rfl)
  d_can_choose := c.def_ 27 (d := d27) rfl
  m_can_choose := He.glo_ok X G (c.fact 67 (f := .glo "can_choose") rfl)
  d_History_init := c.def_ 28 (d := d28) rfl
  d_History_at := c.def_ 29 (d := d29) rfl
  mt_History_at := He.meth_ok (c.fact 68 (f := .meth "History" "at") rfl)
  d_History_first_moment := c.def_ 30 (d := d30) rfl
  mt_History_first_moment := He.meth_ok (c.fact 69 (f := .meth "History" "first_moment") rfl)
  d_l_row := c.def_ 31 (d := d31) rfl
  m_l_row := He.glo_ok X G (c.fact 70 (f := .glo "_law_row") rfl)
  d_l_numbers := c.def_ 32 (d := d32) rfl
  m_l_numbers := He.glo_ok X G (c.fact 71 (f := .glo "_law_numbers") rfl)
  d_l_names := c.def_ 33 (d := d33) rfl
  m_l_names := He.glo_ok X G (c.fact 72 (f := .glo "_law_names") rfl)
  d_l_some := c.def_ 34 (d := d34) rfl
  m_l_some := He.glo_ok X G (c.fact 73 (f := .glo "_law_some") rfl)
  d_l_asked := c.def_ 35 (d := d35) rfl
  m_l_asked := He.glo_ok X G (c.fact 74 (f := .glo "_law_asked") rfl)
  d_l_rule := c.def_ 36 (d := d36) rfl
  m_l_rule := He.glo_ok X G (c.fact 75 (f := .glo "_law_rule") rfl)
  d_l_parts := c.def_ 37 (d := d37) rfl
  m_l_parts := He.glo_ok X G (c.fact 76 (f := .glo "_law_parts") rfl)
  d_l_goal := c.def_ 38 (d := d38) rfl
  m_l_goal := He.glo_ok X G (c.fact 77 (f := .glo "_law_goal") rfl)
  d_l_with := c.def_ 39 (d := d39) rfl
  m_l_with := He.glo_ok X G (c.fact 78 (f := .glo "_law_with") rfl)
  d_l_less := c.def_ 40 (d := d40) rfl
  m_l_less := He.glo_ok X G (c.fact 79 (f := .glo "_law_less") rfl)
  d_l_fits := c.def_ 41 (d := d41) rfl
  m_l_fits := He.glo_ok X G (c.fact 80 (f := .glo "_law_fits") rfl)
  d_l_allows := c.def_ 42 (d := d42) rfl
  m_l_allows := He.glo_ok X G (c.fact 81 (f := .glo "_law_allows") rfl)
  d_l_changed := c.def_ 43 (d := d43) rfl
  m_l_changed := He.glo_ok X G (c.fact 82 (f := .glo "_law_changed") rfl)
  d_l_acted := c.def_ 44 (d := d44) rfl
  m_l_acted := He.glo_ok X G (c.fact 83 (f := .glo "_law_acted") rfl)
  d_l_founded := c.def_ 45 (d := d45) rfl
  m_l_founded := He.glo_ok X G (c.fact 84 (f := .glo "_law_founded") rfl)
  d_l_meets := c.def_ 46 (d := d46) rfl
  m_l_meets := He.glo_ok X G (c.fact 85 (f := .glo "_law_meets") rfl)
  d_l_made := c.def_ 47 (d := d47) rfl
  m_l_made := He.glo_ok X G (c.fact 86 (f := .glo "_law_made") rfl)
  d_l_choices := c.def_ 48 (d := d48) rfl
  m_l_choices := He.glo_ok X G (c.fact 87 (f := .glo "_law_choices") rfl)
  d_l_fresh := c.def_ 49 (d := d49) rfl
  m_l_fresh := He.glo_ok X G (c.fact 88 (f := .glo "_law_fresh") rfl)
  d_l_drawn := c.def_ 50 (d := d50) rfl
  m_l_drawn := He.glo_ok X G (c.fact 89 (f := .glo "_law_drawn") rfl)
  d_l_trusted := c.def_ 51 (d := d51) rfl
  m_l_trusted := He.glo_ok X G (c.fact 90 (f := .glo "_law_trusted") rfl)
  d_l_many := c.def_ 52 (d := d52) rfl
  m_l_many := He.glo_ok X G (c.fact 91 (f := .glo "_law_many") rfl)
  d_l_larger := c.def_ 53 (d := d53) rfl
  m_l_larger := He.glo_ok X G (c.fact 92 (f := .glo "_law_larger") rfl)
  d_l_told := c.def_ 54 (d := d54) rfl
  m_l_told := He.glo_ok X G (c.fact 93 (f := .glo "_law_told") rfl)
  d_law := c.def_ 55 (d := d55) rfl
  m_law := He.glo_ok X G (c.fact 94 (f := .glo "law") rfl)
  }
end WM

/-! ## W1 -/
set_option maxHeartbeats 4000000
namespace WM
open PySem PySem.Spec PyProof.Rows L2
section
variable {P : Program} {w : World} {K : PySem.W.Frag} {mg : Str → Option Value} {base : Heap}
def fitsF (held needs lacks : SL) : Bool := needs.all (fun r => decide (r ∈ held)) && !lacks.any (fun r => decide (r ∈ held))
def R_fits : List Da → Da → Prop := fun ds d => ∃ held needs lacks : SL, ds = [strsT held, strsT needs, strsT lacks] ∧ needs.length ≤ 1000 ∧ lacks.length ≤ 1000 ∧ d = .bl (fitsF held needs lacks)
theorem ok_fits (T : Txt w K mg) : Cal P w K mg base "fits" (He.ga K "fits") 1 ["held", "needs", "lacks"] (spP K R_fits) := by
  obtain ⟨fd, F⟩ := T.d_fits
  refine ⟨⟨fd, fn_pure F sc_fits (fun ds d h => ?_) fun cdv A outer s H E hr => ⟨_, (pss_one (ps_ret (pe_and (pe_callB (cr_allK K rfl rfl) (by rfl) T.f_all (by decide +kernel) (pa_cons (pe_lc (own := [("right", 3)]) rfl sc_fits.nd (pi_seqK K rfl (pv 1)) (blkOk_by (own := [("right", 3)]) (N := ["held", "needs", "lacks", "right"]) (sc := defScope s_fits) (by decide +kernel)) (fun _ _ _ _ _ => (pg_name (i := 3) sc_fits.nd rfl (by first | exact Or.inl rfl | exact Or.inr rfl))) (fun _ _ _ _ _ => pts_nil) (fun _ _ _ _ _ => (pe_cmpR (op_inK K rfl) (pv 3) (pv 0) rfl))) pa_nil)) (pe_one (pe_not (pe_callB (cr_anyK K rfl rfl) (by rfl) T.f_any (by decide +kernel) (pa_cons (pe_lc (own := [("right", 3)]) rfl sc_fits.nd (pi_seqK K rfl (pv 2)) (blkOk_by (own := [("right", 3)]) (N := ["held", "needs", "lacks", "right"]) (sc := defScope s_fits) (by decide +kernel)) (fun _ _ _ _ _ => (pg_name (i := 3) sc_fits.nd rfl (by first | exact Or.inl rfl | exact Or.inr rfl))) (fun _ _ _ _ _ => pts_nil) (fun _ _ _ _ _ => (pe_cmpR (op_inK K rfl) (pv 3) (pv 0) rfl))) pa_nil))))))), fun ds d h => ?_⟩, F.bindsN fun _ _ _ _ _ _ us hl => match us, hl with | [_, _, _], _ => rfl⟩, T.m_fits, F.kp⟩
  · obtain ⟨_, _, _, rfl, _⟩ := h
    rfl
  · obtain ⟨held, needs, lacks, rfl, h1, h2, rfl⟩ := h
    refine wp_ret (ev_and (ev_cb (ea_cons (ev_lcA .str needs (it_seqT (ev_var rfl)) (by omega) (fun r => .bl (decide (r ∈ held))) (by simp) fun i r _ => ev_op (ev_var rfl) (ev_var rfl) rv_isT) ea_nil) rc_allM)
      fun _ => ev_not (ev_cb (ea_cons (ev_lcA .str lacks (it_seqT (ev_var rfl)) (by omega) (fun r => .bl (decide (r ∈ held))) (by simp) fun i r _ => ev_op (ev_var rfl) (ev_var rfl) rv_isT) ea_nil) rc_anyM)) rfl
/-! is_name, of names -/
def R_is_name : List Da → Da → Prop := fun ds d => ∃ s : Str, ds = [.str s] ∧ IsName s ∧ d = .bl true
theorem chars_is {s : Str} {c : Str} {i : Nat} (h : (chars s)[i]? = some c) : ∃ n, c = ⟨#[n]⟩ ∧ n ∈ s.cps.toList := by
  unfold chars at h
  rw [List.getElem?_map] at h
  cases e : s.cps.toList[i]? with
  | none => rw [e] at h; cases h
  | some n =>
    rw [e] at h
    exact ⟨n, (Option.some.inj h).symm, List.mem_of_getElem? e⟩
theorem chars_len {s : Str} : (chars s).length = s.length := by
  unfold chars
  rw [List.length_map]
  exact Array.length_toList
theorem ok_is_name (T : Txt w K mg) : Cal P w K mg base "is_name" (He.ga K "is_name") 1 ["text"] (spP K R_is_name) := by
  obtain ⟨fd, F⟩ := T.d_is_name
  refine ⟨⟨fd, fn_pure F sc_is_name (fun ds d h => ?_) fun cdv A outer s H E hr => ⟨_, (pss_cons (ps_if (PW.pt (pw_or (pt_not (pt_chain op_le op_le pe_int (pe_callB (call_lenK K rfl) (by rfl) T.f_len (by decide +kernel) (pa_cons (pv 0) pa_nil)) (pe_glob rfl T.g_MOST_NAME_CHARS.choose_spec.1 T.g_MOST_NAME_CHARS.choose_spec.2))) (pw_or1 (pt_cmpR op_inS (pe_ix (ix_K K rfl) (pv 0) pe_int (fun _ _ => rfl)) pe_str rfl)))) (pss_one (ps_ret pe_bl)) pss_nil) (pss_one (ps_ret (pe_callB (cr_allK K rfl rfl) (by rfl) T.f_all (by decide +kernel) (pa_cons (pe_lc (own := [("char", 1)]) rfl sc_is_name.nd (pi_seqK K rfl (pv 0)) (blkOk_by (own := [("char", 1)]) (N := ["text", "char"]) (sc := defScope s_is_name) (by decide +kernel)) (fun _ _ _ _ _ => (pg_name (i := 1) sc_is_name.nd rfl (by first | exact Or.inl rfl | exact Or.inr rfl))) (fun _ _ _ _ _ => pts_nil) (fun _ _ _ _ _ => (pe_cmpR op_inS (pv 1) (pe_glob rfl T.g_NAME_CHARS.choose_spec.1 T.g_NAME_CHARS.choose_spec.2) rfl))) pa_nil))))), fun ds d h => ?_⟩, F.bindsN fun _ _ _ _ _ _ us hl => match us, hl with | [_], _ => rfl⟩, T.m_is_name, F.kp⟩
  · obtain ⟨_, rfl, _⟩ := h
    rfl
  · obtain ⟨s, rfl, hs, rfl⟩ := h
    have l1 := hs.lo
    have l2 := hs.hi
    have hlen : s.cps.toList.length = s.length := by simp [Str.length]
    obtain ⟨c, hc⟩ : ∃ c, s.cps.toList[0]? = some c := ⟨s.cps.toList[0]'(by omega), List.getElem?_eq_getElem _⟩
    refine wp_seq (wp_if (b := false) (evt_is (et_or (et_not (et_test (ev_chain ev_int (ev_cb (ea_cons (ev_var rfl) ea_nil) (rc_lenS (by omega))) (rv_B0 (g := fun i j => decide (i ≤ j))) (fun _ => ev_int) fun _ => rv_B0 (g := fun i j => decide (i ≤ j)))))
      fun _ => et_test (ev_op (ev_op (ev_var rfl) ev_int (rv_ixS (i := 0) (c := c) (by omega) (atI_nat (j := 0) hc))) ev_str rv_inS)) ?_) (fun h => by cases h) fun _ => wp_next ?_)
    · have h1 : decide ((1 : Int) ≤ ((s.length : Nat) : Int)) = true := decide_eq_true (by omega)
      have h2 : decide (((s.length : Nat) : Int) ≤ 12) = true := decide_eq_true (by omega)
      rw [h1, h2]
      have h3 := hs.first c hc
      show (false || decide (c ∈ digits.cps.toList)) = false
      rw [decide_eq_false h3]; rfl
    · refine wp_ret (ev_is (ev_cb (ea_cons (ev_lcA .str (chars s) (it_seqS (ev_var rfl)) (by rw [chars_len]; omega) (fun _ => .bl true) (by simp) fun i c hi => ?_) ea_nil) (rc_allM (p := fun _ => true))) (by simp)) rfl
      obtain ⟨n, rfl, hn⟩ := chars_is hi
      have hm : decide (n ∈ nameChars.cps.toList) = true := decide_eq_true (hs.all n hn)
      exact ev_is (ev_op (ev_var rfl) ev_str rv_inS) (congrArg Da.bl hm)
/-! are_different, of different texts -/
def R_are_different : List Da → Da → Prop := fun ds d => ∃ ss : SL, (ds = [strsL ss] ∨ ds = [strsT ss]) ∧ ss.Nodup ∧ ss.length ≤ 1000 ∧ d = .bl true
theorem take_out {ss : SL} (nd : ss.Nodup) {i : Nat} {x : Str} (h : ss[i]? = some x) : x ∉ ss.take i := by
  intro hm
  obtain ⟨hi, e⟩ := List.getElem?_eq_some_iff.mp h
  obtain ⟨j, hj, ej⟩ := List.mem_iff_getElem.mp hm
  rw [List.getElem_take] at ej
  have hj2 : j < i := by rw [List.length_take] at hj; omega
  exact List.pairwise_iff_getElem.mp nd j i (by omega) hi hj2 (ej.trans e.symm)
theorem cut_take {α : Type} (l : List α) (i : Nat) (h : i ≤ l.length) : cutG l none (some (i : Int)) = l.take i := by
  unfold cutG
  rw [HT.sIx_none, HT.sIx_nat, List.drop_zero, Nat.sub_zero, Nat.min_eq_left h]
theorem ok_are_different (T : Txt w K mg) : Cal P w K mg base "are_different" (He.ga K "are_different") 1 ["words"] (spP K R_are_different) := by
  obtain ⟨fd, F⟩ := T.d_are_different
  refine ⟨⟨fd, fn_pure F sc_are_different (fun ds d h => ?_) fun cdv A outer s H E hr => ⟨_, (pss_cons (ps_for PassesOwn.never rfl (pi_enumK K rfl rfl T.f_enumerate (pa_cons (pv 0) pa_nil)) (pg_tupK K rfl rfl (pgs_cons (pg_name (i := 1) sc_are_different.nd rfl (by first | exact Or.inl rfl | exact Or.inr rfl)) (pgs_cons (pg_name (i := 2) sc_are_different.nd rfl (by first | exact Or.inl rfl | exact Or.inr rfl)) pgs_nil))) (pss_one (ps_if (pt_cmpR (op_inK K rfl) (pv 2) (pe_slice (sl_K K rfl) (pv 0) po_none (po_some (pv 1))) rfl) (pss_one (ps_ret pe_bl)) pss_nil))) (pss_one (ps_ret pe_bl))), fun ds d h => ?_⟩, F.bindsN fun _ _ _ _ _ _ us hl => match us, hl with | [_], _ => rfl⟩, T.m_are_different, F.kp⟩
  · obtain ⟨_, rfl | rfl, _⟩ := h <;> rfl
  · obtain ⟨ss, hd, nd, hl, rfl⟩ := h
    have hx : ∀ (x : Da), ds = [x] → ItD K (iEnumG K (tCons (tVar 0) tNil)) (args ["words", "number", "word"] ds) ((ss.map Da.str).zipIdx.map fun p => .tup [.int (p.2 : Int), p.1]) := fun x e => by
      rcases hd with rfl | rfl
      · exact it_enL (ea_cons (ev_var rfl) ea_nil)
      · exact it_enT (ea_cons (ev_var rfl) ea_nil)
    obtain ⟨x, rfl⟩ : ∃ x, ds = [x] := by rcases hd with rfl | rfl <;> exact ⟨_, rfl⟩
    refine wp_seq (wp_for (js := [1, 2]) (hx x rfl) (fun _ Γ => ∃ a b, Γ = [.dat x, a, b]) ⟨_, _, rfl⟩ (fun i y Γ hy hΓ => ?_) fun Γ hΓ => ?_)
    · obtain ⟨a, b, rfl⟩ := hΓ
      rw [List.getElem?_map] at hy
      obtain ⟨p, hp, rfl⟩ := Option.map_eq_some_iff.mp hy
      have hp2 : p.2 = i ∧ (ss.map Da.str)[i]? = some p.1 := by
        have := List.getElem?_zipIdx (l := ss.map Da.str) (i := 0) (j := i)
        rw [this] at hp
        obtain ⟨z, hz, rfl⟩ := Option.map_eq_some_iff.mp hp
        exact ⟨by simp, hz⟩
      obtain ⟨hp2, hp1⟩ := hp2
      obtain ⟨z, hz, e1⟩ := take_map hp1
      rw [hp2, e1]
      have out := take_out nd hz
      have le : i ≤ (ss.map Da.str).length := by
        have := (List.getElem?_eq_some_iff.mp hz).1
        rw [List.length_map]; omega
      refine tg_tup2 (wp_if (b := false) (et_test ?_) (fun h => by cases h) fun _ => wp_next ⟨_, _, rfl⟩)
      have hcut : cutG (ss.map Da.str) none (some (i : Int)) = (ss.take i).map Da.str := by rw [cut_take _ _ le, List.map_take]
      have hin : decide (z ∈ ss.take i) = false := decide_eq_false out
      rcases hd with e | e
      · have e2 : x = strsL ss := by injection e
        subst e2
        refine ev_is (ev_op (ev_var rfl) (ev_slL (ev_var rfl) ep_none (ep_some (ev_var rfl))) (hcut ▸ rv_isL)) (congrArg Da.bl hin)
      · have e2 : x = strsT ss := by injection e
        subst e2
        refine ev_is (ev_op (ev_var rfl) (ev_slT (ev_var rfl) ep_none (ep_some (ev_var rfl))) (hcut ▸ rv_isT)) (congrArg Da.bl hin)
    · exact wp_ret ev_bl rfl
def R_are_apart : List Da → Da → Prop := fun ds d => ∃ a b : SL, ds = [strsT a, strsT b] ∧ Apart a b ∧ a.length ≤ 1000 ∧ d = .bl true
theorem ok_are_apart (T : Txt w K mg) : Cal P w K mg base "are_apart" (He.ga K "are_apart") 1 ["one", "other"] (spP K R_are_apart) := by
  obtain ⟨fd, F⟩ := T.d_are_apart
  refine ⟨⟨fd, fn_pure F sc_are_apart (fun ds d h => ?_) fun cdv A outer s H E hr => ⟨_, (pss_one (ps_ret (pe_notTK K rfl (pe_lc (own := [("word", 2)]) rfl sc_are_apart.nd (pi_seqK K rfl (pv 0)) (blkOk_by (own := [("word", 2)]) (N := ["one", "other", "word"]) (sc := defScope s_are_apart) (by decide +kernel)) (fun _ _ _ _ _ => (pg_name (i := 2) sc_are_apart.nd rfl (by first | exact Or.inl rfl | exact Or.inr rfl))) (fun _ _ _ _ _ => (pts_one (pt_cmpR (op_inK K rfl) (pv 2) (pv 1) rfl))) (fun _ _ _ _ _ => (pv 2)))))), fun ds d h => ?_⟩, F.bindsN fun _ _ _ _ _ _ us hl => match us, hl with | [_, _], _ => rfl⟩, T.m_are_apart, F.kp⟩
  · obtain ⟨_, _, rfl, _⟩ := h
    rfl
  · obtain ⟨a, b, rfl, hab, hl, rfl⟩ := h
    refine wp_ret (ev_is (ev_notL (ev_lcM .str a (js := [2]) (it_seqT (ev_var rfl)) (by omega) (fun r => decide (r ∈ b)) .str (by simp) fun i r hr => tg_name ⟨et_test (ev_op (ev_var rfl) (ev_var rfl) rv_isT), fun _ => ev_var rfl⟩)) ?_) rfl
    have : a.filter (fun r => decide (r ∈ b)) = [] := List.filter_eq_nil_iff.mpr fun x hx => by simpa using hab x hx
    rw [this]; rfl
def R_require : List Da → Da → Prop := fun ds d => ds = [.bl true] ∧ d = .non
theorem ok_require (T : Txt w K mg) : Cal P w K mg base "require" (He.ga K "require") 1 ["holds"] (spP K R_require) := by
  obtain ⟨fd, F⟩ := T.d_require
  refine ⟨⟨fd, fn_pure F sc_require (fun ds d h => ?_) fun cdv A outer s H E hr => ⟨_, (pss_one (ps_if (pt_not (pt_val (pv 0))) (pss_one ps_never) pss_nil)), fun ds d h => ?_⟩, F.bindsN fun _ _ _ _ _ _ us hl => match us, hl with | [_], _ => rfl⟩, T.m_require, F.kp⟩
  · obtain ⟨rfl, _⟩ := h
    rfl
  · obtain ⟨rfl, rfl⟩ := h
    exact wp_if (b := false) (evt_is (et_not (et_B (ev_var rfl))) rfl) (fun h => by cases h) fun _ => wp_next rfl
def R_right_lists : List Da → Da → Prop := fun ds d => ∃ r : Rl, ds = [r.da] ∧ (∀ a b c d e, r = .solo a b c d e → a ≠ "join") ∧ (∀ a b c d e f, r = .duo a b c d e f → a ≠ "join") ∧ d = .lst (r.lists.map fun l => strsT l)
theorem ok_right_lists (T : Txt w K mg) : Cal P w K mg base "right_lists" (He.ga K "right_lists") 1 ["rule"] (spP K R_right_lists) := by
  obtain ⟨fd, F⟩ := T.d_right_lists
  refine ⟨⟨fd, fn_pure F sc_right_lists (fun ds d h => ?_) fun cdv A outer s H E hr => ⟨_, (pss_cons (ps_if (pt_cmpR op_eq (pe_ix (ix_K K rfl) (pv 0) pe_int (fun _ _ => rfl)) pe_str (nomark _)) (pss_one (ps_ret (pe_lst (pa_cons (pe_ix (ix_K K rfl) (pv 0) pe_int (fun _ _ => rfl)) pa_nil)))) pss_nil) (pss_one (ps_ret (pe_callTy (call_lstK K rfl) (by rfl) T.f_list (by decide +kernel) (pa_cons (pe_slice (sl_K K rfl) (pv 0) (po_some pe_int) (po_some (pe_un un_neg pe_int))) pa_nil))))), fun ds d h => ?_⟩, F.bindsN fun _ _ _ _ _ _ us hl => match us, hl with | [_], _ => rfl⟩, T.m_right_lists, F.kp⟩
  · obtain ⟨_, rfl, _⟩ := h
    rfl
  · obtain ⟨r, rfl, h1, h2, rfl⟩ := h
    cases r with
    | join n rs =>
      refine wp_seq (wp_if (b := true) (evt_is (et_test (ev_op (ev_op (ev_var rfl) ev_int (rv_ixT at0)) ev_str rv_eqS)) (by rfl)) (fun _ => ?_) fun h => by cases h)
      exact wp_ret (ev_lst (ea_cons (ev_op (ev_var rfl) ev_int (rv_ixT at2)) ea_nil) (by simp)) rfl
    | solo k n a b r =>
      have hk := h1 _ _ _ _ _ rfl
      refine wp_seq (wp_if (b := false) (evt_is (et_test (ev_op (ev_op (ev_var rfl) ev_int (rv_ixT at0)) ev_str rv_eqS)) (decide_eq_false hk)) (fun h => by cases h) fun _ => wp_next ?_)
      exact wp_ret (eo_lstT (ea_cons (ev_slT (ev_var rfl) (ep_some ev_int) (ep_some (ev_un ev_int))) ea_nil)).ev rfl
    | duo k n a b c r =>
      have hk := h2 _ _ _ _ _ _ rfl
      refine wp_seq (wp_if (b := false) (evt_is (et_test (ev_op (ev_op (ev_var rfl) ev_int (rv_ixT at0)) ev_str rv_eqS)) (decide_eq_false hk)) (fun h => by cases h) fun _ => wp_next ?_)
      exact wp_ret (eo_lstT (ea_cons (ev_slT (ev_var rfl) (ep_some ev_int) (ep_some (ev_un ev_int))) ea_nil)).ev rfl
end
end WM

/-! ## W2 -/
set_option maxHeartbeats 4000000
namespace WM
open PySem PySem.Spec PyProof.Rows L2
section
variable {P : Program} {w : World} {K : PySem.W.Frag} {mg : Str → Option Value} {base : Heap}
abbrev CC (K : PySem.W.Frag) : Addr := He.ga K "Charter"
/-! Charter.some -/
def R_some (K : PySem.W.Frag) : List Da → Da → Prop := fun ds d => ∃ (fs : List (Str × Da)) (rights l : SL), (ds = [.ins (CC K) fs, strsL l] ∨ ds = [.ins (CC K) fs, strsT l]) ∧ fs.lookup ("rights" : Str) = some (strsT rights) ∧ Ord rights l ∧ rights.length ≤ 6 ∧ l.length ≤ 6 ∧ d = strsT l
abbrev aM (K : PySem.W.Frag) (C m : Str) : Addr := He.ma K (He.ga K C) m
theorem ok_some (T : Txt w K mg) (G_are_different : Cal P w K mg base "are_different" (He.ga K "are_different") 1 ["words"] (spP K R_are_different)) (G_require : Cal P w K mg base "require" (He.ga K "require") 1 ["holds"] (spP K R_require)) :
    CalM P w K mg base (CC K) "some" (aM K "Charter" "some") 2 ["self", "words"] (spP K (R_some K)) := by
  obtain ⟨fd, F⟩ := T.d_Charter_some
  obtain ⟨fd1, F_are_different, b_are_different⟩ := G_are_different.ex
  obtain ⟨fd2, F_require, b_require⟩ := G_require.ex
  refine ⟨⟨fd, fn_pure F sc_Charter_some (fun ds d h => ?_) fun cdv A outer s H E hr => ⟨_, (pss_cons (ps_expr (pe_call F_require (hr.mono (by decide)) rfl G_require.m G_require.kp b_require .nil pass0 (pa_cons (pe_and (pe_call F_are_different (hr.mono (by decide)) rfl G_are_different.m G_are_different.kp b_are_different .nil pass0 (pa_cons (pv 1) pa_nil)) (pe_one (pe_callB (cr_allK K rfl rfl) (by rfl) T.f_all (by decide +kernel) (pa_cons (pe_lc (own := [("word", 2)]) rfl sc_Charter_some.nd (pi_seqK K rfl (pv 1)) (blkOk_by (own := [("word", 2)]) (N := ["self", "words", "word", "right"]) (sc := defScope s_Charter_some) (by decide +kernel)) (fun _ _ _ _ _ => (pg_name (i := 2) sc_Charter_some.nd rfl (by first | exact Or.inl rfl | exact Or.inr rfl))) (fun _ _ _ _ _ => pts_nil) (fun _ _ _ _ _ => (pe_cmpR (op_inK K rfl) (pv 2) (pe_fldK K rfl (pv 0) rfl) rfl))) pa_nil)))) pa_nil))) (pss_one (ps_ret (pe_callTy (call_tupK K rfl) (by rfl) T.f_tuple (by decide +kernel) (pa_cons (pe_lc (own := [("right", 3)]) rfl sc_Charter_some.nd (pi_seqK K rfl (pe_fldK K rfl (pv 0) rfl)) (blkOk_by (own := [("right", 3)]) (N := ["self", "words", "word", "right"]) (sc := defScope s_Charter_some) (by decide +kernel)) (fun _ _ _ _ _ => (pg_name (i := 3) sc_Charter_some.nd rfl (by first | exact Or.inl rfl | exact Or.inr rfl))) (fun _ _ _ _ _ => (pts_one (pt_cmpR (op_inK K rfl) (pv 3) (pv 1) rfl))) (fun _ _ _ _ _ => (pv 3))) pa_nil))))), fun ds d h => ?_⟩, F.bindsN fun _ _ _ _ _ _ us hl => match us, hl with | [_, _], _ => rfl⟩, T.cl_Charter, T.mt_Charter_some⟩
  · obtain ⟨_, _, _, rfl | rfl, _⟩ := h <;> rfl
  · obtain ⟨fs, rights, l, hd, hr1, ho, h6, hl6, rfl⟩ := h
    have hall : l.all (fun r => decide (r ∈ rights)) = true := List.all_eq_true.mpr fun r hr => decide_eq_true (ho.2.2 r hr)
    have self : ∀ (Γ : List Sl), Γ[0]? = some (.dat (.ins (CC K) fs)) → Ev K (tFld K (tVar 0) "rights") Γ (strsT rights) := fun Γ e => ev_fld (ev_var e) T.cl_Charter T.na_Charter_rights hr1
    rcases hd with rfl | rfl
    · refine wp_seq (wp_drop (ev_call (ea_cons (ev_is (ev_and (ev_call (ea_cons (ev_var rfl) ea_nil) ⟨l, .inl rfl, ho.2.1, by omega, rfl⟩)
        fun _ => ev_cb (ea_cons (ev_lcA .str l (it_seqL (ev_var rfl)) (by omega) (fun r => .bl (decide (r ∈ rights))) (by simp) fun i r _ => ev_op (ev_var rfl) (self _ rfl) rv_isT) ea_nil) rc_allM) (by rw [hall]; rfl)) ea_nil) ⟨rfl, rfl⟩) ?_)
      exact wp_ret (ev_is (ev_cb (ea_cons (ev_lcM .str rights (js := [3]) (it_seqT (self _ rfl)) (by omega) (fun r => decide (r ∈ l)) .str (by simp) fun i r _ => tg_name ⟨et_test (ev_op (ev_var rfl) (ev_var rfl) rv_isL), fun _ => ev_var rfl⟩) ea_nil) rc_tupL) (by rw [ho.1])) rfl
    · refine wp_seq (wp_drop (ev_call (ea_cons (ev_is (ev_and (ev_call (ea_cons (ev_var rfl) ea_nil) ⟨l, .inr rfl, ho.2.1, by omega, rfl⟩)
        fun _ => ev_cb (ea_cons (ev_lcA .str l (it_seqT (ev_var rfl)) (by omega) (fun r => .bl (decide (r ∈ rights))) (by simp) fun i r _ => ev_op (ev_var rfl) (self _ rfl) rv_isT) ea_nil) rc_allM) (by rw [hall]; rfl)) ea_nil) ⟨rfl, rfl⟩) ?_)
      exact wp_ret (ev_is (ev_cb (ea_cons (ev_lcM .str rights (js := [3]) (it_seqT (self _ rfl)) (by omega) (fun r => decide (r ∈ l)) .str (by simp) fun i r _ => tg_name ⟨et_test (ev_op (ev_var rfl) (ev_var rfl) rv_isT), fun _ => ev_var rfl⟩) ea_nil) rc_tupL) (by rw [ho.1])) rfl
/-! Charter.ordered -/
def R_ordered (K : PySem.W.Frag) : List Da → Da → Prop := fun ds d => ∃ (fs : List (Str × Da)) (rights l : SL), (ds = [.ins (CC K) fs, strsL l] ∨ ds = [.ins (CC K) fs, strsT l]) ∧ fs.lookup ("rights" : Str) = some (strsT rights) ∧ (∀ r ∈ l, r ∈ rights) ∧ rights.length ≤ 6 ∧ d = strsT (rights.filter fun r => decide (r ∈ l))
theorem ok_ordered (T : Txt w K mg) : CalM P w K mg base (CC K) "ordered" (aM K "Charter" "ordered") 1 ["self", "words"] (spP K (R_ordered K)) := by
  obtain ⟨fd, F⟩ := T.d_Charter_ordered
  refine ⟨⟨fd, fn_pure F sc_Charter_ordered (fun ds d h => ?_) fun cdv A outer s H E hr => ⟨_, (pss_cons (ps_for PassesOwn.never rfl (pi_seqK K rfl (pv 1)) (pg_name (i := 2) sc_Charter_ordered.nd rfl (by first | exact Or.inl rfl | exact Or.inr rfl)) (pss_one (ps_if (pt_cmpR (op_niK K rfl) (pv 2) (pe_fldK K rfl (pv 0) rfl) rfl) (pss_one ps_never) pss_nil))) (pss_one (ps_ret (pe_callTy (call_tupK K rfl) (by rfl) T.f_tuple (by decide +kernel) (pa_cons (pe_lc (own := [("right", 3)]) rfl sc_Charter_ordered.nd (pi_seqK K rfl (pe_fldK K rfl (pv 0) rfl)) (blkOk_by (own := [("right", 3)]) (N := ["self", "words", "word", "right"]) (sc := defScope s_Charter_ordered) (by decide +kernel)) (fun _ _ _ _ _ => (pg_name (i := 3) sc_Charter_ordered.nd rfl (by first | exact Or.inl rfl | exact Or.inr rfl))) (fun _ _ _ _ _ => (pts_one (pt_cmpR (op_inK K rfl) (pv 3) (pv 1) rfl))) (fun _ _ _ _ _ => (pv 3))) pa_nil))))), fun ds d h => ?_⟩, F.bindsN fun _ _ _ _ _ _ us hl => match us, hl with | [_, _], _ => rfl⟩, T.cl_Charter, T.mt_Charter_ordered⟩
  · obtain ⟨_, _, _, rfl | rfl, _⟩ := h <;> rfl
  · obtain ⟨fs, rights, l, hd, hr1, ho, h6, rfl⟩ := h
    have self : ∀ (Γ : List Sl), Γ[0]? = some (.dat (.ins (CC K) fs)) → Ev K (tFld K (tVar 0) "rights") Γ (strsT rights) := fun Γ e => ev_fld (ev_var e) T.cl_Charter T.na_Charter_rights hr1
    obtain ⟨x, rfl, hx⟩ : ∃ x, ds = [.ins (CC K) fs, x] ∧ (x = strsL l ∨ x = strsT l) := by rcases hd with rfl | rfl <;> exact ⟨_, rfl, by simp⟩
    have it : ItD K (iSeq K (tVar 1)) (args ["self", "words", "word", "right"] [.ins (CC K) fs, x]) (l.map .str) := by
      rcases hx with rfl | rfl
      · exact it_seqL (ev_var rfl)
      · exact it_seqT (ev_var rfl)
    refine wp_seq (wp_for (js := [2]) it (fun _ Γ => ∃ a, Γ = [.dat (.ins (CC K) fs), .dat x, a, .un]) ⟨_, rfl⟩ (fun i y Γ hy hΓ => ?_) fun Γ hΓ => ?_)
    · obtain ⟨a, rfl⟩ := hΓ
      obtain ⟨z, hz, rfl⟩ := take_map hy
      have hm : (!decide (z ∈ rights)) = false := by rw [decide_eq_true (ho z (List.mem_of_getElem? hz))]; rfl
      exact tg_name (wp_if (b := false) (evt_is (et_test (ev_op (ev_var rfl) (self _ rfl) rv_noT)) hm) (fun h => by cases h) fun _ => wp_next ⟨_, rfl⟩)
    · obtain ⟨a, rfl⟩ := hΓ
      rcases hx with rfl | rfl
      · exact wp_ret (ev_cb (ea_cons (ev_lcM .str rights (js := [3]) (it_seqT (self _ rfl)) (by omega) (fun r => decide (r ∈ l)) .str (by simp) fun i r _ => tg_name ⟨et_test (ev_op (ev_var rfl) (ev_var rfl) rv_isL), fun _ => ev_var rfl⟩) ea_nil) rc_tupL) rfl
      · exact wp_ret (ev_cb (ea_cons (ev_lcM .str rights (js := [3]) (it_seqT (self _ rfl)) (by omega) (fun r => decide (r ∈ l)) .str (by simp) fun i r _ => tg_name ⟨et_test (ev_op (ev_var rfl) (ev_var rfl) rv_isT), fun _ => ev_var rfl⟩) ea_nil) rc_tupL) rfl
/-! Charter.rule, Charter.founder, the property rule_names -/
theorem find_next {α : Type} {p : α → Bool} {l : List α} {u a : α} {i : Nat} (h : l.find? p = some u) (hn : ∀ j b, j < i → l[j]? = some b → p b = false) (hi : l[i]? = some a) (ha : p a = true) : a = u := by
  induction l generalizing i with
  | nil => cases h
  | cons x l ih =>
    rw [List.find?_cons] at h
    cases i with
    | zero =>
      have e : x = a := Option.some.inj hi
      subst e
      rw [ha] at h
      exact Option.some.inj h
    | succ i =>
      have hx : p x = false := hn 0 x (Nat.succ_pos _) rfl
      rw [hx] at h
      exact ih h (fun j b hj hb => hn (j + 1) b (Nat.succ_lt_succ hj) hb) hi
def R_rule (K : PySem.W.Frag) : List Da → Da → Prop := fun ds d => ∃ (fs : List (Str × Da)) (rules : List Rl) (n : Str) (u : Rl), ds = [.ins (CC K) fs, .str n] ∧ fs.lookup ("rules" : Str) = some (Da.tup (rules.map Rl.da)) ∧ rules.find? (fun v => decide (v.name = n)) = some u ∧ d = u.da
theorem rl_name {Γ : List Sl} {i : Nat} {u : Rl} (h : Γ[i]? = some (.dat u.da)) : Ev K (tOp (rIx K) (tVar i) (tC (.int 1))) Γ (.str u.name) := by
  cases u with
  | join n rs => exact ev_op (ev_var h) ev_int (rv_ixT at1)
  | solo k n a b r => exact ev_op (ev_var h) ev_int (rv_ixT at1)
  | duo k n a b c r => exact ev_op (ev_var h) ev_int (rv_ixT at1)
theorem rl_kind {Γ : List Sl} {i : Nat} {u : Rl} (h : Γ[i]? = some (.dat u.da)) : Ev K (tOp (rIx K) (tVar i) (tC (.int 0))) Γ (.str u.kind) := by
  cases u with
  | join n rs => exact ev_op (ev_var h) ev_int (rv_ixT at0)
  | solo k n a b r => exact ev_op (ev_var h) ev_int (rv_ixT at0)
  | duo k n a b c r => exact ev_op (ev_var h) ev_int (rv_ixT at0)
theorem ok_rule (T : Txt w K mg) : CalM P w K mg base (CC K) "rule" (aM K "Charter" "rule") 1 ["self", "name"] (spP K (R_rule K)) := by
  obtain ⟨fd, F⟩ := T.d_Charter_rule
  refine ⟨⟨fd, fn_pure F sc_Charter_rule (fun ds d h => ?_) fun cdv A outer s H E hr => ⟨_, (pss_cons (ps_for PassesOwn.never rfl (pi_seqK K rfl (pe_fldK K rfl (pv 0) rfl)) (pg_name (i := 2) sc_Charter_rule.nd rfl (by first | exact Or.inl rfl | exact Or.inr rfl)) (pss_one (ps_if (pt_cmpR op_eq (pe_ix (ix_K K rfl) (pv 2) pe_int (fun _ _ => rfl)) (pv 1) (nomark _)) (pss_one (ps_ret (pv 2))) pss_nil))) (pss_one ps_never)), fun ds d h => ?_⟩, F.bindsN fun _ _ _ _ _ _ us hl => match us, hl with | [_, _], _ => rfl⟩, T.cl_Charter, T.mt_Charter_rule⟩
  · obtain ⟨_, _, _, _, rfl, _⟩ := h
    rfl
  · obtain ⟨fs, rules, n, u, rfl, hr1, hf, rfl⟩ := h
    refine wp_seq (wp_for (js := [2]) (xs := rules.map Rl.da) (it_seqT (ev_fld (ev_var rfl) T.cl_Charter T.na_Charter_rules hr1)) (fun i Γ => (∀ j b, j < i → rules[j]? = some b → decide (b.name = n) = false) ∧ ∃ a, Γ = [.dat (.ins (CC K) fs), .dat (.str n), a]) ⟨fun _ _ h => by omega, _, rfl⟩ (fun i y Γ hy hΓ => ?_) fun Γ hΓ => ?_)
    · obtain ⟨hn, a, rfl⟩ := hΓ
      obtain ⟨z, hz, rfl⟩ := take_map hy
      refine tg_name (wp_if (et_test (ev_op (rl_name rfl) (ev_var rfl) rv_eqS)) (fun hb => ?_) fun hb => wp_next ⟨fun j b hj hb2 => ?_, _, rfl⟩)
      · rw [find_next hf hn hz hb]
        exact wp_ret (ev_var rfl) rfl
      · by_cases c : j < i
        · exact hn j b c hb2
        · have e : j = i := by omega
          subst e
          rw [hz] at hb2
          rw [← Option.some.inj hb2]
          exact hb
    · obtain ⟨hn, a, rfl⟩ := hΓ
      refine wp_never ?_
      have hm := List.mem_of_find?_eq_some hf
      have hp := List.find?_some hf
      obtain ⟨j, hj, ej⟩ := List.mem_iff_getElem.mp hm
      have := hn j u (by rw [List.length_map]; exact hj) (by rw [List.getElem?_eq_getElem hj, ej])
      rw [this] at hp
      cases hp
def R_founder (K : PySem.W.Frag) : List Da → Da → Prop := fun ds d => ∃ (fs : List (Str × Da)) (fo : List (Str × SL)) (n : Str) (u : Str × SL), ds = [.ins (CC K) fs, .str n] ∧ fs.lookup ("founders" : Str) = some (Da.tup (fo.map fD)) ∧ fo.find? (fun v => decide (v.1 = n)) = some u ∧ d = strsT u.2
theorem ok_founder (T : Txt w K mg) : CalM P w K mg base (CC K) "founder" (aM K "Charter" "founder") 1 ["self", "person"] (spP K (R_founder K)) := by
  obtain ⟨fd, F⟩ := T.d_Charter_founder
  refine ⟨⟨fd, fn_pure F sc_Charter_founder (fun ds d h => ?_) fun cdv A outer s H E hr => ⟨_, (pss_cons (ps_for PassesOwn.never rfl (pi_seqK K rfl (pe_fldK K rfl (pv 0) rfl)) (pg_tupK K rfl rfl (pgs_cons (pg_name (i := 2) sc_Charter_founder.nd rfl (by first | exact Or.inl rfl | exact Or.inr rfl)) (pgs_cons (pg_name (i := 3) sc_Charter_founder.nd rfl (by first | exact Or.inl rfl | exact Or.inr rfl)) pgs_nil))) (pss_one (ps_if (pt_cmpR op_eq (pv 2) (pv 1) (nomark _)) (pss_one (ps_ret (pv 3))) pss_nil))) (pss_one ps_never)), fun ds d h => ?_⟩, F.bindsN fun _ _ _ _ _ _ us hl => match us, hl with | [_, _], _ => rfl⟩, T.cl_Charter, T.mt_Charter_founder⟩
  · obtain ⟨_, _, _, _, rfl, _⟩ := h
    rfl
  · obtain ⟨fs, fo, n, u, rfl, hr1, hf, rfl⟩ := h
    refine wp_seq (wp_for (js := [2, 3]) (xs := fo.map fD) (it_seqT (ev_fld (ev_var rfl) T.cl_Charter T.na_Charter_founders hr1)) (fun i Γ => (∀ j b, j < i → fo[j]? = some b → decide (b.1 = n) = false) ∧ ∃ a b, Γ = [.dat (.ins (CC K) fs), .dat (.str n), a, b]) ⟨fun _ _ h => by omega, _, _, rfl⟩ (fun i y Γ hy hΓ => ?_) fun Γ hΓ => ?_)
    · obtain ⟨hn, a, b, rfl⟩ := hΓ
      obtain ⟨z, hz, rfl⟩ := take_map hy
      refine tg_tup2 (wp_if (et_test (ev_op (ev_var rfl) (ev_var rfl) rv_eqS)) (fun hb => ?_) fun hb => wp_next ⟨fun j b hj hb2 => ?_, _, _, rfl⟩)
      · rw [← find_next hf hn hz hb]
        exact wp_ret (ev_var rfl) rfl
      · by_cases c : j < i
        · exact hn j b c hb2
        · have e : j = i := by omega
          subst e
          rw [hz] at hb2
          rw [← Option.some.inj hb2]
          exact hb
    · obtain ⟨hn, a, b, rfl⟩ := hΓ
      refine wp_never ?_
      have hm := List.mem_of_find?_eq_some hf
      have hp := List.find?_some hf
      obtain ⟨j, hj, ej⟩ := List.mem_iff_getElem.mp hm
      have := hn j u (by rw [List.length_map]; exact hj) (by rw [List.getElem?_eq_getElem hj, ej])
      rw [this] at hp
      cases hp
def R_rule_names (K : PySem.W.Frag) : List Da → Da → Prop := fun ds d => ∃ (fs : List (Str × Da)) (rules : List Rl), ds = [.ins (CC K) fs] ∧ fs.lookup ("rules" : Str) = some (Da.tup (rules.map Rl.da)) ∧ rules.length ≤ 1000 ∧ d = strsT (rules.map Rl.name)
theorem ok_rule_names (T : Txt w K mg) : ∃ fd, FnOk P w K mg base CX0 1 (gRN K) fd ["self"] (spP K (R_rule_names K)) ∧ L2.Binds K fd ["self"] [] := by
  obtain ⟨fd, F⟩ := T.d_Charter_rule_names
  refine ⟨fd, fn_pure F sc_Charter_rule_names (fun ds d h => ?_) fun cdv A outer s H E hr => ⟨_, (pss_one (ps_ret (pe_callTy (call_tupK K rfl) (by rfl) T.f_tuple (by decide +kernel) (pa_cons (pe_lc (own := [("rule", 1)]) rfl sc_Charter_rule_names.nd (pi_seqK K rfl (pe_fldK K rfl (pv 0) rfl)) (blkOk_by (own := [("rule", 1)]) (N := ["self", "rule"]) (sc := defScope s_Charter_rule_names) (by decide +kernel)) (fun _ _ _ _ _ => (pg_name (i := 1) sc_Charter_rule_names.nd rfl (by first | exact Or.inl rfl | exact Or.inr rfl))) (fun _ _ _ _ _ => pts_nil) (fun _ _ _ _ _ => (pe_ix (ix_K K rfl) (pv 1) pe_int (fun _ _ => rfl)))) pa_nil)))), fun ds d h => ?_⟩, F.bindsN fun _ _ _ _ _ _ us hl => match us, hl with | [_], _ => rfl⟩
  · obtain ⟨_, _, rfl, _⟩ := h
    rfl
  · obtain ⟨fs, rules, rfl, hr1, hl, rfl⟩ := h
    refine wp_ret (ev_is (ev_cb (ea_cons (ev_lcA Rl.da rules (it_seqT (ev_fld (ev_var rfl) T.cl_Charter T.na_Charter_rules hr1)) (by omega) (fun u => .str u.name) (by simp) fun i u _ => rl_name rfl) ea_nil) rc_tupL) ?_) rfl
    exact congrArg Da.tup (by rw [List.map_map]; rfl)
end
end WM

/-! ## W3 -/
set_option maxHeartbeats 4000000
namespace WM
open PySem PySem.Spec PyProof.Rows L2
section
variable {P : Program} {w : World} {K : PySem.W.Frag} {mg : Str → Option Value} {base : Heap}
/-! Charter.check_founders -/
def R_cfo (K : PySem.W.Frag) : List Da → Da → Prop := fun ds d => ∃ (fs : List (Str × Da)) (sole : SL) (fo : List (Str × SL)), ds = [.ins (CC K) fs] ∧ fs.lookup ("founders" : Str) = some (Da.tup (fo.map fD)) ∧ fs.lookup ("sole" : Str) = some (strsT sole) ∧
  (∀ f ∈ fo, IsName f.1) ∧ (∀ r ∈ sole, (fo.filter fun f => decide (r ∈ f.2)).length ≤ 1) ∧ fo.length ≤ 1000 ∧ d = .non
theorem ok_cfo (T : Txt w K mg) (G_is_name : Cal P w K mg base "is_name" (He.ga K "is_name") 1 ["text"] (spP K R_is_name)) (G_require : Cal P w K mg base "require" (He.ga K "require") 1 ["holds"] (spP K R_require)) :
    CalM P w K mg base (CC K) "check_founders" (aM K "Charter" "check_founders") 2 ["self"] (spP K (R_cfo K)) := by
  obtain ⟨fd, F⟩ := T.d_Charter_check_founders
  obtain ⟨fd1, F_is_name, b_is_name⟩ := G_is_name.ex
  obtain ⟨fd2, F_require, b_require⟩ := G_require.ex
  refine ⟨⟨fd, fn_pure F sc_Charter_check_founders (fun ds d h => ?_) fun cdv A outer s H E hr => ⟨_, (pss_cons (ps_for PassesOwn.never rfl (pi_seqK K rfl (pe_fldK K rfl (pv 0) rfl)) (pg_tupK (n := 2) K rfl rfl (pgs_cons (pg_name (i := 1) sc_Charter_check_founders.nd rfl (by first | exact Or.inl rfl | exact Or.inr rfl)) (pgs_cons (pg_name (i := 2) sc_Charter_check_founders.nd rfl (by first | exact Or.inl rfl | exact Or.inr rfl)) pgs_nil))) (pss_one (ps_expr (pe_call F_require (hr.mono (by decide)) rfl G_require.m G_require.kp b_require .nil pass0 (pa_cons (pe_call F_is_name (hr.mono (by decide)) rfl G_is_name.m G_is_name.kp b_is_name .nil pass0 (pa_cons (pv 1) pa_nil)) pa_nil))))) (pss_one (ps_for PassesOwn.never rfl (pi_seqK K rfl (pe_fldK K rfl (pv 0) rfl)) (pg_name (i := 3) sc_Charter_check_founders.nd rfl (by first | exact Or.inl rfl | exact Or.inr rfl)) (pss_one (ps_expr (pe_call F_require (hr.mono (by decide)) rfl G_require.m G_require.kp b_require .nil pass0 (pa_cons (pe_cmpR op_le (pe_callB (call_lenK K rfl) (by rfl) T.f_len (by decide +kernel) (pa_cons (pe_lc (own := [("person", 1), ("held", 4)]) rfl sc_Charter_check_founders.nd (pi_seqK K rfl (pe_fldK K rfl (pv 0) rfl)) (blkOk_by (own := [("person", 1), ("held", 4)]) (N := ["self", "person", "_", "right", "held"]) (sc := defScope s_Charter_check_founders) (by decide +kernel)) (fun _ _ _ _ _ => (pg_tupK (n := 2) K rfl rfl (pgs_cons (pg_name (i := 1) sc_Charter_check_founders.nd rfl (by first | exact Or.inl rfl | exact Or.inr rfl)) (pgs_cons (pg_name (i := 4) sc_Charter_check_founders.nd rfl (by first | exact Or.inl rfl | exact Or.inr rfl)) pgs_nil)))) (fun _ _ _ _ _ => (pts_one (pt_cmpR (op_inK K rfl) (pv 3) (pv 4) rfl))) (fun _ _ _ _ _ => (pv 1))) pa_nil)) pe_int (nomark _)) pa_nil))))))), fun ds d h => ?_⟩, F.bindsN fun _ _ _ _ _ _ us hl => match us, hl with | [_], _ => rfl⟩, T.cl_Charter, T.mt_Charter_check_founders⟩
  · obtain ⟨_, _, _, rfl, _⟩ := h
    rfl
  · obtain ⟨fs, sole, fo, rfl, h1, h2, hn, hs, hl, rfl⟩ := h
    have fld : ∀ (Γ : List Sl), Γ[0]? = some (.dat (.ins (CC K) fs)) → Ev K (tFld K (tVar 0) "founders") Γ (Da.tup (fo.map fD)) := fun Γ e => ev_fld (ev_var e) T.cl_Charter T.na_Charter_founders h1
    refine wp_seq (wp_for (js := [1, 2]) (xs := fo.map fD) (it_seqT (fld _ rfl)) (fun i Γ => ∃ a b, Γ = [.dat (.ins (CC K) fs), a, b, .un, .un]) ⟨_, _, rfl⟩ (fun i y Γ hy hΓ => ?_) fun Γ hΓ => ?_)
    · obtain ⟨a, b, rfl⟩ := hΓ
      obtain ⟨z, hz, rfl⟩ := take_map hy
      exact tg_tup2 (wp_drop (ev_call (ea_cons (ev_call (ea_cons (ev_var rfl) ea_nil) ⟨z.1, rfl, hn z (List.mem_of_getElem? hz), rfl⟩) ea_nil) ⟨rfl, rfl⟩) ⟨_, _, rfl⟩)
    · obtain ⟨a, b, rfl⟩ := hΓ
      refine wp_for (js := [3]) (xs := sole.map .str) (it_seqT (ev_fld (ev_var rfl) T.cl_Charter T.na_Charter_sole h2)) (fun i Γ => ∃ a b c, Γ = [.dat (.ins (CC K) fs), a, b, c, .un]) ⟨_, _, _, rfl⟩ (fun i y Γ hy hΓ => ?_) fun Γ hΓ => rfl
      obtain ⟨a, b, c, rfl⟩ := hΓ
      obtain ⟨r, hr2, rfl⟩ := take_map hy
      refine tg_name (wp_drop (ev_call (ea_cons (ev_is (ev_op (ev_cb (ea_cons (ev_lcM fD fo (js := [1, 4]) (it_seqT (fld _ rfl)) (by omega) (fun f => decide (r ∈ f.2)) (fun f => .str f.1) (by simp) fun i f _ => tg_tup2 ⟨et_test (ev_op (ev_var rfl) (ev_var rfl) rv_isT), fun _ => ev_var rfl⟩) ea_nil) rc_lenL) ev_int (rv_B0 (g := fun i j => decide (i ≤ j)))) ?_) ea_nil) ⟨rfl, rfl⟩) ⟨_, _, _, rfl⟩)
      rw [List.length_map]
      refine congrArg Da.bl (decide_eq_true ?_)
      have := hs r (List.mem_of_getElem? hr2)
      omega
/-! Charter.checked -/
abbrev chS (rights sole : SL) (fo : List (Str × SL)) : List (Str × Da) := [("rights", strsT rights), ("sole", strsT sole), ("founders", .tup (fo.map fD))]
def R_checked (K : PySem.W.Frag) : List Da → Da → Prop := fun ds d => ∃ (rights sole : SL) (fo : List (Str × SL)) (u : Rl), ds = [.ins (CC K) (chS rights sole fo), u.da] ∧ rights.length ≤ 6 ∧ sole.length ≤ 1000 ∧ WfR rights sole u ∧ d = u.da
theorem ord_len {rights l : SL} (h : Ord rights l) : l.length ≤ rights.length := by
  rw [← h.1]
  exact List.length_filter_le _ _
theorem part_of (T : Txt w K mg) {k : Str} {n : Int} (h : (k = "join" ∧ n = 3) ∨ ((k = "claim" ∨ k = "drop") ∧ n = 5) ∨ ((k = "give" ∨ k = "take" ∨ k = "pass") ∧ n = 6)) : ∃ u, PySem.W.nsIn K (He.ga K "PARTS") k = some (some u) ∧ RelV (V.int n) u := by
  rcases h with ⟨rfl, rfl⟩ | ⟨rfl | rfl, rfl⟩ | ⟨rfl | rfl | rfl, rfl⟩
  · exact T.pt_join
  · exact T.pt_claim
  · exact T.pt_drop
  · exact T.pt_give
  · exact T.pt_take
  · exact T.pt_pass
structure Rest (rights sole : SL) (u : Rl) (k n r : Str) (ls : List SL) (m : Int) (a b c : SL) : Prop where
  hu : u.da = .tup (.str k :: .str n :: ls.map (fun l => strsT l) ++ [.str r])
  el : u.lists = ls
  hk : (k = "join" ∧ m = 3) ∨ ((k = "claim" ∨ k = "drop") ∧ m = 5) ∨ ((k = "give" ∨ k = "take" ∨ k = "pass") ∧ m = 6)
  hm : (ls.length : Int) + 3 = m
  hj : k ≠ "join"
  hn : IsName n
  ho : ∀ l ∈ ls, Ord rights l
  n1 : ∀ a b c d e, u = .solo a b c d e → a ≠ "join"
  n2 : ∀ a b c d e f, u = .duo a b c d e f → a ≠ "join"
  l1 : atI (ls.map fun l => strsT l) (-1) = some (strsT c)
  l2 : atI (ls.map fun l => strsT l) (-2) = some (strsT b)
  l0 : atI (ls.map fun l => strsT l) 0 = some (strsT a)
  l3 : ls.length ≤ 3
  hr : r ∈ rights
  rc : r ∉ c
  rb : r ∉ b
  ap : Apart c b
  c3 : c.length ≤ rights.length
  hc : k = "claim" ∨ k = "give" → r ∉ sole
  hp : k = "pass" → r ∈ sole ∧ r ∉ a
theorem rest_of {rights sole : SL} {u : Rl} (h : WfR rights sole u) : (∃ n rs, u = .join n rs ∧ IsName n ∧ Ord rights rs ∧ Apart rs sole) ∨ ∃ k n r ls m a b c, Rest rights sole u k n r ls m a b c := by
  cases h with
  | join hn ho hap => exact .inl ⟨_, _, rfl, hn, ho, hap⟩
  | solo hk hn ha hb hr1 hra hrb hap hcl =>
    rename_i k n a b r
    have hj : k ≠ "join" := by rcases hk with rfl | rfl <;> decide
    exact .inr ⟨k, n, r, [a, b], 5, a, a, b, rfl, rfl, .inr (.inl ⟨hk, rfl⟩), rfl, hj, hn, by simp [ha, hb], fun _ _ _ _ _ h => by cases h; exact hj, fun _ _ _ _ _ _ h => by (cases h), atI_last [strsT a] _, atL2 [] _ _, at0, by simp, hr1, hrb, hra, hap, ord_len hb, fun h => h.elim hcl fun h => by rcases hk with rfl | rfl <;> exact absurd h (by decide), fun h => by rcases hk with rfl | rfl <;> exact absurd h (by decide)⟩
  | duo hk hn ha hb hc hr1 hrb hrc hap hgv hps =>
    rename_i k n a b c r
    have hj : k ≠ "join" := by rcases hk with rfl | rfl | rfl <;> decide
    exact .inr ⟨k, n, r, [a, b, c], 6, a, b, c, rfl, rfl, .inr (.inr ⟨hk, rfl⟩), rfl, hj, hn, by simp [ha, hb, hc], fun _ _ _ _ _ h => by (cases h), fun _ _ _ _ _ _ h => by cases h; exact hj, atI_last [strsT a, strsT b] _, atL2 [strsT a] _ _, at0, by simp, hr1, hrc, hrb, hap, ord_len hc, fun h => h.elim (fun h => by rcases hk with rfl | rfl | rfl <;> exact absurd h (by decide)) hgv, hps⟩
theorem ok_checked (T : Txt w K mg) (G_is_name : Cal P w K mg base "is_name" (He.ga K "is_name") 1 ["text"] (spP K R_is_name)) (G_require : Cal P w K mg base "require" (He.ga K "require") 1 ["holds"] (spP K R_require))
    (G_are_apart : Cal P w K mg base "are_apart" (He.ga K "are_apart") 1 ["one", "other"] (spP K R_are_apart)) (G_right_lists : Cal P w K mg base "right_lists" (He.ga K "right_lists") 1 ["rule"] (spP K R_right_lists))
    (G_Charter_some : CalM P w K mg base (CC K) "some" (aM K "Charter" "some") 2 ["self", "words"] (spP K (R_some K))) :
    CalM P w K mg base (CC K) "checked" (aM K "Charter" "checked") 3 ["self", "rule"] (spP K (R_checked K)) := by
  obtain ⟨fd, F⟩ := T.d_Charter_checked
  obtain ⟨fd1, F_is_name, b_is_name⟩ := G_is_name.ex
  obtain ⟨fd2, F_require, b_require⟩ := G_require.ex
  obtain ⟨fd3, F_are_apart, b_are_apart⟩ := G_are_apart.ex
  obtain ⟨fd4, F_right_lists, b_right_lists⟩ := G_right_lists.ex
  obtain ⟨fd5, F_Charter_some, b_Charter_some⟩ := G_Charter_some.ex
  refine ⟨⟨fd, fn_pure F sc_Charter_checked (fun ds d h => ?_) fun cdv A outer s H E hr => ⟨_, (pss_cons (ps_par (i := 2) (j := 3) (by rfl) sc_Charter_checked.nd rfl rfl (by decide) rfl rfl (pa_cons (pe_ix (ix_K K rfl) (pv 1) pe_int (fun _ _ => rfl)) (pa_cons (pe_ix (ix_K K rfl) (pv 1) pe_int (fun _ _ => rfl)) pa_nil)) (by rfl)) (pss_cons (ps_expr (pe_call F_require (hr.mono (by decide)) rfl G_require.m G_require.kp b_require .nil pass0 (pa_cons (pe_and (pe_cmpR (op_kdInK K rfl T.parts.choose_spec.choose_spec) (pv 2) (pe_glob rfl T.m_PARTS (show L2.RelV (V.ref (He.ga K "PARTS")) _ from rfl)) rfl) (pe_and (pe_cmpR op_eq (pe_callB (call_lenK K rfl) (by rfl) T.f_len (by decide +kernel) (pa_cons (pv 1) pa_nil)) (pe_kdget K rfl T.parts.choose_spec.choose_spec rfl T.m_PARTS (pv 2) (fun _ _ => rfl)) (nomark _)) (pe_one (pe_call F_is_name (hr.mono (by decide)) rfl G_is_name.m G_is_name.kp b_is_name .nil pass0 (pa_cons (pv 3) pa_nil))))) pa_nil))) (pss_cons (ps_set (i := 4) sc_Charter_checked.nd rfl (by first | exact Or.inl rfl | exact Or.inr rfl) (pe_callTy (call_tupK K rfl) (by rfl) T.f_tuple (by decide +kernel) (pa_cons (pe_lc (own := [("words", 5)]) rfl sc_Charter_checked.nd (pi_seqK K rfl (pe_call F_right_lists (hr.mono (by decide)) rfl G_right_lists.m G_right_lists.kp b_right_lists .nil pass0 (pa_cons (pv 1) pa_nil))) (blkOk_by (own := [("words", 5)]) (N := ["self", "rule", "kind", "name", "lists", "words", "right"]) (sc := defScope s_Charter_checked) (by decide +kernel)) (fun _ _ _ _ _ => (pg_name (i := 5) sc_Charter_checked.nd rfl (by first | exact Or.inl rfl | exact Or.inr rfl))) (fun _ _ _ _ _ => pts_nil) (fun _ _ _ _ _ => (pe_meth (pv 0) T.cl_Charter G_Charter_some.m F_Charter_some (hr.mono (by decide)) b_Charter_some .nil pass0 (pa_cons (pv 5) pa_nil)))) pa_nil))) (pss_cons (ps_if (pt_cmpR op_eq (pv 2) pe_str (nomark _)) (pss_cons (ps_expr (pe_call F_require (hr.mono (by decide)) rfl G_require.m G_require.kp b_require .nil pass0 (pa_cons (pe_call F_are_apart (hr.mono (by decide)) rfl G_are_apart.m G_are_apart.kp b_are_apart .nil pass0 (pa_cons (pe_ix (ix_K K rfl) (pv 4) pe_int (fun _ _ => rfl)) (pa_cons (pe_fldK K rfl (pv 0) rfl) pa_nil))) pa_nil))) (pss_one (ps_ret (pe_tup (pa_cons (pv 2) (pa_cons (pv 3) (pa_starK K rfl (pv 4) pa_nil))))))) pss_nil) (pss_cons (ps_set (i := 6) sc_Charter_checked.nd rfl (by first | exact Or.inl rfl | exact Or.inr rfl) (pe_ix (ix_K K rfl) (pv 1) (pe_un un_neg pe_int) (fun _ _ => rfl))) (pss_cons (ps_expr (pe_call F_require (hr.mono (by decide)) rfl G_require.m G_require.kp b_require .nil pass0 (pa_cons (pe_and (pe_cmpR (op_inK K rfl) (pv 6) (pe_fldK K rfl (pv 0) rfl) rfl) (pe_and (pe_cmpR (op_niK K rfl) (pv 6) (pe_ix (ix_K K rfl) (pv 4) (pe_un un_neg pe_int) (fun _ _ => rfl)) rfl) (pe_one (pe_cmpR (op_niK K rfl) (pv 6) (pe_ix (ix_K K rfl) (pv 4) (pe_un un_neg pe_int) (fun _ _ => rfl)) rfl)))) pa_nil))) (pss_cons (ps_expr (pe_call F_require (hr.mono (by decide)) rfl G_require.m G_require.kp b_require .nil pass0 (pa_cons (pe_call F_are_apart (hr.mono (by decide)) rfl G_are_apart.m G_are_apart.kp b_are_apart .nil pass0 (pa_cons (pe_ix (ix_K K rfl) (pv 4) (pe_un un_neg pe_int) (fun _ _ => rfl)) (pa_cons (pe_ix (ix_K K rfl) (pv 4) (pe_un un_neg pe_int) (fun _ _ => rfl)) pa_nil))) pa_nil))) (pss_cons (ps_if (pt_cmpR (op_inK K rfl) (pv 2) (pe_tup (pa_cons pe_str (pa_cons pe_str pa_nil))) rfl) (pss_one (ps_expr (pe_call F_require (hr.mono (by decide)) rfl G_require.m G_require.kp b_require .nil pass0 (pa_cons (pe_cmpR (op_niK K rfl) (pv 6) (pe_fldK K rfl (pv 0) rfl) rfl) pa_nil)))) pss_nil) (pss_cons (ps_if (pt_cmpR op_eq (pv 2) pe_str (nomark _)) (pss_one (ps_expr (pe_call F_require (hr.mono (by decide)) rfl G_require.m G_require.kp b_require .nil pass0 (pa_cons (pe_and (pe_cmpR (op_inK K rfl) (pv 6) (pe_fldK K rfl (pv 0) rfl) rfl) (pe_one (pe_cmpR (op_niK K rfl) (pv 6) (pe_ix (ix_K K rfl) (pv 4) pe_int (fun _ _ => rfl)) rfl))) pa_nil)))) pss_nil) (pss_one (ps_ret (pe_tup (pa_cons (pv 2) (pa_cons (pv 3) (pa_starK K rfl (pv 4) (pa_cons (pv 6) pa_nil)))))))))))))))), fun ds d h => ?_⟩, F.bindsN fun _ _ _ _ _ _ us hl => match us, hl with | [_, _], _ => rfl⟩, T.cl_Charter, T.mt_Charter_checked⟩
  · obtain ⟨_, _, _, _, rfl, _⟩ := h
    rfl
  · obtain ⟨rights, sole, fo, u, rfl, h6, hso, hw, rfl⟩ := h
    have fR : ∀ (Γ : List Sl), Γ[0]? = some (.dat (.ins (CC K) (chS rights sole fo))) → Ev K (tFld K (tVar 0) "rights") Γ (strsT rights) := fun Γ e => ev_fld (ev_var e) T.cl_Charter T.na_Charter_rights rfl
    have fS : ∀ (Γ : List Sl), Γ[0]? = some (.dat (.ins (CC K) (chS rights sole fo))) → Ev K (tFld K (tVar 0) "sole") Γ (strsT sole) := fun Γ e => ev_fld (ev_var e) T.cl_Charter T.na_Charter_sole rfl
    -- the lists
    have lists : ∀ (ls : List SL) (Γ : List Sl), Γ.length = 7 → Γ[0]? = some (.dat (.ins (CC K) (chS rights sole fo))) → Γ[1]? = some (.dat u.da) → u.lists = ls → (∀ l ∈ ls, Ord rights l) →
        (∀ a b c d e, u = .solo a b c d e → a ≠ "join") → (∀ a b c d e f, u = .duo a b c d e f → a ≠ "join") →
        Ev K (tCB (rTupG K) (tCons (tLc (iSeq K (tCall (spP K R_right_lists) [] E0 (tCons (tVar 1) tNil))) (gName 5) tYes (tMeth (CC K) "some" (spP K (R_some K)) [] E0 (tVar 0) (tCons (tVar 5) tNil)) [5]) tNil)) Γ (.tup (ls.map fun l => strsT l)) := by
      intro ls Γ hΓ e0 e1 el ho n1 n2
      have hle : ls.length ≤ 50000 := by
        rw [← el]
        cases u <;> simp [Rl.lists]
      refine ev_cb (ea_cons (ev_lcA (fun l => strsT l) ls (it_seqL (ev_is (ev_call (ea_cons (ev_var e1) ea_nil) ⟨u, rfl, n1, n2, rfl⟩) (by rw [el]))) hle (fun l => strsT l) (by simp) fun i l hl => ?_) ea_nil) rc_tupL
      match Γ, hΓ, e0 with
      | [_, _, _, _, _, _, _], _, e0 =>
        cases e0
        have o := ho l (List.mem_of_getElem? hl)
        exact ev_meth (ev_var rfl) rfl (ea_cons (ev_var rfl) ea_nil) ⟨_, rights, l, .inr rfl, rfl, o, h6, by have := ord_len o; omega, rfl⟩
    rcases rest_of hw with ⟨n, rs, rfl, hn, ho, hap⟩ | ⟨k, n, r, ls, m, a, b, c, W⟩
    · obtain ⟨v, hv, hR⟩ := part_of T (k := "join") (n := 3) (.inl ⟨rfl, rfl⟩)
      refine wp_seq (wp_par (ea_cons (ev_op (ev_var rfl) ev_int (rv_ixT at0)) (ea_cons (ev_op (ev_var rfl) ev_int (rv_ixT at1)) ea_nil)) ?_)
      refine wp_seq (wp_drop (ev_call (ea_cons (ev_is (ev_and (ev_kdin (ev_var rfl) hv) fun _ => ev_and (ev_op (ev_cb (ea_cons (ev_var rfl) ea_nil) rc_lenT) (ev_kdget (ev_var rfl) hv hR) rv_eqI) fun _ => ev_call (ea_cons (ev_var rfl) ea_nil) ⟨n, rfl, hn, rfl⟩) rfl) ea_nil) ⟨rfl, rfl⟩) ?_)
      refine wp_seq (wp_asg (lists [rs] _ rfl rfl rfl rfl (by simpa using ho) (fun _ _ _ _ _ h => by cases h) (fun _ _ _ _ _ _ h => by cases h)) ?_)
      refine wp_seq (wp_if (b := true) (evt_is (et_test (ev_op (ev_var rfl) ev_str rv_eqS)) rfl) (fun _ => ?_) fun h => by cases h)
      refine wp_seq (wp_drop (ev_call (ea_cons (ev_call (ea_cons (ev_op (ev_var rfl) ev_int (rv_ixT at0)) (ea_cons (fS _ rfl) ea_nil)) ⟨rs, sole, rfl, hap, by have := ord_len ho; omega, rfl⟩) ea_nil) ⟨rfl, rfl⟩) ?_)
      exact wp_ret (ev_tup (ea_cons (ev_var rfl) (ea_cons (ev_var rfl) (ea_star (ev_var rfl) ea_nil))) (by simp)) rfl
    · obtain ⟨v, hv, hR⟩ := part_of T W.hk
      have eu := W.hu
      have hl := W.l3
      have hls : (ls.map fun l => strsT l).length = ls.length := List.length_map ..
      refine wp_seq (wp_par (x := .str k) (y := .str n) (ea_cons (ev_op (ev_is (ev_var rfl) eu) ev_int (rv_ixT at0)) (ea_cons (ev_op (ev_is (ev_var rfl) eu) ev_int (rv_ixT at1)) ea_nil)) ?_)
      refine wp_seq (wp_drop (ev_call (ea_cons (ev_is (ev_and (ev_kdin (ev_var rfl) hv) fun _ => ev_and (ev_op (ev_cb (ea_cons (ev_is (ev_var rfl) eu) ea_nil) rc_lenT) (ev_kdget (ev_var rfl) hv hR) rv_eqI) fun _ => ev_call (ea_cons (ev_var rfl) ea_nil) ⟨n, rfl, W.hn, rfl⟩) ?_) ea_nil) ⟨rfl, rfl⟩) ?_)
      · have := W.hm
        have e : ((List.length (.str k :: .str n :: ls.map (fun l => strsT l) ++ [Da.str r]) : Nat) : Int) = m := by simp; omega
        rw [decide_eq_true e]; rfl
      refine wp_seq (wp_asg (lists ls _ rfl rfl rfl W.el W.ho W.n1 W.n2) ?_)
      refine wp_seq (wp_if (b := false) (evt_is (et_test (ev_op (ev_var rfl) ev_str rv_eqS)) (decide_eq_false W.hj)) (fun h => by cases h) fun _ => wp_next ?_)
      refine wp_seq (wp_asg (d := .str r) (ev_op (ev_is (ev_var rfl) eu) (ev_un ev_int) (rv_ixT (atI_last (.str k :: .str n :: ls.map fun l => strsT l) (.str r)))) ?_)
      have bR : (decide (r ∈ rights) && (!decide (r ∈ c) && !decide (r ∈ b))) = true := by simp [W.hr, W.rc, W.rb]
      have c3 := W.c3
      refine wp_seq (wp_drop (ev_call (ea_cons (ev_is (ev_and (ev_op (ev_var rfl) (fR _ rfl) rv_isT) fun _ => ev_and (ev_op (ev_var rfl) (ev_op (ev_var rfl) (ev_un ev_int) (rv_ixT W.l1)) rv_noT) fun _ => ev_op (ev_var rfl) (ev_op (ev_var rfl) (ev_un ev_int) (rv_ixT W.l2)) rv_noT) (by rw [bR])) ea_nil) ⟨rfl, rfl⟩) ?_)
      refine wp_seq (wp_drop (ev_call (ea_cons (ev_call (ea_cons (ev_op (ev_var rfl) (ev_un ev_int) (rv_ixT W.l1)) (ea_cons (ev_op (ev_var rfl) (ev_un ev_int) (rv_ixT W.l2)) ea_nil)) ⟨c, b, rfl, W.ap, by omega, rfl⟩) ea_nil) ⟨rfl, rfl⟩) ?_)
      have last : Wp K _ [.dat (.ins (CC K) (chS rights sole fo)), .dat u.da, .dat (.str k), .dat (.str n), .dat (.tup (ls.map fun l => strsT l)), .un, .dat (.str r)] { nx := fun _ => u.da = .non, rt := fun z => z = u.da } := wp_ret (ev_is (ev_tup (ea_cons (ev_var (i := 2) rfl) (ea_cons (ev_var (i := 3) rfl) (ea_star (ev_var (i := 4) rfl) (ea_cons (ev_var (i := 6) rfl) ea_nil)))) (by simp; omega)) (by rw [eu]; simp)) rfl
      have snd := fun hb : k = "pass" => (show (decide (r ∈ sole) && !decide (r ∈ a)) = true by simp [(W.hp hb).1, (W.hp hb).2])
      refine wp_seq (wp_if (et_test (ev_op (ev_var rfl) (ev_tup (ea_cons ev_str (ea_cons ev_str ea_nil)) (by simp)) (rv_isT (ss := ["claim", "give"])))) (fun hb => wp_drop (ev_call (ea_cons (ev_is (ev_op (ev_var rfl) (fS _ rfl) rv_noT) ?_) ea_nil) ⟨rfl, rfl⟩) ?_) fun _ => wp_next ?_)
      · have := W.hc (by simpa using hb)
        simp [this]
      · exact wp_seq (wp_if (et_test (ev_op (ev_var rfl) ev_str rv_eqS)) (fun hb => wp_drop (ev_call (ea_cons (ev_is (ev_and (ev_op (ev_var rfl) (fS _ rfl) rv_isT) fun _ => ev_op (ev_var rfl) (ev_op (ev_var rfl) ev_int (rv_ixT W.l0)) rv_noT) (by rw [snd (of_decide_eq_true hb)])) ea_nil) ⟨rfl, rfl⟩) last) fun _ => wp_next last)
      · exact wp_seq (wp_if (et_test (ev_op (ev_var rfl) ev_str rv_eqS)) (fun hb => wp_drop (ev_call (ea_cons (ev_is (ev_and (ev_op (ev_var rfl) (fS _ rfl) rv_isT) fun _ => ev_op (ev_var rfl) (ev_op (ev_var rfl) ev_int (rv_ixT W.l0)) rv_noT) (by rw [snd (of_decide_eq_true hb)])) ea_nil) ⟨rfl, rfl⟩) last) fun _ => wp_next last)
end
end WM

/-! ## W4 -/
set_option maxHeartbeats 4000000
namespace WM
open PySem PySem.Spec PyProof.Rows L2
theorem putD_new {f : Str} {d : Da} : ∀ {fs : List (Str × Da)}, fs.lookup f = none → putD f d fs = fs ++ [(f, d)]
  | [], _ => rfl
  | (g, e) :: r, h => by
    rw [List.lookup_cons] at h
    by_cases c : g = f
    · subst c
      rw [beq_self_eq_true] at h
      cases h
    · have c2 : (f == g) = false := by
        rw [beq_eq_false_iff_ne]
        exact fun e => c e.symm
      rw [c2] at h
      show (if g = f then _ else _) = _
      rw [if_neg c, putD_new (fs := r) h]
      rfl
theorem wp_fldN {K : PySem.W.Frag} {Γ : List Sl} {te : TE} {d : Da} {E : En} {i : Nat} {p C : Addr} {fs : List (Str × Da)} {f : Str} (hx : Γ[i]? = some (.obj p C fs)) (h : Ev K te Γ d) (hc : Cls K C) (hn : NoAttr K C f) (hl : fs.length < 1000) (h0 : fs.lookup f = none) (k : E.nx (Γ.set i (.obj p C (fs ++ [(f, d)])))) :
    Wp K (sFld K (tVar i) te f) Γ E := wp_fld hx h hc hn hl (putD_new h0 ▸ k)
theorem thin_strs (l : SL) : Thin (strsT l) := Thin.tupF (strs_flat l)
theorem thin_fD (f : Str × SL) : Thin (fD f) := Thin.tup fun d hd => by
  simp at hd
  rcases hd with rfl | rfl
  · exact Thin.flat rfl
  · exact thin_strs _
theorem thin_da (u : Rl) : Thin u.da := by
  cases u <;> refine Thin.tup fun d hd => ?_ <;> simp at hd
  · rcases hd with rfl | rfl | rfl
    · exact Thin.flat rfl
    · exact Thin.flat rfl
    · exact thin_strs _
  · rcases hd with rfl | rfl | rfl | rfl | rfl
    · exact Thin.flat rfl
    · exact Thin.flat rfl
    · exact thin_strs _
    · exact thin_strs _
    · exact Thin.flat rfl
  · rcases hd with rfl | rfl | rfl | rfl | rfl | rfl
    · exact Thin.flat rfl
    · exact Thin.flat rfl
    · exact thin_strs _
    · exact thin_strs _
    · exact thin_strs _
    · exact Thin.flat rfl
theorem thin_map {α : Type} (enc : α → Da) (l : List α) (h : ∀ a, Thin (enc a)) : Thin (.tup (l.map enc)) := Thin.tup fun d hd => by
  obtain ⟨a, _, rfl⟩ := List.mem_map.mp hd
  exact h a
section
variable {P : Program} {w : World} {K : PySem.W.Frag} {mg : Str → Option Value} {base : Heap}
/-- a charter's fields -/
abbrev chF (p : Parts) : List (Str × Da) := [("rights", strsT p.rights), ("sole", strsT p.sole), ("founders", .tup (p.founders.map fD)), ("rules", .tup (p.rules.map Rl.da))]
/-- a class's maker -/
structure CalI (P : Program) (w : World) (K : PySem.W.Frag) (mg : Str → Option Value) (base : Heap) (C f : Addr) (k : Nat) (ps : List Str) (n : Nat) (ks : List Str) (sp : Sp) : Prop where
  ex : ∃ fd, FnOk P w K mg base CX0 k f fd ps sp ∧ KBn K fd ps n ks (fun us ws => us ++ ws) (fun vs zs => vs ++ zs)
def R_Cinit : List Da → List (Str × Da) → Prop := fun ds fs => ∃ p : Parts, ds = [strsL p.rights, strsL p.sole, .lst (p.founders.map fD), .lst (p.rules.map Rl.da)] ∧ Wf p ∧ fs = chF p
theorem ok_Cinit (T : Txt w K mg) (G_is_name : Cal P w K mg base "is_name" (He.ga K "is_name") 1 ["text"] (spP K R_is_name)) (G_require : Cal P w K mg base "require" (He.ga K "require") 1 ["holds"] (spP K R_require))
    (G_are_different : Cal P w K mg base "are_different" (He.ga K "are_different") 1 ["words"] (spP K R_are_different))
    (G_Charter_some : CalM P w K mg base (CC K) "some" (aM K "Charter" "some") 2 ["self", "words"] (spP K (R_some K)))
    (G_Charter_check_founders : CalM P w K mg base (CC K) "check_founders" (aM K "Charter" "check_founders") 2 ["self"] (spP K (R_cfo K)))
    (G_Charter_checked : CalM P w K mg base (CC K) "checked" (aM K "Charter" "checked") 3 ["self", "rule"] (spP K (R_checked K))) :
    CalI P w K mg base (CC K) (aM K "Charter" "__init__") 4 ["self", "rights", "sole", "founders", "rules"] 1 ["rights", "sole", "founders", "rules"] (spI K (CC K) R_Cinit) := by
  obtain ⟨fd, F⟩ := T.d_Charter_init
  obtain ⟨fd1, F_is_name, b_is_name⟩ := G_is_name.ex
  obtain ⟨fd2, F_require, b_require⟩ := G_require.ex
  obtain ⟨fd3, F_are_different, b_are_different⟩ := G_are_different.ex
  obtain ⟨fd4, F_Charter_checked, b_Charter_checked⟩ := G_Charter_checked.ex
  obtain ⟨fd5, F_Charter_some, b_Charter_some⟩ := G_Charter_some.ex
  obtain ⟨fd6, F_Charter_check_founders, b_Charter_check_founders⟩ := G_Charter_check_founders.ex
  refine ⟨⟨fd, fn_init F sc_Charter_init (fun ds d h => ?_) (by simp) fun cdv A outer s H E hr => ⟨_, (pss_cons (ps_expr (pe_call F_require (hr.mono (by decide)) rfl G_require.m G_require.kp b_require .nil pass0 (pa_cons (pe_and (pe_chain op_le op_le pe_int (pe_callB (call_lenK K rfl) (by rfl) T.f_len (by decide +kernel) (pa_cons (pv 1) pa_nil)) (pe_glob rfl T.g_MOST_RIGHTS.choose_spec.1 T.g_MOST_RIGHTS.choose_spec.2)) (pe_one (pe_call F_are_different (hr.mono (by decide)) rfl G_are_different.m G_are_different.kp b_are_different .nil pass0 (pa_cons (pv 1) pa_nil)))) pa_nil))) (pss_cons (ps_expr (pe_call F_require (hr.mono (by decide)) rfl G_require.m G_require.kp b_require .nil pass0 (pa_cons (pe_callB (cr_allK K rfl rfl) (by rfl) T.f_all (by decide +kernel) (pa_cons (pe_lc (own := [("right", 5)]) rfl sc_Charter_init.nd (pi_seqK K rfl (pv 1)) (blkOk_by (own := [("right", 5)]) (N := ["self", "rights", "sole", "founders", "rules", "right", "founder", "person", "held", "rule"]) (sc := defScope s_Charter_init) (by decide +kernel)) (fun _ _ _ _ _ => (pg_name (i := 5) sc_Charter_init.nd rfl (by first | exact Or.inl rfl | exact Or.inr rfl))) (fun _ _ _ _ _ => pts_nil) (fun _ _ _ _ _ => (pe_call F_is_name (hr.mono (by decide)) rfl G_is_name.m G_is_name.kp b_is_name .nil pass0 (pa_cons (pv 5) pa_nil)))) pa_nil)) pa_nil))) (pss_cons (ps_fld (pv 0) (pe_callTy (call_tupK K rfl) (by rfl) T.f_tuple (by decide +kernel) (pa_cons (pv 1) pa_nil)) rfl) (pss_cons (ps_fld (pv 0) (pe_meth (pv 0) T.cl_Charter G_Charter_some.m F_Charter_some (hr.mono (by decide)) b_Charter_some .nil pass0 (pa_cons (pv 2) pa_nil)) rfl) (pss_cons (ps_expr (pe_call F_require (hr.mono (by decide)) rfl G_require.m G_require.kp b_require .nil pass0 (pa_cons (pe_and (pe_cmpR op_le (pe_callB (call_lenK K rfl) (by rfl) T.f_len (by decide +kernel) (pa_cons (pv 3) pa_nil)) (pe_glob rfl T.g_MOST_FOUNDERS.choose_spec.1 T.g_MOST_FOUNDERS.choose_spec.2) (nomark _)) (pe_one (pe_call F_are_different (hr.mono (by decide)) rfl G_are_different.m G_are_different.kp b_are_different .nil pass0 (pa_cons (pe_lc (own := [("founder", 6)]) rfl sc_Charter_init.nd (pi_seqK K rfl (pv 3)) (blkOk_by (own := [("founder", 6)]) (N := ["self", "rights", "sole", "founders", "rules", "right", "founder", "person", "held", "rule"]) (sc := defScope s_Charter_init) (by decide +kernel)) (fun _ _ _ _ _ => (pg_name (i := 6) sc_Charter_init.nd rfl (by first | exact Or.inl rfl | exact Or.inr rfl))) (fun _ _ _ _ _ => pts_nil) (fun _ _ _ _ _ => (pe_ix (ix_K K rfl) (pv 6) pe_int (fun _ _ => rfl)))) pa_nil)))) pa_nil))) (pss_cons (ps_fld (pv 0) (pe_callTy (call_tupK K rfl) (by rfl) T.f_tuple (by decide +kernel) (pa_cons (pe_lc (own := [("person", 7), ("held", 8)]) rfl sc_Charter_init.nd (pi_seqK K rfl (pv 3)) (blkOk_by (own := [("person", 7), ("held", 8)]) (N := ["self", "rights", "sole", "founders", "rules", "right", "founder", "person", "held", "rule"]) (sc := defScope s_Charter_init) (by decide +kernel)) (fun _ _ _ _ _ => (pg_tupK (n := 2) K rfl rfl (pgs_cons (pg_name (i := 7) sc_Charter_init.nd rfl (by first | exact Or.inl rfl | exact Or.inr rfl)) (pgs_cons (pg_name (i := 8) sc_Charter_init.nd rfl (by first | exact Or.inl rfl | exact Or.inr rfl)) pgs_nil)))) (fun _ _ _ _ _ => pts_nil) (fun _ _ _ _ _ => (pe_tup (pa_cons (pv 7) (pa_cons (pe_meth (pv 0) T.cl_Charter G_Charter_some.m F_Charter_some (hr.mono (by decide)) b_Charter_some .nil pass0 (pa_cons (pv 8) pa_nil)) pa_nil))))) pa_nil)) rfl) (pss_cons (ps_expr (pe_meth0 (pv 0) T.cl_Charter G_Charter_check_founders.m F_Charter_check_founders (hr.mono (by decide)) b_Charter_check_founders .nil pass0)) (pss_cons (ps_expr (pe_call F_require (hr.mono (by decide)) rfl G_require.m G_require.kp b_require .nil pass0 (pa_cons (pe_and (pe_cmpR op_le (pe_callB (call_lenK K rfl) (by rfl) T.f_len (by decide +kernel) (pa_cons (pv 4) pa_nil)) (pe_glob rfl T.g_MOST_RULES.choose_spec.1 T.g_MOST_RULES.choose_spec.2) (nomark _)) (pe_one (pe_callB (cr_allK K rfl rfl) (by rfl) T.f_all (by decide +kernel) (pa_cons (pe_lc (own := [("rule", 9)]) rfl sc_Charter_init.nd (pi_seqK K rfl (pv 4)) (blkOk_by (own := [("rule", 9)]) (N := ["self", "rights", "sole", "founders", "rules", "right", "founder", "person", "held", "rule"]) (sc := defScope s_Charter_init) (by decide +kernel)) (fun _ _ _ _ _ => (pg_name (i := 9) sc_Charter_init.nd rfl (by first | exact Or.inl rfl | exact Or.inr rfl))) (fun _ _ _ _ _ => pts_nil) (fun _ _ _ _ _ => (pe_cmpR op_gt (pe_callB (call_lenK K rfl) (by rfl) T.f_len (by decide +kernel) (pa_cons (pv 9) pa_nil)) pe_int (nomark _)))) pa_nil)))) pa_nil))) (pss_cons (ps_expr (pe_call F_require (hr.mono (by decide)) rfl G_require.m G_require.kp b_require .nil pass0 (pa_cons (pe_call F_are_different (hr.mono (by decide)) rfl G_are_different.m G_are_different.kp b_are_different .nil pass0 (pa_cons (pe_lc (own := [("rule", 9)]) rfl sc_Charter_init.nd (pi_seqK K rfl (pv 4)) (blkOk_by (own := [("rule", 9)]) (N := ["self", "rights", "sole", "founders", "rules", "right", "founder", "person", "held", "rule"]) (sc := defScope s_Charter_init) (by decide +kernel)) (fun _ _ _ _ _ => (pg_name (i := 9) sc_Charter_init.nd rfl (by first | exact Or.inl rfl | exact Or.inr rfl))) (fun _ _ _ _ _ => pts_nil) (fun _ _ _ _ _ => (pe_ix (ix_K K rfl) (pv 9) pe_int (fun _ _ => rfl)))) pa_nil)) pa_nil))) (pss_one (ps_fld (pv 0) (pe_callTy (call_tupK K rfl) (by rfl) T.f_tuple (by decide +kernel) (pa_cons (pe_lc (own := [("rule", 9)]) rfl sc_Charter_init.nd (pi_seqK K rfl (pv 4)) (blkOk_by (own := [("rule", 9)]) (N := ["self", "rights", "sole", "founders", "rules", "right", "founder", "person", "held", "rule"]) (sc := defScope s_Charter_init) (by decide +kernel)) (fun _ _ _ _ _ => (pg_name (i := 9) sc_Charter_init.nd rfl (by first | exact Or.inl rfl | exact Or.inr rfl))) (fun _ _ _ _ _ => pts_nil) (fun _ _ _ _ _ => (pe_meth (pv 0) T.cl_Charter G_Charter_checked.m F_Charter_checked (hr.mono (by decide)) b_Charter_checked .nil pass0 (pa_cons (pv 9) pa_nil)))) pa_nil)) rfl))))))))))), fun ds fs a h => ?_⟩, kb_all F 1 _ fun _ _ _ _ _ _ us ws hl hw => match us, hl, ws, hw with | [_], _, [_, _, _, _], _ => rfl⟩⟩
  · obtain ⟨_, rfl, _⟩ := h
    rfl
  · obtain ⟨p, rfl, W, rfl⟩ := h
    have r1 := W.r1
    have r6 := W.r6
    have f5 := W.f5
    have u12 := W.u12
    have so := ord_len W.so
    refine wp_seq (wp_drop (ev_call (ea_cons (ev_is (ev_and (ev_chain ev_int (ev_cb (ea_cons (ev_var rfl) ea_nil) rc_lenL) (rv_B0 (g := fun i j => decide (i ≤ j))) (fun _ => ev_int) (fun _ => rv_B0 (g := fun i j => decide (i ≤ j)))) fun _ => ev_call (ea_cons (ev_var rfl) ea_nil) ⟨p.rights, .inl rfl, W.rn, by omega, rfl⟩) ?_) ea_nil) ⟨rfl, rfl⟩) ?_)
    · have e1 : decide ((1 : Int) ≤ ((p.rights.map Da.str).length : Nat)) = true := decide_eq_true (by rw [List.length_map]; omega)
      have e2 : decide ((((p.rights.map Da.str).length : Nat) : Int) ≤ 6) = true := decide_eq_true (by rw [List.length_map]; omega)
      rw [e1, e2]; rfl
    refine wp_seq (wp_drop (ev_call (ea_cons (ev_is (ev_cb (ea_cons (ev_lcA .str p.rights (it_seqL (ev_var rfl)) (by omega) (fun _ => .bl true) (by simp) fun i r hr => ev_call (ea_cons (ev_var rfl) ea_nil) ⟨r, rfl, W.rN r (List.mem_of_getElem? hr), rfl⟩) ea_nil) rc_allM) (by simp)) ea_nil) ⟨rfl, rfl⟩) ?_)
    refine wp_seq (wp_fldN rfl (ev_cb (ea_cons (ev_var rfl) ea_nil) rc_tupL) T.cl_Charter T.na_Charter_rights (by simp) rfl ?_)
    refine wp_seq (wp_fldN rfl (ev_frz (ev_meth (ev_var rfl) rfl (ea_cons (ev_var rfl) ea_nil) ⟨_, p.rights, p.sole, .inl rfl, rfl, W.so, r6, by omega, rfl⟩) (thin_strs _)) T.cl_Charter T.na_Charter_sole (by simp) rfl ?_)
    refine wp_seq (wp_drop (ev_call (ea_cons (ev_is (ev_and (ev_op (ev_cb (ea_cons (ev_var rfl) ea_nil) rc_lenL) ev_int (rv_B0 (g := fun i j => decide (i ≤ j)))) fun _ => ev_call (ea_cons (ev_is (ev_lcA fD p.founders (it_seqL (ev_var rfl)) (by omega) (fun f => .str f.1) (by simp) fun i f _ => ev_op (ev_var rfl) ev_int (rv_ixT at0)) (congrArg Da.lst (by rw [List.map_map]; rfl))) ea_nil) ⟨p.founders.map (·.1), .inl rfl, W.fn, by rw [List.length_map]; omega, rfl⟩) ?_) ea_nil) ⟨rfl, rfl⟩) ?_)
    · have e1 : decide ((((p.founders.map fD).length : Nat) : Int) ≤ 5) = true := decide_eq_true (by rw [List.length_map]; omega)
      rw [e1]; rfl
    refine wp_seq (wp_fldN rfl (d := .tup (p.founders.map fD)) (ev_frz (ev_is (ev_cb (ea_cons (ev_lcM fD p.founders (js := [7, 8]) (it_seqL (ev_var rfl)) (by omega) (fun _ => true) fD (by simp) fun i f hf => tg_tup2 ⟨et_yes, fun _ => ev_tup (ea_cons (ev_var rfl) (ea_cons (ev_meth (ev_var rfl) rfl (ea_cons (ev_var rfl) ea_nil) ⟨_, p.rights, f.2, .inr rfl, rfl, W.fo f (List.mem_of_getElem? hf), r6, by have := ord_len (W.fo f (List.mem_of_getElem? hf)); omega, rfl⟩) ea_nil)) (by simp)⟩) ea_nil) rc_tupL) (congrArg Da.tup (congrArg (List.map fD) (List.filter_eq_self.mpr fun _ _ => rfl)))) (thin_map fD _ thin_fD)) T.cl_Charter T.na_Charter_founders (by simp) rfl ?_)
    refine wp_seq (wp_drop (ev_frz (ev_meth (ev_var rfl) rfl ea_nil ⟨_, p.sole, p.founders, rfl, rfl, rfl, W.fN, W.fs, by omega, rfl⟩) (Thin.flat rfl)) ?_)
    refine wp_seq (wp_drop (ev_call (ea_cons (ev_is (ev_and (ev_op (ev_cb (ea_cons (ev_var rfl) ea_nil) rc_lenL) ev_int (rv_B0 (g := fun i j => decide (i ≤ j)))) fun _ => ev_cb (ea_cons (ev_lcA Rl.da p.rules (it_seqL (ev_var rfl)) (by omega) (fun _ => .bl true) (by simp) fun i u _ => ?_) ea_nil) rc_allM) ?_) ea_nil) ⟨rfl, rfl⟩) ?_)
    · cases u with
      | join n rs => exact ev_op (ev_cb (ea_cons (ev_var rfl) ea_nil) rc_lenT) ev_int (rv_B0 (g := fun i j => decide (i > j)))
      | solo k n a b r => exact ev_op (ev_cb (ea_cons (ev_var rfl) ea_nil) rc_lenT) ev_int (rv_B0 (g := fun i j => decide (i > j)))
      | duo k n a b c r => exact ev_op (ev_cb (ea_cons (ev_var rfl) ea_nil) rc_lenT) ev_int (rv_B0 (g := fun i j => decide (i > j)))
    · have e1 : decide ((((p.rules.map Rl.da).length : Nat) : Int) ≤ 12) = true := decide_eq_true (by rw [List.length_map]; omega)
      rw [e1]; simp
    refine wp_seq (wp_drop (ev_call (ea_cons (ev_call (ea_cons (ev_is (ev_lcA Rl.da p.rules (it_seqL (ev_var rfl)) (by omega) (fun u => .str u.name) (by simp) fun i u _ => rl_name rfl) (congrArg Da.lst (by rw [List.map_map]; rfl))) ea_nil) ⟨p.rules.map Rl.name, .inl rfl, W.un, by rw [List.length_map]; omega, rfl⟩) ea_nil) ⟨rfl, rfl⟩) ?_)
    exact wp_fldN rfl (d := .tup (p.rules.map Rl.da)) (ev_frz (ev_cb (ea_cons (ev_lcA Rl.da p.rules (it_seqL (ev_var rfl)) (by omega) Rl.da (by simp) fun i u hu => ev_meth (ev_var rfl) rfl (ea_cons (ev_var rfl) ea_nil) ⟨p.rights, p.sole, p.founders, u, rfl, r6, by omega, W.uw u (List.mem_of_getElem? hu), rfl⟩) ea_nil) rc_tupL) (thin_map Rl.da _ thin_da)) T.cl_Charter T.na_Charter_rules (by simp) rfl rfl
end
end WM

/-! ## W5 -/
set_option maxHeartbeats 4000000
namespace WM
open PySem PySem.Spec PyProof.Rows L2
/-- a demand -/
structure Dem where
  who : Option Str
  has : SL
  no : SL
def optD : Option Str → Da
  | none => .non
  | some s => .str s
abbrev Dem.da (d : Dem) : Da := .tup [optD d.who, strsT d.has, strsT d.no]
structure GoalOk (p : Parts) (g : List Dem) : Prop where
  g1 : 1 ≤ g.length
  g3 : g.length ≤ 3
  fo : ∀ d ∈ g, ∀ n, d.who = some n → ∃ u, p.founders.find? (fun v => decide (v.1 = n)) = some u
  rt : ∀ d ∈ g, ∀ r ∈ d.has ++ d.no, r ∈ p.rights
  nd : ∀ d ∈ g, (d.has ++ d.no).Nodup
  ln : ∀ d ∈ g, (d.has ++ d.no).length ≤ 1000
  nm : (g.filterMap Dem.who).Nodup
section
variable {P : Program} {w : World} {K : PySem.W.Frag} {mg : Str → Option Value} {base : Heap}
theorem ev_prop {R : List Da → Da → Prop} {C : Addr} {fs : List (Str × Da)} {E : XK} {te : TE} {Γ : List Sl} {d : Da} (h : Ev K te Γ (.ins C fs)) (hr : R [.ins C fs] d) : Ev K (tProp C (spP K R) [] E te) Γ d := fun H0 B H σ e Q q =>
  h H0 B H σ e _ fun v B1 H1 s1 h1 => by
    obtain ⟨a, dx, vs, rfl, ha, r⟩ := h1.ins_inv
    exact ⟨a, dx, vs, rfl, s1.bh _ _ ha, B1, [.ins C fs], d, s1.bh, .cons h1 .nil, hr, fun v B2 H2 s2 h2 => q v B2 H2 (s1.trans s2) h2⟩
/-! check_trusted -/
def R_trusted (K : PySem.W.Frag) : List Da → Da → Prop := fun ds d => ∃ (p : Parts) (tr : SL), (ds = [.ins (CC K) (chF p), strsL tr] ∨ ds = [.ins (CC K) (chF p), strsT tr]) ∧ (∀ t ∈ tr, ∃ u, p.founders.find? (fun v => decide (v.1 = t)) = some u) ∧ d = .non
theorem ok_check_trusted (T : Txt w K mg) (G_Charter_founder : CalM P w K mg base (CC K) "founder" (aM K "Charter" "founder") 1 ["self", "person"] (spP K (R_founder K))) :
    Cal P w K mg base "check_trusted" (He.ga K "check_trusted") 2 ["charter", "trusted"] (spP K (R_trusted K)) := by
  obtain ⟨fd, F⟩ := T.d_check_trusted
  obtain ⟨fd1, F_Charter_founder, b_Charter_founder⟩ := G_Charter_founder.ex
  refine ⟨⟨fd, fn_pure F sc_check_trusted (fun ds d h => ?_) fun cdv A outer s H E hr => ⟨_, (pss_one (ps_for PassesOwn.never rfl (pi_seqK K rfl (pv 1)) (pg_name (i := 2) sc_check_trusted.nd rfl (by first | exact Or.inl rfl | exact Or.inr rfl)) (pss_one (ps_expr (pe_meth (pv 0) T.cl_Charter G_Charter_founder.m F_Charter_founder (hr.mono (by decide)) b_Charter_founder .nil pass0 (pa_cons (pv 2) pa_nil)))))), fun ds d h => ?_⟩, F.bindsN fun _ _ _ _ _ _ us hl => match us, hl with | [_, _], _ => rfl⟩, T.m_check_trusted, F.kp⟩
  · obtain ⟨_, _, rfl | rfl, _⟩ := h <;> rfl
  · obtain ⟨p, tr, hd, ht, rfl⟩ := h
    obtain ⟨x, rfl, hx⟩ : ∃ x, ds = [.ins (CC K) (chF p), x] ∧ (x = strsL tr ∨ x = strsT tr) := by rcases hd with rfl | rfl <;> exact ⟨_, rfl, by simp⟩
    have it : ItD K (iSeq K (tVar 1)) (args ["charter", "trusted", "name"] [.ins (CC K) (chF p), x]) (tr.map .str) := by
      rcases hx with rfl | rfl
      · exact it_seqL (ev_var rfl)
      · exact it_seqT (ev_var rfl)
    refine wp_for (js := [2]) it (fun _ Γ => ∃ a, Γ = [.dat (.ins (CC K) (chF p)), .dat x, a]) ⟨_, rfl⟩ (fun i y Γ hy hΓ => ?_) fun Γ hΓ => rfl
    obtain ⟨a, rfl⟩ := hΓ
    obtain ⟨z, hz, rfl⟩ := take_map hy
    obtain ⟨u, hu⟩ := ht z (List.mem_of_getElem? hz)
    exact tg_name (wp_drop (ev_meth (ev_var rfl) rfl (ea_cons (ev_var rfl) ea_nil) ⟨_, p.founders, z, u, rfl, rfl, hu, rfl⟩) ⟨_, rfl⟩)
/-! check_goal -/
def R_goal (K : PySem.W.Frag) : List Da → Da → Prop := fun ds d => ∃ (p : Parts) (g : List Dem), ds = [.ins (CC K) (chF p), .lst (g.map Dem.da)] ∧ GoalOk p g ∧ p.rights.length ≤ 6 ∧ d = .non
theorem named_is (g : List Dem) : ((g.filter fun d => !isNon (optD d.who)).map fun d => optD d.who) = (g.filterMap Dem.who).map Da.str := by
  induction g with
  | nil => rfl
  | cons d g ih =>
    obtain ⟨who, has, no⟩ := d
    cases who with
    | none => simpa [List.filter_cons, isNon, optD] using ih
    | some s => simpa [List.filter_cons, isNon, optD] using ih
theorem ok_check_goal (T : Txt w K mg) (G_Charter_founder : CalM P w K mg base (CC K) "founder" (aM K "Charter" "founder") 1 ["self", "person"] (spP K (R_founder K)))
    (G_Charter_ordered : CalM P w K mg base (CC K) "ordered" (aM K "Charter" "ordered") 1 ["self", "words"] (spP K (R_ordered K))) :
    Cal P w K mg base "check_goal" (He.ga K "check_goal") 2 ["charter", "goal"] (spP K (R_goal K)) := by
  obtain ⟨fd, F⟩ := T.d_check_goal
  obtain ⟨fd1, F_Charter_founder, b_Charter_founder⟩ := G_Charter_founder.ex
  obtain ⟨fd2, F_Charter_ordered, b_Charter_ordered⟩ := G_Charter_ordered.ex
  refine ⟨⟨fd, fn_pure F sc_check_goal (fun ds d h => ?_) fun cdv A outer s H E hr => ⟨_, (pss_cons (ps_for PassesOwn.never rfl (pi_seqK K rfl (pv 1)) (pg_tupK (n := 3) K rfl rfl (pgs_cons (pg_name (i := 2) sc_check_goal.nd rfl (by first | exact Or.inl rfl | exact Or.inr rfl)) (pgs_cons (pg_name (i := 3) sc_check_goal.nd rfl (by first | exact Or.inl rfl | exact Or.inr rfl)) (pgs_cons (pg_name (i := 4) sc_check_goal.nd rfl (by first | exact Or.inl rfl | exact Or.inr rfl)) pgs_nil)))) (pss_cons (ps_if (pt_cmpR op_notN1 (pv 2) pe_non (nomark _)) (pss_one (ps_expr (pe_meth (pv 0) T.cl_Charter G_Charter_founder.m F_Charter_founder (hr.mono (by decide)) b_Charter_founder .nil pass0 (pa_cons (pv 2) pa_nil)))) pss_nil) (pss_one (ps_expr (pe_meth (pv 0) T.cl_Charter G_Charter_ordered.m F_Charter_ordered (hr.mono (by decide)) b_Charter_ordered .nil pass0 (pa_cons (pe_op (op_addK K rfl) (pe_callTy (call_lstK K rfl) (by rfl) T.f_list (by decide +kernel) (pa_cons (pv 3) pa_nil)) (pe_callTy (call_lstK K rfl) (by rfl) T.f_list (by decide +kernel) (pa_cons (pv 4) pa_nil))) pa_nil)))))) (pss_cons (ps_if (pt_not (pt_chain op_le op_le pe_int (pe_callB (call_lenK K rfl) (by rfl) T.f_len (by decide +kernel) (pa_cons (pv 1) pa_nil)) (pe_glob rfl T.g_MOST_DEMANDS.choose_spec.1 T.g_MOST_DEMANDS.choose_spec.2))) (pss_one ps_never) pss_nil) (pss_cons (ps_setLc (i := 5) (own := [("person", 2), ("_", 6)]) rfl sc_check_goal.nd rfl rfl (sw_true rfl rfl rfl (by decide +kernel)) (pi_seqK K rfl (pv 1)) (blkOk_by (own := [("person", 2), ("_", 6)]) (N := ["charter", "goal", "person", "holds", "lacks", "named", "_", "asked"]) (sc := defScope s_check_goal) (by decide +kernel)) (fun _ _ _ _ _ => (pg_tupK (n := 3) K rfl rfl (pgs_cons (pg_name (i := 2) sc_check_goal.nd rfl (by first | exact Or.inl rfl | exact Or.inr rfl)) (pgs_cons (pg_name (i := 6) sc_check_goal.nd rfl (by first | exact Or.inl rfl | exact Or.inr rfl)) (pgs_cons (pg_name (i := 6) sc_check_goal.nd rfl (by first | exact Or.inl rfl | exact Or.inr rfl)) pgs_nil))))) (fun _ _ _ _ _ => (pts_one (pt_cmpR op_notN1 (pv 2) pe_non (nomark _)))) (fun _ _ _ _ _ => (pv 2))) (pss_cons (ps_if (pt_cmpR op_lt (pe_lenSetK K rfl rfl T.f_len rfl T.f_set (pv 5)) (pe_callB (call_lenK K rfl) (by rfl) T.f_len (by decide +kernel) (pa_cons (pv 5) pa_nil)) (nomark _)) (pss_one ps_never) pss_nil) (pss_one (ps_for PassesOwn.never rfl (pi_seqK K rfl (pv 1)) (pg_tupK (n := 3) K rfl rfl (pgs_cons (pg_name (i := 6) sc_check_goal.nd rfl (by first | exact Or.inl rfl | exact Or.inr rfl)) (pgs_cons (pg_name (i := 3) sc_check_goal.nd rfl (by first | exact Or.inl rfl | exact Or.inr rfl)) (pgs_cons (pg_name (i := 4) sc_check_goal.nd rfl (by first | exact Or.inl rfl | exact Or.inr rfl)) pgs_nil)))) (pss_cons (ps_set (i := 7) sc_check_goal.nd rfl (by first | exact Or.inl rfl | exact Or.inr rfl) (pe_op (op_addK K rfl) (pe_callTy (call_lstK K rfl) (by rfl) T.f_list (by decide +kernel) (pa_cons (pv 3) pa_nil)) (pe_callTy (call_lstK K rfl) (by rfl) T.f_list (by decide +kernel) (pa_cons (pv 4) pa_nil)))) (pss_one (ps_if (pt_cmpR op_lt (pe_lenSetK K rfl rfl T.f_len rfl T.f_set (pv 7)) (pe_callB (call_lenK K rfl) (by rfl) T.f_len (by decide +kernel) (pa_cons (pv 7) pa_nil)) (nomark _)) (pss_one ps_never) pss_nil))))))))), fun ds d h => ?_⟩, F.bindsN fun _ _ _ _ _ _ us hl => match us, hl with | [_, _], _ => rfl⟩, T.m_check_goal, F.kp⟩
  · obtain ⟨_, _, rfl, _⟩ := h
    rfl
  · obtain ⟨p, g, rfl, W, h6, rfl⟩ := h
    have g1 := W.g1
    have g3 := W.g3
    refine wp_seq (wp_for (js := [2, 3, 4]) (xs := g.map Dem.da) (it_seqL (ev_var rfl)) (fun _ Γ => ∃ a b c, Γ = [.dat (.ins (CC K) (chF p)), .dat (.lst (g.map Dem.da)), a, b, c, .un, .un, .un]) ⟨_, _, _, rfl⟩ (fun i y Γ hy hΓ => ?_) fun Γ hΓ => ?_)
    · obtain ⟨a, b, c, rfl⟩ := hΓ
      obtain ⟨z, hz, rfl⟩ := take_map hy
      have hm := List.mem_of_getElem? hz
      have hln := W.ln z hm
      rw [List.length_append] at hln
      refine tg_tup3 (wp_seq (wp_if (et_test (ev_op (ev_var rfl) ev_non rv_notN)) (fun hb => ?_) fun _ => wp_next ?_))
      · obtain ⟨who, has, no⟩ := z
        cases who with
        | none => cases hb
        | some n =>
          obtain ⟨u, hu⟩ := W.fo _ hm n rfl
          refine wp_drop (ev_meth (ev_var rfl) rfl (ea_cons (ev_var rfl) ea_nil) ⟨_, p.founders, n, u, rfl, rfl, hu, rfl⟩) ?_
          exact wp_drop (ev_meth (ev_var rfl) rfl (ea_cons (ev_is (ev_op (eo_lstT (ea_cons (ev_var rfl) ea_nil)).ev (eo_lstT (ea_cons (ev_var rfl) ea_nil)).ev (rv_addL (by simp only [List.length_map] at *; omega))) (by rw [← List.map_append])) ea_nil) ⟨_, p.rights, has ++ no, .inl rfl, rfl, W.rt _ hm, h6, rfl⟩) ⟨_, _, _, rfl⟩
      · exact wp_drop (ev_meth (ev_var rfl) rfl (ea_cons (ev_is (ev_op (eo_lstT (ea_cons (ev_var rfl) ea_nil)).ev (eo_lstT (ea_cons (ev_var rfl) ea_nil)).ev (rv_addL (by simp only [List.length_map] at *; omega))) (by rw [← List.map_append])) ea_nil) ⟨_, p.rights, z.has ++ z.no, .inl rfl, rfl, W.rt _ hm, h6, rfl⟩) ⟨_, _, _, rfl⟩
    · obtain ⟨a, b, c, rfl⟩ := hΓ
      refine wp_seq (wp_if (b := false) (evt_is (et_not (et_test (ev_chain ev_int (ev_cb (ea_cons (ev_var rfl) ea_nil) rc_lenL) (rv_B0 (g := fun i j => decide (i ≤ j))) (fun _ => ev_int) (fun _ => rv_B0 (g := fun i j => decide (i ≤ j)))))) ?_) (fun h => by cases h) fun _ => wp_next ?_)
      · have e1 : decide ((1 : Int) ≤ ((g.map Dem.da).length : Nat)) = true := decide_eq_true (by rw [List.length_map]; omega)
        have e2 : decide ((((g.map Dem.da).length : Nat) : Int) ≤ 3) = true := decide_eq_true (by rw [List.length_map]; omega)
        rw [e1, e2]; rfl
      refine wp_seq (wp_asg (d := strsL (g.filterMap Dem.who)) (ev_is (ev_lcM Dem.da g (js := [2, 6, 6]) (it_seqL (ev_var rfl)) (by omega) (fun d => !isNon (optD d.who)) (fun d => optD d.who) (by simp) fun i d _ => tg_tup3 ⟨et_test (ev_op (ev_var rfl) ev_non rv_notN), fun _ => ev_var rfl⟩) (congrArg Da.lst (named_is g))) ?_)
      have hfl : (g.filterMap Dem.who).length ≤ 1000 := by
        have := List.length_filterMap_le Dem.who g
        omega
      refine wp_seq (wp_if (b := false) (evt_is (et_test (ev_op (ev_lenSet (ev_var rfl) W.nm hfl) (ev_cb (ea_cons (ev_var rfl) ea_nil) rc_lenL) (rv_B0 (g := fun i j => decide (i < j))))) ?_) (fun h => by cases h) fun _ => wp_next ?_)
      · exact decide_eq_false (by rw [List.length_map]; omega)
      refine wp_for (js := [6, 3, 4]) (xs := g.map Dem.da) (it_seqL (ev_var rfl)) (fun _ Γ => ∃ z a b c d, Γ = [.dat (.ins (CC K) (chF p)), .dat (.lst (g.map Dem.da)), z, a, b, .dat (strsL (g.filterMap Dem.who)), c, d]) ⟨_, _, _, _, _, rfl⟩ (fun i y Γ hy hΓ => ?_) fun Γ hΓ => rfl
      obtain ⟨e, a, b, c, d, rfl⟩ := hΓ
      obtain ⟨z, hz, rfl⟩ := take_map hy
      have hm := List.mem_of_getElem? hz
      have hln := W.ln z hm
      have hln2 := hln
      rw [List.length_append] at hln2
      refine tg_tup3 (wp_seq (wp_asg (d := strsL (z.has ++ z.no)) (ev_is (ev_op (eo_lstT (ea_cons (ev_var rfl) ea_nil)).ev (eo_lstT (ea_cons (ev_var rfl) ea_nil)).ev (rv_addL (by simp only [List.length_map] at *; omega))) (by rw [← List.map_append])) ?_))
      exact wp_if (b := false) (evt_is (et_test (ev_op (ev_lenSet (ev_var rfl) (W.nd z hm) hln) (ev_cb (ea_cons (ev_var rfl) ea_nil) rc_lenL) (rv_B0 (g := fun i j => decide (i < j))))) (decide_eq_false (by rw [List.length_map]; omega))) (fun h => by cases h) fun _ => wp_next ⟨_, _, _, _, _, rfl⟩
theorem putD_len {f : Str} {d : Da} : ∀ fs : List (Str × Da), (putD f d fs).length ≤ fs.length + 1
  | [] => Nat.le_refl _
  | (g, e) :: r => by
    show (if g = f then _ else _ : List (Str × Da)).length ≤ _
    by_cases c : g = f
    · rw [if_pos c]; simp
    · rw [if_neg c]
      have := putD_len (f := f) (d := d) r
      simp only [List.length_cons]
      omega
/-! Organisation -/
abbrev OC (K : PySem.W.Frag) : Addr := He.ga K "Organisation"
abbrev Ppl := List (Str × SL)
abbrev heldD (q : Ppl) : Da := .dic (q.map fun v => (v.1, strsT v.2))
abbrev orF (K : PySem.W.Frag) (p : Parts) (tr : SL) (n : Int) (q : Ppl) : List (Str × Da) := [("charter", .ins (CC K) (chF p)), ("trusted", strsT tr), ("count", .int n), ("_held", heldD q)]
abbrev orD (K : PySem.W.Frag) (p : Parts) (tr : SL) (n : Int) (q : Ppl) : Da := .ins (OC K) (orF K p tr n q)
theorem held_get (q : Ppl) (k : Str) : (q.map fun v => (v.1, strsT v.2)).lookup k = (q.lookup k).map fun l => strsT l := by
  induction q with
  | nil => rfl
  | cons v q ih =>
    obtain ⟨x, l⟩ := v
    rw [List.map_cons, List.lookup_cons, List.lookup_cons]
    cases k == x with
    | true => rfl
    | false => exact ih
theorem held_is (q : Ppl) (k : Str) : ((q.map fun v => (v.1, strsT v.2)).lookup k).isSome = (q.lookup k).isSome := by
  rw [held_get, Option.isSome_map]
def FoundBy (p : Parts) (tr : SL) : Prop := ∀ t ∈ tr, ∃ u, p.founders.find? (fun v => decide (v.1 = t)) = some u
def R_Oinit (K : PySem.W.Frag) : List Da → List (Str × Da) → Prop := fun ds fs => ∃ (p : Parts) (tr : SL), (ds = [.ins (CC K) (chF p), strsL tr] ∨ ds = [.ins (CC K) (chF p), strsT tr]) ∧ FoundBy p tr ∧ p.founders.length ≤ 5 ∧ (p.founders.map (·.1)).Nodup ∧ fs = orF K p tr 0 p.founders
theorem ok_Oinit (T : Txt w K mg) (G_check_trusted : Cal P w K mg base "check_trusted" (He.ga K "check_trusted") 2 ["charter", "trusted"] (spP K (R_trusted K))) :
    CalI P w K mg base (OC K) (aM K "Organisation" "__init__") 3 ["self", "charter", "trusted"] 2 ["trusted"] (spI K (OC K) (R_Oinit K)) := by
  obtain ⟨fd, F⟩ := T.d_Organisation_init
  obtain ⟨fd1, F_check_trusted, b_check_trusted⟩ := G_check_trusted.ex
  refine ⟨⟨fd, fn_init F sc_Organisation_init (fun ds d h => ?_) (by simp) fun cdv A outer s H E hr => ⟨_, (pss_cons (ps_expr (pe_call F_check_trusted (hr.mono (by decide)) rfl G_check_trusted.m G_check_trusted.kp b_check_trusted .nil pass0 (pa_cons (pv 1) (pa_cons (pv 2) pa_nil)))) (pss_cons (ps_fld (pv 0) (pv 1) rfl) (pss_cons (ps_fld (pv 0) (pe_callTy (call_tupK K rfl) (by rfl) T.f_tuple (by decide +kernel) (pa_cons (pv 2) pa_nil)) rfl) (pss_cons (ps_fld (pv 0) pe_int rfl) (pss_one (ps_fld (pv 0) (pe_dc (own := [("person", 3), ("held", 4)]) rfl sc_Organisation_init.nd (pi_seqK K rfl (pe_fldK K rfl (pv 1) rfl)) (blkOk_by (own := [("person", 3), ("held", 4)]) (N := ["self", "charter", "trusted", "person", "held"]) (sc := defScope s_Organisation_init) (by decide +kernel)) (fun _ _ _ _ _ => (pg_tupK (n := 2) K rfl rfl (pgs_cons (pg_name (i := 3) sc_Organisation_init.nd rfl (by first | exact Or.inl rfl | exact Or.inr rfl)) (pgs_cons (pg_name (i := 4) sc_Organisation_init.nd rfl (by first | exact Or.inl rfl | exact Or.inr rfl)) pgs_nil)))) (fun _ _ _ _ _ => pts_nil) (fun _ _ _ _ _ => (pv 3)) (fun _ _ _ _ _ => (pv 4))) rfl)))))), fun ds fs a h => ?_⟩, kb_all F 2 _ fun _ _ _ _ _ _ us ws hl hw => match us, hl, ws, hw with | [_, _], _, [_], _ => rfl⟩⟩
  · obtain ⟨_, _, rfl | rfl, _⟩ := h <;> rfl
  · obtain ⟨p, tr, hd, hf, hl, hn, rfl⟩ := h
    obtain ⟨x, rfl, hx⟩ : ∃ x, ds = [.ins (CC K) (chF p), x] ∧ (x = strsL tr ∨ x = strsT tr) := by rcases hd with rfl | rfl <;> exact ⟨_, rfl, by simp⟩
    have tp : ∀ Γ : List Sl, Γ[2]? = some (.dat x) → Ev K (tCB (rTupG K) (tCons (tVar 2) tNil)) Γ (strsT tr) := fun Γ e => by
      rcases hx with rfl | rfl
      · exact ev_cb (ea_cons (ev_var e) ea_nil) rc_tupL
      · exact ev_cb (ea_cons (ev_var e) ea_nil) rc_tupT
    refine wp_seq (wp_drop (ev_call (ea_cons (ev_var rfl) (ea_cons (ev_var rfl) ea_nil)) ⟨p, tr, by rcases hx with rfl | rfl <;> simp, hf, rfl⟩) ?_)
    refine wp_seq (wp_fldN rfl (ev_var rfl) T.cl_Organisation T.na_Organisation_charter (by simp) rfl ?_)
    refine wp_seq (wp_fldN rfl (tp _ rfl) T.cl_Organisation T.na_Organisation_trusted (by simp) rfl ?_)
    refine wp_seq (wp_fldN rfl ev_int T.cl_Organisation T.na_Organisation_count (by simp) rfl ?_)
    refine wp_fldN rfl (d := heldD p.founders) (ev_is (ev_dc (js := [3, 4]) (xs := p.founders.map fD) (it_seqT (ev_fld (ev_var rfl) T.cl_Charter T.na_Charter_founders rfl)) (by rw [List.length_map]; omega)
      (fun d => match d with | .tup (.str s :: _) => s | _ => "") (fun d => match d with | .tup (_ :: l :: _) => l | _ => .non) ?_ (by simp) fun i y hy => ?_) ?_) T.cl_Organisation T.na_Organisation__held (by simp) rfl rfl
    · rw [List.map_map]
      exact hn
    · obtain ⟨z, hz, rfl⟩ := take_map hy
      exact tg_tup2 ⟨et_yes, ev_var rfl, ev_var rfl⟩
    · exact congrArg Da.dic (by rw [List.map_map]; rfl)
/-! holds, copy, may_act -/
def R_holds (K : PySem.W.Frag) : List Da → Da → Prop := fun ds d => ∃ (p : Parts) (tr : SL) (n : Int) (q : Ppl) (x : Str) (l : SL), ds = [orD K p tr n q, .str x] ∧ q.lookup x = some l ∧ d = strsT l
theorem ok_holds (T : Txt w K mg) : CalM P w K mg base (OC K) "holds" (aM K "Organisation" "holds") 1 ["self", "person"] (spP K (R_holds K)) := by
  obtain ⟨fd, F⟩ := T.d_Organisation_holds
  refine ⟨⟨fd, fn_pure F sc_Organisation_holds (fun ds d h => ?_) fun cdv A outer s H E hr => ⟨_, (pss_cons (ps_if (pt_cmp (pc_dnotin (hu_of hr) (pv 1) (pe_fldK K rfl (pv 0) rfl))) (pss_one ps_never) pss_nil) (pss_one (ps_ret (pe_dget (hu_of hr) (pe_fldK K rfl (pv 0) rfl) (pv 1) (fun _ _ => rfl))))), fun ds d h => ?_⟩, F.bindsN fun _ _ _ _ _ _ us hl => match us, hl with | [_, _], _ => rfl⟩, T.cl_Organisation, T.mt_Organisation_holds⟩
  · obtain ⟨_, _, _, _, _, _, rfl, _⟩ := h
    rfl
  · obtain ⟨p, tr, n, q, x, l, rfl, hq, rfl⟩ := h
    refine wp_seq (wp_if (b := false) (evt_is (et_test (ev_dnin (ev_fld (ev_var rfl) T.cl_Organisation T.na_Organisation__held rfl) (ev_var rfl))) ?_) (fun h => by cases h) fun _ => wp_next ?_)
    · rw [held_is, hq]; rfl
    · exact wp_ret (ev_dget (ev_fld (ev_var rfl) T.cl_Organisation T.na_Organisation__held rfl) (ev_var rfl) (by rw [held_get, hq]; rfl)) rfl
def R_copy (K : PySem.W.Frag) : List Da → Da → Prop := fun ds d => ∃ (p : Parts) (tr : SL) (n : Int) (q : Ppl), ds = [orD K p tr n q] ∧ FoundBy p tr ∧ p.founders.length ≤ 5 ∧ (p.founders.map (·.1)).Nodup ∧ d = orD K p tr n q
theorem ok_copy (T : Txt w K mg) (G_Organisation_init : CalI P w K mg base (OC K) (aM K "Organisation" "__init__") 3 ["self", "charter", "trusted"] 2 ["trusted"] (spI K (OC K) (R_Oinit K))) :
    CalM P w K mg base (OC K) "copy" (aM K "Organisation" "copy") 5 ["self"] (spP K (R_copy K)) := by
  obtain ⟨fd, F⟩ := T.d_Organisation_copy
  obtain ⟨fd1, F_Organisation_init, kb_Organisation⟩ := G_Organisation_init.ex
  refine ⟨⟨fd, fn_pure F sc_Organisation_copy (fun ds d h => ?_) fun cdv A outer s H E hr => ⟨_, (pss_cons (ps_set (i := 1) sc_Organisation_copy.nd rfl (by first | exact Or.inl rfl | exact Or.inr rfl) (pe_makeK T.mk_Organisation F_Organisation_init (hr.mono (by decide)) rfl T.m_Organisation kb_Organisation pass0 (pa_cons (pe_fldK K rfl (pv 0) rfl) pa_nil) (pk_cons (pe_fldK K rfl (pv 0) rfl) pk_nil))) (pss_cons (ps_fld (pv 1) (pe_fldK K rfl (pv 0) rfl) rfl) (pss_cons (ps_fld (pv 1) (pe_callTy call_dictCp (by rfl) T.f_dict (by decide +kernel) (pa_cons (pe_fldK K rfl (pv 0) rfl) pa_nil)) rfl) (pss_one (ps_ret (pv 1)))))), fun ds d h => ?_⟩, F.bindsN fun _ _ _ _ _ _ us hl => match us, hl with | [_], _ => rfl⟩, T.cl_Organisation, T.mt_Organisation_copy⟩
  · obtain ⟨_, _, _, _, rfl, _⟩ := h
    rfl
  · obtain ⟨p, tr, n, q, rfl, hf, h5, hn, rfl⟩ := h
    refine wp_seq (wp_asgI (C := OC K) (fs := orF K p tr 0 p.founders) (ei_make (ea_cons (ev_fld (ev_var rfl) T.cl_Organisation T.na_Organisation_charter rfl) ea_nil) (ea_cons (ev_fld (ev_var rfl) T.cl_Organisation T.na_Organisation_trusted rfl) ea_nil) rfl rfl ⟨p, tr, .inr rfl, hf, h5, hn, rfl⟩) fun a => ?_)
    refine wp_seq (wp_fld rfl (ev_fld (ev_var rfl) T.cl_Organisation T.na_Organisation_count rfl) T.cl_Organisation T.na_Organisation_count (by simp) ?_)
    refine wp_seq (wp_fld rfl (ev_cb (ea_cons (ev_fld (ev_var rfl) T.cl_Organisation T.na_Organisation__held rfl) ea_nil) rc_dict) T.cl_Organisation T.na_Organisation__held (by have := putD_len (f := "count") (d := .int n) (orF K p tr 0 p.founders); simp at this ⊢; omega) ?_)
    exact wp_frz (wp_ret (ev_var rfl) rfl)
def R_may (K : PySem.W.Frag) : List Da → Da → Prop := fun ds d => ∃ (p : Parts) (tr : SL) (n : Int) (q : Ppl) (x : Str), ds = [orD K p tr n q, .str x] ∧ d = .bl ((q.lookup x).isSome && !decide (x ∈ tr))
theorem ok_may (T : Txt w K mg) : CalM P w K mg base (OC K) "may_act" (aM K "Organisation" "may_act") 1 ["self", "actor"] (spP K (R_may K)) := by
  obtain ⟨fd, F⟩ := T.d_Organisation_may_act
  refine ⟨⟨fd, fn_pure F sc_Organisation_may_act (fun ds d h => ?_) fun cdv A outer s H E hr => ⟨_, (pss_one (ps_ret (pe_and (pe_cmp (pc_din (hu_of hr) (pv 1) (pe_fldK K rfl (pv 0) rfl))) (pe_one (pe_cmpR (op_niK K rfl) (pv 1) (pe_fldK K rfl (pv 0) rfl) rfl))))), fun ds d h => ?_⟩, F.bindsN fun _ _ _ _ _ _ us hl => match us, hl with | [_, _], _ => rfl⟩, T.cl_Organisation, T.mt_Organisation_may_act⟩
  · obtain ⟨_, _, _, _, _, rfl, _⟩ := h
    rfl
  · obtain ⟨p, tr, n, q, x, rfl, rfl⟩ := h
    exact wp_ret (ev_is (ev_and (ev_din (ev_fld (ev_var rfl) T.cl_Organisation T.na_Organisation__held rfl) (ev_var rfl)) fun _ => ev_op (ev_var rfl) (ev_fld (ev_var rfl) T.cl_Organisation T.na_Organisation_trusted rfl) rv_noT) (by rw [held_is])) rfl
end
end WM

/-! ## It1 -/
set_option maxHeartbeats 4000000
/-! for name, held in d.items(): the dict is locked. -/
namespace WM
open PySem PySem.Spec PyProof.Rows L2
section
variable {K : PySem.W.Frag} {Γ : List Sl} {te ta tb : TE} {t : TS} {d : Da} {E : En}
theorem lcM_core {α : Type} (enc : α → Da) (l : List α) {wi : TI} {g : TG} {js vs : List Nat} {tt : TT} {H0 B H : Hp} {σ : L2.St} (e : Env K H0 B H σ Γ)
    (hi : ∀ R : It → Hp → Prop, (∀ (J : It) (B1 H1 : Hp) (G : Hp → Prop) (Y : Nat → Hp → V → Hp → Prop), Step B H B1 H1 → Walk J (l.map enc).length G Y → (∀ H', Ex B1 H' → G H') →
      (∀ i Hc v H', i < (l.map enc).length → Y i Hc v H' → ∀ B', Ex B1 B' → Ex B' Hc → ∃ x B'', (l.map enc)[i]? = some x ∧ Step B' Hc B'' H' ∧ Is K B'' v x) → R J H1) → wi σ H R) (hz : l.length ≤ 50000) (f : α → Bool) (m : α → Da) (hj : ∀ j ∈ js, j ∈ vs)
    (hs : ∀ (i : Nat) a, l[i]? = some a → Tg K g js (wipeG Γ vs) (enc a) fun Γ2 => EvT K tt Γ2 (f a) ∧ (f a = true → Ev K te Γ2 (m a))) (Q : VK)
    (q : ∀ p us B' H', Step B H B' H' → H p = none → B' p = none → H' p = some (.lst us) → IsL K B' us ((l.filter f).map m) → Q (.ref p) H') : tLc wi g tt te vs σ H Q :=
  hi _ fun J B1 H1 G Y s1 hw hG hY => fun D hD => by
    have e1 := e.step s1
    have hlen : (l.map enc).length = l.length := List.length_map _
    refine lc_it hw (fun i H' => ∃ B' acc, Step B1 H1 B' H' ∧ B' D = none ∧ H' D = some (.lst acc) ∧ IsL K B' acc (((l.take i).filter f).map m)) ⟨B1, [], ⟨Ex.new hD, Ex.refl _, s1.bh.trans (Ex.new hD), fun _ _ w => .inr w⟩, s1.bh.free hD, upd_same, .nil⟩
      (fun i H' _ ⟨B', acc, z, _⟩ => hG H' (z.bb.trans z.bh)) (fun i v Hc H' lt ⟨B', acc, z, zb, zh, zl⟩ y => ?_) (fun H' ⟨B', acc, z, zb, zh, zl⟩ => ?_)
    · obtain ⟨x, B2, hx, s2, hv⟩ := hY i Hc v H' lt y B' z.bb z.bh
      obtain ⟨a, hxa, rfl⟩ := take_map hx
      have sz : Step B1 H1 B2 H' := z.trans s2
      have eD : Env K H0 B2 H' (wipe σ vs) (wipeG Γ vs) := ((e1.step z).step s2).wipe vs
      have n2 : B2 D = none := s2.keepN zh zb
      have h2 : H' D = some (.lst acc) := s2.hh _ _ zh
      have tk : (l.take (i + 1)) = l.take i ++ [a] := by
        rw [List.take_add_one, hxa] <;> rfl
      refine hs i a hxa H0 B2 H' (wipe σ vs) v eD hv _ fun Γ2 σ2 ⟨ht, he⟩ e2 hwp => ⟨?_, ?_⟩
      · rw [hwp vs hj]
        exact wipe_wipe σ vs
      · refine ht H0 B2 H' σ2 e2 _ fun B3 H3 s3 => ?_
        have n3 := s3.keepN h2 n2
        have h3 := s3.hh _ _ h2
        cases hf : f a with
        | true =>
          show te σ2 H3 _
          refine he hf H0 B3 H3 σ2 (e2.step s3) _ fun w B4 H4 s4 hw4 => ?_
          have n4 := s4.keepN h3 n3
          have h4 := s4.hh _ _ h3
          have s14 := (sz.trans s3).trans s4
          refine ⟨acc, h4, ?_, B4, acc ++ [w], ⟨s14.hh.mut hD, s14.bb, s14.bh.mut n4, s14.nw⟩, n4, upd_same, ?_⟩
          · have l1 := zl.length
            have l2 : ((List.take i l).filter f).length ≤ (List.take i l).length := List.length_filter_le _ _
            have l3 : (List.take i l).length ≤ l.length := by rw [List.length_take]; exact Nat.min_le_right _ _
            rw [List.length_map] at l1
            rw [l1]
            exact sz_lt (by omega)
          · rw [tk, List.filter_append, List.map_append]
            have e5 : List.map m (List.filter f [a]) = [m a] := by simp [hf]
            rw [e5]
            exact (zl.mono (s2.bb.trans (s3.bb.trans s4.bb))).append (.cons hw4 .nil)
        | false =>
          refine ⟨B3, acc, sz.trans s3, n3, h3, ?_⟩
          rw [tk, List.filter_append, List.map_append]
          have e5 : List.map m (List.filter f [a]) = [] := by simp [hf]
          rw [e5, List.append_nil]
          exact zl.mono (s2.bb.trans s3.bb)
    · rw [hlen, List.take_length] at zl
      exact q D acc B' H' (s1.trans z) (s1.hh.free hD) zb zh zl
theorem isK_at {B : Hp} : ∀ {vs : List (Key × V)} {q : List (Str × Da)} {i : Nat}, IsK K B vs q → i < q.length → ∃ k v0 z, vs[i]? = some (.inr k, v0) ∧ q[i]? = some (k, z) ∧ Is K B v0 z
  | _, _, _, .nil, h => by simp at h
  | _, _, 0, .cons h _, _ => ⟨_, _, _, rfl, rfl, h⟩
  | _, _, i + 1, .cons _ r, h => by
    obtain ⟨k, v0, z, h1, h2, h3⟩ := isK_at (i := i) r (by simpa using h)
    exact ⟨k, v0, z, by simpa using h1, by simpa using h2, h3⟩
/-- [.. for name, held in self._held.items() if ..] -/
theorem eo_items {C : Addr} {fs q : List (Str × Da)} {F : Str} {g : TG} {js vs : List Nat} {tt : TT} (h0 : Γ[0]? = some (.dat (.ins C fs))) (hc : Cls K C) (hn : NoAttr K C F) (hf : fs.lookup F = some (.dic q))
    (th : ∀ (j : Nat) s, (Γ.set 0 .un)[j]? = some s → s = .un ∨ ∃ d, s = .dat d ∧ Thin d) (tq : ∀ a ∈ q, Thin a.2) (hz : q.length ≤ 50000) (f : Str × Da → Bool) (m : Str × Da → Da) (hm : ∀ a, flatD (m a) = true) (hj : ∀ j ∈ js, j ∈ vs)
    (hs : ∀ (i : Nat) a, q[i]? = some a → Tg K g js (wipeG (Γ.set 0 .un) vs) (.tup [.str a.1, a.2]) fun Γ2 => EvT K tt Γ2 (f a) ∧ (f a = true → Ev K te Γ2 (m a))) :
    EvO K (tLockE (tLc (iItems (tFld K (tVar 0) F)) g tt te vs)) Γ ((q.filter f).map m) := fun H0 B H σ e Q qq => by
  obtain ⟨v, hv0, hv⟩ := e.dat h0
  obtain ⟨a, dx, vs', rfl, ha, r⟩ := hv.ins_inv
  obtain ⟨w, hw0, hw⟩ := r.lookup hf
  obtain ⟨dd, kvs, rfl, hd, rk⟩ := hw.dic_inv
  have hH := e.bh _ _ hd
  refine ⟨dd, .dK kvs, hH, trivial, fun od => ?_⟩
  have nt : tups B dd = none := by unfold tups; rw [hd]
  have tB : Ex (tups B) (upd (tups B) dd (.frz od (.dK kvs))) := Ex.new nt
  have tle : Ex (tups B) B := fun x o h => by obtain ⟨_, rfl, h2⟩ := tups_some h; exact h2
  have bh : Ex (upd (tups B) dd (.frz od (.dK kvs))) (upd H dd (.frz od (.dK kvs))) := fun x o h => by
    by_cases c : x = dd
    · subst c; rw [upd_same] at h ⊢; exact h
    · rw [upd_ne c] at h ⊢; exact e.bh _ _ (tle _ _ h)
  have env : Env K H0 (upd (tups B) dd (.frz od (.dK kvs))) (upd H dd (.frz od (.dK kvs))) σ (Γ.set 0 .un) := by
    refine ⟨bh, by rw [List.length_set]; exact e.len, fun j s ov hs hov => ?_, fun i j s t p hij hs ht os _ _ _ => ?_⟩
    · rcases th j s hs with rfl | ⟨d, rfl, hd2⟩
      · trivial
      · have h2 : Γ[j]? = some (.dat d) := by
          by_cases c : 0 = j
          · subst c
            rw [List.getElem?_set_self'] at hs
            rw [h0] at hs
            cases hs
          · rwa [List.getElem?_set_ne c] at hs
        obtain ⟨u, rfl, hu⟩ := e.sl j _ ov h2 hov
        exact ⟨u, rfl, (hd2 K B u hu).mono tB⟩
    · rcases th i s hs with rfl | ⟨d, rfl, _⟩ <;> cases os
  have hne : a ≠ dd := fun z => by subst z; rw [ha] at hd; cases hd
  have hat : ∀ {i : Nat}, i < q.length → ∃ k v0 z, kvs[i]? = some (.inr k, v0) ∧ q[i]? = some (k, z) ∧ Is K B v0 z := fun {i} hi => by
    exact isK_at rk hi
  refine lcM_core (fun a => .tup [.str a.1, a.2]) q env (fun R hR => ?_) hz f m hj hs _ fun p us B' H' s hp hb hv' hl => ?_
  · show tFld K (tVar 0) F σ _ _
    refine ⟨_, hv0, a, C, dx, vs', .ref dd, rfl, by rw [upd_ne hne]; exact e.bh _ _ ha, hc, hn, hw0, dd, od, kvs, rfl, upd_same, ?_⟩
    refine hR (Iti dd od kvs) _ _ _ _ (Step.refl bh) (by rw [List.length_map, ← isK_len rk]; exact walk_items) (fun H' ex => ex _ _ upd_same) fun i Hc v H' lt y B' b1 b2 => ?_
    obtain ⟨T, x, y, rfl, hT, rfl, e1, e2⟩ := y
    rw [List.length_map] at lt
    obtain ⟨k, v0, z, h1, h2, h3⟩ := hat lt
    have e3 : kvs[i]?.map (fun kv => kV kv.1) = some x := e1
    have e4 : kvs[i]?.map Prod.snd = some y := e2
    rw [h1] at e3 e4
    cases e3
    cases e4
    have hz2 := tq (k, z) (List.mem_of_getElem? h2)
    refine ⟨.tup [.str k, z], upd B' T (.tup [.str k, v0]), by rw [List.getElem?_map, h2]; rfl, Step.laid b2 hT, .tup upd_same (.cons (.str _) (.cons (((hz2 K B v0 h3).mono tB).mono (b1.trans (Ex.new (b2.free hT)))) .nil))⟩
  · have fz : H' dd = some (.frz od (.dK kvs)) := s.hh _ _ upd_same
    have pd : p ≠ dd := fun z => by subst z; rw [upd_same] at hp; cases hp
    rw [upd_ne pd] at hp
    refine ⟨fz, qq p us B (upd H' dd (.dK kvs)) ⟨fun x o h => ?_, Ex.refl _, fun x o h => ?_, fun _ _ h => .inr h⟩ hp (e.bh.free hp) (by rw [upd_ne pd]; exact hv') ?_⟩
    · by_cases c : x = dd
      · subst c; rw [hH] at h; rw [upd_same]; exact h
      · rw [upd_ne c]; exact s.hh _ _ (by rw [upd_ne c]; exact h)
    · have h2 := e.bh _ _ h
      by_cases c : x = dd
      · subst c; rw [hH] at h2; rw [upd_same]; exact h2
      · rw [upd_ne c]; exact s.hh _ _ (by rw [upd_ne c]; exact h2)
    · have fl : ((q.filter f).map m).all flatD = true := List.all_eq_true.mpr fun x hx => by
        obtain ⟨a, _, rfl⟩ := List.mem_map.mp hx
        exact hm a
      rw [hl.flat fl]
      clear hl
      generalize ((q.filter f).map m) = L at fl
      induction L with
      | nil => exact .nil
      | cons x L ih =>
        rw [List.all_cons, Bool.and_eq_true] at fl
        exact .cons (Is.sc fl.1) (ih fl.2)
end
end WM

/-! ## W6 -/
set_option maxHeartbeats 4000000
namespace WM
open PySem PySem.Spec PyProof.Rows L2
structure Act where
  name : Str
  actor : Str
  tgt : Option Str
abbrev Act.da (a : Act) : Da := .tup [.str a.name, .str a.actor, optD a.tgt]
/-- the actor (and the target) may do what the rule says -/
def CanU (tr : SL) (q : Ppl) (a : Act) : Rl → Prop
  | .join _ _ => a.tgt = none ∧ IsName a.actor ∧ q.lookup a.actor = none
  | .solo k _ x y r => a.tgt = none ∧ ∃ h, q.lookup a.actor = some h ∧ a.actor ∉ tr ∧ fitsF h x y = true ∧ decide (r ∈ h) = decide (k = "drop")
  | .duo k _ x y z r => ∃ t h o, a.tgt = some t ∧ q.lookup a.actor = some h ∧ q.lookup t = some o ∧ t ≠ a.actor ∧ a.actor ∉ tr ∧ fitsF h x [] = true ∧ fitsF o y z = true ∧ (k = "pass" → r ∈ h) ∧ decide (r ∈ o) = decide (k = "take")
def Can (p : Parts) (tr : SL) (q : Ppl) (a : Act) : Prop := ∃ u, p.rules.find? (fun v => decide (v.name = a.name)) = some u ∧ CanU tr q a u
section
variable {P : Program} {w : World} {K : PySem.W.Frag} {mg : Str → Option Value} {base : Heap}
theorem ev_held (T : Txt w K mg) {Γ : List Sl} {p : Parts} {tr : SL} {n : Int} {q : Ppl} (h : Γ[0]? = some (.dat (orD K p tr n q))) : Ev K (tFld K (tVar 0) "_held") Γ (heldD q) := ev_fld (ev_var h) T.cl_Organisation T.na_Organisation__held rfl
/-! can_alone -/
def R_alone (K : PySem.W.Frag) : List Da → Da → Prop := fun ds d => ∃ (p : Parts) (tr : SL) (n : Int) (q : Ppl) (k nm : Str) (x y : SL) (r ac : Str) (h : SL), ds = [orD K p tr n q, (Rl.solo k nm x y r).da, .str ac] ∧ q.lookup ac = some h ∧ x.length ≤ 1000 ∧ y.length ≤ 1000 ∧ d = .bl (fitsF h x y && (decide (r ∈ h) == decide (k = "drop")))
theorem ok_alone (T : Txt w K mg) (G_fits : Cal P w K mg base "fits" (He.ga K "fits") 1 ["held", "needs", "lacks"] (spP K R_fits)) :
    CalM P w K mg base (OC K) "can_alone" (aM K "Organisation" "can_alone") 2 ["self", "rule", "actor"] (spP K (R_alone K)) := by
  obtain ⟨fd, F⟩ := T.d_Organisation_can_alone
  obtain ⟨fd1, F_fits, b_fits⟩ := G_fits.ex
  refine ⟨⟨fd, fn_pure F sc_Organisation_can_alone (fun ds d h => ?_) fun cdv A outer s H E hr => ⟨_, (pss_cons (ps_set (i := 3) sc_Organisation_can_alone.nd rfl (by first | exact Or.inl rfl | exact Or.inr rfl) (pe_dget (hu_of hr) (pe_fldK K rfl (pv 0) rfl) (pv 2) (fun _ _ => rfl))) (pss_one (ps_ret (pe_and (pe_call F_fits (hr.mono (by decide)) rfl G_fits.m G_fits.kp b_fits .nil pass0 (pa_cons (pv 3) (pa_cons (pe_ix (ix_K K rfl) (pv 1) pe_int (fun _ _ => rfl)) (pa_cons (pe_ix (ix_K K rfl) (pv 1) pe_int (fun _ _ => rfl)) pa_nil)))) (pe_one (pe_cmpR op_eq (pe_cmpR (op_inK K rfl) (pe_ix (ix_K K rfl) (pv 1) pe_int (fun _ _ => rfl)) (pv 3) rfl) (pe_cmpR op_eq (pe_ix (ix_K K rfl) (pv 1) pe_int (fun _ _ => rfl)) pe_str (nomark _)) (nomark _))))))), fun ds d h => ?_⟩, F.bindsN fun _ _ _ _ _ _ us hl => match us, hl with | [_, _, _], _ => rfl⟩, T.cl_Organisation, T.mt_Organisation_can_alone⟩
  · obtain ⟨_, _, _, _, _, _, _, _, _, _, _, rfl, _⟩ := h
    rfl
  · obtain ⟨p, tr, n, q, k, nm, x, y, r, ac, hh, rfl, hq, hx, hy, rfl⟩ := h
    refine wp_seq (wp_asg (d := strsT hh) (ev_dget (ev_held T rfl) (ev_var rfl) (by rw [held_get, hq]; rfl)) ?_)
    exact wp_ret (ev_and (ev_call (ea_cons (ev_var rfl) (ea_cons (ev_op (ev_var rfl) ev_int (rv_ixT at2)) (ea_cons (ev_op (ev_var rfl) ev_int (rv_ixT at3)) ea_nil))) ⟨hh, x, y, rfl, hx, hy, rfl⟩) fun _ =>
      ev_op (ev_op (ev_op (ev_var rfl) ev_int (rv_ixT at4)) (ev_var rfl) rv_isT) (ev_op (ev_op (ev_var rfl) ev_int (rv_ixT at0)) ev_str rv_eqS) rv_eqB) rfl
/-! can_with -/
def R_with (K : PySem.W.Frag) : List Da → Da → Prop := fun ds d => ∃ (p : Parts) (tr : SL) (n : Int) (q : Ppl) (k nm : Str) (x y z : SL) (r ac tg : Str) (h o : SL), ds = [orD K p tr n q, (Rl.duo k nm x y z r).da, .str ac, .str tg] ∧ q.lookup ac = some h ∧ q.lookup tg = some o ∧ x.length ≤ 1000 ∧ y.length ≤ 1000 ∧ z.length ≤ 1000 ∧
  fitsF h x [] = true ∧ fitsF o y z = true ∧ (k = "pass" → r ∈ h) ∧ d = .bl (decide (r ∈ o) == decide (k = "take"))
theorem ok_with (T : Txt w K mg) (G_fits : Cal P w K mg base "fits" (He.ga K "fits") 1 ["held", "needs", "lacks"] (spP K R_fits)) :
    CalM P w K mg base (OC K) "can_with" (aM K "Organisation" "can_with") 2 ["self", "rule", "actor", "target"] (spP K (R_with K)) := by
  obtain ⟨fd, F⟩ := T.d_Organisation_can_with
  obtain ⟨fd1, F_fits, b_fits⟩ := G_fits.ex
  refine ⟨⟨fd, fn_pure F sc_Organisation_can_with (fun ds d h => ?_) fun cdv A outer s H E hr => ⟨_, (pss_cons (ps_set (i := 4) sc_Organisation_can_with.nd rfl (by first | exact Or.inl rfl | exact Or.inr rfl) (pe_dget (hu_of hr) (pe_fldK K rfl (pv 0) rfl) (pv 2) (fun _ _ => rfl))) (pss_cons (ps_set (i := 5) sc_Organisation_can_with.nd rfl (by first | exact Or.inl rfl | exact Or.inr rfl) (pe_dget (hu_of hr) (pe_fldK K rfl (pv 0) rfl) (pv 3) (fun _ _ => rfl))) (pss_cons (ps_if (PW.pt (pw_or (pt_not (pt_val (pe_call F_fits (hr.mono (by decide)) rfl G_fits.m G_fits.kp b_fits .nil pass0 (pa_cons (pv 4) (pa_cons (pe_ix (ix_K K rfl) (pv 1) pe_int (fun _ _ => rfl)) (pa_cons (pe_tup pa_nil) pa_nil)))))) (pw_or1 (pt_not (pt_val (pe_call F_fits (hr.mono (by decide)) rfl G_fits.m G_fits.kp b_fits .nil pass0 (pa_cons (pv 5) (pa_cons (pe_ix (ix_K K rfl) (pv 1) pe_int (fun _ _ => rfl)) (pa_cons (pe_ix (ix_K K rfl) (pv 1) pe_int (fun _ _ => rfl)) pa_nil))))))))) (pss_one (ps_ret pe_bl)) pss_nil) (pss_cons (ps_if (PW.pt (pw_and (pt_cmpR op_eq (pe_ix (ix_K K rfl) (pv 1) pe_int (fun _ _ => rfl)) pe_str (nomark _)) (pw_and1 (pt_cmpR (op_niK K rfl) (pe_ix (ix_K K rfl) (pv 1) pe_int (fun _ _ => rfl)) (pv 4) rfl)))) (pss_one (ps_ret pe_bl)) pss_nil) (pss_one (ps_ret (pe_cmpR op_eq (pe_cmpR (op_inK K rfl) (pe_ix (ix_K K rfl) (pv 1) pe_int (fun _ _ => rfl)) (pv 5) rfl) (pe_cmpR op_eq (pe_ix (ix_K K rfl) (pv 1) pe_int (fun _ _ => rfl)) pe_str (nomark _)) (nomark _)))))))), fun ds d h => ?_⟩, F.bindsN fun _ _ _ _ _ _ us hl => match us, hl with | [_, _, _, _], _ => rfl⟩, T.cl_Organisation, T.mt_Organisation_can_with⟩
  · obtain ⟨_, _, _, _, _, _, _, _, _, _, _, _, _, _, rfl, _⟩ := h
    rfl
  · obtain ⟨p, tr, n, q, k, nm, x, y, z, r, ac, tg, hh, o, rfl, hq, ho, hx, hy, hz, f1, f2, hp, rfl⟩ := h
    refine wp_seq (wp_asg (d := strsT hh) (ev_dget (ev_held T rfl) (ev_var rfl) (by rw [held_get, hq]; rfl)) ?_)
    refine wp_seq (wp_asg (d := strsT o) (ev_dget (ev_held T rfl) (ev_var rfl) (by rw [held_get, ho]; rfl)) ?_)
    refine wp_seq (wp_if (b := false) (evt_is (et_or (et_not (et_B (ev_call (ea_cons (ev_var rfl) (ea_cons (ev_op (ev_var rfl) ev_int (rv_ixT at2)) (ea_cons (ev_tup ea_nil (by simp)) ea_nil))) ⟨hh, x, [], rfl, hx, by simp, rfl⟩)))
      fun _ => et_not (et_B (ev_call (ea_cons (ev_var rfl) (ea_cons (ev_op (ev_var rfl) ev_int (rv_ixT at3)) (ea_cons (ev_op (ev_var rfl) ev_int (rv_ixT at4)) ea_nil))) ⟨o, y, z, rfl, hy, hz, rfl⟩))) (by rw [f1, f2]; rfl)) (fun h => by cases h) fun _ => wp_next ?_)
    refine wp_seq (wp_if (b := false) (evt_is (et_and (et_test (ev_op (ev_op (ev_var rfl) ev_int (rv_ixT at0)) ev_str rv_eqS)) fun _ => et_test (ev_op (ev_op (ev_var rfl) ev_int (rv_ixT at5)) (ev_var rfl) rv_noT)) ?_) (fun h => by cases h) fun _ => wp_next ?_)
    · by_cases c : k = "pass"
      · have := hp c
        simp [this]
      · rw [decide_eq_false c]; rfl
    · exact wp_ret (ev_op (ev_op (ev_op (ev_var rfl) ev_int (rv_ixT at5)) (ev_var rfl) rv_isT) (ev_op (ev_op (ev_var rfl) ev_int (rv_ixT at0)) ev_str rv_eqS) rv_eqB) rfl
/-! can_do, of what can be done -/
def R_can (K : PySem.W.Frag) : List Da → Da → Prop := fun ds d => ∃ (p : Parts) (tr : SL) (n : Int) (q : Ppl) (a : Act), ds = [orD K p tr n q, a.da] ∧ Wf p ∧ Can p tr q a ∧ d = .bl true
theorem ok_can (T : Txt w K mg) (G_is_name : Cal P w K mg base "is_name" (He.ga K "is_name") 1 ["text"] (spP K R_is_name))
    (G_rn : ∃ fd, FnOk P w K mg base CX0 1 (gRN K) fd ["self"] (spP K (R_rule_names K)) ∧ L2.Binds K fd ["self"] [])
    (G_Charter_rule : CalM P w K mg base (CC K) "rule" (aM K "Charter" "rule") 1 ["self", "name"] (spP K (R_rule K)))
    (G_Organisation_may_act : CalM P w K mg base (OC K) "may_act" (aM K "Organisation" "may_act") 1 ["self", "actor"] (spP K (R_may K)))
    (G_Organisation_can_alone : CalM P w K mg base (OC K) "can_alone" (aM K "Organisation" "can_alone") 2 ["self", "rule", "actor"] (spP K (R_alone K)))
    (G_Organisation_can_with : CalM P w K mg base (OC K) "can_with" (aM K "Organisation" "can_with") 2 ["self", "rule", "actor", "target"] (spP K (R_with K))) :
    CalM P w K mg base (OC K) "can_do" (aM K "Organisation" "can_do") 3 ["self", "action"] (spP K (R_can K)) := by
  obtain ⟨fd, F⟩ := T.d_Organisation_can_do
  obtain ⟨fd1, F_is_name, b_is_name⟩ := G_is_name.ex
  obtain ⟨fd2, F_Charter_rule_names, b_Charter_rule_names⟩ := G_rn
  obtain ⟨fd3, F_Charter_rule, b_Charter_rule⟩ := G_Charter_rule.ex
  obtain ⟨fd4, F_Organisation_may_act, b_Organisation_may_act⟩ := G_Organisation_may_act.ex
  obtain ⟨fd5, F_Organisation_can_alone, b_Organisation_can_alone⟩ := G_Organisation_can_alone.ex
  obtain ⟨fd6, F_Organisation_can_with, b_Organisation_can_with⟩ := G_Organisation_can_with.ex
  refine ⟨⟨fd, fn_pure F sc_Organisation_can_do (fun ds d h => ?_) fun cdv A outer s H E hr => ⟨_, (pss_cons (ps_asg (pv 1) (pg_tupK (n := 3) K rfl rfl (pgs_cons (pg_name (i := 2) sc_Organisation_can_do.nd rfl (by first | exact Or.inl rfl | exact Or.inr rfl)) (pgs_cons (pg_name (i := 3) sc_Organisation_can_do.nd rfl (by first | exact Or.inl rfl | exact Or.inr rfl)) (pgs_cons (pg_name (i := 4) sc_Organisation_can_do.nd rfl (by first | exact Or.inl rfl | exact Or.inr rfl)) pgs_nil))))) (pss_cons (ps_if (pt_cmpR (op_niK K rfl) (pv 2) (pe_prop (pe_fldK K rfl (pv 0) rfl) T.cl_Charter T.pr_rule_names F_Charter_rule_names (hr.mono (by decide)) b_Charter_rule_names .nil pass0 rfl) rfl) (pss_one (ps_ret pe_bl)) pss_nil) (pss_cons (ps_set (i := 5) sc_Organisation_can_do.nd rfl (by first | exact Or.inl rfl | exact Or.inr rfl) (pe_meth (pe_fldK K rfl (pv 0) rfl) T.cl_Charter G_Charter_rule.m F_Charter_rule (hr.mono (by decide)) b_Charter_rule .nil pass0 (pa_cons (pv 2) pa_nil))) (pss_cons (ps_if (pt_cmpR op_eq (pe_ix (ix_K K rfl) (pv 5) pe_int (fun _ _ => rfl)) pe_str (nomark _)) (pss_one (ps_ret (pe_and (pe_cmpR op_isN1 (pv 4) pe_non (nomark _)) (pe_and (pe_call F_is_name (hr.mono (by decide)) rfl G_is_name.m G_is_name.kp b_is_name .nil pass0 (pa_cons (pv 3) pa_nil)) (pe_one (pe_cmp (pc_dnotin (hu_of hr) (pv 3) (pe_fldK K rfl (pv 0) rfl)))))))) pss_nil) (pss_cons (ps_if (pt_not (pt_val (pe_meth (pv 0) T.cl_Organisation G_Organisation_may_act.m F_Organisation_may_act (hr.mono (by decide)) b_Organisation_may_act .nil pass0 (pa_cons (pv 3) pa_nil)))) (pss_one (ps_ret pe_bl)) pss_nil) (pss_cons (ps_if (pt_cmpR (op_inK K rfl) (pe_ix (ix_K K rfl) (pv 5) pe_int (fun _ _ => rfl)) (pe_tup (pa_cons pe_str (pa_cons pe_str pa_nil))) rfl) (pss_one (ps_ret (pe_and (pe_cmpR op_isN1 (pv 4) pe_non (nomark _)) (pe_one (pe_meth (pv 0) T.cl_Organisation G_Organisation_can_alone.m F_Organisation_can_alone (hr.mono (by decide)) b_Organisation_can_alone .nil pass0 (pa_cons (pv 5) (pa_cons (pv 3) pa_nil))))))) pss_nil) (pss_one (ps_ret (pe_and (pe_cmp (pc_din (hu_of hr) (pv 4) (pe_fldK K rfl (pv 0) rfl))) (pe_and (pe_cmpR op_ne (pv 4) (pv 3) (nomark _)) (pe_one (pe_meth (pv 0) T.cl_Organisation G_Organisation_can_with.m F_Organisation_can_with (hr.mono (by decide)) b_Organisation_can_with .nil pass0 (pa_cons (pv 5) (pa_cons (pv 3) (pa_cons (pv 4) pa_nil))))))))))))))), fun ds d h => ?_⟩, F.bindsN fun _ _ _ _ _ _ us hl => match us, hl with | [_, _], _ => rfl⟩, T.cl_Organisation, T.mt_Organisation_can_do⟩
  · obtain ⟨_, _, _, _, _, rfl, _⟩ := h
    rfl
  · obtain ⟨p, tr, n, q, a, rfl, W, ⟨u, hu, hc⟩, rfl⟩ := h
    obtain ⟨nm, ac, tg⟩ := a
    have hum := List.mem_of_find?_eq_some hu
    have hun : u.name = nm := by simpa using List.find?_some hu
    have u12 := W.u12
    have r6 := W.r6
    have hmem : nm ∈ p.rules.map Rl.name := hun ▸ List.mem_map_of_mem hum
    have chr : ∀ Γ : List Sl, Γ[0]? = some (.dat (orD K p tr n q)) → Ev K (tFld K (tVar 0) "charter") Γ (.ins (CC K) (chF p)) := fun Γ e => ev_fld (ev_var e) T.cl_Organisation T.na_Organisation_charter rfl
    refine wp_seq (wp_asgT (ev_var rfl) (tg_tup3 ?_))
    refine wp_seq (wp_if (b := false) (evt_is (et_test (ev_op (ev_var rfl) (ev_prop (chr _ rfl) ⟨_, p.rules, rfl, rfl, by omega, rfl⟩) rv_noT)) (by rw [decide_eq_true hmem]; rfl)) (fun h => by cases h) fun _ => wp_next ?_)
    refine wp_seq (wp_asg (d := u.da) (ev_meth (chr _ rfl) rfl (ea_cons (ev_var rfl) ea_nil) ⟨_, p.rules, nm, u, rfl, rfl, hu, rfl⟩) ?_)
    have wf := W.uw u hum
    cases wf with
    | join hn ho hap =>
      obtain ⟨rfl, h1, h2⟩ := hc
      refine wp_seq (wp_if (b := true) (evt_is (et_test (ev_op (ev_op (ev_var rfl) ev_int (rv_ixT at0)) ev_str rv_eqS)) rfl) (fun _ => ?_) fun h => by cases h)
      exact wp_ret (ev_is (ev_and (ev_op (ev_var rfl) ev_non rv_isN) fun _ => ev_and (ev_call (ea_cons (ev_var rfl) ea_nil) ⟨ac, rfl, h1, rfl⟩) fun _ => ev_dnin (ev_held T rfl) (ev_var rfl)) (by rw [held_is, h2]; rfl)) rfl
    | solo hk hn ha hb hr1 hra hrb hap hcl =>
      rename_i k nm' x y r
      obtain ⟨rfl, h, h1, h2, h3, h4⟩ := hc
      have hj : k ≠ "join" := by rcases hk with rfl | rfl <;> decide
      have lx := ord_len ha
      have ly := ord_len hb
      refine wp_seq (wp_if (b := false) (evt_is (et_test (ev_op (ev_op (ev_var rfl) ev_int (rv_ixT at0)) ev_str rv_eqS)) (decide_eq_false hj)) (fun h => by cases h) fun _ => wp_next ?_)
      refine wp_seq (wp_if (b := false) (evt_is (et_not (et_B (ev_meth (ev_var rfl) rfl (ea_cons (ev_var rfl) ea_nil) ⟨p, tr, n, q, ac, rfl, rfl⟩))) (by rw [h1]; simp [h2])) (fun h => by cases h) fun _ => wp_next ?_)
      refine wp_seq (wp_if (b := true) (evt_is (et_test (ev_op (ev_op (ev_var rfl) ev_int (rv_ixT at0)) (ev_tup (ea_cons ev_str (ea_cons ev_str ea_nil)) (by simp)) (rv_isT (ss := ["claim", "drop"])))) (decide_eq_true (by simpa using hk))) (fun _ => ?_) fun h => by cases h)
      exact wp_ret (ev_is (ev_and (ev_op (ev_var rfl) ev_non rv_isN) fun _ => ev_meth (ev_var rfl) rfl (ea_cons (ev_var rfl) (ea_cons (ev_var rfl) ea_nil)) ⟨p, tr, n, q, k, nm', x, y, r, ac, h, rfl, h1, by omega, by omega, rfl⟩) (by rw [h3, h4]; simp [isNon, optD])) rfl
    | duo hk hn ha hb hc' hr1 hrb hrc hap hgv hps =>
      rename_i k nm' x y z r
      obtain ⟨t, h, o, h0, h1, h2, h3, h4, h5, h6, h7, h8⟩ := hc
      have h0' : tg = some t := h0
      subst h0'
      have hj : k ≠ "join" := by rcases hk with rfl | rfl | rfl <;> decide
      have hk2 : k ∉ (["claim", "drop"] : SL) := by rcases hk with rfl | rfl | rfl <;> decide
      have lx := ord_len ha
      have ly := ord_len hb
      have lz := ord_len hc'
      refine wp_seq (wp_if (b := false) (evt_is (et_test (ev_op (ev_op (ev_var rfl) ev_int (rv_ixT at0)) ev_str rv_eqS)) (decide_eq_false hj)) (fun h => by cases h) fun _ => wp_next ?_)
      refine wp_seq (wp_if (b := false) (evt_is (et_not (et_B (ev_meth (ev_var rfl) rfl (ea_cons (ev_var rfl) ea_nil) ⟨p, tr, n, q, ac, rfl, rfl⟩))) (by rw [h1]; simp [h4])) (fun h => by cases h) fun _ => wp_next ?_)
      refine wp_seq (wp_if (b := false) (evt_is (et_test (ev_op (ev_op (ev_var rfl) ev_int (rv_ixT at0)) (ev_tup (ea_cons ev_str (ea_cons ev_str ea_nil)) (by simp)) (rv_isT (ss := ["claim", "drop"])))) (decide_eq_false hk2)) (fun h => by cases h) fun _ => wp_next ?_)
      exact wp_ret (ev_is (ev_and (ev_din (ev_held T rfl) (ev_var rfl)) fun _ => ev_and (ev_op (ev_var rfl) (ev_var rfl) rv_neS) fun _ => ev_meth (ev_var rfl) rfl (ea_cons (ev_var rfl) (ea_cons (ev_var rfl) (ea_cons (ev_var rfl) ea_nil))) ⟨p, tr, n, q, k, nm', x, y, z, r, ac, t, h, o, rfl, h1, h2, by omega, by omega, by omega, h5, h6, h7, rfl⟩) (by rw [held_is, h2, h8, decide_eq_false h3]; simp)) rfl
/-! stands_for -/
def whoF (o : Option Str) (n : Str) : Bool := match o with
  | none => true
  | some s => decide (s = n)
theorem inD_who (o : Option Str) (n : Str) : inD (optD o) [.non, .str n] = whoF o n := by
  cases o with
  | none => rfl
  | some s =>
    have h := inD_strs s [n]
    show inV (.str s) [V.non, .str n] = decide (s = n)
    have h2 : inV (.str s) [V.str n] = decide (s ∈ [n]) := h
    rw [show decide (s = n) = decide (s ∈ [n]) by simp, ← h2]
    rfl
theorem opt_flat (o : Option Str) : flatD (optD o) = true := by cases o <;> rfl
def standsFor (q : Ppl) (d : Dem) : SL := (q.filter fun v => whoF d.who v.1 && fitsF v.2 d.has d.no).map (·.1)
def R_stands (K : PySem.W.Frag) : List Da → Da → Prop := fun ds d => ∃ (p : Parts) (tr : SL) (n : Int) (q : Ppl) (z : Dem), ds = [orD K p tr n q, z.da] ∧ q.length ≤ 1000 ∧ z.has.length ≤ 1000 ∧ z.no.length ≤ 1000 ∧ d = strsL (standsFor q z)
theorem ok_stands (T : Txt w K mg) (G_fits : Cal P w K mg base "fits" (He.ga K "fits") 1 ["held", "needs", "lacks"] (spP K R_fits)) :
    CalM P w K mg base (OC K) "stands_for" (aM K "Organisation" "stands_for") 2 ["self", "demand"] (spP K (R_stands K)) := by
  obtain ⟨fd, F⟩ := T.d_Organisation_stands_for
  obtain ⟨fd1, F_fits, b_fits⟩ := G_fits.ex
  refine ⟨⟨fd, fn_pure F sc_Organisation_stands_for (fun ds d h => ?_) fun cdv A outer s H E hr => ⟨_, (pss_cons (ps_asg (pv 1) (pg_tupK (n := 3) K rfl rfl (pgs_cons (pg_name (i := 2) sc_Organisation_stands_for.nd rfl (by first | exact Or.inl rfl | exact Or.inr rfl)) (pgs_cons (pg_name (i := 3) sc_Organisation_stands_for.nd rfl (by first | exact Or.inl rfl | exact Or.inr rfl)) (pgs_cons (pg_name (i := 4) sc_Organisation_stands_for.nd rfl (by first | exact Or.inl rfl | exact Or.inr rfl)) pgs_nil))))) (pss_one (ps_ret (pe_lock (pe_lc (own := [("name", 5), ("held", 6)]) rfl sc_Organisation_stands_for.nd (pi_items (pe_fldK K rfl (pv 0) rfl)) (blkOk_by (own := [("name", 5), ("held", 6)]) (N := ["self", "demand", "person", "holds", "lacks", "name", "held"]) (sc := defScope s_Organisation_stands_for) (by decide +kernel)) (fun _ _ _ _ _ => (pg_tupK (n := 2) K rfl rfl (pgs_cons (pg_name (i := 5) sc_Organisation_stands_for.nd rfl (by first | exact Or.inl rfl | exact Or.inr rfl)) (pgs_cons (pg_name (i := 6) sc_Organisation_stands_for.nd rfl (by first | exact Or.inl rfl | exact Or.inr rfl)) pgs_nil)))) (fun _ _ _ _ _ => (pts_one (PW.pt (pw_and (pt_cmpR (op_inK K rfl) (pv 2) (pe_tup (pa_cons pe_non (pa_cons (pv 5) pa_nil))) rfl) (pw_and1 (pt_val (pe_call F_fits (hr.mono (by decide)) rfl G_fits.m G_fits.kp b_fits .nil pass0 (pa_cons (pv 6) (pa_cons (pv 3) (pa_cons (pv 4) pa_nil)))))))))) (fun _ _ _ _ _ => (pv 5))))))), fun ds d h => ?_⟩, F.bindsN fun _ _ _ _ _ _ us hl => match us, hl with | [_, _], _ => rfl⟩, T.cl_Organisation, T.mt_Organisation_stands_for⟩
  · obtain ⟨_, _, _, _, _, rfl, _⟩ := h
    rfl
  · obtain ⟨p, tr, n, q, z, rfl, hq, l1, l2, rfl⟩ := h
    refine wp_seq (wp_asgT (ev_var rfl) (tg_tup3 ?_))
    let ff : Str × Da → Bool := fun a => whoF z.who a.1 && (match a.2 with
      | .tup l => fitsF (l.map fun x => match x with | .str s => s | _ => "") z.has z.no
      | _ => false)
    have back : ∀ l : SL, ((l.map Da.str).map fun x => match x with | .str s => s | _ => "") = l := fun l => by
      rw [List.map_map]; exact List.map_id _
    have e : ((q.map fun v => (v.1, strsT v.2)).filter ff).map (fun a => Da.str a.1) = (standsFor q z).map Da.str := by
      unfold standsFor
      rw [List.filter_map, List.map_map, List.map_map]
      have : (ff ∘ fun v : Str × SL => (v.1, strsT v.2)) = fun v => whoF z.who v.1 && fitsF v.2 z.has z.no := funext fun v => by
        show (whoF z.who v.1 && fitsF ((v.2.map Da.str).map fun x => match x with | .str s => s | _ => "") z.has z.no) = _
        rw [back]
      rw [this]; rfl
    refine wp_ret (EvO.ev (evo_is (eo_items (js := [5, 6]) (q := q.map fun v => (v.1, strsT v.2)) rfl T.cl_Organisation T.na_Organisation__held rfl (fun j s hs => ?_) (fun a ha => ?_) (by rw [List.length_map]; omega) ff (fun a => .str a.1) (fun _ => rfl) (by simp) fun i a ha => ?_) e)) rfl
    · match j, hs with
      | 0, hs => cases hs; exact .inl rfl
      | 1, hs => cases hs; exact .inr ⟨_, rfl, Thin.tup fun d hd => by
          simp at hd
          rcases hd with rfl | rfl | rfl
          · exact Thin.flat (opt_flat _)
          · exact thin_strs _
          · exact thin_strs _⟩
      | 2, hs => cases hs; exact .inr ⟨_, rfl, Thin.flat (opt_flat _)⟩
      | 3, hs => cases hs; exact .inr ⟨_, rfl, thin_strs _⟩
      | 4, hs => cases hs; exact .inr ⟨_, rfl, thin_strs _⟩
      | 5, hs => cases hs; exact .inl rfl
      | 6, hs => cases hs; exact .inl rfl
      | j + 7, hs => cases hs
    · obtain ⟨v, _, rfl⟩ := List.mem_map.mp ha
      exact thin_strs _
    · obtain ⟨v, hv, rfl⟩ : ∃ v, q[i]? = some v ∧ a = (v.1, strsT v.2) := by
        rw [List.getElem?_map] at ha
        cases e2 : q[i]? with
        | none => rw [e2] at ha; cases ha
        | some v => rw [e2] at ha; exact ⟨v, rfl, (Option.some.inj ha).symm⟩
      refine tg_tup2 ⟨?_, fun _ => ev_var rfl⟩
      refine evt_is (et_and (et_test (ev_op (ev_var rfl) (ev_tup (ea_cons ev_non (ea_cons (ev_var rfl) ea_nil)) (by simp)) (rv_inT (opt_flat _) rfl))) fun _ => et_B (ev_call (ea_cons (ev_var rfl) (ea_cons (ev_var rfl) (ea_cons (ev_var rfl) ea_nil))) ⟨v.2, z.has, z.no, rfl, l1, l2, rfl⟩)) ?_
      show _ = (whoF z.who v.1 && fitsF ((v.2.map Da.str).map fun x => match x with | .str s => s | _ => "") z.has z.no)
      rw [inD_who, back]
/-! can_choose -/
def choose : List SL → SL → Bool
  | [], _ => true
  | l :: ls, ch => l.any fun n => !decide (n ∈ ch) && choose ls (ch ++ [n])
def R_choose (m : Nat) : List Da → Da → Prop := fun ds d => ∃ (ls : List SL) (ch : SL), ds = [.lst (ls.map fun l => strsL l), strsL ch] ∧ ls.length ≤ m ∧ ch.length + m ≤ 1000 ∧ d = .bl (choose ls ch)
theorem cut_tail {α : Type} (x : α) (l : List α) : cutG (x :: l) (some 1) none = l := by
  unfold cutG
  simp [HT.sIx]
theorem ok_choose_step (T : Txt w K mg) (sp : Sp) (k m : Nat) (hk : k + 1 ≤ 100) (G_can_choose : Cal P w K mg base "can_choose" (He.ga K "can_choose") k ["lists", "chosen"] sp)
    (hs : m = 0 ∨ ∃ m', m = m' + 1 ∧ sp = spP K (R_choose m')) :
    Cal P w K mg base "can_choose" (He.ga K "can_choose") (k + 1) ["lists", "chosen"] (spP K (R_choose m)) := by
  obtain ⟨fd, F⟩ := T.d_can_choose
  obtain ⟨fd1, F_can_choose, b_can_choose⟩ := G_can_choose.ex
  refine ⟨⟨fd, fn_pure F sc_can_choose (fun ds d h => ?_) fun cdv A outer s H E hr => ⟨_, (pss_cons (ps_if (pt_not (pt_truthK K rfl (pv 0) (by intro _; rfl))) (pss_one (ps_ret pe_bl)) pss_nil) (pss_cons (ps_for PassesOwn.never rfl (pi_seqK K rfl (pe_ix (ix_K K rfl) (pv 0) pe_int (fun _ _ => rfl))) (pg_name (i := 2) sc_can_choose.nd rfl (by first | exact Or.inl rfl | exact Or.inr rfl)) (pss_one (ps_if (PW.pt (pw_and (pt_cmpR (op_niK K rfl) (pv 2) (pv 1) rfl) (pw_and1 (pt_val (pe_call F_can_choose (hr.mono (Nat.le_refl _)) rfl G_can_choose.m G_can_choose.kp b_can_choose .nil pass0 (pa_cons (pe_slice (sl_K K rfl) (pv 0) (po_some pe_int) po_none) (pa_cons (pe_op (op_addK K rfl) (pv 1) (pe_lst (pa_cons (pv 2) pa_nil))) pa_nil))))))) (pss_one (ps_ret pe_bl)) pss_nil))) (pss_one (ps_ret pe_bl)))), fun ds d h => ?_⟩, F.bindsN fun _ _ _ _ _ _ us hl => match us, hl with | [_, _], _ => rfl⟩, T.m_can_choose, F.kp⟩
  · obtain ⟨_, _, rfl, _⟩ := h
    rfl
  · obtain ⟨ls, ch, rfl, hm, hc, rfl⟩ := h
    cases ls with
    | nil => exact wp_seq (wp_if (b := true) (evt_is (et_not (et_truL (ev_var rfl))) rfl) (fun _ => wp_ret ev_bl rfl) fun h => by cases h)
    | cons l ls =>
      rcases hs with rfl | ⟨m', rfl, rfl⟩
      · simp at hm
      · refine wp_seq (wp_if (b := false) (evt_is (et_not (et_truL (ev_var rfl))) rfl) (fun h => by cases h) fun _ => wp_next ?_)
        refine wp_seq (wp_for (js := [2]) (xs := l.map .str) (it_seqL (ev_op (ev_var rfl) ev_int (rv_ixL at0))) (fun i Γ => (∀ j b, j < i → l[j]? = some b → (!decide (b ∈ ch) && choose ls (ch ++ [b])) = false) ∧ ∃ a, Γ = [.dat (.lst ((l :: ls).map fun l => strsL l)), .dat (strsL ch), a]) ⟨fun _ _ h => by omega, _, rfl⟩ (fun i y Γ hy hΓ => ?_) fun Γ hΓ => ?_)
        · obtain ⟨hn, a, rfl⟩ := hΓ
          obtain ⟨z, hz, rfl⟩ := take_map hy
          refine tg_name (wp_if (et_and (et_test (ev_op (ev_var rfl) (ev_var rfl) rv_noL)) fun _ => et_B (ev_call (ea_cons (ev_is (ev_slL (ev_var rfl) (ep_some ev_int) ep_none) (congrArg Da.lst (cut_tail _ _))) (ea_cons (ev_is (ev_op (ev_var rfl) (ev_lst (ea_cons (ev_var rfl) ea_nil) (by simp)) (rv_addL (by simp; omega))) (by rw [show ([Da.str z] : List Da) = [z].map Da.str from rfl, ← List.map_append])) ea_nil)) ⟨ls, ch ++ [z], rfl, by simp at hm; omega, by simp; omega, rfl⟩)) (fun hb => ?_) fun hb => wp_next ⟨fun j b hj hb2 => ?_, _, rfl⟩)
          · refine wp_ret ev_bl ?_
            show Da.bl true = .bl (choose (l :: ls) ch)
            have : choose (l :: ls) ch = true := List.any_eq_true.mpr ⟨z, List.mem_of_getElem? hz, hb⟩
            rw [this]
          · by_cases c : j < i
            · exact hn j b c hb2
            · have e : j = i := by omega
              subst e
              rw [hz] at hb2
              rw [← Option.some.inj hb2]
              exact hb
        · obtain ⟨hn, a, rfl⟩ := hΓ
          refine wp_ret ev_bl ?_
          have : choose (l :: ls) ch = false := List.any_eq_false.mpr fun z hz => by
            obtain ⟨j, hj, ej⟩ := List.mem_iff_getElem.mp hz
            have h1 := hn j z (by rw [List.length_map]; exact hj) (by rw [List.getElem?_eq_getElem hj, ej])
            rw [h1]; simp
          show Da.bl false = .bl (choose (l :: ls) ch)
          rw [this]
theorem ok_choose0 (T : Txt w K mg) : Cal P w K mg base "can_choose" (He.ga K "can_choose") 1 ["lists", "chosen"] (fun _ _ _ _ => False) := by
  obtain ⟨fd, F⟩ := T.d_can_choose
  exact ⟨⟨fd, F.ok sc_can_choose (fun _ _ _ _ h => h.elim) fun _ _ _ _ _ _ _ _ _ h => h.elim, F.bindsN fun _ _ _ _ _ _ us hl => match us, hl with | [_, _], _ => rfl⟩, T.m_can_choose, F.kp⟩
theorem ok_choose (T : Txt w K mg) : Cal P w K mg base "can_choose" (He.ga K "can_choose") 5 ["lists", "chosen"] (spP K (R_choose 3)) :=
  ok_choose_step T _ 4 3 (by omega) (ok_choose_step T _ 3 2 (by omega) (ok_choose_step T _ 2 1 (by omega) (ok_choose_step T _ 1 0 (by omega) (ok_choose0 T) (.inl rfl)) (.inr ⟨0, rfl, rfl⟩)) (.inr ⟨1, rfl, rfl⟩)) (.inr ⟨2, rfl, rfl⟩)
/-! meets -/
def R_meets (K : PySem.W.Frag) : List Da → Da → Prop := fun ds d => ∃ (p : Parts) (tr : SL) (n : Int) (q : Ppl) (g : List Dem), ds = [orD K p tr n q, .lst (g.map Dem.da)] ∧ p.rights.length ≤ 6 ∧ q.length ≤ 1000 ∧ GoalOk p g ∧ d = .bl (choose (g.map (standsFor q)) [])
theorem ok_meets (T : Txt w K mg) (G_check_goal : Cal P w K mg base "check_goal" (He.ga K "check_goal") 2 ["charter", "goal"] (spP K (R_goal K))) (G_can_choose : Cal P w K mg base "can_choose" (He.ga K "can_choose") 5 ["lists", "chosen"] (spP K (R_choose 3)))
    (G_Organisation_stands_for : CalM P w K mg base (OC K) "stands_for" (aM K "Organisation" "stands_for") 2 ["self", "demand"] (spP K (R_stands K))) :
    CalM P w K mg base (OC K) "meets" (aM K "Organisation" "meets") 6 ["self", "goal"] (spP K (R_meets K)) := by
  obtain ⟨fd, F⟩ := T.d_Organisation_meets
  obtain ⟨fd1, F_check_goal, b_check_goal⟩ := G_check_goal.ex
  obtain ⟨fd2, F_can_choose, b_can_choose⟩ := G_can_choose.ex
  obtain ⟨fd3, F_Organisation_stands_for, b_Organisation_stands_for⟩ := G_Organisation_stands_for.ex
  refine ⟨⟨fd, fn_pure F sc_Organisation_meets (fun ds d h => ?_) fun cdv A outer s H E hr => ⟨_, (pss_cons (ps_expr (pe_call F_check_goal (hr.mono (by decide)) rfl G_check_goal.m G_check_goal.kp b_check_goal .nil pass0 (pa_cons (pe_fldK K rfl (pv 0) rfl) (pa_cons (pv 1) pa_nil)))) (pss_one (ps_ret (pe_call F_can_choose (hr.mono (by decide)) rfl G_can_choose.m G_can_choose.kp b_can_choose .nil pass0 (pa_cons (pe_lc (own := [("demand", 2)]) rfl sc_Organisation_meets.nd (pi_seqK K rfl (pv 1)) (blkOk_by (own := [("demand", 2)]) (N := ["self", "goal", "demand"]) (sc := defScope s_Organisation_meets) (by decide +kernel)) (fun _ _ _ _ _ => (pg_name (i := 2) sc_Organisation_meets.nd rfl (by first | exact Or.inl rfl | exact Or.inr rfl))) (fun _ _ _ _ _ => pts_nil) (fun _ _ _ _ _ => (pe_meth (pv 0) T.cl_Organisation G_Organisation_stands_for.m F_Organisation_stands_for (hr.mono (by decide)) b_Organisation_stands_for .nil pass0 (pa_cons (pv 2) pa_nil)))) (pa_cons (pe_lst pa_nil) pa_nil)))))), fun ds d h => ?_⟩, F.bindsN fun _ _ _ _ _ _ us hl => match us, hl with | [_, _], _ => rfl⟩, T.cl_Organisation, T.mt_Organisation_meets⟩
  · obtain ⟨_, _, _, _, _, rfl, _⟩ := h
    rfl
  · obtain ⟨p, tr, n, q, g, rfl, h6, hq, W, rfl⟩ := h
    have g3 := W.g3
    refine wp_seq (wp_drop (ev_call (ea_cons (ev_fld (ev_var rfl) T.cl_Organisation T.na_Organisation_charter rfl) (ea_cons (ev_var rfl) ea_nil)) ⟨p, g, rfl, W, h6, rfl⟩) ?_)
    refine wp_ret (ev_call (ea_cons (ev_is (ev_lcA Dem.da g (it_seqL (ev_var rfl)) (by omega) (fun z => strsL (standsFor q z)) (by simp) fun i z hz => ?_) (congrArg Da.lst (show _ = (g.map (standsFor q)).map (fun l => strsL l) by rw [List.map_map]; rfl))) (ea_cons (ev_lst ea_nil (by simp)) ea_nil)) ⟨g.map (standsFor q), [], rfl, by rw [List.length_map]; exact g3, by simp, rfl⟩) rfl
    have hm := List.mem_of_getElem? hz
    have hln := W.ln z hm
    rw [List.length_append] at hln
    exact ev_meth (ev_var rfl) rfl (ea_cons (ev_var rfl) ea_nil) ⟨p, tr, n, q, z, rfl, hq, by omega, by omega, rfl⟩
end
end WM

/-! ## Org1 -/
set_option maxHeartbeats 4000000
/-! An organisation that changes in place. -/
namespace WM
open PySem PySem.Spec PyProof.Rows L2
abbrev pD (q : Ppl) : List (Str × Da) := q.map fun v => (v.1, strsT v.2)
/-- the fields as they stand -/
abbrev oV (cv tv : V) (n : Int) (qd : Addr) : List (Str × V) := [("charter", cv), ("trusted", tv), ("count", .int n), ("_held", .ref qd)]
structure Org (K : PySem.W.Frag) (p qd dx : Addr) (cv tv : V) (pt : Parts) (tr : SL) (B H : Hp) (n : Int) (q : Ppl) : Prop where
  bh : Ex B H
  hp : H p = some (.ins (OC K) dx (oV cv tv n qd))
  kv : ∃ kvs, H qd = some (.dK kvs) ∧ IsK K B kvs (pD q)
  bp : B p = none
  bq : B qd = none
  ic : Is K B cv (.ins (CC K) (chF pt))
  it : Is K B tv (strsT tr)
/-- a step that may change what stands at p and at qd -/
structure MS (p qd : Addr) (B0 H0 B H : Hp) : Prop where
  bb : Ex B0 B
  hh : ∀ a o, a ≠ p → a ≠ qd → H0 a = some o → H a = some o
  nw : ∀ a o, B a = some o → H0 a = none ∨ B0 a = some o
theorem MS.refl {p qd : Addr} {B H : Hp} : MS p qd B H B H := ⟨Ex.refl _, fun _ _ _ _ h => h, fun _ _ h => .inr h⟩
section
variable {K : PySem.W.Frag} {p qd dx : Addr} {cv tv : V} {pt : Parts} {tr : SL} {B0 H0 B H B' H' : Hp} {n : Int} {q : Ppl} {σ : L2.St} {Γ : List Sl} {te : TE} {d : Da}
theorem MS.step (m : MS p qd B0 H0 B H) (o : Org K p qd dx cv tv pt tr B H n q) (s : Step B H B' H') : MS p qd B0 H0 B' H' := by
  refine ⟨m.bb.trans s.bb, fun a u h1 h2 h => s.hh _ _ (m.hh a u h1 h2 h), fun a u h => ?_⟩
  rcases s.nw a u h with h1 | h1
  · refine .inl ?_
    cases e : H0 a with
    | none => rfl
    | some z =>
      by_cases c1 : a = p
      · subst c1; rw [o.hp] at h1; cases h1
      · by_cases c2 : a = qd
        · subst c2; obtain ⟨kvs, hk, _⟩ := o.kv; rw [hk] at h1; cases h1
        · rw [m.hh a z c1 c2 e] at h1; cases h1
  · exact m.nw a u h1
theorem Org.step (o : Org K p qd dx cv tv pt tr B H n q) (s : Step B H B' H') : Org K p qd dx cv tv pt tr B' H' n q := by
  obtain ⟨kvs, hk, ik⟩ := o.kv
  exact ⟨s.bh, s.hh _ _ o.hp, ⟨kvs, s.hh _ _ hk, ik.mono s.bb⟩, s.keepN o.hp o.bp, s.keepN hk o.bq, o.ic.mono s.bb, o.it.mono s.bb⟩
theorem Org.ne (o : Org K p qd dx cv tv pt tr B H n q) : p ≠ qd := fun e => by
  obtain ⟨kvs, hk, _⟩ := o.kv
  rw [← e, o.hp] at hk
  cases hk
/-- the base with the organisation in it -/
def froz (p qd : Addr) (B H : Hp) : Hp := fun a => if a = p ∨ a = qd then H a else B a
theorem froz_ex (o : Org K p qd dx cv tv pt tr B H n q) : Ex B (froz p qd B H) := fun a u h => by
  unfold froz
  by_cases c : a = p ∨ a = qd
  · rcases c with rfl | rfl
    · rw [o.bp] at h; cases h
    · rw [o.bq] at h; cases h
  · rw [if_neg c]; exact h
theorem froz_up (o : Org K p qd dx cv tv pt tr B H n q) : Ex (froz p qd B H) H := fun a u h => by
  unfold froz at h
  by_cases c : a = p ∨ a = qd
  · rw [if_pos c] at h; exact h
  · rw [if_neg c] at h; exact o.bh _ _ h
theorem froz_is (o : Org K p qd dx cv tv pt tr B H n q) : Is K (froz p qd B H) (.ref p) (orD K pt tr n q) := by
  obtain ⟨kvs, hk, ik⟩ := o.kv
  have e := froz_ex o
  have h1 : froz p qd B H p = some (.ins (OC K) dx (oV cv tv n qd)) := by unfold froz; rw [if_pos (.inl rfl)]; exact o.hp
  have h2 : froz p qd B H qd = some (.dK kvs) := by unfold froz; rw [if_pos (.inr rfl)]; exact hk
  exact .ins h1 (.cons (o.ic.mono e) (.cons (o.it.mono e) (.cons (.int n) (.cons (.dic h2 (ik.mono e)) .nil))))
/-- slots: the organisation at 0, told apart -/
structure StO (K : PySem.W.Frag) (p qd dx : Addr) (cv tv : V) (pt : Parts) (tr : SL) (B H : Hp) (σ : L2.St) (Γ : List Sl) (n : Int) (q : Ppl) : Prop where
  o : Org K p qd dx cv tv pt tr B H n q
  e : Env K H B H σ Γ
  s0 : σ[0]? = some (some (.ref p))
  g0 : Γ[0]? = some .un
  no : Γ.all (fun s => !isOwn s) = true
theorem StO.noOwn (h : StO K p qd dx cv tv pt tr B H σ Γ n q) {i : Nat} {s : Sl} (e : Γ[i]? = some s) : isOwn s = false := by
  have := List.all_eq_true.mp h.no s (List.mem_of_getElem? e)
  simpa using this
theorem env_base {B2 H2 H3 : Hp} (e : Env K H0 B H σ Γ) (no : ∀ (i : Nat) (s : Sl), Γ[i]? = some s → isOwn s = false) (b : Ex B B2) (h : Ex B2 H2) : Env K H3 B2 H2 σ Γ := by
  refine ⟨h, e.len, fun i s ov a c => ?_, fun i j s t r _ a _ os _ _ _ => by rw [no i s a] at os; cases os⟩
  have h := e.sl i s ov a c
  have z := no i s a
  cases s with
  | un => trivial
  | dat d => obtain ⟨v, e, q⟩ := h; exact ⟨v, e, q.mono b⟩
  | own l => cases z
  | obj a b c => cases z
theorem env_any {H1 H2 : Hp} (e : Env K H1 B H σ Γ) (no : ∀ (i : Nat) (s : Sl), Γ[i]? = some s → isOwn s = false) : Env K H2 B H σ Γ := env_base e no (Ex.refl _) e.bh
theorem StO.step (h : StO K p qd dx cv tv pt tr B H σ Γ n q) (s : Step B H B' H') : StO K p qd dx cv tv pt tr B' H' σ Γ n q :=
  ⟨h.o.step s, env_base h.e (fun _ _ a => h.noOwn a) s.bb s.bh, h.s0, h.g0, h.no⟩
theorem StO.full (h : StO K p qd dx cv tv pt tr B H σ Γ n q) : Env K H (froz p qd B H) H σ (Γ.set 0 (.dat (orD K pt tr n q))) := by
  have e1 := env_base (H3 := H) h.e (fun _ _ a => h.noOwn a) (froz_ex h.o) (froz_up h.o)
  have e2 := e1.putD (i := 0) (froz_is h.o)
  have e3 : σ.set 0 (some (.ref p)) = σ := by
    refine List.ext_getElem? fun i => ?_
    by_cases c : 0 = i
    · subst c
      rw [List.getElem?_set_self', h.s0]
      rfl
    · rw [List.getElem?_set_ne c]
  rwa [e3] at e2
theorem thaw_tups (o : Org K p qd dx cv tv pt tr B H n q) {B1 H1 : Hp} (s : Step (froz p qd B H) H B1 H1) : Ex (tups B1) (thaw B H B1) := fun a u h => by
  obtain ⟨x, rfl, h1⟩ := tups_some h
  rcases s.nw a _ h1 with h2 | h2
  · rw [thaw_none h2]; exact h1
  · have h3 := froz_up o _ _ h2
    rw [thaw_some h3]
    unfold froz at h2
    by_cases c : a = p ∨ a = qd
    · rcases c with rfl | rfl
      · rw [o.hp] at h3; cases h3
      · obtain ⟨kvs, hk, _⟩ := o.kv
        rw [hk] at h3; cases h3
    · rw [if_neg c] at h2; exact h2
theorem StO.ev (h : StO K p qd dx cv tv pt tr B H σ Γ n q) (e : Ev K te (Γ.set 0 (.dat (orD K pt tr n q))) d) (th : Thin d) (Q : VK) (k : ∀ v B' H', Step B H B' H' → Is K B' v d → Q v H') : te σ H Q :=
  e H _ H σ h.full Q fun v B1 H1 s hv => k v _ H1 (Step.thaw h.o.bh (froz_ex h.o) s) ((th K B1 v hv).mono (thaw_tups h.o s))
theorem StO.evt (h : StO K p qd dx cv tv pt tr B H σ Γ n q) {t : TT} {b : Bool} (e : EvT K t (Γ.set 0 (.dat (orD K pt tr n q))) b) (Q : Bool → Hp → Prop) (k : ∀ B' H', Step B H B' H' → Q b H') : t σ H Q :=
  e H _ H σ h.full Q fun B1 H1 s => k _ H1 (Step.thaw h.o.bh (froz_ex h.o) s)
theorem wipe_at {σ : L2.St} {i : Nat} : ∀ {ws : List Nat}, i ∉ ws → (wipe σ ws)[i]? = σ[i]?
  | [], _ => rfl
  | w :: ws, h => by
    have hw : w ≠ i := fun e => by subst e; exact h (List.mem_cons_self ..)
    show ((wipe σ ws).set w none)[i]? = _
    rw [List.getElem?_set_ne hw, wipe_at fun m => h (List.mem_cons_of_mem _ m)]
/-- statements over it -/
def WO (K : PySem.W.Frag) (p qd dx : Addr) (cv tv : V) (pt : Parts) (tr : SL) (t : TS) (Γ : List Sl) (n : Int) (q : Ppl) (N : List Sl → Int → Ppl → Prop) : Prop :=
  ∀ (B0 H0 B H : Hp) (σ : L2.St) (D : Ends), MS p qd B0 H0 B H → StO K p qd dx cv tv pt tr B H σ Γ n q →
    (∀ B' H' σ' Γ' n' q', MS p qd B0 H0 B' H' → StO K p qd dx cv tv pt tr B' H' σ' Γ' n' q' → N Γ' n' q' → D.nx σ' H') → t D σ H
variable {t u : TS} {N : List Sl → Int → Ppl → Prop}
theorem wo_seq (h : WO K p qd dx cv tv pt tr t Γ n q fun Γ' n' q' => WO K p qd dx cv tv pt tr u Γ' n' q' N) : WO K p qd dx cv tv pt tr (tSeq t u) Γ n q N := fun B0 H0 B H σ D m s k =>
  h B0 H0 B H σ _ m s fun B1 H1 σ1 Γ1 n1 q1 m1 s1 h1 => h1 B0 H0 B1 H1 σ1 D m1 s1 k
theorem wo_next (h : N Γ n q) : WO K p qd dx cv tv pt tr tNext Γ n q N := fun B0 H0 B H σ D m s k => k B H σ Γ n q m s h
theorem StO.put (h : StO K p qd dx cv tv pt tr B H σ Γ n q) {i : Nat} {v : V} (hv : Is K B v d) (hi : i ≠ 0) : StO K p qd dx cv tv pt tr B H (σ.set i (some v)) (Γ.set i (.dat d)) n q :=
  ⟨h.o, h.e.putD hv, by rw [List.getElem?_set_ne hi]; exact h.s0, by rw [List.getElem?_set_ne hi]; exact h.g0, by
    refine List.all_eq_true.mpr fun s hs => ?_
    rcases List.mem_or_eq_of_mem_set hs with h1 | rfl
    · exact List.all_eq_true.mp h.no s h1
    · rfl⟩
theorem wo_asg {i : Nat} (e : Ev K te (Γ.set 0 (.dat (orD K pt tr n q))) d) (th : Thin d) (hi : i ≠ 0) (k : N (Γ.set i (.dat d)) n q) : WO K p qd dx cv tv pt tr (tAsg te (gName i)) Γ n q N := fun B0 H0 B H σ D m s kk =>
  s.ev e th _ fun v B1 H1 st hv => kk B1 H1 _ _ n q (m.step s.o st) ((s.step st).put hv hi) k
theorem wo_asgT {js : List Nat} {g : TG} (e : Ev K te (Γ.set 0 (.dat (orD K pt tr n q))) d) (th : Thin d) (hj : 0 ∉ js) (hg : Tg K g js Γ d fun Γ' => Γ'[0]? = some .un ∧ Γ'.all (fun s => !isOwn s) = true ∧ N Γ' n q) :
    WO K p qd dx cv tv pt tr (tAsg te g) Γ n q N := fun B0 H0 B H σ D m s kk =>
  s.ev e th _ fun v B1 H1 st hv => hg H1 B1 H1 σ v (s.step st).e hv _ fun Γ' σ' ⟨g0, no, hN⟩ e' hw => by
    have s' := s.step st
    refine kk B1 H1 σ' Γ' n q (m.step s.o st) ⟨s'.o, e', ?_, g0, no⟩ hN
    rw [← wipe_at (σ := σ') hj, hw js (fun _ h => h), wipe_at hj]
    exact s.s0
theorem wo_if {c : TT} {b : Bool} (h : EvT K c (Γ.set 0 (.dat (orD K pt tr n q))) b) (h1 : b = true → WO K p qd dx cv tv pt tr t Γ n q N) (h2 : b = false → WO K p qd dx cv tv pt tr u Γ n q N) : WO K p qd dx cv tv pt tr (tIfS c t u) Γ n q N := fun B0 H0 B H σ D m s k =>
  s.evt h _ fun B1 H1 st => by
    cases b with
    | true => exact h1 rfl B0 H0 B1 H1 σ D (m.step s.o st) (s.step st) k
    | false => exact h2 rfl B0 H0 B1 H1 σ D (m.step s.o st) (s.step st) k
theorem fld_raw {C : Addr} {fs : List (Str × V)} {f : Str} {v : V} {i : Nat} {Q : VK} (h0 : σ[i]? = some (some (.ref p))) (hp : H p = some (.ins C dx fs)) (hc : Cls K C) (hn : NoAttr K C f) (hl : fs.lookup f = some v) (k : Q v H) : tFld K (tVar i) f σ H Q :=
  ⟨_, h0, p, C, dx, fs, v, rfl, hp, hc, hn, hl, k⟩
/-- self.count += 1 -/
theorem wo_count (hc : Cls K (OC K)) (hn : NoAttr K (OC K) "count") (k : N Γ (n + 1) q) : WO K p qd dx cv tv pt tr (sFldAug K (tVar 0) (tC (.int 1)) rAdd "count") Γ n q N := fun B0 H0 B H σ D m s kk => by
  obtain ⟨kvs, hk, ik⟩ := s.o.kv
  have ne := s.o.ne
  refine ⟨_, s.s0, p, OC K, dx, _, .int n, rfl, s.o.hp, hc, hn, rfl, n, 1, rfl, rfl, dx, _, s.o.hp, by simp, ?_⟩
  have bh : Ex B (upd H p (.ins (OC K) dx (oV cv tv (n + 1) qd))) := s.o.bh.mut s.o.bp
  refine kk B (upd H p (.ins (OC K) dx (oV cv tv (n + 1) qd))) σ Γ (n + 1) q ⟨m.bb, fun a o h1 h2 h => by rw [upd_ne h1]; exact m.hh a o h1 h2 h, m.nw⟩ ⟨⟨bh, upd_same, ⟨kvs, by rw [upd_ne (Ne.symm ne)]; exact hk, ik⟩, s.o.bp, s.o.bq, s.o.ic, s.o.it⟩, env_base s.e (fun _ _ a => s.noOwn a) (Ex.refl _) bh, s.s0, s.g0, s.no⟩ k
/-! the dict -/
def setP (q : Ppl) (x : Str) (l : SL) : Ppl := if (q.any fun v => decide (v.1 = x)) = true then q.map fun v => if v.1 = x then (v.1, l) else v else q ++ [(x, l)]
theorem isK_any {x : Str} : ∀ {kvs : List (Key × V)} {q : Ppl}, IsK K B kvs (pD q) → (kvs.any fun kv => decide (kv.1 = .inr x)) = q.any fun v => decide (v.1 = x)
  | _, [], .nil => rfl
  | _, (y, m) :: q, .cons h r => by
    rw [List.any_cons, List.any_cons, isK_any r]
    congr 1
    by_cases c : y = x
    · subst c; simp
    · simp [c]
theorem isK_map {x : Str} {v : V} {l : SL} (hv : Is K B v (strsT l)) : ∀ {kvs : List (Key × V)} {q : Ppl}, IsK K B kvs (pD q) → IsK K B (kvs.map fun kv => if kv.1 = .inr x then (kv.1, v) else kv) (pD (q.map fun v => if v.1 = x then (v.1, l) else v))
  | _, [], .nil => .nil
  | _, (y, m) :: q, .cons h r => by
    rw [List.map_cons]
    show IsK K B _ (((fun v => ((v.1, strsT v.2) : Str × Da)) ((fun v : Str × SL => if v.1 = x then (v.1, l) else v) (y, m))) :: pD (q.map _))
    by_cases c : y = x
    · subst c
      rw [if_pos rfl]
      show IsK K B _ ((fun v : Str × SL => ((v.1, strsT v.2) : Str × Da)) (if y = y then (y, l) else (y, m)) :: _)
      rw [if_pos rfl]
      exact .cons hv (isK_map hv r)
    · rw [if_neg (by simp [c])]
      show IsK K B _ ((fun v : Str × SL => ((v.1, strsT v.2) : Str × Da)) (if y = x then (y, l) else (y, m)) :: _)
      rw [if_neg c]
      exact .cons h (isK_map hv r)
theorem isK_put {x : Str} {v : V} {l : SL} {kvs : List (Key × V)} (hv : Is K B v (strsT l)) (r : IsK K B kvs (pD q)) : IsK K B (putK kvs (.inr x) v) (pD (setP q x l)) := by
  unfold putK setP
  rw [isK_any r]
  cases q.any fun v => decide (v.1 = x) with
  | true => rw [if_pos rfl, if_pos rfl]; exact isK_map hv r
  | false =>
    rw [if_neg (by simp), if_neg (by simp)]
    show IsK K B _ ((q ++ [(x, l)]).map _)
    rw [List.map_append]
    exact isK_append r (.cons hv .nil)
/-- self._held[x] = l -/
theorem wo_dput {i : Nat} {x : Str} {l : SL} {tv' : TE} (hc : Cls K (OC K)) (hn : NoAttr K (OC K) "_held") (hq : q.length ≤ 1000) (hi : Γ[i]? = some (.dat (.str x))) (e : Ev K tv' (Γ.set 0 (.dat (orD K pt tr n q))) (strsT l)) (k : N Γ n (setP q x l)) :
    WO K p qd dx cv tv pt tr (sDPut (tFld K (tVar 0) "_held") (tVar i) tv') Γ n q N := fun B0 H0 B H σ D m s kk =>
  s.ev e (thin_strs l) _ fun v B1 H1 st hv => by
    have s1 := s.step st
    obtain ⟨kvs, hk, ik⟩ := s1.o.kv
    have ne := s1.o.ne
    obtain ⟨xv, hx0, hx⟩ := s1.e.dat hi
    have hxv := hx.str_inv
    subst hxv
    have len := isK_len ik
    have bh : Ex B1 (upd H1 qd (.dK (putK kvs (.inr x) v))) := s1.o.bh.mut s1.o.bq
    refine fld_raw s1.s0 s1.o.hp hc hn rfl ⟨_, hx0, qd, _, rfl, DPut.k (k := .inr x) hk (by rw [len, List.length_map]; exact sz_lt (by omega)), ?_⟩
    have m1 := m.step s.o st
    exact kk B1 _ σ Γ n _ ⟨m1.bb, fun a o h1 h2 h => by rw [upd_ne h2]; exact m1.hh a o h1 h2 h, m1.nw⟩ ⟨⟨bh, by rw [upd_ne ne]; exact s1.o.hp, ⟨_, upd_same, isK_put hv ik⟩, s1.o.bp, s1.o.bq, s1.o.ic, s1.o.it⟩, env_base s1.e (fun _ _ a => s1.noOwn a) (Ex.refl _) bh, s1.s0, s1.g0, s1.no⟩ k
/-- a method that changes it -/
def spM (K : PySem.W.Frag) (A : Parts → SL → List Da → Int → Ppl → Int → Ppl → Prop) : Sp := fun vs H Q _ => ∃ (p qd dx : Addr) (cv tv : V) (pt : Parts) (tr : SL) (B : Hp) (n : Int) (q : Ppl) (us : List V) (ds : List Da) (n' : Int) (q' : Ppl),
  vs = .ref p :: us ∧ Org K p qd dx cv tv pt tr B H n q ∧ IsL K B us ds ∧ A pt tr ds n q n' q' ∧ ∀ B' H', MS p qd B H B' H' → Org K p qd dx cv tv pt tr B' H' n' q' → Q .non H'
theorem wo_meth2 {A : Parts → SL → List Da → Int → Ppl → Int → Ppl → Prop} {m : Str} {E : XK} {i j : Nat} {x y : Da} {n' : Int} {q' : Ppl} (hm : ∀ cv tv n qd, (oV cv tv n qd).lookup m = none) (hi : Γ[i]? = some (.dat x)) (hj : Γ[j]? = some (.dat y)) (ha : A pt tr [x, y] n q n' q') (k : N Γ n' q') :
    WO K p qd dx cv tv pt tr (tDrop (tMeth (OC K) m (spM K A) [] E (tVar 0) (tCons (tVar i) (tCons (tVar j) tNil)))) Γ n q N := fun B0 H0 B H σ D ms s kk => by
  obtain ⟨xv, hx0, hx⟩ := s.e.dat hi
  obtain ⟨yv, hy0, hy⟩ := s.e.dat hj
  refine ⟨_, s.s0, p, dx, _, rfl, s.o.hp, hm _ _ _ _, xv, hx0, yv, hy0, p, qd, dx, cv, tv, pt, tr, B, n, q, [xv, yv], [x, y], n', q', rfl, s.o, .cons hx (.cons hy .nil), ha, fun B1 H1 m1 o1 => ?_⟩
  refine kk B1 H1 σ Γ n' q' ⟨ms.bb.trans m1.bb, fun a o h1 h2 h => m1.hh a o h1 h2 (ms.hh a o h1 h2 h), fun a o h => ?_⟩ ⟨o1, env_base s.e (fun _ _ a => s.noOwn a) m1.bb o1.bh, s.s0, s.g0, s.no⟩ k
  rcases m1.nw a o h with h1 | h1
  · refine .inl ?_
    cases e : H0 a with
    | none => rfl
    | some z =>
      by_cases c1 : a = p
      · subst c1; rw [s.o.hp] at h1; cases h1
      · by_cases c2 : a = qd
        · subst c2; obtain ⟨kvs, hk, _⟩ := s.o.kv; rw [hk] at h1; cases h1
        · rw [ms.hh a z c1 c2 e] at h1; cases h1
  · exact ms.nw a o h1
end
section
variable {P : Program} {w : World} {K : PySem.W.Frag} {mg : Str → Option Value} {base : Heap} {x qual : Str} {params : Arguments} {body : List Stmt} {scope : Scope} {kws : List (Str × V)} {f : Addr} {fd : FuncData} {N ps : List Str} {k : Nat}
theorem fn_org {A : Parts → SL → List Da → Int → Ppl → Int → Ppl → Prop} (F : FunD K x qual params body scope [] kws f fd) (S : FnScope N ps scope) (len : ∀ pt tr ds n q n' q', A pt tr ds n q n' q' → ds.length + 1 = ps.length) (hN : 0 < N.length)
    (hb : ∀ (cdv : Value) (A' : Around) (outer : List PySem.Env) (s : Shared) (H : Hp) (E : XK), Room k (A'.deeper (envOfC qual scope s.heap.objs.size f cdv)) →
      ∃ t, PSs (cxOf CX0 P w K mg base N qual scope f cdv A' outer s H E).nox body t ∧ ∀ p qd dx cv tv pt tr ds n q n' q', A pt tr ds n q n' q' → WO K p qd dx cv tv pt tr t (.un :: args N.tail ds) n q fun _ n1 q1 => n1 = n' ∧ q1 = q') :
    FnOk P w K mg base CX0 (k + 1) f fd ps (spM K A) := by
  refine F.ok S (fun vs H Q E ⟨p, qd, dx, cv, tv, pt, tr, B, n, q, us, ds, n', q', ev, o, r, h, _⟩ => by rw [ev, ← len _ _ _ _ _ _ _ h, List.length_cons, r.length]) fun cdv A' outer s H vs Q E hr ⟨p, qd, dx, cv, tv, pt, tr, B, n, q, us, ds, n', q', ev, o, r, h, qq⟩ => ?_
  obtain ⟨t, ht, hw⟩ := hb cdv A' outer s H E hr
  subst ev
  have e1 : L2.start N (.ref p :: us) = some (.ref p) :: L2.start N.tail us := by
    unfold L2.start
    rw [List.map_cons, List.cons_append, List.length_cons, List.length_tail]
    congr 3
    omega
  have ev : Env K H B H (L2.start N.tail us) (args N.tail ds) := env_start o.bh r
  have no : ∀ (i : Nat) (s : Sl), (args N.tail ds)[i]? = some s → isOwn s = false := fun i s' a => by
    unfold args at a
    by_cases lt : i < ds.length
    · rw [List.getElem?_append_left (by simpa using lt), List.getElem?_map, List.getElem?_eq_getElem lt] at a
      rw [← Option.some.inj a]; rfl
    · rw [List.getElem?_append_right (by simp; omega)] at a
      have := (List.getElem?_eq_some_iff.mp a).2
      rw [List.getElem_replicate] at this
      rw [← this]; rfl
  refine ⟨t, ht.nox, ?_⟩
  rw [e1]
  refine hw p qd dx cv tv pt tr ds n q n' q' h B H B H _ _ MS.refl ⟨o, ⟨o.bh, by rw [List.length_cons, List.length_cons, ev.len], fun i s' ov a b => ?_, fun i j s' t' y hij a b os ot c c' => ?_⟩, rfl, rfl, ?_⟩ fun B' H' σ' Γ' n1 q1 m st ⟨h1, h2⟩ => ?_
  · cases i with
    | zero => cases a; trivial
    | succ i => exact ev.sl i s' ov a b
  · cases i with
    | zero => cases a; cases os
    | succ i => rw [no i s' a] at os; cases os
  · rw [List.all_cons]
    refine List.all_eq_true.mpr fun s' hs => ?_
    obtain ⟨i, hi, e⟩ := List.mem_iff_getElem.mp hs
    rw [no i s' (by rw [List.getElem?_eq_getElem hi, e])]; rfl
  · subst h1 h2
    exact qq B' H' m st.o
end
end WM

/-! ## W7 -/
set_option maxHeartbeats 4000000
namespace WM
open PySem PySem.Spec PyProof.Rows L2
theorem lookup_mem {q : Ppl} {x : Str} {l : SL} : q.lookup x = some l → (x, l) ∈ q := by
  induction q with
  | nil => intro h; cases h
  | cons v q ih =>
    intro h
    obtain ⟨y, m⟩ := v
    rw [List.lookup_cons] at h
    by_cases c : x = y
    · subst c
      rw [beq_self_eq_true] at h
      cases h
      exact List.mem_cons_self ..
    · rw [beq_eq_false_iff_ne.mpr c] at h
      exact List.mem_cons_of_mem _ (ih h)
theorem setP_len (q : Ppl) (x : Str) (l : SL) : (setP q x l).length ≤ q.length + 1 := by
  unfold setP
  split
  · rw [List.length_map]; omega
  · rw [List.length_append]; exact Nat.le_refl _
theorem lookup_append {q : Ppl} {x y : Str} {l : SL} : (q ++ [(x, l)]).lookup y = (q.lookup y).or (if y = x then some l else none) := by
  induction q with
  | nil =>
    show List.lookup y [(x, l)] = _
    rw [List.lookup_cons]
    by_cases c : y = x
    · subst c; rw [beq_self_eq_true, if_pos rfl]; rfl
    · rw [beq_eq_false_iff_ne.mpr c, if_neg c]; rfl
  | cons v q ih =>
    obtain ⟨z, m⟩ := v
    rw [List.cons_append, List.lookup_cons, List.lookup_cons]
    cases y == z with
    | true => rfl
    | false => exact ih
theorem lookup_map {q : Ppl} {x y : Str} {l : SL} : (q.map fun v => if v.1 = x then (v.1, l) else v).lookup y = if y = x then (q.lookup y).map (fun _ => l) else q.lookup y := by
  induction q with
  | nil => by_cases c : y = x <;> simp [c]
  | cons v q ih =>
    obtain ⟨z, m⟩ := v
    rw [List.map_cons, List.lookup_cons]
    by_cases c : z = x
    · subst c
      rw [if_pos rfl, List.lookup_cons]
      by_cases d : y = z
      · subst d; rw [beq_self_eq_true, if_pos rfl]; rfl
      · rw [beq_eq_false_iff_ne.mpr d, ih, if_neg d]
    · rw [if_neg c, List.lookup_cons]
      by_cases d : y = z
      · subst d; rw [beq_self_eq_true, if_neg c]
      · rw [beq_eq_false_iff_ne.mpr d]; exact ih
theorem any_lookup {q : Ppl} {x : Str} : (q.any fun v => decide (v.1 = x)) = (q.lookup x).isSome := by
  induction q with
  | nil => rfl
  | cons v q ih =>
    obtain ⟨z, m⟩ := v
    rw [List.any_cons, List.lookup_cons, ih]
    by_cases d : x = z
    · subst d; rw [beq_self_eq_true]; simp
    · rw [beq_eq_false_iff_ne.mpr d, decide_eq_false (fun e : z = x => d e.symm)]; rfl
theorem setP_lookup (q : Ppl) (x y : Str) (l : SL) : (setP q x l).lookup y = if y = x then some l else q.lookup y := by
  unfold setP
  rw [any_lookup]
  cases e : q.lookup x with
  | none =>
    rw [if_neg (by simp), lookup_append]
    by_cases c : y = x
    · subst c; rw [e, if_pos rfl]; rfl
    · rw [if_neg c]; simp [c]
  | some m =>
    rw [if_pos (by rfl), lookup_map]
    by_cases c : y = x
    · subst c; rw [if_pos rfl, if_pos rfl, e]; rfl
    · rw [if_neg c, if_neg c]
def getP (q : Ppl) (x : Str) : SL := (q.lookup x).getD []
def putR (rights : SL) (q : Ppl) (x r : Str) : Ppl := setP q x (rights.filter fun z => decide (z ∈ getP q x ++ [r]))
def cutR (q : Ppl) (x r : Str) : Ppl := setP q x ((getP q x).filter fun z => !decide (z = r))
def doU (rights : SL) (q : Ppl) (a : Act) : Rl → Ppl
  | .join _ rs => setP q a.actor rs
  | .solo k _ _ _ r => if k = "claim" then putR rights q a.actor r else cutR q a.actor r
  | .duo k _ _ _ _ r => if k = "take" then cutR q (a.tgt.getD "") r else if k = "pass" then putR rights (cutR q a.actor r) (a.tgt.getD "") r else putR rights q (a.tgt.getD "") r
def doP (pt : Parts) (q : Ppl) (a : Act) : Ppl := match pt.rules.find? (fun v => decide (v.name = a.name)) with
  | some u => doU pt.rights q a u
  | none => q
structure PplOk (pt : Parts) (q : Ppl) : Prop where
  sub : ∀ v ∈ q, ∀ z ∈ v.2, z ∈ pt.rights
  len : ∀ v ∈ q, v.2.length ≤ 1000
  n : q.length ≤ 900
section
variable {P : Program} {w : World} {K : PySem.W.Frag} {mg : Str → Option Value} {base : Heap}
def A_put : Parts → SL → List Da → Int → Ppl → Int → Ppl → Prop := fun pt _ ds n q n' q' => ∃ (x r : Str) (l : SL), ds = [.str x, .str r] ∧ q.lookup x = some l ∧ (∀ z ∈ l ++ [r], z ∈ pt.rights) ∧ pt.rights.length ≤ 6 ∧ l.length ≤ 1000 ∧ q.length ≤ 1000 ∧ n' = n ∧ q' = putR pt.rights q x r
theorem ok_put (T : Txt w K mg) (G_Charter_ordered : CalM P w K mg base (CC K) "ordered" (aM K "Charter" "ordered") 1 ["self", "words"] (spP K (R_ordered K))) :
    CalM P w K mg base (OC K) "put" (aM K "Organisation" "put") 2 ["self", "person", "right"] (spM K A_put) := by
  obtain ⟨fd, F⟩ := T.d_Organisation_put
  obtain ⟨fd1, F_Charter_ordered, b_Charter_ordered⟩ := G_Charter_ordered.ex
  refine ⟨⟨fd, fn_org F sc_Organisation_put (fun _ _ _ _ _ _ _ h => ?_) (by simp) fun cdv A outer s H E hr => ⟨_, (pss_one (ps_dput (hu_of hr) (pe_fldK K rfl (pv 0) rfl) (pv 1) (pe_meth (pe_fldK K rfl (pv 0) rfl) T.cl_Charter G_Charter_ordered.m F_Charter_ordered (hr.mono (by decide)) b_Charter_ordered .nil pass0 (pa_cons (pe_op (op_addK K rfl) (pe_dget (hu_of hr) (pe_fldK K rfl (pv 0) rfl) (pv 1) (fun _ _ => rfl)) (pe_tup (pa_cons (pv 2) pa_nil))) pa_nil)) rfl)), fun p qd dx cv tv pt tr ds n q n' q' h => ?_⟩, F.bindsN fun _ _ _ _ _ _ us hl => match us, hl with | [_, _, _], _ => rfl⟩, T.cl_Organisation, T.mt_Organisation_put⟩
  · obtain ⟨_, _, _, rfl, _⟩ := h
    rfl
  · obtain ⟨x, r, l, rfl, hq, hs, h6, hl, hn, rfl, rfl⟩ := h
    have e : getP q x = l := by unfold getP; rw [hq]; rfl
    refine wo_dput (l := pt.rights.filter fun z => decide (z ∈ l ++ [r])) T.cl_Organisation T.na_Organisation__held hn rfl (ev_meth (ev_fld (ev_var rfl) T.cl_Organisation T.na_Organisation_charter rfl) rfl (ea_cons (ev_is (ev_op (ev_dget (ev_held T rfl) (ev_var rfl) (by rw [held_get, hq]; rfl)) (ev_tup (ea_cons (ev_var rfl) ea_nil) (by simp)) (rv_addT (by simp; omega))) (congrArg Da.tup (by rw [show ([Da.str r] : List Da) = [r].map Da.str from rfl, ← List.map_append]))) ea_nil) ⟨_, pt.rights, l ++ [r], .inr rfl, rfl, hs, h6, rfl⟩) ⟨rfl, ?_⟩
    unfold putR
    rw [e]
def A_cut : Parts → SL → List Da → Int → Ppl → Int → Ppl → Prop := fun pt _ ds n q n' q' => ∃ (x r : Str) (l : SL), ds = [.str x, .str r] ∧ q.lookup x = some l ∧ l.length ≤ 1000 ∧ q.length ≤ 1000 ∧ n' = n ∧ q' = cutR q x r
theorem ok_cut (T : Txt w K mg) : CalM P w K mg base (OC K) "cut" (aM K "Organisation" "cut") 2 ["self", "person", "right"] (spM K A_cut) := by
  obtain ⟨fd, F⟩ := T.d_Organisation_cut
  refine ⟨⟨fd, fn_org F sc_Organisation_cut (fun _ _ _ _ _ _ _ h => ?_) (by simp) fun cdv A outer s H E hr => ⟨_, (pss_one (ps_dput (hu_of hr) (pe_fldK K rfl (pv 0) rfl) (pv 1) (pe_callTy (call_tupK K rfl) (by rfl) T.f_tuple (by decide +kernel) (pa_cons (pe_lc (own := [("held", 3)]) rfl sc_Organisation_cut.nd (pi_seqK K rfl (pe_dget (hu_of hr) (pe_fldK K rfl (pv 0) rfl) (pv 1) (fun _ _ => rfl))) (blkOk_by (own := [("held", 3)]) (N := ["self", "person", "right", "held"]) (sc := defScope s_Organisation_cut) (by decide +kernel)) (fun _ _ _ _ _ => (pg_name (i := 3) sc_Organisation_cut.nd rfl (by first | exact Or.inl rfl | exact Or.inr rfl))) (fun _ _ _ _ _ => (pts_one (pt_cmpR op_ne (pv 3) (pv 2) (nomark _)))) (fun _ _ _ _ _ => (pv 3))) pa_nil)) rfl)), fun p qd dx cv tv pt tr ds n q n' q' h => ?_⟩, F.bindsN fun _ _ _ _ _ _ us hl => match us, hl with | [_, _, _], _ => rfl⟩, T.cl_Organisation, T.mt_Organisation_cut⟩
  · obtain ⟨_, _, _, rfl, _⟩ := h
    rfl
  · obtain ⟨x, r, l, rfl, hq, hl, hn, rfl, rfl⟩ := h
    have e : getP q x = l := by unfold getP; rw [hq]; rfl
    refine wo_dput (l := l.filter fun z => !decide (z = r)) T.cl_Organisation T.na_Organisation__held hn rfl (ev_cb (ea_cons (ev_lcM .str l (js := [3]) (it_seqT (ev_dget (ev_held T rfl) (ev_var rfl) (by rw [held_get, hq]; rfl))) (by omega) (fun z => !decide (z = r)) .str (by simp) fun i z _ => tg_name ⟨et_test (ev_op (ev_var rfl) (ev_var rfl) rv_neS), fun _ => ev_var rfl⟩) ea_nil) rc_tupL) ⟨rfl, ?_⟩
    unfold cutR
    rw [e]
def A_do : Parts → SL → List Da → Int → Ppl → Int → Ppl → Prop := fun pt tr ds n q n' q' => ∃ a : Act, ds = [a.da] ∧ Wf pt ∧ Can pt tr q a ∧ PplOk pt q ∧ n' = n + 1 ∧ q' = doP pt q a
theorem thin_act (a : Act) : Thin a.da := Thin.tup fun d hd => by
  simp at hd
  rcases hd with rfl | rfl | rfl
  · exact Thin.flat rfl
  · exact Thin.flat rfl
  · exact Thin.flat (opt_flat _)
theorem rl_right {Γ : List Sl} {i : Nat} {k n r : Str} {a b : SL} (h : Γ[i]? = some (.dat (Rl.solo k n a b r).da)) {te : TE} (e : Ev K te Γ (.int (-1))) : Ev K (tOp (rIx K) (tVar i) te) Γ (.str r) := ev_op (ev_var h) e (rv_ixT (atI_last [.str k, .str n, strsT a, strsT b] (.str r)))
theorem rl_right2 {Γ : List Sl} {i : Nat} {k n r : Str} {a b c : SL} (h : Γ[i]? = some (.dat (Rl.duo k n a b c r).da)) {te : TE} (e : Ev K te Γ (.int (-1))) : Ev K (tOp (rIx K) (tVar i) te) Γ (.str r) := ev_op (ev_var h) e (rv_ixT (atI_last [.str k, .str n, strsT a, strsT b, strsT c] (.str r)))
theorem ok_do (T : Txt w K mg) (G_Charter_rule : CalM P w K mg base (CC K) "rule" (aM K "Charter" "rule") 1 ["self", "name"] (spP K (R_rule K)))
    (G_Organisation_can_do : CalM P w K mg base (OC K) "can_do" (aM K "Organisation" "can_do") 3 ["self", "action"] (spP K (R_can K)))
    (G_Organisation_put : CalM P w K mg base (OC K) "put" (aM K "Organisation" "put") 2 ["self", "person", "right"] (spM K A_put))
    (G_Organisation_cut : CalM P w K mg base (OC K) "cut" (aM K "Organisation" "cut") 2 ["self", "person", "right"] (spM K A_cut)) :
    CalM P w K mg base (OC K) "do" (aM K "Organisation" "do") 4 ["self", "action"] (spM K A_do) := by
  obtain ⟨fd, F⟩ := T.d_Organisation_do
  obtain ⟨fd1, F_Charter_rule, b_Charter_rule⟩ := G_Charter_rule.ex
  obtain ⟨fd2, F_Organisation_can_do, b_Organisation_can_do⟩ := G_Organisation_can_do.ex
  obtain ⟨fd3, F_Organisation_put, b_Organisation_put⟩ := G_Organisation_put.ex
  obtain ⟨fd4, F_Organisation_cut, b_Organisation_cut⟩ := G_Organisation_cut.ex
  refine ⟨⟨fd, fn_org F sc_Organisation_do (fun _ _ _ _ _ _ _ h => ?_) (by simp) fun cdv A outer s H E hr => ⟨_, (pss_cons (ps_if (pt_not (pt_val (pe_meth (pv 0) T.cl_Organisation G_Organisation_can_do.m F_Organisation_can_do (hr.mono (by decide)) b_Organisation_can_do .nil pass0 (pa_cons (pv 1) pa_nil)))) (pss_one ps_never) pss_nil) (pss_cons (ps_asg (pv 1) (pg_tupK (n := 3) K rfl rfl (pgs_cons (pg_name (i := 2) sc_Organisation_do.nd rfl (by first | exact Or.inl rfl | exact Or.inr rfl)) (pgs_cons (pg_name (i := 3) sc_Organisation_do.nd rfl (by first | exact Or.inl rfl | exact Or.inr rfl)) (pgs_cons (pg_name (i := 4) sc_Organisation_do.nd rfl (by first | exact Or.inl rfl | exact Or.inr rfl)) pgs_nil))))) (pss_cons (ps_set (i := 5) sc_Organisation_do.nd rfl (by first | exact Or.inl rfl | exact Or.inr rfl) (pe_meth (pe_fldK K rfl (pv 0) rfl) T.cl_Charter G_Charter_rule.m F_Charter_rule (hr.mono (by decide)) b_Charter_rule .nil pass0 (pa_cons (pv 2) pa_nil))) (pss_cons (ps_set (i := 6) sc_Organisation_do.nd rfl (by first | exact Or.inl rfl | exact Or.inr rfl) (pe_ix (ix_K K rfl) (pv 5) (pe_un un_neg pe_int) (fun _ _ => rfl))) (pss_cons (ps_fldaug (pv 0) pe_int in_add) (pss_cons (ps_if (pt_cmpR op_eq (pe_ix (ix_K K rfl) (pv 5) pe_int (fun _ _ => rfl)) pe_str (nomark _)) (pss_one (ps_dput (hu_of hr) (pe_fldK K rfl (pv 0) rfl) (pv 3) (pe_ix (ix_K K rfl) (pv 5) pe_int (fun _ _ => rfl)) rfl)) (pss_one (ps_if (pt_cmpR op_eq (pe_ix (ix_K K rfl) (pv 5) pe_int (fun _ _ => rfl)) pe_str (nomark _)) (pss_one (ps_expr (pe_meth (pv 0) T.cl_Organisation G_Organisation_put.m F_Organisation_put (hr.mono (by decide)) b_Organisation_put .nil pass0 (pa_cons (pv 3) (pa_cons (pv 6) pa_nil))))) (pss_one (ps_if (pt_cmpR (op_inK K rfl) (pe_ix (ix_K K rfl) (pv 5) pe_int (fun _ _ => rfl)) (pe_tup (pa_cons pe_str (pa_cons pe_str pa_nil))) rfl) (pss_one (ps_expr (pe_meth (pv 0) T.cl_Organisation G_Organisation_cut.m F_Organisation_cut (hr.mono (by decide)) b_Organisation_cut .nil pass0 (pa_cons (pv 3) (pa_cons (pv 6) pa_nil))))) pss_nil))))) (pss_one (ps_if (pt_cmpR (op_inK K rfl) (pe_ix (ix_K K rfl) (pv 5) pe_int (fun _ _ => rfl)) (pe_tup (pa_cons pe_str (pa_cons pe_str pa_nil))) rfl) (pss_one (ps_expr (pe_meth (pv 0) T.cl_Organisation G_Organisation_put.m F_Organisation_put (hr.mono (by decide)) b_Organisation_put .nil pass0 (pa_cons (pv 4) (pa_cons (pv 6) pa_nil))))) (pss_one (ps_if (pt_cmpR op_eq (pe_ix (ix_K K rfl) (pv 5) pe_int (fun _ _ => rfl)) pe_str (nomark _)) (pss_one (ps_expr (pe_meth (pv 0) T.cl_Organisation G_Organisation_cut.m F_Organisation_cut (hr.mono (by decide)) b_Organisation_cut .nil pass0 (pa_cons (pv 4) (pa_cons (pv 6) pa_nil))))) pss_nil)))))))))), fun p qd dx cv tv pt tr ds n q n' q' h => ?_⟩, F.bindsN fun _ _ _ _ _ _ us hl => match us, hl with | [_, _], _ => rfl⟩, T.cl_Organisation, T.mt_Organisation_do⟩
  · obtain ⟨_, rfl, _⟩ := h
    rfl
  · obtain ⟨a, rfl, W, hc, ok, rfl, rfl⟩ := h
    obtain ⟨u, hu, hcu⟩ := hc
    have hd : doP pt q a = doU pt.rights q a u := by unfold doP; rw [hu]
    have hum := List.mem_of_find?_eq_some hu
    obtain ⟨nm, ac, tg⟩ := a
    rw [hd]
    have r6 := W.r6
    have okn := ok.n
    refine wo_seq (wo_if (b := false) (evt_is (et_not (et_B (ev_meth (ev_var rfl) rfl (ea_cons (ev_var rfl) ea_nil) ⟨pt, tr, n, q, ⟨nm, ac, tg⟩, rfl, W, ⟨u, hu, hcu⟩, rfl⟩))) rfl) (fun h => by cases h) fun _ => wo_next ?_)
    refine wo_seq (wo_asgT (js := [2, 3, 4]) (ev_var rfl) (thin_act ⟨nm, ac, tg⟩) (by simp) (tg_tup3 ⟨rfl, rfl, ?_⟩))
    refine wo_seq (wo_asg (d := u.da) (ev_meth (ev_fld (ev_var rfl) T.cl_Organisation T.na_Organisation_charter rfl) rfl (ea_cons (ev_var rfl) ea_nil) ⟨_, pt.rules, nm, u, rfl, rfl, hu, rfl⟩) (thin_da u) (by decide) ?_)
    have wf := W.uw u hum
    cases wf with
    | join hn ho hap =>
      rename_i nn rs
      obtain ⟨h0, h1, h2⟩ := hcu
      refine wo_seq (wo_asg (d := strsT rs) (ev_op (ev_var rfl) (ev_un ev_int) (rv_ixT (atI_last [.str "join", .str nn] (strsT rs)))) (thin_strs _) (by decide) ?_)
      refine wo_seq (wo_count T.cl_Organisation T.na_Organisation_count ?_)
      refine wo_seq (wo_if (b := true) (evt_is (et_test (ev_op (ev_op (ev_var rfl) ev_int (rv_ixT at0)) ev_str rv_eqS)) rfl) (fun _ => ?_) fun h => by cases h)
      refine wo_dput (l := rs) T.cl_Organisation T.na_Organisation__held (by omega) rfl (ev_op (ev_var rfl) ev_int (rv_ixT at2)) ?_
      refine wo_if (b := false) (evt_is (et_test (ev_op (ev_op (ev_var rfl) ev_int (rv_ixT at0)) (ev_tup (ea_cons ev_str (ea_cons ev_str ea_nil)) (by simp)) (rv_isT (ss := ["give", "pass"])))) (by decide)) (fun h => by cases h) fun _ => ?_
      exact wo_if (b := false) (evt_is (et_test (ev_op (ev_op (ev_var rfl) ev_int (rv_ixT at0)) ev_str rv_eqS)) (by decide)) (fun h => by cases h) fun _ => wo_next ⟨rfl, rfl⟩
    | solo hk hn ha hb hr1 hra hrb hap hcl =>
      rename_i k nn x y r
      obtain ⟨h0, h, h1, h2, h3, h4⟩ := hcu
      have hmem := lookup_mem h1
      have hsub := ok.sub _ hmem
      have hlen := ok.len _ hmem
      refine wo_seq (wo_asg (d := .str r) (rl_right rfl (ev_un ev_int)) (Thin.flat rfl) (by decide) ?_)
      refine wo_seq (wo_count T.cl_Organisation T.na_Organisation_count ?_)
      have hj : k ≠ "join" := by rcases hk with rfl | rfl <;> decide
      refine wo_seq (wo_if (b := false) (evt_is (et_test (ev_op (ev_op (ev_var rfl) ev_int (rv_ixT at0)) ev_str rv_eqS)) (decide_eq_false hj)) (fun h => by cases h) fun _ => ?_)
      have hg : k ∉ (["give", "pass"] : SL) := by rcases hk with rfl | rfl <;> decide
      have ht : k ≠ "take" := by rcases hk with rfl | rfl <;> decide
      rcases hk with rfl | rfl
      · refine wo_if (b := true) (evt_is (et_test (ev_op (ev_op (ev_var rfl) ev_int (rv_ixT at0)) ev_str rv_eqS)) (by decide)) (fun _ => ?_) fun h => by cases h
        refine wo_meth2 (q' := putR pt.rights q ac r) (fun _ _ _ _ => rfl) rfl rfl ⟨ac, r, h, rfl, h1, fun z hz => ?_, r6, hlen, by omega, rfl, rfl⟩ ?_
        · rcases List.mem_append.mp hz with h' | h'
          · exact hsub z h'
          · rw [List.mem_singleton.mp h']; exact hr1
        · refine wo_if (b := false) (evt_is (et_test (ev_op (ev_op (ev_var rfl) ev_int (rv_ixT at0)) (ev_tup (ea_cons ev_str (ea_cons ev_str ea_nil)) (by simp)) (rv_isT (ss := ["give", "pass"])))) (decide_eq_false hg)) (fun h => by cases h) fun _ => ?_
          exact wo_if (b := false) (evt_is (et_test (ev_op (ev_op (ev_var rfl) ev_int (rv_ixT at0)) ev_str rv_eqS)) (decide_eq_false ht)) (fun h => by cases h) fun _ => wo_next ⟨rfl, rfl⟩
      · refine wo_if (b := false) (evt_is (et_test (ev_op (ev_op (ev_var rfl) ev_int (rv_ixT at0)) ev_str rv_eqS)) (by decide)) (fun h => by cases h) fun _ => ?_
        refine wo_if (b := true) (evt_is (et_test (ev_op (ev_op (ev_var rfl) ev_int (rv_ixT at0)) (ev_tup (ea_cons ev_str (ea_cons ev_str ea_nil)) (by simp)) (rv_isT (ss := ["drop", "pass"])))) (by decide)) (fun _ => ?_) fun h => by cases h
        refine wo_meth2 (q' := cutR q ac r) (fun _ _ _ _ => rfl) rfl rfl ⟨ac, r, h, rfl, h1, hlen, by omega, rfl, rfl⟩ ?_
        refine wo_if (b := false) (evt_is (et_test (ev_op (ev_op (ev_var rfl) ev_int (rv_ixT at0)) (ev_tup (ea_cons ev_str (ea_cons ev_str ea_nil)) (by simp)) (rv_isT (ss := ["give", "pass"])))) (decide_eq_false hg)) (fun h => by cases h) fun _ => ?_
        exact wo_if (b := false) (evt_is (et_test (ev_op (ev_op (ev_var rfl) ev_int (rv_ixT at0)) ev_str rv_eqS)) (decide_eq_false ht)) (fun h => by cases h) fun _ => wo_next ⟨rfl, rfl⟩
    | duo hk hn ha hb hc' hr1 hrb hrc hap hgv hps =>
      rename_i k nn x y z r
      obtain ⟨t, h, o, h0, h1, h2, h3, h4, h5, h6, h7, h8⟩ := hcu
      have h0' : tg = some t := h0
      subst h0'
      have hlen := ok.len _ (lookup_mem h1)
      have hsubo := ok.sub _ (lookup_mem h2)
      have hleno := ok.len _ (lookup_mem h2)
      have osub : ∀ z ∈ o ++ [r], z ∈ pt.rights := fun z hz => by
        rcases List.mem_append.mp hz with h' | h'
        · exact hsubo z h'
        · rw [List.mem_singleton.mp h']; exact hr1
      refine wo_seq (wo_asg (d := .str r) (rl_right2 rfl (ev_un ev_int)) (Thin.flat rfl) (by decide) ?_)
      refine wo_seq (wo_count T.cl_Organisation T.na_Organisation_count ?_)
      have hj : k ≠ "join" := by rcases hk with rfl | rfl | rfl <;> decide
      have hcl : k ≠ "claim" := by rcases hk with rfl | rfl | rfl <;> decide
      refine wo_seq (wo_if (b := false) (evt_is (et_test (ev_op (ev_op (ev_var rfl) ev_int (rv_ixT at0)) ev_str rv_eqS)) (decide_eq_false hj)) (fun h => by cases h) fun _ => ?_)
      refine wo_if (b := false) (evt_is (et_test (ev_op (ev_op (ev_var rfl) ev_int (rv_ixT at0)) ev_str rv_eqS)) (decide_eq_false hcl)) (fun h => by cases h) fun _ => ?_
      rcases hk with rfl | rfl | rfl
      · refine wo_if (b := false) (evt_is (et_test (ev_op (ev_op (ev_var rfl) ev_int (rv_ixT at0)) (ev_tup (ea_cons ev_str (ea_cons ev_str ea_nil)) (by simp)) (rv_isT (ss := ["drop", "pass"])))) (by decide)) (fun h => by cases h) fun _ => wo_next ?_
        refine wo_if (b := true) (evt_is (et_test (ev_op (ev_op (ev_var rfl) ev_int (rv_ixT at0)) (ev_tup (ea_cons ev_str (ea_cons ev_str ea_nil)) (by simp)) (rv_isT (ss := ["give", "pass"])))) (by decide)) (fun _ => ?_) fun h => by cases h
        exact wo_meth2 (q' := putR pt.rights q t r) (fun _ _ _ _ => rfl) rfl rfl ⟨t, r, o, rfl, h2, osub, r6, hleno, by omega, rfl, rfl⟩ ⟨rfl, rfl⟩
      · refine wo_if (b := false) (evt_is (et_test (ev_op (ev_op (ev_var rfl) ev_int (rv_ixT at0)) (ev_tup (ea_cons ev_str (ea_cons ev_str ea_nil)) (by simp)) (rv_isT (ss := ["drop", "pass"])))) (by decide)) (fun h => by cases h) fun _ => wo_next ?_
        refine wo_if (b := false) (evt_is (et_test (ev_op (ev_op (ev_var rfl) ev_int (rv_ixT at0)) (ev_tup (ea_cons ev_str (ea_cons ev_str ea_nil)) (by simp)) (rv_isT (ss := ["give", "pass"])))) (by decide)) (fun h => by cases h) fun _ => ?_
        refine wo_if (b := true) (evt_is (et_test (ev_op (ev_op (ev_var rfl) ev_int (rv_ixT at0)) ev_str rv_eqS)) (by decide)) (fun _ => ?_) fun h => by cases h
        exact wo_meth2 (q' := cutR q t r) (fun _ _ _ _ => rfl) rfl rfl ⟨t, r, o, rfl, h2, hleno, by omega, rfl, rfl⟩ ⟨rfl, rfl⟩
      · refine wo_if (b := true) (evt_is (et_test (ev_op (ev_op (ev_var rfl) ev_int (rv_ixT at0)) (ev_tup (ea_cons ev_str (ea_cons ev_str ea_nil)) (by simp)) (rv_isT (ss := ["drop", "pass"])))) (by decide)) (fun _ => ?_) fun h => by cases h
        refine wo_meth2 (q' := cutR q ac r) (fun _ _ _ _ => rfl) rfl rfl ⟨ac, r, h, rfl, h1, hlen, by omega, rfl, rfl⟩ ?_
        refine wo_if (b := true) (evt_is (et_test (ev_op (ev_op (ev_var rfl) ev_int (rv_ixT at0)) (ev_tup (ea_cons ev_str (ea_cons ev_str ea_nil)) (by simp)) (rv_isT (ss := ["give", "pass"])))) (by decide)) (fun _ => ?_) fun h => by cases h
        have h2' : (cutR q ac r).lookup t = some o := by unfold cutR; rw [setP_lookup, if_neg h3]; exact h2
        have hl' : (cutR q ac r).length ≤ q.length + 1 := setP_len ..
        exact wo_meth2 (q' := putR pt.rights (cutR q ac r) t r) (fun _ _ _ _ => rfl) rfl rfl ⟨t, r, o, rfl, h2', osub, r6, hleno, by omega, rfl, rfl⟩ ⟨rfl, rfl⟩
end
end WM

/-! ## W8 -/
set_option maxHeartbeats 4000000
namespace WM
open PySem PySem.Spec PyProof.Rows L2
/-- a new dict of the caller's own -/
def EvD (K : PySem.W.Frag) (te : TE) (Γ : List Sl) (l : List (Str × Da)) : Prop :=
  ∀ (H0 B H : Hp) (σ : L2.St), Env K H0 B H σ Γ → ∀ Q : VK, (∀ p kvs B' H', Step B H B' H' → H p = none → B' p = none → H' p = some (.dK kvs) → IsK K B' kvs l → Q (.ref p) H') → te σ H Q
section
variable {K : PySem.W.Frag} {Γ : List Sl} {te ta tb : TE} {t u : TS} {d : Da} {E : En}
theorem ed_dc {wi : TI} {g : TG} {js vs : List Nat} {xs : List Da} {tt : TT} {tk tv : TE} (hi : ItD K wi Γ xs) (hz : xs.length ≤ 50000) (key : Da → Str) (val : Da → Da) (nd : (xs.map key).Nodup) (hj : ∀ j ∈ js, j ∈ vs)
    (hs : ∀ (i : Nat) x, xs[i]? = some x → Tg K g js (wipeG Γ vs) x fun Γ2 => EvT K tt Γ2 true ∧ Ev K tk Γ2 (.str (key x)) ∧ Ev K tv Γ2 (val x)) : EvD K (tDc wi g tt tk tv vs) Γ (xs.map fun x => (key x, val x)) := fun H0 B H σ e Q q =>
  hi H0 B H σ e _ fun J B1 H1 G Y s1 hw hG hY => fun D hD => by
    have e1 := e.step s1
    let Pv : Nat → Hp → Prop := fun i H' => ∃ B' acc, Step B1 H1 B' H' ∧ B' D = none ∧ H' D = some (.dK acc) ∧ IsK K B' acc ((xs.take i).map fun x => (key x, val x))
    refine ⟨fun i m H' => m = xs.length - i ∧ i ≤ xs.length ∧ Pv i H', ⟨xs.length, by simp, Nat.zero_le _, B1, [], ⟨Ex.new hD, Ex.refl _, s1.bh.trans (Ex.new hD), fun _ _ w => .inr w⟩, s1.bh.free hD, upd_same, .nil⟩, ?_⟩
    rintro i m Hc ⟨rfl, hle, p⟩
    obtain ⟨B', acc, z, zb, zh, zl⟩ := id p
    have hg := hG Hc (z.bb.trans z.bh)
    by_cases lt : i < xs.length
    · refine .inr ⟨hw.goes i Hc lt hg, Pv (i + 1), fun H' p' => ⟨xs.length - (i + 1), by omega, rfl, lt, p'⟩, fun v H' y => ?_⟩
      obtain ⟨x, B2, hx, s2, hv⟩ := hY i Hc v H' lt (hw.yields i Hc v H' lt hg y) B' z.bb z.bh
      have sz : Step B1 H1 B2 H' := z.trans s2
      have eD : Env K H0 B2 H' (wipe σ vs) (wipeG Γ vs) := ((e1.step z).step s2).wipe vs
      have n2 : B2 D = none := s2.keepN zh zb
      have h2 : H' D = some (.dK acc) := s2.hh _ _ zh
      have tk1 : xs.take (i + 1) = xs.take i ++ [x] := by
        rw [List.take_add_one, hx] <;> rfl
      refine hs i x hx H0 B2 H' (wipe σ vs) v eD hv _ fun Γ2 σ2 ⟨ht, hk, he⟩ e2 hwp => ⟨?_, ?_⟩
      · rw [hwp vs hj]
        exact wipe_wipe σ vs
      · refine ht H0 B2 H' σ2 e2 _ fun B3 H3 s3 => ?_
        show tk σ2 H3 _
        refine hk H0 B3 H3 σ2 (e2.step s3) _ fun w B4 H4 s4 hw4 => he H0 B4 H4 σ2 (e2.step (s3.trans s4)) _ fun u B5 H5 s5 hu => ?_
        have s25 := (s3.trans s4).trans s5
        have n5 := s25.keepN h2 n2
        have h5 := s25.hh _ _ h2
        have s15 := sz.trans s25
        have zl5 := zl.mono (s2.bb.trans s25.bb)
        have hx2 : i < xs.length := lt
        have out : valV acc (.inr (key x)) = none := by
          refine isK_none zl5 ?_
          cases q1 : List.lookup (key x) ((xs.take i).map fun x => (key x, val x)) with
          | none => rfl
          | some d0 =>
            have mem : ∃ y ∈ xs.take i, key y = key x := by
              have : ∀ l : List Da, List.lookup (key x) (l.map fun x => (key x, val x)) = some d0 → ∃ y ∈ l, key y = key x := by
                intro l
                induction l with
                | nil => intro h; cases h
                | cons a l ih =>
                  intro h
                  rw [List.map_cons, List.lookup_cons] at h
                  by_cases c : key x = key a
                  · exact ⟨a, List.mem_cons_self .., c.symm⟩
                  · rw [beq_eq_false_iff_ne.mpr c] at h
                    obtain ⟨y, hy, ey⟩ := ih h
                    exact ⟨y, List.mem_cons_of_mem _ hy, ey⟩
              exact this _ q1
            obtain ⟨y, hy, ey⟩ := mem
            obtain ⟨j, hj2, ej⟩ := List.mem_iff_getElem.mp hy
            have hji : j < i := by rw [List.length_take] at hj2; omega
            rw [List.getElem_take] at ej
            have hxi : xs[i] = x := by
              rw [List.getElem?_eq_getElem lt] at hx
              exact Option.some.inj hx
            have c := List.pairwise_iff_getElem.mp nd j i (by rw [List.length_map]; omega) (by rw [List.length_map]; exact lt) hji
            rw [List.getElem_map, List.getElem_map, ej, hxi] at c
            exact absurd ey c
        rw [hw4.str_inv]
        refine ⟨acc, .inr (key x), rfl, h5, ?_, B5, acc ++ [(.inr (key x), u)], ⟨s15.hh.mut hD, s15.bb, s15.bh.mut n5, s15.nw⟩, n5, ?_, ?_⟩
        · rw [isK_len zl5, List.length_map]
          have l3 : (List.take i xs).length ≤ xs.length := by rw [List.length_take]; exact Nat.min_le_right _ _
          exact sz_lt (by omega)
        · rw [upd_same, putK_new _ out]
        · rw [tk1, List.map_append]
          exact isK_append zl5 (.cons hu .nil)
    · have e0 : i = xs.length := by omega
      subst e0
      refine .inl ⟨hw.stops Hc hg, ?_⟩
      rw [List.take_length] at zl
      exact q D acc B' Hc (s1.trans z) (s1.hh.free hD) zb zh zl

theorem run_fld {i : Nat} {f : Str} {D : Ends} {σ : L2.St} {H : Hp} (h : te σ H fun y H1 => tVar i σ H1 fun x H2 => ∃ a C dx fs, x = .ref a ∧ H2 a = some (.ins C dx fs) ∧ Cls K C ∧ NoAttr K C f ∧ fs.length < 1000 ∧ u D σ (upd H2 a (.ins C dx (putF f y fs)))) : tSeq (sFld K (tVar i) te f) u D σ H := h
/-- one statement, then what the text goes on with -/
theorem wp_run {N : List Sl → Prop} {B0 H0 B H : Hp} {σ : L2.St} {D : Ends} (h : Wp K t Γ { nx := N, rt := fun _ => False }) (s : Step B0 H0 B H) (e : Env K H0 B H σ Γ) (k : ∀ B' H' σ' Γ', Step B0 H0 B' H' → Env K H0 B' H' σ' Γ' → N Γ' → u D σ' H') : tSeq t u D σ H :=
  h B0 H0 B H σ _ s e ⟨fun B' H' σ' Γ' s' e' n => k B' H' σ' Γ' s' e' n, fun _ _ _ _ _ _ z => z.elim, fun _ _ _ _ _ _ _ _ _ _ z => z.elim, fun _ _ _ _ _ _ z => z.elim, fun _ _ _ _ _ _ z => z.elim⟩
end
section
variable {P : Program} {w : World} {K : PySem.W.Frag} {mg : Str → Option Value} {base : Heap}
theorem fn_any {x qual : Str} {params : Arguments} {body : List Stmt} {scope : Scope} {kws : List (Str × V)} {f : Addr} {fd : FuncData} {N ps : List Str} {k : Nat} {sp : Sp} (F : FunD K x qual params body scope [] kws f fd) (S : FnScope N ps scope) (len : ∀ vs H Q E, sp vs H Q E → vs.length = ps.length)
    (hb : ∀ (cdv : Value) (A : Around) (outer : List PySem.Env) (s : Shared) (H : Hp) (E : XK), Room k (A.deeper (envOfC qual scope s.heap.objs.size f cdv)) →
      ∃ t, PSs (cxOf CX0 P w K mg base N qual scope f cdv A outer s H E).nox body t ∧ ∀ vs Q, sp vs H Q E → t { nx := fun _ H' => Q .non H', rt := Q } (L2.start N vs) H) : FnOk P w K mg base CX0 (k + 1) f fd ps sp :=
  F.ok S len fun cdv A outer s H vs Q E hr h => by
    obtain ⟨t, ht, hw⟩ := hb cdv A outer s H E hr
    exact ⟨t, ht.nox, hw vs Q h⟩
/-- Organisation(charter, trusted = ..): its dict is new -/
def spOI (K : PySem.W.Frag) : Sp := fun vs H Q _ => ∃ (B Hs : Hp) (p dx : Addr) (cv xv : V) (pt : Parts) (tr : SL) (x : Da), vs = [.ref p, cv, xv] ∧ Ex B Hs ∧ Hs p = none ∧ Hs dx = none ∧ dx ≠ p ∧ H = upd (upd Hs dx (.own p)) p (.ins (OC K) dx []) ∧
  Is K B cv (.ins (CC K) (chF pt)) ∧ Is K B xv x ∧ (x = strsL tr ∨ x = strsT tr) ∧ FoundBy pt tr ∧ pt.founders.length ≤ 5 ∧ (pt.founders.map (·.1)).Nodup ∧
  ∀ dy qd cv' tv' B' H', Step B Hs B' H' → Org K p qd dy cv' tv' pt tr B' H' 0 pt.founders → Hs qd = none → Q .non H'
theorem ok_Onew (T : Txt w K mg) (G_check_trusted : Cal P w K mg base "check_trusted" (He.ga K "check_trusted") 2 ["charter", "trusted"] (spP K (R_trusted K))) :
    CalI P w K mg base (OC K) (aM K "Organisation" "__init__") 3 ["self", "charter", "trusted"] 2 ["trusted"] (spOI K) := by
  obtain ⟨fd, F⟩ := T.d_Organisation_init
  obtain ⟨fd1, F_check_trusted, b_check_trusted⟩ := G_check_trusted.ex
  refine ⟨⟨fd, fn_any F sc_Organisation_init (fun vs H Q E h => ?_) fun cdv A outer s H E hr => ⟨_, (pss_cons (ps_expr (pe_call F_check_trusted (hr.mono (by decide)) rfl G_check_trusted.m G_check_trusted.kp b_check_trusted .nil pass0 (pa_cons (pv 1) (pa_cons (pv 2) pa_nil)))) (pss_cons (ps_fld (pv 0) (pv 1) rfl) (pss_cons (ps_fld (pv 0) (pe_callTy (call_tupK K rfl) (by rfl) T.f_tuple (by decide +kernel) (pa_cons (pv 2) pa_nil)) rfl) (pss_cons (ps_fld (pv 0) pe_int rfl) (pss_one (ps_fld (pv 0) (pe_dc (own := [("person", 3), ("held", 4)]) rfl sc_Organisation_init.nd (pi_seqK K rfl (pe_fldK K rfl (pv 1) rfl)) (blkOk_by (own := [("person", 3), ("held", 4)]) (N := ["self", "charter", "trusted", "person", "held"]) (sc := defScope s_Organisation_init) (by decide +kernel)) (fun _ _ _ _ _ => (pg_tupK (n := 2) K rfl rfl (pgs_cons (pg_name (i := 3) sc_Organisation_init.nd rfl (by first | exact Or.inl rfl | exact Or.inr rfl)) (pgs_cons (pg_name (i := 4) sc_Organisation_init.nd rfl (by first | exact Or.inl rfl | exact Or.inr rfl)) pgs_nil)))) (fun _ _ _ _ _ => pts_nil) (fun _ _ _ _ _ => (pv 3)) (fun _ _ _ _ _ => (pv 4))) rfl)))))), fun vs Q h => ?_⟩, kb_all F 2 _ fun _ _ _ _ _ _ us ws hl hw => match us, hl, ws, hw with | [_, _], _, [_], _ => rfl⟩⟩
  · obtain ⟨_, _, _, _, _, _, _, _, _, rfl, _⟩ := h
    rfl
  · obtain ⟨B, Hs, p, dx, cv, xv, pt, tr, x, rfl, ex, hp, hd, hne, eH, ic, ix, hx, hf, h5, hn, q⟩ := h
    have st0 : Step B Hs B H := eH ▸ step_made (dy := 0) ex hp hd hne
    have env : Env K Hs B H (L2.start ["self", "charter", "trusted", "person", "held"] [.ref p, cv, xv]) [.obj p (OC K) [], .dat (.ins (CC K) (chF pt)), .dat x, .un, .un] := by
      refine ⟨st0.bh, rfl, fun i s' ov a b => ?_, fun i j s' t' y hij a b os ot c c' => ?_⟩
      · match i, a, b with
        | 0, a, b => cases a; cases b; exact ⟨dx, [], rfl, by rw [eH, upd_same], .nil, ex.free hp, hp⟩
        | 1, a, b => cases a; cases b; exact ⟨_, rfl, ic⟩
        | 2, a, b => cases a; cases b; exact ⟨_, rfl, ix⟩
        | 3, a, b => cases a; trivial
        | 4, a, b => cases a; trivial
        | i + 5, a, b => cases a
      · match i, j, a, b with
        | 0, 0, a, b => exact hij rfl
        | 0, 1, a, b => cases b; cases ot
        | 0, 2, a, b => cases b; cases ot
        | 0, 3, a, b => cases b; cases ot
        | 0, 4, a, b => cases b; cases ot
        | 0, j + 5, a, b => cases b
        | 1, _, a, b => cases a; cases os
        | 2, _, a, b => cases a; cases os
        | 3, _, a, b => cases a; cases os
        | 4, _, a, b => cases a; cases os
        | i + 5, _, a, b => cases a
    have tp : ∀ Γ : List Sl, Γ[2]? = some (.dat x) → Ev K (tCB (rTupG K) (tCons (tVar 2) tNil)) Γ (strsT tr) := fun Γ e => by
      rcases hx with rfl | rfl
      · exact ev_cb (ea_cons (ev_var e) ea_nil) rc_tupL
      · exact ev_cb (ea_cons (ev_var e) ea_nil) rc_tupT
    refine wp_run (N := fun Γ' => Γ' = [.obj p (OC K) [], .dat (.ins (CC K) (chF pt)), .dat x, .un, .un]) (wp_drop (ev_call (ea_cons (ev_var rfl) (ea_cons (ev_var rfl) ea_nil)) ⟨pt, tr, by rcases hx with rfl | rfl <;> simp, hf, rfl⟩) rfl) st0 env fun B1 H1 σ1 Γ1 s1 e1 hΓ => ?_
    subst hΓ
    refine wp_run (N := fun Γ' => Γ' = [.obj p (OC K) [("charter", .ins (CC K) (chF pt))], .dat (.ins (CC K) (chF pt)), .dat x, .un, .un]) (wp_fldN rfl (ev_var rfl) T.cl_Organisation T.na_Organisation_charter (by simp) rfl rfl) s1 e1 fun B1 H1 σ1 Γ1 s1 e1 hΓ => ?_
    subst hΓ
    refine wp_run (N := fun Γ' => Γ' = [.obj p (OC K) [("charter", .ins (CC K) (chF pt)), ("trusted", strsT tr)], .dat (.ins (CC K) (chF pt)), .dat x, .un, .un]) (wp_fldN rfl (tp _ rfl) T.cl_Organisation T.na_Organisation_trusted (by simp) rfl rfl) s1 e1 fun B1 H1 σ1 Γ1 s1 e1 hΓ => ?_
    subst hΓ
    refine wp_run (N := fun Γ' => Γ' = [.obj p (OC K) [("charter", .ins (CC K) (chF pt)), ("trusted", strsT tr), ("count", .int 0)], .dat (.ins (CC K) (chF pt)), .dat x, .un, .un]) (wp_fldN rfl ev_int T.cl_Organisation T.na_Organisation_count (by simp) rfl rfl) s1 e1 fun B1 H1 σ1 Γ1 s1 e1 hΓ => ?_
    subst hΓ
    have dct : EvD K (tDc (iSeq K (tFld K (tVar 1) "founders")) (gTup K 2 (gCons (gName 3) (gCons (gName 4) gNil))) tYes (tVar 3) (tVar 4) [3, 4]) [.obj p (OC K) [("charter", .ins (CC K) (chF pt)), ("trusted", strsT tr), ("count", .int 0)], .dat (.ins (CC K) (chF pt)), .dat x, .un, .un] (pD pt.founders) := by
      have h0 := ed_dc (K := K) (Γ := [.obj p (OC K) [("charter", .ins (CC K) (chF pt)), ("trusted", strsT tr), ("count", .int 0)], .dat (.ins (CC K) (chF pt)), .dat x, .un, .un]) (g := gTup K 2 (gCons (gName 3) (gCons (gName 4) gNil))) (js := [3, 4]) (vs := [3, 4]) (tt := tYes) (tk := tVar 3) (tv := tVar 4) (xs := pt.founders.map fD) (it_seqT (ev_fld (ev_var (i := 1) rfl) T.cl_Charter T.na_Charter_founders rfl)) (by rw [List.length_map]; omega)
        (fun d => match d with | .tup (.str s :: _) => s | _ => "") (fun d => match d with | .tup (_ :: l :: _) => l | _ => .non) (by rw [List.map_map]; exact hn) (by simp) fun i y hy => by
          obtain ⟨z, hz, rfl⟩ := take_map hy
          exact tg_tup2 ⟨et_yes, ev_var rfl, ev_var rfl⟩
      rw [List.map_map] at h0
      exact h0
    refine dct Hs B1 H1 σ1 e1 _ fun qd kvs B2 H2 s2 hqd bqd hk ik => ?_
    have e2 := e1.step s2
    obtain ⟨dy, ws, hp0, hp1, hF, hb, _⟩ := e2.obj (i := 0) rfl
    refine ⟨_, hp0, p, OC K, dy, ws, rfl, hp1, T.cl_Organisation, T.na_Organisation__held, by rw [hF.length]; simp, ?_⟩
    cases hF with
    | cons i1 hF => cases hF with
      | cons i2 hF => cases hF with
        | cons i3 hF =>
          cases hF
          have n3 := i3.int_inv
          subst n3
          have s02 := s1.trans s2
          have pq : qd ≠ p := fun z => by subst z; rw [hk] at hp1; cases hp1
          refine q dy qd _ _ B2 _ (s02.chg hp hb) ⟨s02.bh.mut hb, upd_same, ⟨kvs, by rw [upd_ne pq]; exact hk, ik⟩, hb, bqd, i1, i2⟩ (s1.hh.free hqd)
/-! copy: of one that may change, a new one -/
def spCp (K : PySem.W.Frag) : Sp := fun vs H Q _ => ∃ (B : Hp) (p dx qd : Addr) (cv tv : V) (kvs : List (Key × V)) (pt : Parts) (tr : SL) (n : Int) (q : Ppl), vs = [.ref p] ∧ Ex B H ∧ H p = some (.ins (OC K) dx (oV cv tv n qd)) ∧ H qd = some (.dK kvs) ∧
  Is K B cv (.ins (CC K) (chF pt)) ∧ Is K B tv (strsT tr) ∧ IsK K B kvs (pD q) ∧ FoundBy pt tr ∧ pt.founders.length ≤ 5 ∧ (pt.founders.map (·.1)).Nodup ∧ ∀ v B' H', Step B H B' H' → Is K B' v (orD K pt tr n q) → Q v H'
theorem ok_cp (T : Txt w K mg) (G_Organisation_init : CalI P w K mg base (OC K) (aM K "Organisation" "__init__") 3 ["self", "charter", "trusted"] 2 ["trusted"] (spOI K)) :
    CalM P w K mg base (OC K) "copy" (aM K "Organisation" "copy") 5 ["self"] (spCp K) := by
  obtain ⟨fd, F⟩ := T.d_Organisation_copy
  obtain ⟨fd1, F_Organisation_init, kb_Organisation⟩ := G_Organisation_init.ex
  refine ⟨⟨fd, fn_any F sc_Organisation_copy (fun vs H Q E h => ?_) fun cdv A outer s H E hr => ⟨_, (pss_cons (ps_set (i := 1) sc_Organisation_copy.nd rfl (by first | exact Or.inl rfl | exact Or.inr rfl) (pe_makeK T.mk_Organisation F_Organisation_init (hr.mono (by decide)) rfl T.m_Organisation kb_Organisation pass0 (pa_cons (pe_fldK K rfl (pv 0) rfl) pa_nil) (pk_cons (pe_fldK K rfl (pv 0) rfl) pk_nil))) (pss_cons (ps_fld (pv 1) (pe_fldK K rfl (pv 0) rfl) rfl) (pss_cons (ps_fld (pv 1) (pe_callTy call_dictCp (by rfl) T.f_dict (by decide +kernel) (pa_cons (pe_fldK K rfl (pv 0) rfl) pa_nil)) rfl) (pss_one (ps_ret (pv 1)))))), fun vs Q h => ?_⟩, F.bindsN fun _ _ _ _ _ _ us hl => match us, hl with | [_], _ => rfl⟩, T.cl_Organisation, T.mt_Organisation_copy⟩
  · obtain ⟨_, _, _, _, _, _, _, _, _, _, _, rfl, _⟩ := h
    rfl
  · obtain ⟨B, p, dx, qd, cv, tv, kvs, pt, tr, n, q, rfl, ex, hp, hq, ic, it, ik, hf, h5, hn, qq⟩ := h
    have co := T.cl_Organisation
    show tFld K (tVar 0) "charter" [some (.ref p), none] H _
    refine fld_raw rfl hp co T.na_Organisation_charter rfl ?_
    show tFld K (tVar 0) "trusted" [some (.ref p), none] H _
    refine fld_raw rfl hp co T.na_Organisation_trusted rfl ⟨rfl, rfl, fun x dx2 hx hdx hne => ⟨B, H, x, dx2, cv, tv, pt, tr, strsT tr, rfl, ex, hx, hdx, hne, rfl, ic, it, .inr rfl, hf, h5, hn, fun dy qy cv' tv' B3 H3 s3 o3 hqy => ⟨rfl, ?_⟩⟩⟩
    have px : p ≠ x := fun z => by subst z; rw [hx] at hp; cases hp
    have hp3 := s3.hh _ _ hp
    have hq3 := s3.hh _ _ hq
    show tSeq (sFld K (tVar 1) (tFld K (tVar 0) "count") "count") (tSeq (sFld K (tVar 1) (tCB rDictCp (tCons (tFld K (tVar 0) "_held") tNil)) "_held") (tRet (tVar 1))) _ [some (.ref p), some (.ref x)] H3
    refine run_fld ?_
    refine fld_raw rfl hp3 co T.na_Organisation_count rfl ⟨_, rfl, x, OC K, dy, _, rfl, o3.hp, co, T.na_Organisation_count, by simp, ?_⟩
    have qx : qd ≠ x := fun z => by subst z; rw [hx] at hq; cases hq
    refine run_fld ?_
    show tFld K (tVar 0) "_held" _ (upd H3 x (.ins (OC K) dy (oV cv' tv' n qy))) _
    refine fld_raw rfl (by rw [upd_ne px]; exact hp3) co T.na_Organisation__held rfl ⟨qd, kvs, rfl, .inl (by rw [upd_ne qx]; exact hq3), fun d2 hd2 => ⟨_, rfl, x, OC K, dy, oV cv' tv' n qy, rfl, ?_, co, T.na_Organisation__held, by simp, ?_⟩⟩
    · have : x ≠ d2 := fun z => by subst z; rw [upd_same] at hd2; cases hd2
      rw [upd_ne this, upd_same]
    · have xd : d2 ≠ x := fun z => by subst z; rw [upd_same] at hd2; cases hd2
      rw [upd_ne xd] at hd2
      have b2 := s3.bh.free hd2
      have bx := o3.bp
      have e1 : Ex B3 (upd (upd B3 d2 (.dK kvs)) x (.ins (OC K) dy (oV cv' tv' n d2))) := fun a o h => by
        rw [upd_ne (fun z => by subst z; rw [bx] at h; cases h), upd_ne (fun z => by subst z; rw [b2] at h; cases h)]
        exact h
      refine ⟨_, rfl, qq (.ref x) (upd (upd B3 d2 (.dK kvs)) x (.ins (OC K) dy (oV cv' tv' n d2))) _ ⟨fun a o h => ?_, s3.bb.trans e1, fun a o h => ?_, fun a o h => ?_⟩ (.ins upd_same (.cons (o3.ic.mono e1) (.cons (o3.it.mono e1) (.cons (.int n) (.cons (.dic (by rw [upd_ne xd, upd_same]) (ik.mono (s3.bb.trans e1))) .nil)))))⟩
      · have h3 := s3.hh _ _ h
        have ax : a ≠ x := fun z => by subst z; rw [hx] at h; cases h
        rw [upd_ne ax, upd_ne (fun z => by subst z; rw [hd2] at h3; cases h3), upd_ne ax]
        exact h3
      · by_cases c : a = x
        · subst c; rw [upd_same] at h; rw [upd_same]; exact h
        · rw [upd_ne c] at h
          rw [upd_ne c]
          by_cases c2 : a = d2
          · subst c2; rw [upd_same] at h; rw [upd_same]; exact h
          · rw [upd_ne c2] at h
            rw [upd_ne c2, upd_ne c]
            exact s3.bh _ _ h
      · by_cases c : a = x
        · subst c; exact .inl hx
        · rw [upd_ne c] at h
          by_cases c2 : a = d2
          · subst c2; exact .inl (s3.hh.free hd2)
          · rw [upd_ne c2] at h; exact s3.nw a o h
theorem ev_copy {Γ : List Sl} {te : TE} {E : XK} {pt : Parts} {tr : SL} {n : Int} {q : Ppl} (h : Ev K te Γ (orD K pt tr n q)) (hf : FoundBy pt tr) (h5 : pt.founders.length ≤ 5) (hn : (pt.founders.map (·.1)).Nodup) : Ev K (tMeth (OC K) "copy" (spCp K) [] E te tNil) Γ (orD K pt tr n q) := fun H0 B H σ e Q k =>
  h H0 B H σ e _ fun v B1 H1 s1 h1 => by
    obtain ⟨a, dx, vs, rfl, ha, r⟩ := h1.ins_inv
    cases r with
    | cons i1 r => cases r with
      | cons i2 r => cases r with
        | cons i3 r => cases r with
          | cons i4 r =>
            cases r
            have n3 := i3.int_inv
            subst n3
            obtain ⟨qd, kvs, rfl, hq, ik⟩ := i4.dic_inv
            exact ⟨a, dx, _, rfl, s1.bh _ _ ha, rfl, B1, a, dx, qd, _, _, kvs, pt, tr, n, q, rfl, s1.bh, s1.bh _ _ ha, s1.bh _ _ hq, i1, i2, ik, hf, h5, hn, fun v B2 H2 s2 hv => k v B2 H2 (s1.trans s2) hv⟩
end
end WM

/-! ## W9 -/
set_option maxHeartbeats 4000000
namespace WM
open PySem PySem.Spec PyProof.Rows L2
abbrev HC (K : PySem.W.Frag) : Addr := He.ga K "History"
def moms (pt : Parts) : Int → Ppl → List Act → List (Int × Ppl)
  | n, q, [] => [(n, q)]
  | n, q, a :: as => (n, q) :: moms pt (n + 1) (doP pt q a) as
def Run (pt : Parts) (tr : SL) : Ppl → List Act → Prop
  | _, [] => True
  | q, a :: as => Can pt tr q a ∧ PplOk pt q ∧ Run pt tr (doP pt q a) as
abbrev momD (K : PySem.W.Frag) (pt : Parts) (tr : SL) (ms : List (Int × Ppl)) : List Da := ms.map fun s => orD K pt tr s.1 s.2
abbrev hiF (K : PySem.W.Frag) (pt : Parts) (tr : SL) (acts : List Act) (ms : List (Int × Ppl)) : List (Str × Da) := [("charter", .ins (CC K) (chF pt)), ("actions", .lst (acts.map Act.da)), ("_moments", .lst (momD K pt tr ms))]
abbrev hiD (K : PySem.W.Frag) (pt : Parts) (tr : SL) (acts : List Act) (ms : List (Int × Ppl)) : Da := .ins (HC K) (hiF K pt tr acts ms)
/-- where the making of a history stands -/
structure HS (K : PySem.W.Frag) (Bs Hs : Hp) (p dxs x qd dy : Addr) (cv av cv' tv' : V) (pt : Parts) (tr : SL) (acts : List Act) (vs : List (Str × V)) (B H : Hp) (σ : L2.St) (n : Int) (q : Ppl) : Prop where
  st : Step Bs Hs B H
  hp : H p = some (.ins (HC K) dxs vs)
  bp : B p = none
  fp : Hs p = none
  o : Org K x qd dy cv' tv' pt tr B H n q
  nx : Hs x = none
  nq : Hs qd = none
  px : p ≠ x
  s0 : σ[0]? = some (some (.ref p))
  s1 : σ[1]? = some (some cv)
  s2 : σ[2]? = some (some av)
  s4 : σ[4]? = some (some (.ref x))
  len : σ.length = 6
  ic : Is K B cv (.ins (CC K) (chF pt))
  ia : Is K B av (.lst (acts.map Act.da))
section
variable {K : PySem.W.Frag} {Bs Hs : Hp} {p dxs x qd dy : Addr} {cv av cv' tv' : V} {pt : Parts} {tr : SL} {acts : List Act} {vs vs' : List (Str × V)} {B H B' H' : Hp} {σ : L2.St} {n n' : Int} {q q' : Ppl}
theorem HS.step (h : HS K Bs Hs p dxs x qd dy cv av cv' tv' pt tr acts vs B H σ n q) (s : Step B H B' H') : HS K Bs Hs p dxs x qd dy cv av cv' tv' pt tr acts vs B' H' σ n q :=
  ⟨h.st.trans s, s.hh _ _ h.hp, s.keepN h.hp h.bp, h.fp, h.o.step s, h.nx, h.nq, h.px, h.s0, h.s1, h.s2, h.s4, h.len, h.ic.mono s.bb, h.ia.mono s.bb⟩
theorem HS.pq (h : HS K Bs Hs p dxs x qd dy cv av cv' tv' pt tr acts vs B H σ n q) : p ≠ qd := fun e => by
  obtain ⟨kvs, hk, _⟩ := h.o.kv
  have z := h.hp
  rw [e, hk] at z
  cases z
theorem HS.fld (h : HS K Bs Hs p dxs x qd dy cv av cv' tv' pt tr acts vs B H σ n q) : HS K Bs Hs p dxs x qd dy cv av cv' tv' pt tr acts vs' B (upd H p (.ins (HC K) dxs vs')) σ n q := by
  obtain ⟨kvs, hk, ik⟩ := h.o.kv
  exact ⟨h.st.chg h.fp h.bp, upd_same, h.bp, h.fp, ⟨h.o.bh.mut h.bp, by rw [upd_ne (Ne.symm h.px)]; exact h.o.hp, ⟨kvs, by rw [upd_ne (Ne.symm h.pq)]; exact hk, ik⟩, h.o.bp, h.o.bq, h.o.ic, h.o.it⟩, h.nx, h.nq, h.px, h.s0, h.s1, h.s2, h.s4, h.len, h.ic, h.ia⟩
theorem HS.ms (h : HS K Bs Hs p dxs x qd dy cv av cv' tv' pt tr acts vs B H σ n q) (m : MS x qd B H B' H') (o : Org K x qd dy cv' tv' pt tr B' H' n' q') : HS K Bs Hs p dxs x qd dy cv av cv' tv' pt tr acts vs B' H' σ n' q' := by
  have hp' := m.hh _ _ h.px h.pq h.hp
  refine ⟨⟨fun a u e => m.hh a u (fun z => by subst z; rw [h.nx] at e; cases e) (fun z => by subst z; rw [h.nq] at e; cases e) (h.st.hh _ _ e), h.st.bb.trans m.bb, o.bh, fun a u e => ?_⟩, hp', ?_, h.fp, o, h.nx, h.nq, h.px, h.s0, h.s1, h.s2, h.s4, h.len, h.ic.mono m.bb, h.ia.mono m.bb⟩
  · rcases m.nw a u e with e1 | e1
    · exact .inl (h.st.hh.free e1)
    · exact h.st.nw a u e1
  · cases e : B' p with
    | none => rfl
    | some u =>
      rcases m.nw p u e with e1 | e1
      · rw [h.hp] at e1; cases e1
      · rw [h.bp] at e1; cases e1
theorem HS.slot (h : HS K Bs Hs p dxs x qd dy cv av cv' tv' pt tr acts vs B H σ n q) {ov : Option V} : HS K Bs Hs p dxs x qd dy cv av cv' tv' pt tr acts vs B H (σ.set 5 ov) n q :=
  ⟨h.st, h.hp, h.bp, h.fp, h.o, h.nx, h.nq, h.px, by rw [List.getElem?_set_ne (by decide)]; exact h.s0, by rw [List.getElem?_set_ne (by decide)]; exact h.s1, by rw [List.getElem?_set_ne (by decide)]; exact h.s2, by rw [List.getElem?_set_ne (by decide)]; exact h.s4, by rw [List.length_set]; exact h.len, h.ic, h.ia⟩
theorem HS.env (h : HS K Bs Hs p dxs x qd dy cv av cv' tv' pt tr acts vs B H σ n q) : Env K H B H σ [.un, .dat (.ins (CC K) (chF pt)), .dat (.lst (acts.map Act.da)), .un, .un, .un] := by
  refine ⟨h.o.bh, h.len, fun i s ov a b => ?_, fun i j s t y _ a _ os _ _ _ => ?_⟩
  · match i, a, b with
    | 0, a, b => cases a; trivial
    | 1, a, b => cases a; rw [h.s1] at b; cases b; exact ⟨_, rfl, h.ic⟩
    | 2, a, b => cases a; rw [h.s2] at b; cases b; exact ⟨_, rfl, h.ia⟩
    | 3, a, b => cases a; trivial
    | 4, a, b => cases a; trivial
    | 5, a, b => cases a; trivial
    | i + 6, a, b => cases a
  · match i, a with
    | 0, a => cases a; cases os
    | 1, a => cases a; cases os
    | 2, a => cases a; cases os
    | 3, a => cases a; cases os
    | 4, a => cases a; cases os
    | 5, a => cases a; cases os
    | i + 6, a => cases a
theorem run_app {te : TE} {ta : TA} {D : Ends} (h : te σ H fun x H1 => tyV K "list" x H1 ∧ ta σ H1 fun xs H2 => rAppend x xs H2 fun _ H3 => D.nx σ H3) : tDrop (tBM K "list" rAppend te ta) D σ H := h
/-- organisation.copy() -/
theorem HS.copy (h : HS K Bs Hs p dxs x qd dy cv av cv' tv' pt tr acts vs B H σ n q) {E : XK} {Q : VK} (hf : FoundBy pt tr) (h5 : pt.founders.length ≤ 5) (hn : (pt.founders.map (·.1)).Nodup)
    (k : ∀ v B' H', Step B H B' H' → Is K B' v (orD K pt tr n q) → Q v H') : tMeth (OC K) "copy" (spCp K) [] E (tVar 4) tNil σ H Q := by
  obtain ⟨kvs, hk, ik⟩ := h.o.kv
  exact ⟨_, h.s4, x, dy, _, rfl, h.o.hp, rfl, B, x, dy, qd, cv', tv', kvs, pt, tr, n, q, rfl, h.o.bh, h.o.hp, hk, h.o.ic, h.o.it, ik, hf, h5, hn, k⟩
end
section
variable {P : Program} {w : World} {K : PySem.W.Frag} {mg : Str → Option Value} {base : Heap}
def R_Hinit (K : PySem.W.Frag) : List Da → List (Str × Da) → Prop := fun ds fs => ∃ (pt : Parts) (tr : SL) (acts : List Act), ds = [.ins (CC K) (chF pt), .lst (acts.map Act.da), strsL tr] ∧ Wf pt ∧ FoundBy pt tr ∧ Run pt tr pt.founders acts ∧ acts.length ≤ 100 ∧ fs = hiF K pt tr acts (moms pt 0 pt.founders acts)
theorem moms_len (pt : Parts) : ∀ (acts : List Act) (n : Int) (q : Ppl), (moms pt n q acts).length = acts.length + 1
  | [], _, _ => rfl
  | a :: as, n, q => by
    show (_ :: moms pt (n + 1) _ as).length = _
    rw [List.length_cons, moms_len pt as, List.length_cons]
theorem ok_Hinit (T : Txt w K mg) (G_Organisation_init : CalI P w K mg base (OC K) (aM K "Organisation" "__init__") 3 ["self", "charter", "trusted"] 2 ["trusted"] (spOI K))
    (G_Organisation_copy : CalM P w K mg base (OC K) "copy" (aM K "Organisation" "copy") 5 ["self"] (spCp K))
    (G_Organisation_do : CalM P w K mg base (OC K) "do" (aM K "Organisation" "do") 4 ["self", "action"] (spM K A_do)) :
    CalI P w K mg base (HC K) (aM K "History" "__init__") 6 ["self", "charter", "actions", "trusted"] 3 ["trusted"] (spI K (HC K) (R_Hinit K)) := by
  obtain ⟨fd, F⟩ := T.d_History_init
  obtain ⟨fd1, F_Organisation_init, kb_Organisation⟩ := G_Organisation_init.ex
  obtain ⟨fd2, F_Organisation_copy, b_Organisation_copy⟩ := G_Organisation_copy.ex
  obtain ⟨fd3, F_Organisation_do, b_Organisation_do⟩ := G_Organisation_do.ex
  refine ⟨⟨fd, fn_any F sc_History_init (fun vs H Q E h => ?_) fun cdv A outer s H E hr => ⟨_, (pss_cons (ps_set (i := 4) sc_History_init.nd rfl (by first | exact Or.inl rfl | exact Or.inr rfl) (pe_makeK T.mk_Organisation F_Organisation_init (hr.mono (by decide)) rfl T.m_Organisation kb_Organisation pass0 (pa_cons (pv 1) pa_nil) (pk_cons (pv 3) pk_nil))) (pss_cons (ps_fld (pv 0) (pv 1) rfl) (pss_cons (ps_fld (pv 0) (pe_lc (own := [("action", 5)]) rfl sc_History_init.nd (pi_seqK K rfl (pv 2)) (blkOk_by (own := [("action", 5)]) (N := ["self", "charter", "actions", "trusted", "organisation", "action"]) (sc := defScope s_History_init) (by decide +kernel)) (fun _ _ _ _ _ => (pg_name (i := 5) sc_History_init.nd rfl (by first | exact Or.inl rfl | exact Or.inr rfl))) (fun _ _ _ _ _ => pts_nil) (fun _ _ _ _ _ => (pe_callTy (call_tupK K rfl) (by rfl) T.f_tuple (by decide +kernel) (pa_cons (pv 5) pa_nil)))) rfl) (pss_cons (ps_fld (pv 0) (pe_lst (pa_cons (pe_meth0 (pv 4) T.cl_Organisation G_Organisation_copy.m F_Organisation_copy (hr.mono (by decide)) b_Organisation_copy .nil pass0) pa_nil)) rfl) (pss_one (ps_for PassesOwn.never rfl (pi_seqK K rfl (pe_fldK K rfl (pv 0) rfl)) (pg_name (i := 5) sc_History_init.nd rfl (by first | exact Or.inl rfl | exact Or.inr rfl)) (pss_cons (ps_expr (pe_meth (pv 4) T.cl_Organisation G_Organisation_do.m F_Organisation_do (hr.mono (by decide)) b_Organisation_do .nil pass0 (pa_cons (pv 5) pa_nil))) (pss_one (ps_expr (pe_bm PySem.F.plainAttrs_list PySem.F.slot_list_append PySem.F.type_list_append mt_append (pe_fldK K rfl (pv 0) rfl) (pa_cons (pe_meth0 (pv 4) T.cl_Organisation G_Organisation_copy.m F_Organisation_copy (hr.mono (by decide)) b_Organisation_copy .nil pass0) pa_nil))))))))))), fun vs Q h => ?_⟩, kb_all F 3 _ fun _ _ _ _ _ _ us ws hl hw => match us, hl, ws, hw with | [_, _, _], _, [_], _ => rfl⟩⟩
  · obtain ⟨_, _, _, _, us, _, _, rfl, _, _, _, _, _, r, ⟨_, _, _, rfl, _⟩, _⟩ := h
    have := r.length
    show us.length + 1 = 4
    rw [this]; rfl
  · obtain ⟨Bs, Hs, p, dx0, us, ds, fs, rfl, ex, fp, fd0, hne, eH, r, ⟨pt, tr, acts, rfl, W, hf, hrun, hac, rfl⟩, qq⟩ := h
    obtain ⟨cv, av, xv, rfl, ic, ia, ix⟩ : ∃ cv av xv, us = [cv, av, xv] ∧ Is K Bs cv (.ins (CC K) (chF pt)) ∧ Is K Bs av (.lst (acts.map Act.da)) ∧ Is K Bs xv (strsL tr) := by
      cases r with
      | cons h1 r => cases r with
        | cons h2 r => cases r with
          | cons h3 r => cases r; exact ⟨_, _, _, rfl, h1, h2, h3⟩
    have st0 : Step Bs Hs Bs H := eH ▸ step_made (dy := 0) ex fp fd0 hne
    have hp0 : H p = some (.ins (HC K) dx0 []) := by rw [eH, upd_same]
    have bp0 : Bs p = none := ex.free fp
    have f5 := W.f5
    have fn := W.fn
    -- organisation = Organisation(charter, trusted = trusted)
    show tSeq (tAsg (tMakeK (OC K) 1 1 (spOI K) (fun vs zs => vs ++ zs) E0 (tCons (tVar 1) tNil) (tCons (tVar 3) tNil)) (gName 4)) _ _ [some (.ref p), some cv, some av, some xv, none, none] H
    refine ⟨cv, rfl, xv, rfl, rfl, rfl, fun x dx2 hx hdx hne2 => ⟨Bs, H, x, dx2, cv, xv, pt, tr, strsL tr, rfl, st0.bh, hx, hdx, hne2, rfl, ic, ix, .inl rfl, hf, f5, fn, fun dy qd cv' tv' B1 H1 s1 o1 hqd => ⟨rfl, ?_⟩⟩⟩
    have px : p ≠ x := fun z => by subst z; rw [hx] at hp0; cases hp0
    have h1 : HS K Bs Hs p dx0 x qd dy cv av cv' tv' pt tr acts [] B1 H1 [some (.ref p), some cv, some av, some xv, some (.ref x), none] 0 pt.founders :=
      ⟨st0.trans s1, s1.hh _ _ hp0, s1.keepN hp0 bp0, fp, o1, st0.hh.free hx, st0.hh.free hqd, px, rfl, rfl, rfl, rfl, rfl, ic.mono s1.bb, ia.mono s1.bb⟩
    -- self.charter = charter
    show tSeq (sFld K (tVar 0) (tVar 1) "charter") _ _ [some (.ref p), some cv, some av, some xv, some (.ref x), none] H1
    refine run_fld ?_
    refine ⟨cv, rfl, _, rfl, p, HC K, dx0, _, rfl, h1.hp, T.cl_History, T.na_History_charter, by simp, ?_⟩
    have h2 := h1.fld (vs' := [("charter", cv)])
    -- self.actions = [tuple(action) for action in actions]
    refine run_fld ?_
    have cmp : EvO K (tLc (iSeq K (tVar 2)) (gName 5) tYes (tCB (rTupG K) (tCons (tVar 5) tNil)) [5]) [.un, .dat (.ins (CC K) (chF pt)), .dat (.lst (acts.map Act.da)), .un, .un, .un] (acts.map Act.da) :=
      evo_is (eo_lcM Act.da acts (js := [5]) (it_seqL (ev_var rfl)) (by omega) (fun _ => true) Act.da (by simp) fun i a _ => tg_name ⟨et_yes, fun _ => ev_cb (ea_cons (ev_var rfl) ea_nil) rc_tupT⟩) (congrArg (List.map Act.da) (List.filter_eq_self.mpr fun _ _ => rfl))
    refine cmp.ev _ B1 _ _ h2.env _ fun a2 B3 H3 s3 ia2 => ?_
    have h3 := h2.step s3
    refine ⟨_, rfl, p, HC K, dx0, _, rfl, h3.hp, T.cl_History, T.na_History_actions, by simp, ?_⟩
    have h4 := h3.fld (vs' := [("charter", cv), ("actions", a2)])
    -- self._moments = [organisation.copy()]
    refine run_fld ?_
    show tMeth (OC K) "copy" (spCp K) [] E0 (tVar 4) tNil _ _ _
    refine h4.copy hf f5 fn fun m0 B5 H5 s5 im0 => ?_
    have h5 := h4.step s5
    refine ⟨by show 1 ≤ sizeLine; decide, fun l hl => ⟨_, rfl, p, HC K, dx0, [("charter", cv), ("actions", a2)], rfl, ?_, T.cl_History, T.na_History__moments, by simp, ?_⟩⟩
    · have : p ≠ l := fun z => by subst z; rw [h5.hp] at hl; cases hl
      rw [upd_ne this]; exact h5.hp
    have sl : Step B5 H5 B5 (upd H5 l (.lst [m0])) := ⟨Ex.new hl, Ex.refl _, h5.o.bh.trans (Ex.new hl), fun _ _ w => .inr w⟩
    have h6 := (h5.step sl).fld (vs' := [("charter", cv), ("actions", a2), ("_moments", .ref l)])
    have bl : B5 l = none := h5.o.bh.free hl
    have fl : Hs l = none := h5.st.hh.free hl
    have pl : l ≠ p := fun z => by subst z; rw [h5.hp] at hl; cases hl
    have hl6 : upd (upd H5 l (.lst [m0])) p (.ins (HC K) dx0 [("charter", cv), ("actions", a2), ("_moments", .ref l)]) l = some (.lst [m0]) := by rw [upd_ne pl, upd_same]
    have ia6 : Is K B5 a2 (.lst (acts.map Act.da)) := ia2.mono s5.bb
    generalize hH6 : upd (upd H5 l (.lst [m0])) p (.ins (HC K) dx0 [("charter", cv), ("actions", a2), ("_moments", .ref l)]) = H6 at h6 hl6
    have hH6' : upd (upd H5 l (.lst [m0])) p (.ins (HC K) dx0 (putF "_moments" (.ref l) [("charter", cv), ("actions", a2)])) = H6 := hH6
    rw [hH6']
    -- the loop
    obtain ⟨al, avs, rfl, hal, ral⟩ := ia6.lst_inv
    refine .inl ?_
    show tFld K (tVar 0) "actions" _ H6 _
    refine fld_raw rfl h6.hp T.cl_History T.na_History_actions rfl ⟨al, rfl, ⟨avs, sq_of (h6.o.bh _ _ hal)⟩, ?_⟩
    refine for_it (walk_list (K := K) (a := al) (xs := avs)) (fun i σ' H' => ∃ B' us n q L, HS K Bs Hs p dx0 x qd dy cv av cv' tv' pt tr acts [("charter", cv), ("actions", .ref al), ("_moments", .ref l)] B' H' σ' n q ∧ Ex B5 B' ∧ H' l = some (.lst us) ∧ B' l = none ∧ IsL K B' us (momD K pt tr (L ++ [(n, q)])) ∧
      L.length = i ∧ Run pt tr q (acts.drop i) ∧ moms pt 0 pt.founders acts = L ++ moms pt n q (acts.drop i))
      ⟨B5, [m0], 0, pt.founders, [], h6, Ex.refl _, hl6, bl, .cons im0 .nil, rfl, hrun, rfl⟩ (fun i σ' H' _ ⟨B', us, n, q, L, h, e, _⟩ => sq_of (h.o.bh _ _ (e _ _ hal))) (fun i v σ' Hc H' lt ⟨B', us, n, q, L, h, e, hl', bl', il, ll, hr', hm⟩ y => ?_) fun σ' H' ⟨B', us, n, q, L, h, e, hl', bl', il, ll, hr', hm⟩ => ?_
    · obtain ⟨rfl, hv⟩ := y
      obtain ⟨d, hd, hvd⟩ := ral.get' hv
      obtain ⟨a, ha, rfl⟩ := take_map hd
      have hi : i < acts.length := (List.getElem?_eq_some_iff.mp ha).1
      have dr : acts.drop i = a :: acts.drop (i + 1) := by
        rw [List.drop_eq_getElem_cons hi]
        rw [List.getElem?_eq_getElem hi] at ha
        rw [Option.some.inj ha]
      rw [dr] at hr' hm
      obtain ⟨hcan, hok, hr2⟩ := hr'
      have h7 := h.slot (ov := some v)
      have hs5 : (σ'.set 5 (some v))[5]? = some (some v) := by rw [List.getElem?_set_self (by rw [h.len]; decide)]
      show tMeth (OC K) "do" (spM K A_do) [] E0 (tVar 4) (tCons (tVar 5) tNil) (σ'.set 5 (some v)) H' _
      refine ⟨_, h7.s4, x, dy, _, rfl, h.o.hp, rfl, v, hs5, x, qd, dy, cv', tv', pt, tr, B', n, q, [v], [a.da], n + 1, doP pt q a, rfl, h.o, .cons (hvd.mono e) .nil, ⟨a, rfl, W, hcan, hok, rfl, rfl⟩, fun B8 H8 m8 o8 => ?_⟩
      have h8 := h7.ms m8 o8
      have lx : l ≠ x := fun z => by subst z; rw [h.o.hp] at hl'; cases hl'
      have lq : l ≠ qd := fun z => by
        subst z
        obtain ⟨kvs, hk, _⟩ := h.o.kv
        rw [hk] at hl'; cases hl'
      have hl8 := m8.hh _ _ lx lq hl'
      have bl8 : B8 l = none := by
        cases z : B8 l with
        | none => rfl
        | some u =>
          rcases m8.nw l u z with z1 | z1
          · rw [hl'] at z1; cases z1
          · rw [bl'] at z1; cases z1
      show tDrop (tBM K "list" rAppend (tFld K (tVar 0) "_moments") (tCons (tMeth (OC K) "copy" (spCp K) [] E0 (tVar 4) tNil) tNil)) _ (σ'.set 5 (some v)) H8
      refine run_app ?_
      refine fld_raw h8.s0 h8.hp T.cl_History T.na_History__moments rfl ⟨.inl ⟨rfl, us, sq_of hl8⟩, ?_⟩
      show tMeth (OC K) "copy" (spCp K) [] E0 (tVar 4) tNil _ _ _
      refine h8.copy hf f5 fn fun mv B9 H9 s9 im => ?_
      have h9 := h8.step s9
      have hl9 := s9.hh _ _ hl8
      have bl9 := s9.keepN hl8 bl8
      have ul : us.length = i + 1 := by rw [il.length, List.length_map, List.length_append, ll]; rfl
      refine ⟨l, us, mv, rfl, rfl, hl9, by rw [ul]; exact sz_lt (by omega), ?_⟩
      have sl9 : ∀ u, Step Bs Hs B9 (upd H9 l u) := fun u => h9.st.chg fl bl9
      have pl2 : p ≠ l := Ne.symm pl
      obtain ⟨kvs9, hk9, ik9⟩ := h9.o.kv
      refine ⟨B9, us ++ [mv], n + 1, doP pt q a, L ++ [(n, q)], ⟨sl9 _, by rw [upd_ne pl2]; exact h9.hp, h9.bp, h9.fp, ⟨h9.o.bh.mut bl9, by rw [upd_ne (Ne.symm lx)]; exact h9.o.hp, ⟨kvs9, by rw [upd_ne (Ne.symm lq)]; exact hk9, ik9⟩, h9.o.bp, h9.o.bq, h9.o.ic, h9.o.it⟩, h9.nx, h9.nq, h9.px, h9.s0, h9.s1, h9.s2, h9.s4, h9.len, h9.ic, h9.ia⟩,
        (e.trans m8.bb).trans s9.bb, upd_same, bl9, ?_, by rw [List.length_append, ll]; rfl, hr2, by rw [hm, List.append_assoc]; rfl⟩
      show IsL K B9 (us ++ [mv]) ((L ++ [(n, q)] ++ [(n + 1, doP pt q a)]).map _)
      rw [List.map_append]
      exact (il.mono (m8.bb.trans s9.bb)).append (.cons im .nil)
    · have dn : acts.drop avs.length = [] := by
        rw [ral.length, List.length_map]
        exact List.drop_length
      rw [dn] at hm
      have hm2 : moms pt 0 pt.founders acts = L ++ [(n, q)] := hm
      have eb : Ex B' (upd B' l (.lst us)) := Ex.new bl'
      refine qq dx0 _ (upd B' l (.lst us)) H' ⟨h.st.hh, h.st.bb.trans eb, fun a u z => ?_, fun a u z => ?_⟩ (by rw [upd_ne (Ne.symm pl)]; exact h.bp) h.hp (.cons (h.ic.mono eb) (.cons (.lst (eb _ _ (e _ _ hal)) ((ral.mono e).mono eb)) (.cons (.lst upd_same ?_) .nil)))
      · by_cases c : a = l
        · subst c; rw [upd_same] at z; rw [hl']; exact z
        · rw [upd_ne c] at z; exact h.st.bh _ _ z
      · by_cases c : a = l
        · subst c; exact .inl fl
        · rw [upd_ne c] at z; exact h.st.nw a u z
      · rw [hm2]
        exact il.mono eb
/-! at, first_moment -/
def R_at (K : PySem.W.Frag) : List Da → Da → Prop := fun ds d => ∃ (pt : Parts) (tr : SL) (acts : List Act) (ms : List (Int × Ppl)) (i : Nat) (s : Int × Ppl), ds = [hiD K pt tr acts ms, .int i] ∧ ms[i]? = some s ∧ FoundBy pt tr ∧ pt.founders.length ≤ 5 ∧ (pt.founders.map (·.1)).Nodup ∧ d = orD K pt tr s.1 s.2
theorem ok_at (T : Txt w K mg) (G_Organisation_copy : CalM P w K mg base (OC K) "copy" (aM K "Organisation" "copy") 5 ["self"] (spCp K)) :
    CalM P w K mg base (HC K) "at" (aM K "History" "at") 6 ["self", "moment"] (spP K (R_at K)) := by
  obtain ⟨fd, F⟩ := T.d_History_at
  obtain ⟨fd1, F_Organisation_copy, b_Organisation_copy⟩ := G_Organisation_copy.ex
  refine ⟨⟨fd, fn_pure F sc_History_at (fun ds d h => ?_) fun cdv A outer s H E hr => ⟨_, (pss_one (ps_ret (pe_meth0 (pe_ix (ix_K K rfl) (pe_fldK K rfl (pv 0) rfl) (pv 1) (fun _ _ => rfl)) T.cl_Organisation G_Organisation_copy.m F_Organisation_copy (hr.mono (by decide)) b_Organisation_copy .nil pass0))), fun ds d h => ?_⟩, F.bindsN fun _ _ _ _ _ _ us hl => match us, hl with | [_, _], _ => rfl⟩, T.cl_History, T.mt_History_at⟩
  · obtain ⟨_, _, _, _, _, _, rfl, _⟩ := h
    rfl
  · obtain ⟨pt, tr, acts, ms, i, s, rfl, hi, hf, h5, hn, rfl⟩ := h
    refine wp_ret (ev_copy (ev_op (ev_fld (ev_var rfl) T.cl_History T.na_History__moments rfl) (ev_var rfl) (rv_ixL (atI_nat ?_))) hf h5 hn) rfl
    rw [List.getElem?_map, hi]; rfl
def meetsB (g : List Dem) (q : Ppl) : Bool := choose (g.map (standsFor q)) []
def R_first (K : PySem.W.Frag) : List Da → Da → Prop := fun ds d => ∃ (pt : Parts) (tr : SL) (acts : List Act) (ms : List (Int × Ppl)) (g : List Dem) (j : Nat), ds = [hiD K pt tr acts ms, .lst (g.map Dem.da)] ∧ GoalOk pt g ∧ pt.rights.length ≤ 6 ∧ (∀ s ∈ ms, s.2.length ≤ 1000) ∧ ms.findIdx? (fun s => meetsB g s.2) = some j ∧ d = .int j
theorem findIdx_next {α : Type} {f : α → Bool} : ∀ {l : List α} {i j : Nat} {a : α}, l.findIdx? f = some j → (∀ m b, m < i → l[m]? = some b → f b = false) → l[i]? = some a → f a = true → i = j
  | [], _, _, _, h, _, _, _ => by cases h
  | x :: l, i, j, a, h, hn, hi, ha => by
    rw [List.findIdx?_cons] at h
    cases i with
    | zero =>
      have e : x = a := Option.some.inj hi
      rw [e, ha] at h
      exact Option.some.inj h
    | succ i =>
      have hx : f x = false := hn 0 x (Nat.succ_pos _) rfl
      rw [hx] at h
      cases e : l.findIdx? f with
      | none => rw [e] at h; cases h
      | some k =>
        rw [e] at h
        have := findIdx_next (l := l) (i := i) e (fun m b hm hb => hn (m + 1) b (Nat.succ_lt_succ hm) hb) hi ha
        rw [this]
        exact Option.some.inj h
theorem ok_first (T : Txt w K mg) (G_check_goal : Cal P w K mg base "check_goal" (He.ga K "check_goal") 2 ["charter", "goal"] (spP K (R_goal K)))
    (G_Organisation_meets : CalM P w K mg base (OC K) "meets" (aM K "Organisation" "meets") 6 ["self", "goal"] (spP K (R_meets K))) :
    CalM P w K mg base (HC K) "first_moment" (aM K "History" "first_moment") 7 ["self", "goal"] (spP K (R_first K)) := by
  obtain ⟨fd, F⟩ := T.d_History_first_moment
  obtain ⟨fd1, F_check_goal, b_check_goal⟩ := G_check_goal.ex
  obtain ⟨fd2, F_Organisation_meets, b_Organisation_meets⟩ := G_Organisation_meets.ex
  refine ⟨⟨fd, fn_pure F sc_History_first_moment (fun ds d h => ?_) fun cdv A outer s H E hr => ⟨_, (pss_cons (ps_expr (pe_call F_check_goal (hr.mono (by decide)) rfl G_check_goal.m G_check_goal.kp b_check_goal .nil pass0 (pa_cons (pe_fldK K rfl (pv 0) rfl) (pa_cons (pv 1) pa_nil)))) (pss_cons (ps_for PassesOwn.never rfl (pi_enumK K rfl rfl T.f_enumerate (pa_cons (pe_fldK K rfl (pv 0) rfl) pa_nil)) (pg_tupK (n := 2) K rfl rfl (pgs_cons (pg_name (i := 2) sc_History_first_moment.nd rfl (by first | exact Or.inl rfl | exact Or.inr rfl)) (pgs_cons (pg_name (i := 3) sc_History_first_moment.nd rfl (by first | exact Or.inl rfl | exact Or.inr rfl)) pgs_nil))) (pss_one (ps_if (pt_val (pe_meth (pv 3) T.cl_Organisation G_Organisation_meets.m F_Organisation_meets (hr.mono (by decide)) b_Organisation_meets .nil pass0 (pa_cons (pv 1) pa_nil))) (pss_one (ps_ret (pv 2))) pss_nil))) (pss_one (ps_ret pe_non)))), fun ds d h => ?_⟩, F.bindsN fun _ _ _ _ _ _ us hl => match us, hl with | [_, _], _ => rfl⟩, T.cl_History, T.mt_History_first_moment⟩
  · obtain ⟨_, _, _, _, _, _, rfl, _⟩ := h
    rfl
  · obtain ⟨pt, tr, acts, ms, g, j, rfl, W, h6, hq, hj, rfl⟩ := h
    refine wp_seq (wp_drop (ev_call (ea_cons (ev_fld (ev_var rfl) T.cl_History T.na_History_charter rfl) (ea_cons (ev_var rfl) ea_nil)) ⟨pt, g, rfl, W, h6, rfl⟩) ?_)
    refine wp_seq (wp_for (js := [2, 3]) (it_enL (ea_cons (ev_fld (ev_var rfl) T.cl_History T.na_History__moments rfl) ea_nil)) (fun i Γ => (∀ m b, m < i → ms[m]? = some b → meetsB g b.2 = false) ∧ ∃ a b, Γ = [.dat (hiD K pt tr acts ms), .dat (.lst (g.map Dem.da)), a, b]) ⟨fun _ _ h => by omega, _, _, rfl⟩ (fun i y Γ hy hΓ => ?_) fun Γ hΓ => ?_)
    · obtain ⟨hn, a, b, rfl⟩ := hΓ
      obtain ⟨s, hs, rfl⟩ : ∃ s, ms[i]? = some s ∧ y = .tup [.int (i : Int), orD K pt tr s.1 s.2] := by
        rw [List.getElem?_map, List.getElem?_zipIdx, List.getElem?_map] at hy
        cases e : ms[i]? with
        | none => rw [e] at hy; cases hy
        | some s => rw [e] at hy; exact ⟨s, rfl, by simpa using (Option.some.inj hy).symm⟩
      refine tg_tup2 (wp_if (et_B (ev_meth (ev_var rfl) rfl (ea_cons (ev_var rfl) ea_nil) ⟨pt, tr, s.1, s.2, g, rfl, h6, hq s (List.mem_of_getElem? hs), W, rfl⟩)) (fun hb => ?_) fun hb => wp_next ⟨fun m b hm hb2 => ?_, _, _, rfl⟩)
      · have e := findIdx_next hj hn hs hb
        subst e
        exact wp_ret (ev_var rfl) rfl
      · by_cases c : m < i
        · exact hn m b c hb2
        · have e : m = i := by omega
          subst e
          rw [hs] at hb2
          rw [← Option.some.inj hb2]
          exact hb
    · obtain ⟨hn, a, b, rfl⟩ := hΓ
      refine wp_never ?_
      obtain ⟨hj1, hj2, _⟩ := List.findIdx?_eq_some_iff_getElem.mp hj
      have := hn j ms[j] (by simpa using hj1) (List.getElem?_eq_getElem hj1)
      rw [this] at hj2
      cases hj2
end
end WM

/-! ## L1 -/
set_option maxHeartbeats 4000000
namespace WM
open PySem PySem.Spec PyProof.Rows L2
abbrev intsL (ks : List Int) : Da := .lst (ks.map .int)
section
variable {P : Program} {w : World} {K : PySem.W.Frag} {mg : Str → Option Value} {base : Heap} {Γ : List Sl} {ta tb : TE}
theorem take_range {n i : Nat} {x : Da} (h : (rangeD n)[i]? = some x) : x = .int (i : Int) ∧ i < n := by
  have hi : i < n := by
    have := (List.getElem?_eq_some_iff.mp h).1
    simpa [rangeD] using this
  unfold rangeD at h
  rw [List.getElem?_map, List.getElem?_range hi] at h
  exact ⟨(Option.some.inj h).symm, hi⟩
theorem range_len (n : Nat) : (rangeD n).length = n := by unfold rangeD; simp
/-! arithmetic -/
theorem ev_mulR {i j : Int} (h1 : Ev K ta Γ (.int i)) (h2 : Ev K tb Γ (.int j)) (h : -(2 ^ 64) < j ∧ j < 2 ^ 64) : Ev K (tOp (rI CMul fun i j => .int (i * j)) ta tb) Γ (.int (i * j)) := ev_op h1 h2 (rv_I (g := fun i j => i * j) (.inr h))
theorem ev_mulL {i j : Int} (h1 : Ev K ta Γ (.int i)) (h2 : Ev K tb Γ (.int j)) (h : -(2 ^ 64) < i ∧ i < 2 ^ 64) : Ev K (tOp (rI CMul fun i j => .int (i * j)) ta tb) Γ (.int (i * j)) := ev_op h1 h2 (rv_I (g := fun i j => i * j) (.inl h))
theorem ev_mod {i j : Int} (h1 : Ev K ta Γ (.int i)) (h2 : Ev K tb Γ (.int j)) (h : 0 < j) : Ev K (tOp (rI (fun _ j => 0 < j) fun i j => .int (i % j)) ta tb) Γ (.int (i % j)) := ev_op h1 h2 (rv_I (g := fun i j => i % j) (C := fun _ j => 0 < j) h)
theorem ev_div {i j : Int} (h1 : Ev K ta Γ (.int i)) (h2 : Ev K tb Γ (.int j)) (h : 0 < j ∧ j < 1073741824) : Ev K (tOp (rI CDiv fun i j => .int (i / j)) ta tb) Γ (.int (i / j)) := ev_op h1 h2 (rv_I (g := fun i j => i / j) h)
theorem ev_add {i j : Int} (h1 : Ev K ta Γ (.int i)) (h2 : Ev K tb Γ (.int j)) : Ev K (tOp (rAddG K) ta tb) Γ (.int (i + j)) := ev_op h1 h2 rv_addI
theorem ev_intI {i : Int} (h : Ev K ta Γ (.int i)) : Ev K (tCB rIntG (tCons ta tNil)) Γ (.int i) := ev_cb (ea_cons h ea_nil) rc_intI
/-! _law_row -/
def A_row : List Da → Prop := fun ds => ∃ c m : Int, ds = [.int c, .int m] ∧ 0 ≤ m ∧ m ≤ 1000
def R_row : List Da → List Da → Prop := fun ds l => ∀ c m : Int, ds = [.int c, .int m] → ∃ ks : List Int, l = ks.map .int ∧ ks.length = m.toNat
theorem ok_row (T : Txt w K mg) : Cal P w K mg base "_law_row" (He.ga K "_law_row") 1 ["_law_cell", "_law_many_here"] (spXO K A_row R_row) := by
  obtain ⟨fd, F⟩ := T.d_l_row
  refine ⟨⟨fd, fn_xo F sc_l_row (fun ds h => ?_) fun cdv A outer s H E hr => ⟨_, (pss_cons (ps_set (i := 2) sc_l_row.nd rfl (by first | exact Or.inl rfl | exact Or.inr rfl) (pe_lst pa_nil)) (pss_cons (ps_set (i := 3) sc_l_row.nd rfl (by first | exact Or.inl rfl | exact Or.inr rfl) (pe_callB call_absG (by rfl) T.f_abs (by decide +kernel) (pa_cons (pv 0) pa_nil))) (pss_cons (ps_set (i := 4) sc_l_row.nd rfl (by first | exact Or.inl rfl | exact Or.inr rfl) (pe_op op_mod (pe_callTy call_intG (by rfl) T.f_int (by decide +kernel) (pa_cons (pe_op (op_addK K rfl) (pe_op op_mul (pv 3) pe_int) pe_int) pa_nil)) pe_int)) (pss_cons (ps_for PassesOwn.never rfl (pi_range1 rfl T.f_range (pa_cons (pv 1) pa_nil)) (pg_name (i := 5) sc_l_row.nd rfl (by first | exact Or.inl rfl | exact Or.inr rfl)) (pss_cons (ps_set (i := 4) sc_l_row.nd rfl (by first | exact Or.inl rfl | exact Or.inr rfl) (pe_op op_mod (pe_callTy call_intG (by rfl) T.f_int (by decide +kernel) (pa_cons (pe_op (op_addK K rfl) (pe_op op_mul (pv 4) pe_int) (pe_op op_mul pe_int (pe_op (op_addK K rfl) (pv 5) pe_int))) pa_nil)) pe_int)) (pss_one (ps_if (pt_cmpR op_ge (pe_callB call_absG (by rfl) T.f_abs (by decide +kernel) (pa_cons (pv 0) pa_nil)) (pe_op op_pow pe_int pe_int) (nomark _)) (pss_cons (ps_expr (pe_bm PySem.F.plainAttrs_list PySem.F.slot_list_append PySem.F.type_list_append mt_append (pv 2) (pa_cons (pe_op op_mod (pe_callTy call_intG (by rfl) T.f_int (by decide +kernel) (pa_cons (pv 3) pa_nil)) pe_int) pa_nil))) (pss_one (ps_set (i := 3) sc_l_row.nd rfl (by first | exact Or.inl rfl | exact Or.inr rfl) (pe_op op_fdiv (pv 3) pe_int)))) (pss_one (ps_expr (pe_bm PySem.F.plainAttrs_list PySem.F.slot_list_append PySem.F.type_list_append mt_append (pv 2) (pa_cons (pe_op op_mod (pe_callTy call_intG (by rfl) T.f_int (by decide +kernel) (pa_cons (pe_op op_fdiv (pv 4) pe_int) pa_nil)) pe_int) pa_nil)))))))) (pss_one (ps_ret (pv 2))))))), fun ds h => ?_⟩, F.bindsN fun _ _ _ _ _ _ us hl => match us, hl with | [_, _], _ => rfl⟩, T.m_l_row, F.kp⟩
  · obtain ⟨_, _, rfl, _⟩ := h
    rfl
  · obtain ⟨c, m, rfl, h0, h1⟩ := h
    refine wp_seq (wp_asgO (eo_lst ea_nil (by simp)) ?_)
    refine wp_seq (wp_asg (ev_cb (ea_cons (ev_var rfl) ea_nil) rc_abs) ?_)
    refine wp_seq (wp_asg (ev_mod (ev_intI (ev_add (ev_mulR (ev_var rfl) ev_int (by omega)) ev_int)) ev_int (by omega)) ?_)
    refine wp_seq (wp_for (js := [5]) (it_range (ea_cons (ev_var rfl) ea_nil) (by omega) h0) (fun i Γ => ∃ (ks : List Int) (rest mixed : Int) (a : Sl), Γ = [.dat (.int c), .dat (.int m), .own (ks.map .int), .dat (.int rest), .dat (.int mixed), a] ∧ ks.length = i) ⟨[], _, _, _, rfl, rfl⟩ (fun i y Γ hy hΓ => ?_) fun Γ hΓ => ?_)
    · obtain ⟨ks, rest, mixed, a, rfl, hk⟩ := hΓ
      obtain ⟨rfl, hi⟩ := take_range hy
      refine tg_name (wp_seq (wp_asg (ev_mod (ev_intI (ev_add (ev_mulR (ev_var rfl) ev_int (by omega)) (ev_mulL ev_int (ev_add (ev_var rfl) ev_int) (by omega)))) ev_int (by omega)) ?_))
      refine wp_if (et_test (ev_op (ev_cb (ea_cons (ev_var rfl) ea_nil) rc_abs) (ev_op ev_int ev_int (rv_I (g := fun i j => i ^ j.toNat) ⟨by decide, by decide, by decide⟩)) (rv_B0 (g := fun i j => decide (j ≤ i))))) (fun _ => ?_) fun _ => ?_
      · refine wp_seq (wp_app rfl (ev_mod (ev_intI (ev_var rfl)) ev_int (by omega)) (by rw [List.length_map]; omega) ?_)
        exact wp_asg (ev_div (ev_var rfl) ev_int (by omega)) ⟨ks ++ [_], _, _, _, by rw [List.map_append]; rfl, by rw [List.length_append, hk]; rfl⟩
      · exact wp_app rfl (ev_mod (ev_intI (ev_div (ev_var rfl) ev_int (by omega))) ev_int (by omega)) (by rw [List.length_map]; omega) ⟨ks ++ [_], _, _, _, by rw [List.map_append]; rfl, by rw [List.length_append, hk]; rfl⟩
    · obtain ⟨ks, rest, mixed, a, rfl, hk⟩ := hΓ
      refine wp_retO rfl fun c' m' e => ?_
      cases e
      exact ⟨ks, rfl, by rw [hk, range_len]⟩
/-! _law_numbers -/
def A_numbers : List Da → Prop := fun ds => ∃ ns : List Int, ds = [.scr ns, .int 160] ∧ ns.length ≤ 63
def R_numbers : List Da → Da → Prop := fun _ d => ∃ ks : List Int, d = intsL ks ∧ ks.length = 160
theorem ok_numbers (T : Txt w K mg) (G_l_row : Cal P w K mg base "_law_row" (He.ga K "_law_row") 1 ["_law_cell", "_law_many_here"] (spXO K A_row R_row)) :
    Cal P w K mg base "_law_numbers" (He.ga K "_law_numbers") 2 ["_law_script", "_law_many_here"] (spX K A_numbers R_numbers) := by
  obtain ⟨fd, F⟩ := T.d_l_numbers
  obtain ⟨fd1, F_l_row, b_l_row⟩ := G_l_row.ex
  refine ⟨⟨fd, fn_x F sc_l_numbers (fun ds h => ?_) fun cdv A outer s H E hr => ⟨_, (pss_cons (ps_set (i := 2) sc_l_numbers.nd rfl (by first | exact Or.inl rfl | exact Or.inr rfl) (pe_slice (sl_K K rfl) (pv 0) po_none (po_some pe_int))) (pss_cons (ps_set (i := 3) sc_l_numbers.nd rfl (by first | exact Or.inl rfl | exact Or.inr rfl) (pe_op (op_addK K rfl) pe_int (pe_op op_fdiv (pv 1) (pe_callB (call_maxG rfl) (by rfl) T.f_max (by decide +kernel) (pa_cons pe_int (pa_cons (pe_callB (call_lenK K rfl) (by rfl) T.f_len (by decide +kernel) (pa_cons (pv 2) pa_nil)) pa_nil)))))) (pss_cons (ps_set (i := 4) sc_l_numbers.nd rfl (by first | exact Or.inl rfl | exact Or.inr rfl) (pe_lst pa_nil)) (pss_cons (ps_for PassesOwn.never rfl (pi_seqK K rfl (pv 2)) (pg_name (i := 5) sc_l_numbers.nd rfl (by first | exact Or.inl rfl | exact Or.inr rfl)) (pss_one (ps_for PassesOwn.never rfl (pi_seqK K rfl (pe_call F_l_row (hr.mono (by decide)) rfl G_l_row.m G_l_row.kp b_l_row .nil pass0 (pa_cons (pv 5) (pa_cons (pv 3) pa_nil)))) (pg_name (i := 6) sc_l_numbers.nd rfl (by first | exact Or.inl rfl | exact Or.inr rfl)) (pss_one (ps_expr (pe_bm PySem.F.plainAttrs_list PySem.F.slot_list_append PySem.F.type_list_append mt_append (pv 4) (pa_cons (pv 6) pa_nil))))))) (pss_cons (ps_while PassesOwn.never (pt_cmpR op_lt (pe_callB (call_lenK K rfl) (by rfl) T.f_len (by decide +kernel) (pa_cons (pv 4) pa_nil)) (pv 1) (nomark _)) (pss_one (ps_expr (pe_bm PySem.F.plainAttrs_list PySem.F.slot_list_append PySem.F.type_list_append mt_append (pv 4) (pa_cons pe_int pa_nil))))) (pss_one (ps_ret (pe_slice (sl_K K rfl) (pv 4) po_none (po_some (pv 1)))))))))), fun ds h => ?_⟩, F.bindsN fun _ _ _ _ _ _ us hl => match us, hl with | [_, _], _ => rfl⟩, T.m_l_numbers, F.kp⟩
  · obtain ⟨_, rfl, _⟩ := h
    rfl
  · obtain ⟨ns, rfl, hn⟩ := h
    obtain ⟨cs, hcs⟩ : ∃ cs, cutG ns none (some 63) = cs := ⟨_, rfl⟩
    have hcl : cs.length ≤ 63 := by
      rw [← hcs]
      unfold cutG
      rw [List.length_take, List.length_drop]
      omega
    refine wp_seq (wp_asg (d := intsL cs) (ev_is (ev_slC (ev_var rfl) ep_none (ep_some ev_int)) (by rw [hcs])) ?_)
    obtain ⟨e, he, he1, he2⟩ : ∃ e : Int, (1 + 160 / (if ((cs.map Da.int).length : Int) > 1 then ((cs.map Da.int).length : Int) else 1)) = e ∧ 0 ≤ e ∧ e ≤ 161 := by
      refine ⟨_, rfl, ?_, ?_⟩
      · have : (0 : Int) ≤ 160 / (if ((cs.map Da.int).length : Int) > 1 then ((cs.map Da.int).length : Int) else 1) := Int.ediv_nonneg (by omega) (by split <;> omega)
        omega
      · have : (160 : Int) / (if ((cs.map Da.int).length : Int) > 1 then ((cs.map Da.int).length : Int) else 1) ≤ 160 := Int.ediv_le_self _ (by omega)
        omega
    refine wp_seq (wp_asg (d := .int e) (ev_is (ev_add ev_int (ev_div (ev_var rfl) (ev_cb (ea_cons ev_int (ea_cons (ev_cb (ea_cons (ev_var rfl) ea_nil) rc_lenL) ea_nil)) rc_max) ?_)) (by rw [he])) ?_)
    · rw [List.length_map]
      split <;> omega
    refine wp_seq (wp_asgO (eo_lst ea_nil (by simp)) ?_)
    refine wp_seq (wp_for (js := [5]) (xs := cs.map .int) (it_seqL (ev_var rfl)) (fun i Γ => ∃ (ks : List Int) (a b : Sl), Γ = [.dat (.scr ns), .dat (.int 160), .dat (intsL cs), .dat (.int e), .own (ks.map .int), a, b] ∧ ks.length ≤ i * 161) ⟨[], _, _, rfl, Nat.zero_le _⟩ (fun i y Γ hy hΓ => ?_) fun Γ hΓ => ?_)
    · obtain ⟨ks, a, b, rfl, hk⟩ := hΓ
      obtain ⟨c, hc, rfl⟩ := take_map hy
      have hi : i < cs.length := (List.getElem?_eq_some_iff.mp hc).1
      refine tg_name (wp_forX (js := [6]) (itx_seq (EvXO.ev (evxo_call (ea_cons (ev_var rfl) (ea_cons (ev_var rfl) ea_nil)) ⟨c, e, rfl, by omega, by omega⟩)))
        (fun xs j Γ => ∃ (k2 : List Int) (b : Sl), Γ = [.dat (.scr ns), .dat (.int 160), .dat (intsL cs), .dat (.int e), .own (k2.map .int), .dat (.int c), b] ∧ k2.length = ks.length + j) (fun xs _ => ⟨ks, _, rfl, rfl⟩) (fun xs j x Γ' hP hx hΓ => ?_) fun xs Γ' hP hΓ => ?_)
      · obtain ⟨k2, b, rfl, hk2⟩ := hΓ
        obtain ⟨us, rfl, hus⟩ := hP c e rfl
        obtain ⟨u, hu, rfl⟩ := take_map hx
        have hj : j < us.length := (List.getElem?_eq_some_iff.mp hu).1
        have : e.toNat ≤ 161 := by omega
        have : i * 161 ≤ 63 * 161 := Nat.mul_le_mul_right _ (by omega)
        exact tg_name (wp_app rfl (ev_var rfl) (by rw [List.length_map]; omega) ⟨k2 ++ [u], _, by rw [List.map_append]; rfl, by rw [List.length_append, hk2]; rfl⟩)
      · obtain ⟨k2, b, rfl, hk2⟩ := hΓ
        obtain ⟨us, rfl, hus⟩ := hP c e rfl
        rw [List.length_map] at hk2
        have : e.toNat ≤ 161 := by omega
        exact ⟨k2, _, _, rfl, by rw [Nat.succ_mul]; omega⟩
    · obtain ⟨ks, a, b, rfl, hk⟩ := hΓ
      rw [List.length_map] at hk
      have hkl : ks.length ≤ 63 * 161 := Nat.le_trans hk (Nat.mul_le_mul_right _ hcl)
      refine wp_seq (wp_while (fun m Γ => ∃ ks : List Int, Γ = [.dat (.scr ns), .dat (.int 160), .dat (intsL cs), .dat (.int e), .own (ks.map .int), a, b] ∧ m = 160 - ks.length ∧ ks.length ≤ 63 * 161) _ ⟨ks, rfl, rfl, hkl⟩ fun m Γ' hΓ => ?_)
      obtain ⟨ks, rfl, rfl, hkl⟩ := hΓ
      refine ⟨decide (ks.length < 160), evt_frz (evt_is (et_test (ev_op (ev_cb (ea_cons (ev_var rfl) ea_nil) rc_lenL) (ev_var rfl) (rv_B0 (g := fun i j => decide (i < j))))) ?_), fun hb => ?_, fun hb => ?_⟩
      · rw [List.length_map]
        exact decide_eq_decide.mpr (by omega)
      · have := of_decide_eq_true hb
        exact wp_app rfl ev_int (by rw [List.length_map]; omega) ⟨160 - (ks.length + 1), by omega, ks ++ [0], by rw [List.map_append]; rfl, by rw [List.length_append]; rfl, by rw [List.length_append]; simp; omega⟩
      · have := of_decide_eq_false hb
        refine wp_frz (wp_ret (ev_slL (ev_var rfl) ep_none (ep_some (ev_var rfl))) ⟨ks.take 160, ?_, by rw [List.length_take]; omega⟩)
        rw [show (160 : Int) = ((160 : Nat) : Int) from rfl, cut_take _ _ (by rw [List.length_map]; omega), ← List.map_take]
/-! _law_some -/
def someF : Int → SL → SL
  | _, [] => []
  | n, r :: rs => if n % 2 = 1 then r :: someF (n / 2) rs else someF (n / 2) rs
theorem someF_cons (n : Int) (r : Str) (rs : SL) : someF n (r :: rs) = if n % 2 = 1 then r :: someF (n / 2) rs else someF (n / 2) rs := rfl
theorem someF_sub : ∀ (n : Int) (rs : SL), (someF n rs).Sublist rs
  | _, [] => .slnil
  | n, r :: rs => by
    unfold someF
    split
    · exact (someF_sub _ rs).cons₂ _
    · exact (someF_sub _ rs).cons _
def R_lsome : List Da → Da → Prop := fun ds d => ∃ (n : Int) (rs : SL), (ds = [.int n, strsL rs] ∨ ds = [.int n, strsT rs]) ∧ rs.length ≤ 1000 ∧ d = strsT (someF n rs)
theorem ok_lsome (T : Txt w K mg) : Cal P w K mg base "_law_some" (He.ga K "_law_some") 1 ["_law_number", "_law_rights"] (spP K R_lsome) := by
  obtain ⟨fd, F⟩ := T.d_l_some
  refine ⟨⟨fd, fn_pure F sc_l_some (fun ds d h => ?_) fun cdv A outer s H E hr => ⟨_, (pss_cons (ps_set (i := 2) sc_l_some.nd rfl (by first | exact Or.inl rfl | exact Or.inr rfl) (pe_lst pa_nil)) (pss_cons (ps_set (i := 3) sc_l_some.nd rfl (by first | exact Or.inl rfl | exact Or.inr rfl) (pv 0)) (pss_cons (ps_for PassesOwn.never rfl (pi_seqK K rfl (pv 1)) (pg_name (i := 4) sc_l_some.nd rfl (by first | exact Or.inl rfl | exact Or.inr rfl)) (pss_cons (ps_if (pt_cmpR op_eq (pe_op op_mod (pe_callTy call_intG (by rfl) T.f_int (by decide +kernel) (pa_cons (pv 3) pa_nil)) pe_int) pe_int (nomark _)) (pss_one (ps_expr (pe_bm PySem.F.plainAttrs_list PySem.F.slot_list_append PySem.F.type_list_append mt_append (pv 2) (pa_cons (pv 4) pa_nil)))) pss_nil) (pss_one (ps_set (i := 3) sc_l_some.nd rfl (by first | exact Or.inl rfl | exact Or.inr rfl) (pe_op op_fdiv (pv 3) pe_int))))) (pss_one (ps_ret (pe_callTy (call_tupK K rfl) (by rfl) T.f_tuple (by decide +kernel) (pa_cons (pv 2) pa_nil))))))), fun ds d h => ?_⟩, F.bindsN fun _ _ _ _ _ _ us hl => match us, hl with | [_, _], _ => rfl⟩, T.m_l_some, F.kp⟩
  · obtain ⟨_, _, rfl | rfl, _⟩ := h <;> rfl
  · obtain ⟨n, rs, hd, hl, rfl⟩ := h
    obtain ⟨x, rfl, hx⟩ : ∃ x, ds = [.int n, x] ∧ (x = strsL rs ∨ x = strsT rs) := by rcases hd with rfl | rfl <;> exact ⟨_, rfl, by simp⟩
    have it : ∀ Γ : List Sl, Γ[1]? = some (.dat x) → ItD K (iSeq K (tVar 1)) Γ (rs.map .str) := fun Γ e => by
      rcases hx with rfl | rfl
      · exact it_seqL (ev_var e)
      · exact it_seqT (ev_var e)
    refine wp_seq (wp_asgO (eo_lst ea_nil (by simp)) ?_)
    refine wp_seq (wp_asg (ev_var rfl) ?_)
    refine wp_seq (wp_for (js := [4]) (it _ rfl) (fun i Γ => ∃ (l : SL) (m : Int) (a : Sl), Γ = [.dat (.int n), .dat x, .own (l.map .str), .dat (.int m), a] ∧ l.length ≤ i ∧ l ++ someF m (rs.drop i) = someF n rs) ⟨[], n, _, rfl, Nat.zero_le _, rfl⟩ (fun i y Γ hy hΓ => ?_) fun Γ hΓ => ?_)
    · obtain ⟨l, m, a, rfl, hl2, he⟩ := hΓ
      obtain ⟨r, hr2, rfl⟩ := take_map hy
      have hi : i < rs.length := (List.getElem?_eq_some_iff.mp hr2).1
      have dr : rs.drop i = r :: rs.drop (i + 1) := by
        rw [List.drop_eq_getElem_cons hi]
        rw [List.getElem?_eq_getElem hi] at hr2
        rw [Option.some.inj hr2]
      rw [dr, someF_cons] at he
      refine tg_name (wp_seq (wp_if (et_test (ev_op (ev_mod (ev_intI (ev_var rfl)) ev_int (by omega)) ev_int rv_eqI)) (fun hb => ?_) fun hb => wp_next ?_))
      · rw [if_pos (of_decide_eq_true hb)] at he
        refine wp_app rfl (ev_var rfl) (by rw [List.length_map]; omega) ?_
        exact wp_asg (ev_div (ev_var rfl) ev_int (by omega)) ⟨l ++ [r], _, _, by rw [List.map_append]; rfl, by rw [List.length_append]; simp; omega, by rw [List.append_assoc]; exact he⟩
      · rw [if_neg (of_decide_eq_false hb)] at he
        exact wp_asg (ev_div (ev_var rfl) ev_int (by omega)) ⟨l, _, _, rfl, by omega, he⟩
    · obtain ⟨l, m, a, rfl, _, he⟩ := hΓ
      rw [List.length_map, List.drop_length] at he
      have e2 : l = someF n rs := by rw [← he]; show l = l ++ []; rw [List.append_nil]
      exact wp_frz (wp_ret (ev_cb (ea_cons (ev_var rfl) ea_nil) rc_tupL) (by rw [← e2]))
end
end WM

/-! ## LN -/
set_option maxHeartbeats 4000000
namespace WM
open PySem PySem.Spec PyProof.Rows L2
theorem wp_mid {K : PySem.W.Frag} {t u : TS} {Γ : List Sl} {E : En} (M : List Sl → Prop) (h : Wp K t Γ { E with nx := M }) (k : ∀ Γ', M Γ' → Wp K u Γ' E) : Wp K (tSeq t u) Γ E := fun B0 H0 B H σ D s e ok =>
  h B0 H0 B H σ { D with nx := u D } s e ⟨fun B H σ Γ s e m => k Γ m B0 H0 B H σ D s e ok, ok.rt, ok.ro, ok.bk, ok.ct⟩
/-! letters -/
abbrev tl (s : Str) : List Nat := s.cps.toList
theorem tl_app (a b : Str) : tl (a ++ b) = tl a ++ tl b := by
  show (a.cps ++ b.cps).toList = _
  exact Array.toList_append
theorem tl_len (s : Str) : (tl s).length = s.length := Array.length_toList
def lc (v : Int) : Nat := (tl nameChars).getD v.toNat 0
theorem lc_at (i : Nat) (h : i < 36) : (tl nameChars)[i]? = some (lc (i : Int)) := by
  revert i
  decide +kernel
theorem lc_mem (i : Nat) (h : i < 36) : lc (i : Int) ∈ tl nameChars := List.mem_of_getElem? (lc_at i h)
theorem lc_dig : ∀ i : Nat, i < 26 → lc (i : Int) ∉ tl digits := by decide +kernel
theorem lc_inj : ∀ i : Nat, i < 26 → ∀ j : Nat, j < 26 → lc (i : Int) = lc (j : Int) → i = j := by decide +kernel
theorem lc_nat (v : Int) (h : 0 ≤ v) : lc v = lc ((v.toNat : Nat) : Int) := by rw [Int.toNat_of_nonneg h]
theorem lc_mem' {v : Int} (h : 0 ≤ v) (h1 : v < 36) : lc v ∈ tl nameChars := by rw [lc_nat v h]; exact lc_mem _ (by omega)
abbrev oneC (c : Nat) : Str := ⟨#[c]⟩
theorem name_len : nameChars.length = 36 := by decide +kernel
theorem cut_lo (o : Str) (k : Nat) (h : k ≤ o.length) : tl (cutS o none (some (k : Int))) = (tl o).take k := by
  show ((o.cps.toList.drop _).take _).toArray.toList = _
  rw [HT.sIx_none, HT.sIx_nat, List.drop_zero, Nat.sub_zero, Nat.min_eq_left h]
theorem cut_hi (o : Str) (k : Nat) (h : k ≤ o.length) : tl (cutS o (some (k : Int)) none) = (tl o).drop k := by
  show ((o.cps.toList.drop _).take _).toArray.toList = _
  rw [HT.sIx_none, HT.sIx_nat, Nat.min_eq_left h]
  show ((tl o).drop k).take (o.length - k) = _
  refine List.take_of_length_le ?_
  rw [List.length_drop, tl_len]
  exact Nat.le_refl _
theorem join_chs (c : Nat → Nat) : ∀ l : List Nat, TL.joinL [] (l.map fun k => [c k]) = l.map c
  | [] => rfl
  | [_] => rfl
  | a :: b :: l => by
    show [c a] ++ ([] ++ TL.joinL [] ((b :: l).map fun k => [c k])) = _
    rw [join_chs c (b :: l)]
    rfl
theorem sum_ones (c : Nat → Nat) : ∀ l : List Nat, ((l.map fun k => oneC (c k)).map (·.length)).sum = l.length
  | [] => rfl
  | a :: l => by
    show 1 + ((l.map fun k => oneC (c k)).map (·.length)).sum = _
    rw [sum_ones c l, List.length_cons, Nat.add_comm]
theorem empty_S : (Str.ofString "" : Str) = ⟨([] : List Nat).toArray⟩ := by decide +kernel
theorem join_is (c : Nat → Nat) (l : List Nat) : tl (Txt.join (Str.ofString "") (l.map fun k => oneC (c k))) = l.map c := by
  have h := SX.join_S [] (l.map fun k => [c k])
  rw [List.map_map, join_chs] at h
  rw [empty_S]
  show tl (Txt.join (SX.S []) (l.map fun k => SX.S [c k])) = _
  have h2 : (l.map fun k => SX.S [c k]) = l.map (SX.S ∘ fun k => [c k]) := rfl
  rw [h2, h]
structure Part (o : Str) : Prop where
  len : o.length ≤ 10
  all : ∀ c ∈ tl o, c ∈ tl nameChars
theorem name_of {o : Str} (W : Part o) {a b : Int} (ha : 0 ≤ a ∧ a < 26) (hb : 0 ≤ b ∧ b < 36) {k : Nat} (hk : k ≤ o.length) :
    IsName (((oneC (lc a) ++ cutS o none (some (k : Int))) ++ oneC (lc b)) ++ cutS o (some (k : Int)) none) ∧ (tl (((oneC (lc a) ++ cutS o none (some (k : Int))) ++ oneC (lc b)) ++ cutS o (some (k : Int)) none))[0]? = some (lc a) := by
  have e : tl (((oneC (lc a) ++ cutS o none (some (k : Int))) ++ oneC (lc b)) ++ cutS o (some (k : Int)) none) = lc a :: ((tl o).take k ++ (lc b :: (tl o).drop k)) := by
    rw [tl_app, tl_app, tl_app, cut_lo o k hk, cut_hi o k hk, List.append_assoc, List.append_assoc]
    rfl
  have hl : (((oneC (lc a) ++ cutS o none (some (k : Int))) ++ oneC (lc b)) ++ cutS o (some (k : Int)) none).length = o.length + 2 := by
    rw [← tl_len, e]
    simp only [List.length_cons, List.length_append, List.length_take, List.length_drop, tl_len]
    omega
  have W1 := W.len
  refine ⟨⟨by omega, by omega, fun c hc => ?_, fun c hc => ?_⟩, by rw [e]; rfl⟩
  · have hc2 : (lc a :: ((tl o).take k ++ (lc b :: (tl o).drop k)))[0]? = some c := e ▸ hc
    have e2 : lc a = c := Option.some.inj hc2
    rw [← e2, lc_nat a ha.1]
    exact lc_dig _ (by omega)
  · have hc2 : c ∈ lc a :: ((tl o).take k ++ (lc b :: (tl o).drop k)) := e ▸ hc
    rcases List.mem_cons.mp hc2 with rfl | h
    · exact lc_mem' ha.1 (by omega)
    · rcases List.mem_append.mp h with h | h
      · exact W.all c (List.mem_of_mem_take h)
      · rcases List.mem_cons.mp h with rfl | h
        · exact lc_mem' hb.1 hb.2
        · exact W.all c (List.mem_of_mem_drop h)
section
variable {P : Program} {w : World} {K : PySem.W.Frag} {mg : Str → Option Value} {base : Heap} {Γ : List Sl} {ta tb : TE}
theorem ev_letter {v : Int} (h1 : Ev K ta Γ (.str nameChars)) (h2 : Ev K tb Γ (.int v)) (h0 : 0 ≤ v) (h : v < 36) : Ev K (tOp (rIx K) ta tb) Γ (.str (oneC (lc v))) := by
  refine ev_op h1 h2 (rv_ixS (by rw [name_len]; omega) ?_)
  have e := lc_at v.toNat (by omega)
  rw [Int.toNat_of_nonneg h0] at e
  have := atI_nat e
  rwa [Int.toNat_of_nonneg h0] at this
def A_names : List Da → Prop := fun ds => ∃ v m : Int, ds = [.int v, .int m] ∧ 0 ≤ m ∧ m ≤ 6
def R_names : List Da → Da → Prop := fun ds d => ∀ v m : Int, ds = [.int v, .int m] → ∃ ns : SL, d = strsL ns ∧ ns.length = m.toNat ∧ ns.Nodup ∧ ∀ x ∈ ns, IsName x
theorem ok_names (T : Txt w K mg) : Cal P w K mg base "_law_names" (He.ga K "_law_names") 1 ["_law_number", "_law_many_here"] (spX K A_names R_names) := by
  obtain ⟨fd, F⟩ := T.d_l_names
  refine ⟨⟨fd, fn_x F sc_l_names (fun ds h => ?_) fun cdv A outer s H E hr => ⟨_, (pss_cons (ps_set (i := 2) sc_l_names.nd rfl (by first | exact Or.inl rfl | exact Or.inr rfl) pe_str) (pss_cons (ps_set (i := 3) sc_l_names.nd rfl (by first | exact Or.inl rfl | exact Or.inr rfl) (pe_op op_mod (pe_callTy call_intG (by rfl) T.f_int (by decide +kernel) (pa_cons (pv 0) pa_nil)) pe_int)) (pss_cons (ps_set (i := 4) sc_l_names.nd rfl (by first | exact Or.inl rfl | exact Or.inr rfl) (pe_joinK K rfl pe_str (pe_lc (own := [("_law_k", 5)]) rfl sc_l_names.nd (pi_range1 rfl T.f_range (pa_cons (pv 3) pa_nil)) (blkOk_by (own := [("_law_k", 5)]) (N := ["_law_number", "_law_many_here", "_law_letters", "_law_size", "_law_rest", "_law_k", "_law_place", "_law_names_here", "_law_own", "_law_spot", "_law_step"]) (sc := defScope s_l_names) (by decide +kernel)) (fun _ _ _ _ _ => (pg_name (i := 5) sc_l_names.nd rfl (by first | exact Or.inl rfl | exact Or.inr rfl))) (fun _ _ _ _ _ => pts_nil) (fun _ _ _ _ _ => (pe_ix (ix_K K rfl) (pv 2) (pe_op op_mod (pe_callTy call_intG (by rfl) T.f_int (by decide +kernel) (pa_cons (pe_op (op_addK K rfl) (pv 0) (pe_op op_mul (pe_op op_mul pe_int (pv 5)) (pv 5))) pa_nil)) pe_int) (fun _ _ => rfl)))))) (pss_cons (ps_set (i := 6) sc_l_names.nd rfl (by first | exact Or.inl rfl | exact Or.inr rfl) (pe_op op_mod (pe_callTy call_intG (by rfl) T.f_int (by decide +kernel) (pa_cons (pe_op op_fdiv (pv 0) pe_int) pa_nil)) (pe_op (op_addK K rfl) (pv 3) pe_int))) (pss_cons (ps_set (i := 7) sc_l_names.nd rfl (by first | exact Or.inl rfl | exact Or.inr rfl) (pe_lst pa_nil)) (pss_cons (ps_for PassesOwn.never rfl (pi_range1 rfl T.f_range (pa_cons (pv 1) pa_nil)) (pg_name (i := 5) sc_l_names.nd rfl (by first | exact Or.inl rfl | exact Or.inr rfl)) (pss_cons (ps_set (i := 8) sc_l_names.nd rfl (by first | exact Or.inl rfl | exact Or.inr rfl) (pv 4)) (pss_cons (ps_if (pt_cmpR op_eq (pe_op op_mod (pe_callTy call_intG (by rfl) T.f_int (by decide +kernel) (pa_cons (pe_op (op_addK K rfl) (pe_op op_fdiv (pv 0) pe_int) (pv 5)) pa_nil)) pe_int) pe_int (nomark _)) (pss_one (ps_set (i := 8) sc_l_names.nd rfl (by first | exact Or.inl rfl | exact Or.inr rfl) (pe_slice (sl_K K rfl) (pv 4) (po_some pe_int) po_none))) pss_nil) (pss_cons (ps_set (i := 9) sc_l_names.nd rfl (by first | exact Or.inl rfl | exact Or.inr rfl) (pe_callB (call_minG rfl) (by rfl) T.f_min (by decide +kernel) (pa_cons (pv 6) (pa_cons (pe_callB (call_lenK K rfl) (by rfl) T.f_len (by decide +kernel) (pa_cons (pv 8) pa_nil)) pa_nil)))) (pss_cons (ps_set (i := 10) sc_l_names.nd rfl (by first | exact Or.inl rfl | exact Or.inr rfl) pe_int) (pss_cons (ps_if (pt_cmpR op_eq (pe_op op_mod (pe_callTy call_intG (by rfl) T.f_int (by decide +kernel) (pa_cons (pe_op op_fdiv (pv 0) pe_int) pa_nil)) pe_int) pe_int (nomark _)) (pss_one (ps_set (i := 10) sc_l_names.nd rfl (by first | exact Or.inl rfl | exact Or.inr rfl) pe_int)) pss_nil) (pss_one (ps_expr (pe_bm PySem.F.plainAttrs_list PySem.F.slot_list_append PySem.F.type_list_append mt_append (pv 7) (pa_cons (pe_op (op_addK K rfl) (pe_op (op_addK K rfl) (pe_op (op_addK K rfl) (pe_ix (ix_K K rfl) (pv 2) (pe_op op_mod (pe_callTy call_intG (by rfl) T.f_int (by decide +kernel) (pa_cons (pe_op (op_addK K rfl) (pv 0) (pe_op op_mul pe_int (pv 5))) pa_nil)) pe_int) (fun _ _ => rfl)) (pe_slice (sl_K K rfl) (pv 8) po_none (po_some (pv 9)))) (pe_ix (ix_K K rfl) (pv 2) (pe_op op_mod (pe_callTy call_intG (by rfl) T.f_int (by decide +kernel) (pa_cons (pe_op (op_addK K rfl) (pv 0) (pe_op op_mul (pv 10) (pv 5))) pa_nil)) pe_int) (fun _ _ => rfl))) (pe_slice (sl_K K rfl) (pv 8) (po_some (pv 9)) po_none)) pa_nil)))))))))) (pss_one (ps_ret (pv 7))))))))), fun ds h => ?_⟩, F.bindsN fun _ _ _ _ _ _ us hl => match us, hl with | [_, _], _ => rfl⟩, T.m_l_names, F.kp⟩
  · obtain ⟨_, _, rfl, _⟩ := h
    rfl
  · obtain ⟨v, m, rfl, h0, h6⟩ := h
    refine wp_seq (wp_asg (d := .str nameChars) ev_str ?_)
    refine wp_seq (wp_asg (d := .int (v % 11)) (ev_mod (ev_intI (ev_var rfl)) ev_int (by omega)) ?_)
    obtain ⟨n, hn⟩ : ∃ n, (v % 11).toNat = n := ⟨_, rfl⟩
    have hn10 : n ≤ 10 := by omega
    let c : Nat → Nat := fun k => lc ((v + 7 * (k : Int) * k) % 36)
    refine wp_seq (wp_asg (d := .str (Txt.join (Str.ofString "") ((List.range n).map fun k => oneC (c k)))) (ev_join ev_str (ev_is (ev_lcA (fun (k : Nat) => Da.int (k : Int)) (List.range n) (hn ▸ it_range (ea_cons (ev_var rfl) ea_nil) (by omega) (by omega)) (by rw [List.length_range]; omega) (fun k => .str (oneC (c k))) (by simp) fun i k hk =>
      ev_letter (ev_var rfl) (ev_mod (ev_intI (ev_add (ev_var rfl) (ev_mulR (ev_mulL ev_int (ev_var rfl) (by omega)) (ev_var rfl) ?_))) ev_int (by omega)) (Int.emod_nonneg _ (by omega)) (Int.emod_lt_of_pos _ (by omega))) (congrArg Da.lst (by rw [List.map_map]; rfl))) ?_) ?_)
    · have : k < n := by
        rw [List.getElem?_eq_some_iff] at hk
        obtain ⟨h1, h2⟩ := hk
        rw [List.getElem_range] at h2
        rw [List.length_range] at h1
        omega
      omega
    · rw [sum_ones, List.length_map, List.length_range]
      have : (Str.ofString "").length = 0 := by decide +kernel
      rw [this]; omega
    have hrest : tl (Txt.join (Str.ofString "") ((List.range n).map fun k => oneC (c k))) = (List.range n).map c := join_is c _
    generalize Txt.join (Str.ofString "") ((List.range n).map fun k => oneC (c k)) = rest at hrest
    have Wr : Part rest := ⟨by rw [← tl_len, hrest, List.length_map, List.length_range]; exact hn10, fun x hx => by
      rw [hrest] at hx
      obtain ⟨k, _, rfl⟩ := List.mem_map.mp hx
      exact lc_mem' (Int.emod_nonneg _ (by omega)) (Int.emod_lt_of_pos _ (by omega))⟩
    have hv : 0 ≤ v % 11 := Int.emod_nonneg _ (by omega)
    refine wp_seq (wp_asg (ev_mod (ev_intI (ev_div (ev_var rfl) ev_int (by omega))) (ev_add (ev_var rfl) ev_int) (by omega)) ?_)
    obtain ⟨pl, hpl, hpl0⟩ : ∃ pl : Int, v / 11 % (v % 11 + 1) = pl ∧ 0 ≤ pl := ⟨_, rfl, Int.emod_nonneg _ (by omega)⟩
    rw [hpl]
    refine wp_seq (wp_asgO (eo_lst ea_nil (by simp)) ?_)
    refine wp_seq (wp_for (js := [5]) (it_range (ea_cons (ev_var rfl) ea_nil) (by omega) h0) (fun i Γ => ∃ (ns : SL) (a b d e : Sl), Γ = [.dat (.int v), .dat (.int m), .dat (.str nameChars), .dat (.int (v % 11)), .dat (.str rest), a, .dat (.int pl), .own (ns.map .str), b, d, e] ∧ ns.length = i ∧ ∀ (j : Nat) x, ns[j]? = some x → IsName x ∧ (tl x)[0]? = some (lc ((v + 3 * (j : Int)) % 26)))
      ⟨[], _, _, _, _, rfl, rfl, fun j x h => by simp at h⟩ (fun i y Γ hy hΓ => ?_) fun Γ hΓ => ?_)
    · obtain ⟨ns, a, b, d, e, rfl, hns, hall⟩ := hΓ
      obtain ⟨rfl, hi⟩ := take_range hy
      refine tg_name (wp_seq (wp_asg (ev_var rfl) ?_))
      refine wp_mid (fun Γ' => ∃ o, Part o ∧ Γ' = [.dat (.int v), .dat (.int m), .dat (.str nameChars), .dat (.int (v % 11)), .dat (.str rest), .dat (.int (i : Int)), .dat (.int pl), .own (ns.map .str), .dat (.str o), d, e]) (wp_if (et_test (ev_op (ev_mod (ev_intI (ev_add (ev_div (ev_var rfl) ev_int (by omega)) (ev_var rfl))) ev_int (by omega)) ev_int rv_eqI)) (fun _ => ?_) fun _ => wp_next ⟨rest, Wr, rfl⟩) fun Γ' hΓ => ?_
      · have Wl := Wr.len
        refine wp_asg (ev_slS (by omega) (ev_var rfl) (ep_some ev_int) ep_none) ⟨_, ⟨?_, fun x hx => ?_⟩, rfl⟩
        · rw [← tl_len]
          show (((tl rest).drop _).take _).length ≤ 10
          rw [List.length_take, List.length_drop, tl_len]
          omega
        · exact Wr.all x (List.mem_of_mem_drop (List.mem_of_mem_take hx))
      · obtain ⟨o, Wo, rfl⟩ := hΓ
        have Wl := Wo.len
        obtain ⟨k, hk, hko⟩ : ∃ k : Nat, (if ((o.length : Nat) : Int) < pl then ((o.length : Nat) : Int) else pl) = (k : Int) ∧ k ≤ o.length := by
          split
          · exact ⟨_, rfl, Nat.le_refl _⟩
          · exact ⟨pl.toNat, by omega, by omega⟩
        refine wp_seq (wp_asg (d := .int (k : Int)) (ev_is (ev_cb (ea_cons (ev_var rfl) (ea_cons (ev_cb (ea_cons (ev_var rfl) ea_nil) (rc_lenS (by omega))) ea_nil)) rc_min) (by rw [hk])) ?_)
        refine wp_seq (wp_asg ev_int ?_)
        refine wp_mid (fun Γ' => ∃ st : Int, (st = 5 ∨ st = 31) ∧ Γ' = [.dat (.int v), .dat (.int m), .dat (.str nameChars), .dat (.int (v % 11)), .dat (.str rest), .dat (.int (i : Int)), .dat (.int pl), .own (ns.map .str), .dat (.str o), .dat (.int (k : Int)), .dat (.int st)]) (wp_if (et_test (ev_op (ev_mod (ev_intI (ev_div (ev_var rfl) ev_int (by omega))) ev_int (by omega)) ev_int rv_eqI)) (fun _ => wp_asg ev_int ⟨31, .inr rfl, rfl⟩) fun _ => wp_next ⟨5, .inl rfl, rfl⟩) fun Γ' hΓ => ?_
        obtain ⟨st, hst, rfl⟩ := hΓ
        have b1 : 0 ≤ (v + 3 * (i : Int)) % 26 ∧ (v + 3 * (i : Int)) % 26 < 26 := ⟨Int.emod_nonneg _ (by omega), Int.emod_lt_of_pos _ (by omega)⟩
        have b2 : 0 ≤ (v + st * (i : Int)) % 36 ∧ (v + st * (i : Int)) % 36 < 36 := ⟨Int.emod_nonneg _ (by omega), Int.emod_lt_of_pos _ (by omega)⟩
        obtain ⟨N1, N2⟩ := name_of Wo b1 b2 hko
        have l1 : (cutS o none (some (k : Int))).length ≤ 10 := by rw [← tl_len, cut_lo o k hko, List.length_take, tl_len]; omega
        have l2 : (cutS o (some (k : Int)) none).length ≤ 10 := by rw [← tl_len, cut_hi o k hko, List.length_drop, tl_len]; omega
        have c1 : ∀ x, (oneC x).length = 1 := fun _ => rfl
        have la : ∀ x y : Str, (x ++ y).length = x.length + y.length := fun x y => by rw [← tl_len, tl_app, List.length_append, tl_len, tl_len]
        refine wp_app rfl (ev_op (ev_op (ev_op (ev_letter (ev_var rfl) (ev_mod (ev_intI (ev_add (ev_var rfl) (ev_mulL ev_int (ev_var rfl) (by omega)))) ev_int (by omega)) b1.1 (by omega)) (ev_slS (by omega) (ev_var rfl) ep_none (ep_some (ev_var rfl))) (rv_addS (by rw [c1]; omega)))
          (ev_letter (ev_var rfl) (ev_mod (ev_intI (ev_add (ev_var rfl) (ev_mulL (ev_var rfl) (ev_var rfl) (by omega)))) ev_int (by omega)) b2.1 b2.2) (rv_addS (by rw [la, c1, c1]; omega))) (ev_slS (by omega) (ev_var rfl) (ep_some (ev_var rfl)) ep_none) (rv_addS (by rw [la, la, c1, c1]; omega))) (by rw [List.length_map]; omega) ?_
        refine ⟨ns ++ [_], _, _, _, _, by rw [List.map_append]; rfl, by rw [List.length_append, hns]; rfl, fun j x hx => ?_⟩
        by_cases cj : j < ns.length
        · rw [List.getElem?_append_left cj] at hx
          exact hall j x hx
        · have ej : j = ns.length := by
            have := (List.getElem?_eq_some_iff.mp hx).1
            rw [List.length_append] at this
            simp at this
            omega
          subst ej
          rw [List.getElem?_append_right (Nat.le_refl _), Nat.sub_self] at hx
          have ex := Option.some.inj hx
          rw [← ex, hns]
          exact ⟨N1, N2⟩
    · obtain ⟨ns, a, b, d, e, rfl, hns, hall⟩ := hΓ
      rw [range_len] at hns
      refine wp_frz (wp_ret (ev_var rfl) fun v' m' em => ?_)
      cases em
      refine ⟨ns, rfl, hns, ?_, fun x hx => ?_⟩
      · refine List.pairwise_iff_getElem.mpr fun i j hi hj hij e2 => ?_
        have h1 := (hall i _ (List.getElem?_eq_getElem hi)).2
        have h2 := (hall j _ (List.getElem?_eq_getElem hj)).2
        rw [e2, h2] at h1
        have h3 := Option.some.inj h1
        rw [lc_nat _ (Int.emod_nonneg _ (by omega)), lc_nat ((v + 3 * (i : Int)) % 26) (Int.emod_nonneg _ (by omega))] at h3
        have h4 := lc_inj _ (by omega) _ (by omega) h3
        omega
      · obtain ⟨i, hi, ei⟩ := List.mem_iff_getElem.mp hx
        exact (hall i x (by rw [List.getElem?_eq_getElem hi, ei])).1
end
end WM

/-! ## L2 -/
set_option maxHeartbeats 4000000
namespace WM
open PySem PySem.Spec PyProof.Rows L2
def num (ks : List Int) (j : Nat) : Int := ks.getD j 0
theorem wp_cast {K : PySem.W.Frag} {t : TS} {Γ Γ' : List Sl} {E : En} (h : Wp K t Γ' E) (e : Γ = Γ') : Wp K t Γ E := e ▸ h
/-! _law_asked -/
def othersF (rights : SL) (right : Str) : SL := rights.filter fun o => !decide (o = right)
def needsF (ks : List Int) (a : Nat) (rights : SL) (right : Str) : SL := someF (num ks a / (1 + num ks (a + 1) % 3)) (othersF rights right)
def lacksF (ks : List Int) (a : Nat) (rights : SL) (right : Str) : SL := someF (num ks (a + 1) / 5 * (num ks (a + 1) % 2)) ((othersF rights right).filter fun o => !decide (o ∈ needsF ks a rights right))
theorem ord_sub {rights l : SL} (nd : rights.Nodup) (h : l.Sublist rights) : Ord rights l := by
  refine ⟨?_, List.Pairwise.sublist h nd, fun r hr => h.subset hr⟩
  induction h with
  | slnil => rfl
  | @cons l1 l2 a h ih =>
    have nd2 := (List.pairwise_cons.mp nd)
    have na : a ∉ l1 := fun m => nd2.1 a (h.subset m) rfl
    rw [List.filter_cons, if_neg (by simpa using na)]
    exact ih nd2.2
  | @cons_cons l1 l2 a h ih =>
    have nd2 := (List.pairwise_cons.mp nd)
    rw [List.filter_cons, if_pos (by simp)]
    congr 1
    refine Eq.trans (List.filter_congr fun x hx => ?_) (ih nd2.2)
    have : x ≠ a := fun e => nd2.1 x hx e.symm
    simp [this]
theorem filter_sub {rights : SL} (f : Str → Bool) : (rights.filter f).Sublist rights := List.filter_sublist
structure AskOk (rights : SL) (right : Str) (n l : SL) : Prop where
  n1 : Ord rights n
  l1 : Ord rights l
  nr : right ∉ n
  lr : right ∉ l
  ap : Apart l n
theorem asked_ok (ks : List Int) (a : Nat) {rights : SL} (right : Str) (nd : rights.Nodup) : AskOk rights right (needsF ks a rights right) (lacksF ks a rights right) := by
  have s1 : (needsF ks a rights right).Sublist (othersF rights right) := someF_sub _ _
  have s2 : (lacksF ks a rights right).Sublist ((othersF rights right).filter fun o => !decide (o ∈ needsF ks a rights right)) := someF_sub _ _
  have o : ∀ x, x ∈ othersF rights right → x ≠ right := fun x hx => by
    have := (List.mem_filter.mp hx).2
    simpa using this
  have s0 : (othersF rights right).Sublist rights := filter_sub _
  refine ⟨ord_sub nd (s1.trans s0), ord_sub nd (s2.trans ((filter_sub _).trans s0)), fun h => o _ (s1.subset h) rfl, fun h => o _ (List.mem_filter.mp (s2.subset h)).1 rfl, fun x hx hn => ?_⟩
  have := (List.mem_filter.mp (s2.subset hx)).2
  simp at this
  exact this hn
section
variable {P : Program} {w : World} {K : PySem.W.Frag} {mg : Str → Option Value} {base : Heap} {Γ : List Sl} {ta tb : TE}
theorem ev_num {ks : List Int} {i : Nat} {v : Int} (j : Nat) (h : Γ[i]? = some (.dat (intsL ks))) (h2 : Ev K tb Γ (.int v)) (e : v = (j : Int)) (hj : j < ks.length) : Ev K (tOp (rIx K) (tVar i) tb) Γ (.int (num ks j)) := by
  subst e
  refine ev_op (ev_var h) h2 (rv_ixL (atI_nat ?_))
  rw [List.getElem?_map, List.getElem?_eq_getElem hj]
  unfold num
  rw [List.getD_eq_getElem?_getD, List.getElem?_eq_getElem hj]
  rfl
theorem at_strs {ss : SL} {v : Int} (h0 : 0 ≤ v) (h : v < (ss.length : Int)) : atI (ss.map Da.str) v = some (.str (ss.getD v.toNat "")) := by
  have e : (ss.map Da.str)[v.toNat]? = some (.str (ss.getD v.toNat "")) := by
    have h2 : v.toNat < ss.length := by omega
    rw [List.getElem?_map, List.getD_eq_getElem?_getD, List.getElem?_eq_getElem h2]
    rfl
  have := atI_nat e
  rwa [Int.toNat_of_nonneg h0] at this
def R_asked : List Da → Da → Prop := fun ds d => ∃ (ks : List Int) (a : Nat) (rights : SL) (right : Str), ds = [intsL ks, .int (a : Int), strsL rights, .str right] ∧ a + 1 < ks.length ∧ rights.length ≤ 1000 ∧ d = .tup [strsT (needsF ks a rights right), strsT (lacksF ks a rights right)]
theorem ok_asked (T : Txt w K mg) (G_l_some : Cal P w K mg base "_law_some" (He.ga K "_law_some") 1 ["_law_number", "_law_rights"] (spP K R_lsome)) :
    Cal P w K mg base "_law_asked" (He.ga K "_law_asked") 2 ["_law_numbers_here", "_law_at", "_law_rights", "_law_right"] (spP K R_asked) := by
  obtain ⟨fd, F⟩ := T.d_l_asked
  obtain ⟨fd1, F_l_some, b_l_some⟩ := G_l_some.ex
  refine ⟨⟨fd, fn_pure F sc_l_asked (fun ds d h => ?_) fun cdv A outer s H E hr => ⟨_, (pss_cons (ps_setLc (i := 4) (own := [("_law_other", 5)]) rfl sc_l_asked.nd rfl rfl (sw_true rfl rfl rfl (by decide +kernel)) (pi_seqK K rfl (pv 2)) (blkOk_by (own := [("_law_other", 5)]) (N := ["_law_numbers_here", "_law_at", "_law_rights", "_law_right", "_law_others", "_law_other", "_law_needs", "_law_lacks"]) (sc := defScope s_l_asked) (by decide +kernel)) (fun _ _ _ _ _ => (pg_name (i := 5) sc_l_asked.nd rfl (by first | exact Or.inl rfl | exact Or.inr rfl))) (fun _ _ _ _ _ => (pts_one (pt_cmpR op_ne (pv 5) (pv 3) (nomark _)))) (fun _ _ _ _ _ => (pv 5))) (pss_cons (ps_set (i := 6) sc_l_asked.nd rfl (by first | exact Or.inl rfl | exact Or.inr rfl) (pe_call F_l_some (hr.mono (by decide)) rfl G_l_some.m G_l_some.kp b_l_some .nil pass0 (pa_cons (pe_op op_fdiv (pe_ix (ix_K K rfl) (pv 0) (pv 1) (fun _ _ => rfl)) (pe_op (op_addK K rfl) pe_int (pe_op op_mod (pe_callTy call_intG (by rfl) T.f_int (by decide +kernel) (pa_cons (pe_ix (ix_K K rfl) (pv 0) (pe_op (op_addK K rfl) (pv 1) pe_int) (fun _ _ => rfl)) pa_nil)) pe_int))) (pa_cons (pv 4) pa_nil)))) (pss_cons (ps_set (i := 7) sc_l_asked.nd rfl (by first | exact Or.inl rfl | exact Or.inr rfl) (pe_call F_l_some (hr.mono (by decide)) rfl G_l_some.m G_l_some.kp b_l_some .nil pass0 (pa_cons (pe_op op_mul (pe_op op_fdiv (pe_ix (ix_K K rfl) (pv 0) (pe_op (op_addK K rfl) (pv 1) pe_int) (fun _ _ => rfl)) pe_int) (pe_op op_mod (pe_callTy call_intG (by rfl) T.f_int (by decide +kernel) (pa_cons (pe_ix (ix_K K rfl) (pv 0) (pe_op (op_addK K rfl) (pv 1) pe_int) (fun _ _ => rfl)) pa_nil)) pe_int)) (pa_cons (pe_lc (own := [("_law_other", 5)]) rfl sc_l_asked.nd (pi_seqK K rfl (pv 4)) (blkOk_by (own := [("_law_other", 5)]) (N := ["_law_numbers_here", "_law_at", "_law_rights", "_law_right", "_law_others", "_law_other", "_law_needs", "_law_lacks"]) (sc := defScope s_l_asked) (by decide +kernel)) (fun _ _ _ _ _ => (pg_name (i := 5) sc_l_asked.nd rfl (by first | exact Or.inl rfl | exact Or.inr rfl))) (fun _ _ _ _ _ => (pts_one (pt_cmpR (op_niK K rfl) (pv 5) (pv 6) rfl))) (fun _ _ _ _ _ => (pv 5))) pa_nil)))) (pss_one (ps_ret (pe_tup (pa_cons (pv 6) (pa_cons (pv 7) pa_nil)))))))), fun ds d h => ?_⟩, F.bindsN fun _ _ _ _ _ _ us hl => match us, hl with | [_, _, _, _], _ => rfl⟩, T.m_l_asked, F.kp⟩
  · obtain ⟨_, _, _, _, rfl, _⟩ := h
    rfl
  · obtain ⟨ks, a, rights, right, rfl, hk, hr1, rfl⟩ := h
    have ho : (othersF rights right).length ≤ rights.length := List.length_filter_le _ _
    refine wp_seq (wp_asg (d := strsL (othersF rights right)) (ev_lcM .str rights (js := [5]) (it_seqL (ev_var rfl)) (by omega) (fun o => !decide (o = right)) .str (by simp) fun i o _ => tg_name ⟨et_test (ev_op (ev_var rfl) (ev_var rfl) rv_neS), fun _ => ev_var rfl⟩) ?_)
    have m3 : 0 ≤ num ks (a + 1) % 3 ∧ num ks (a + 1) % 3 < 3 := ⟨Int.emod_nonneg _ (by omega), Int.emod_lt_of_pos _ (by omega)⟩
    have m2 : 0 ≤ num ks (a + 1) % 2 ∧ num ks (a + 1) % 2 < 2 := ⟨Int.emod_nonneg _ (by omega), Int.emod_lt_of_pos _ (by omega)⟩
    refine wp_seq (wp_asg (ev_call (ea_cons (ev_div (ev_num a rfl (ev_var rfl) rfl (by omega)) (ev_add ev_int (ev_mod (ev_intI (ev_num (a + 1) rfl (ev_add (ev_var rfl) ev_int) (by omega) hk)) ev_int (by omega))) (by omega)) (ea_cons (ev_var rfl) ea_nil)) ⟨_, othersF rights right, .inl rfl, by omega, rfl⟩) ?_)
    refine wp_seq (wp_asg (ev_call (ea_cons (ev_mulR (ev_div (ev_num (a + 1) rfl (ev_add (ev_var rfl) ev_int) (by omega) hk) ev_int (by omega)) (ev_mod (ev_intI (ev_num (a + 1) rfl (ev_add (ev_var rfl) ev_int) (by omega) hk)) ev_int (by omega)) (by omega))
      (ea_cons (ev_lcM .str (othersF rights right) (js := [5]) (it_seqL (ev_var rfl)) (by omega) (fun o => !decide (o ∈ needsF ks a rights right)) .str (by simp) fun i o _ => tg_name ⟨et_test (ev_op (ev_var rfl) (ev_var rfl) rv_noT), fun _ => ev_var rfl⟩) ea_nil)) ⟨_, (othersF rights right).filter fun o => !decide (o ∈ needsF ks a rights right), .inl rfl, ?_, rfl⟩) ?_)
    · have := List.length_filter_le (fun o => !decide (o ∈ needsF ks a rights right)) (othersF rights right)
      omega
    · exact wp_ret (ev_tup (ea_cons (ev_var rfl) (ea_cons (ev_var rfl) ea_nil)) (by simp)) rfl
/-! _law_rule -/
def kinds : SL := ["give", "give", "claim", "take", "drop", "join", "pass", "give"]
def sharedF (rights sole : SL) : SL := rights.filter fun r => !decide (r ∈ sole)
def kindF (ks : List Int) (a : Nat) : Str := kinds.getD (num ks a % 8).toNat ""
def rightF (ks : List Int) (a : Nat) (rights sole : SL) : Str := (sharedF rights sole).getD (num ks (a + 1) % ((sharedF rights sole).length : Int)).toNat ""
def soloF (ks : List Int) (a : Nat) (n k : Str) (rights : SL) (r : Str) : Rl := .solo k n (needsF ks (a + 2) rights r) (lacksF ks (a + 2) rights r) r
def withF (rights held : SL) (r : Str) : SL := rights.filter fun o => decide (o ∈ held) || decide (o = r)
def ruleF (ks : List Int) (a : Nat) (n : Str) (rights sole : SL) : Rl :=
  if kindF ks a = "join" then .join n (someF (num ks (a + 6)) (sharedF rights sole))
  else if kindF ks a = "pass" ∧ sole ≠ [] then .duo "pass" n (needsF ks (a + 2) rights (sole.headD "")) (needsF ks (a + 4) rights (sole.headD "")) (lacksF ks (a + 4) rights (sole.headD "")) (sole.headD "")
  else if kindF ks a = "claim" ∨ kindF ks a = "drop" ∨ kindF ks a = "pass" then
    if kindF ks a = "drop" ∧ sole ≠ [] ∧ num ks (a + 6) % 4 = 0 then soloF ks a n "drop" rights (sole.headD "") else soloF ks a n (if kindF ks a = "claim" then "claim" else "drop") rights (rightF ks a rights sole)
  else
    let r := if kindF ks a = "take" ∧ sole ≠ [] ∧ num ks (a + 6) % 4 = 1 then sole.headD "" else rightF ks a rights sole
    .duo (kindF ks a) n (if num ks (a + 6) % 3 = 0 then withF rights (needsF ks (a + 2) rights (rightF ks a rights sole)) r else needsF ks (a + 2) rights (rightF ks a rights sole)) (needsF ks (a + 4) rights r) (lacksF ks (a + 4) rights r) r
structure SoleOk (rights sole : SL) : Prop where
  one : sole = [] ∨ ∃ s, sole = [s] ∧ s ∈ rights
  ne : sharedF rights sole ≠ []
  nd : rights.Nodup
  ln : rights.length ≤ 6
theorem right_mem {ks : List Int} {a : Nat} {rights sole : SL} (W : SoleOk rights sole) : rightF ks a rights sole ∈ sharedF rights sole := by
  unfold rightF
  have hl : 0 < (sharedF rights sole).length := List.length_pos_iff.mpr W.ne
  have h1 : (num ks (a + 1) % ((sharedF rights sole).length : Int)).toNat < (sharedF rights sole).length := by
    have := Int.emod_lt_of_pos (num ks (a + 1)) (show (0 : Int) < ((sharedF rights sole).length : Int) by omega)
    have := Int.emod_nonneg (num ks (a + 1)) (show ((sharedF rights sole).length : Int) ≠ 0 by omega)
    omega
  rw [List.getD_eq_getElem?_getD, List.getElem?_eq_getElem h1]
  exact List.getElem_mem h1
theorem kind_mem (ks : List Int) (a : Nat) : kindF ks a ∈ kinds := by
  unfold kindF
  have h1 : (num ks a % 8).toNat < 8 := by omega
  rw [List.getD_eq_getElem?_getD, List.getElem?_eq_getElem (show _ < kinds.length from h1)]
  exact List.getElem_mem _
theorem kind_at (ks : List Int) (a : Nat) : atI (kinds.map Da.str) (num ks a % 8) = some (.str (kindF ks a)) := by
  have h1 := Int.emod_nonneg (num ks a) (show (8 : Int) ≠ 0 by omega)
  have h2 := Int.emod_lt_of_pos (num ks a) (show (0 : Int) < 8 by omega)
  exact at_strs h1 h2
theorem right_at (ks : List Int) (a : Nat) {rights sole : SL} (W : SoleOk rights sole) : atI ((sharedF rights sole).map Da.str) (num ks (a + 1) % ((sharedF rights sole).length : Int)) = some (.str (rightF ks a rights sole)) := by
  have hl : 0 < (sharedF rights sole).length := List.length_pos_iff.mpr W.ne
  exact at_strs (Int.emod_nonneg _ (by omega)) (Int.emod_lt_of_pos _ (by omega))
theorem rule_name (ks : List Int) (a : Nat) (n : Str) (rights sole : SL) : (ruleF ks a n rights sole).name = n := by
  unfold ruleF
  split
  · rfl
  · split
    · rfl
    · split
      · split <;> rfl
      · rfl
theorem rule_wf {ks : List Int} {a : Nat} {n : Str} {rights sole : SL} (W : SoleOk rights sole) (hn : IsName n) : WfR rights sole (ruleF ks a n rights sole) := by
  have hR := right_mem (ks := ks) (a := a) W
  have hR1 : rightF ks a rights sole ∈ rights := (List.mem_filter.mp hR).1
  have hR2 : rightF ks a rights sole ∉ sole := by simpa using (List.mem_filter.mp hR).2
  have hS : sole ≠ [] → sole.headD "" ∈ rights ∧ sole.headD "" ∈ sole := fun h => by
    rcases W.one with rfl | ⟨s, rfl, hs⟩
    · exact absurd rfl h
    · exact ⟨hs, List.mem_singleton.mpr rfl⟩
  unfold ruleF
  split
  · refine .join hn (ord_sub W.nd ((someF_sub _ _).trans (filter_sub _))) fun x hx hs => ?_
    have := (List.mem_filter.mp ((someF_sub _ _).subset hx)).2
    simp at this
    exact this hs
  · split
    · rename_i _ h
      obtain ⟨h1, h2⟩ := hS h.2
      have A := asked_ok ks (a + 2) (sole.headD "") W.nd
      have B := asked_ok ks (a + 4) (sole.headD "") W.nd
      exact .duo (.inr (.inr rfl)) hn A.n1 B.n1 B.l1 h1 B.nr B.lr B.ap (fun h => absurd h (by decide)) fun _ => ⟨h2, A.nr⟩
    · split
      · split
        · rename_i _ _ _ h
          obtain ⟨h1, h2⟩ := hS h.2.1
          have A := asked_ok ks (a + 2) (sole.headD "") W.nd
          exact .solo (.inr rfl) hn A.n1 A.l1 h1 A.nr A.lr A.ap fun h => absurd h (by decide)
        · have A := asked_ok ks (a + 2) (rightF ks a rights sole) W.nd
          refine .solo ?_ hn A.n1 A.l1 hR1 A.nr A.lr A.ap fun _ => hR2
          split
          · exact .inl rfl
          · exact .inr rfl
      · rename_i h1 h2 h3
        have hk := kind_mem ks a
        simp only [kinds, List.mem_cons, List.mem_nil_iff, or_false] at hk
        have hk2 : kindF ks a = "give" ∨ kindF ks a = "take" ∨ kindF ks a = "pass" := by
          rcases hk with h | h | h | h | h | h | h | h
          · exact .inl h
          · exact .inl h
          · exact absurd (.inl h) h3
          · exact .inr (.inl h)
          · exact absurd (.inr (.inl h)) h3
          · exact absurd h h1
          · exact absurd (.inr (.inr h)) h3
          · exact .inl h
        have A := asked_ok ks (a + 2) (rightF ks a rights sole) W.nd
        obtain ⟨r, hr⟩ : ∃ r, (if kindF ks a = "take" ∧ sole ≠ [] ∧ num ks (a + 6) % 4 = 1 then sole.headD "" else rightF ks a rights sole) = r := ⟨_, rfl⟩
        have hr1 : r ∈ rights ∧ (kindF ks a = "give" → r ∉ sole) := by
          rw [← hr]
          split
          · rename_i h
            exact ⟨(hS h.2.1).1, fun e => by rw [e] at h; exact absurd h.1 (by decide)⟩
          · exact ⟨hR1, fun _ => hR2⟩
        show WfR rights sole (.duo _ n (if _ then withF rights _ (if _ then _ else _) else _) (needsF ks (a + 4) rights (if _ then _ else _)) (lacksF ks (a + 4) rights (if _ then _ else _)) (if _ then _ else _))
        rw [hr]
        have B := asked_ok ks (a + 4) r W.nd
        refine .duo hk2 hn ?_ B.n1 B.l1 hr1.1 B.nr B.lr B.ap hr1.2 fun e => absurd (.inr (.inr e)) h3
        split
        · exact ord_sub W.nd (filter_sub _)
        · exact A.n1
def R_lrule : List Da → Da → Prop := fun ds d => ∃ (ks : List Int) (a : Nat) (n : Str) (rights sole : SL), ds = [intsL ks, .int (a : Int), .str n, strsL rights, strsL sole] ∧ a + 6 < ks.length ∧ SoleOk rights sole ∧ d = (ruleF ks a n rights sole).da
theorem ok_lrule (T : Txt w K mg) (G_l_some : Cal P w K mg base "_law_some" (He.ga K "_law_some") 1 ["_law_number", "_law_rights"] (spP K R_lsome))
    (G_l_asked : Cal P w K mg base "_law_asked" (He.ga K "_law_asked") 2 ["_law_numbers_here", "_law_at", "_law_rights", "_law_right"] (spP K R_asked)) :
    Cal P w K mg base "_law_rule" (He.ga K "_law_rule") 3 ["_law_numbers_here", "_law_at", "_law_name", "_law_rights", "_law_sole"] (spP K R_lrule) := by
  obtain ⟨fd, F⟩ := T.d_l_rule
  obtain ⟨fd1, F_l_some, b_l_some⟩ := G_l_some.ex
  obtain ⟨fd2, F_l_asked, b_l_asked⟩ := G_l_asked.ex
  refine ⟨⟨fd, fn_pure F sc_l_rule (fun ds d h => ?_) fun cdv A outer s H E hr => ⟨_, (pss_cons (ps_setLc (i := 5) (own := [("_law_right", 6)]) rfl sc_l_rule.nd rfl rfl (sw_true rfl rfl rfl (by decide +kernel)) (pi_seqK K rfl (pv 3)) (blkOk_by (own := [("_law_right", 6)]) (N := ["_law_numbers_here", "_law_at", "_law_name", "_law_rights", "_law_sole", "_law_shared", "_law_right", "_law_kind", "_law_needs", "_law_lacks", "_law_wants", "_law_other", "_law_one"]) (sc := defScope s_l_rule) (by decide +kernel)) (fun _ _ _ _ _ => (pg_name (i := 6) sc_l_rule.nd rfl (by first | exact Or.inl rfl | exact Or.inr rfl))) (fun _ _ _ _ _ => (pts_one (pt_cmpR (op_niK K rfl) (pv 6) (pv 4) rfl))) (fun _ _ _ _ _ => (pv 6))) (pss_cons (ps_set (i := 7) sc_l_rule.nd rfl (by first | exact Or.inl rfl | exact Or.inr rfl) (pe_ix (ix_K K rfl) (pe_tup (pa_cons pe_str (pa_cons pe_str (pa_cons pe_str (pa_cons pe_str (pa_cons pe_str (pa_cons pe_str (pa_cons pe_str (pa_cons pe_str pa_nil))))))))) (pe_op op_mod (pe_callTy call_intG (by rfl) T.f_int (by decide +kernel) (pa_cons (pe_ix (ix_K K rfl) (pv 0) (pv 1) (fun _ _ => rfl)) pa_nil)) pe_int) (fun _ _ => rfl))) (pss_cons (ps_set (i := 6) sc_l_rule.nd rfl (by first | exact Or.inl rfl | exact Or.inr rfl) (pe_ix (ix_K K rfl) (pv 5) (pe_op op_mod (pe_callTy call_intG (by rfl) T.f_int (by decide +kernel) (pa_cons (pe_ix (ix_K K rfl) (pv 0) (pe_op (op_addK K rfl) (pv 1) pe_int) (fun _ _ => rfl)) pa_nil)) (pe_callB (call_lenK K rfl) (by rfl) T.f_len (by decide +kernel) (pa_cons (pv 5) pa_nil))) (fun _ _ => rfl))) (pss_cons (ps_asg (pe_call F_l_asked (hr.mono (by decide)) rfl G_l_asked.m G_l_asked.kp b_l_asked .nil pass0 (pa_cons (pv 0) (pa_cons (pe_op (op_addK K rfl) (pv 1) pe_int) (pa_cons (pv 3) (pa_cons (pv 6) pa_nil))))) (pg_tupK (n := 2) K rfl rfl (pgs_cons (pg_name (i := 8) sc_l_rule.nd rfl (by first | exact Or.inl rfl | exact Or.inr rfl)) (pgs_cons (pg_name (i := 9) sc_l_rule.nd rfl (by first | exact Or.inl rfl | exact Or.inr rfl)) pgs_nil)))) (pss_cons (ps_asg (pe_call F_l_asked (hr.mono (by decide)) rfl G_l_asked.m G_l_asked.kp b_l_asked .nil pass0 (pa_cons (pv 0) (pa_cons (pe_op (op_addK K rfl) (pv 1) pe_int) (pa_cons (pv 3) (pa_cons (pv 6) pa_nil))))) (pg_tupK (n := 2) K rfl rfl (pgs_cons (pg_name (i := 10) sc_l_rule.nd rfl (by first | exact Or.inl rfl | exact Or.inr rfl)) (pgs_cons (pg_name (i := 11) sc_l_rule.nd rfl (by first | exact Or.inl rfl | exact Or.inr rfl)) pgs_nil)))) (pss_cons (ps_if (pt_cmpR op_eq (pv 7) pe_str (nomark _)) (pss_one (ps_ret (pe_tup (pa_cons pe_str (pa_cons (pv 2) (pa_cons (pe_call F_l_some (hr.mono (by decide)) rfl G_l_some.m G_l_some.kp b_l_some .nil pass0 (pa_cons (pe_ix (ix_K K rfl) (pv 0) (pe_op (op_addK K rfl) (pv 1) pe_int) (fun _ _ => rfl)) (pa_cons (pv 5) pa_nil))) pa_nil)))))) pss_nil) (pss_cons (ps_if (PW.pt (pw_and (pt_cmpR op_eq (pv 7) pe_str (nomark _)) (pw_and1 (pt_cmpR op_gt (pe_callB (call_lenK K rfl) (by rfl) T.f_len (by decide +kernel) (pa_cons (pv 4) pa_nil)) pe_int (nomark _))))) (pss_cons (ps_asg (pe_call F_l_asked (hr.mono (by decide)) rfl G_l_asked.m G_l_asked.kp b_l_asked .nil pass0 (pa_cons (pv 0) (pa_cons (pe_op (op_addK K rfl) (pv 1) pe_int) (pa_cons (pv 3) (pa_cons (pe_ix (ix_K K rfl) (pv 4) pe_int (fun _ _ => rfl)) pa_nil))))) (pg_tupK (n := 2) K rfl rfl (pgs_cons (pg_name (i := 8) sc_l_rule.nd rfl (by first | exact Or.inl rfl | exact Or.inr rfl)) (pgs_cons (pg_name (i := 9) sc_l_rule.nd rfl (by first | exact Or.inl rfl | exact Or.inr rfl)) pgs_nil)))) (pss_cons (ps_asg (pe_call F_l_asked (hr.mono (by decide)) rfl G_l_asked.m G_l_asked.kp b_l_asked .nil pass0 (pa_cons (pv 0) (pa_cons (pe_op (op_addK K rfl) (pv 1) pe_int) (pa_cons (pv 3) (pa_cons (pe_ix (ix_K K rfl) (pv 4) pe_int (fun _ _ => rfl)) pa_nil))))) (pg_tupK (n := 2) K rfl rfl (pgs_cons (pg_name (i := 10) sc_l_rule.nd rfl (by first | exact Or.inl rfl | exact Or.inr rfl)) (pgs_cons (pg_name (i := 11) sc_l_rule.nd rfl (by first | exact Or.inl rfl | exact Or.inr rfl)) pgs_nil)))) (pss_one (ps_ret (pe_tup (pa_cons pe_str (pa_cons (pv 2) (pa_cons (pv 8) (pa_cons (pv 10) (pa_cons (pv 11) (pa_cons (pe_ix (ix_K K rfl) (pv 4) pe_int (fun _ _ => rfl)) pa_nil))))))))))) pss_nil) (pss_cons (ps_if (PW.pt (pw_or (pt_cmpR op_eq (pv 7) pe_str (nomark _)) (pw_or (pt_cmpR op_eq (pv 7) pe_str (nomark _)) (pw_or1 (pt_cmpR op_eq (pv 7) pe_str (nomark _)))))) (pss_cons (ps_if (PW.pt (pw_and (pt_cmpR op_eq (pv 7) pe_str (nomark _)) (pw_and (pt_cmpR op_gt (pe_callB (call_lenK K rfl) (by rfl) T.f_len (by decide +kernel) (pa_cons (pv 4) pa_nil)) pe_int (nomark _)) (pw_and1 (pt_cmpR op_eq (pe_op op_mod (pe_callTy call_intG (by rfl) T.f_int (by decide +kernel) (pa_cons (pe_ix (ix_K K rfl) (pv 0) (pe_op (op_addK K rfl) (pv 1) pe_int) (fun _ _ => rfl)) pa_nil)) pe_int) pe_int (nomark _)))))) (pss_cons (ps_set (i := 6) sc_l_rule.nd rfl (by first | exact Or.inl rfl | exact Or.inr rfl) (pe_ix (ix_K K rfl) (pv 4) pe_int (fun _ _ => rfl))) (pss_one (ps_asg (pe_call F_l_asked (hr.mono (by decide)) rfl G_l_asked.m G_l_asked.kp b_l_asked .nil pass0 (pa_cons (pv 0) (pa_cons (pe_op (op_addK K rfl) (pv 1) pe_int) (pa_cons (pv 3) (pa_cons (pv 6) pa_nil))))) (pg_tupK (n := 2) K rfl rfl (pgs_cons (pg_name (i := 8) sc_l_rule.nd rfl (by first | exact Or.inl rfl | exact Or.inr rfl)) (pgs_cons (pg_name (i := 9) sc_l_rule.nd rfl (by first | exact Or.inl rfl | exact Or.inr rfl)) pgs_nil)))))) pss_nil) (pss_one (ps_ret (pe_tup (pa_cons (pe_ix (ix_K K rfl) (pe_tup (pa_cons pe_str (pa_cons pe_str pa_nil))) (pe_callTy call_intG (by rfl) T.f_int (by decide +kernel) (pa_cons (pe_cmpR op_eq (pv 7) pe_str (nomark _)) pa_nil)) (fun _ _ => rfl)) (pa_cons (pv 2) (pa_cons (pv 8) (pa_cons (pv 9) (pa_cons (pv 6) pa_nil))))))))) pss_nil) (pss_cons (ps_if (PW.pt (pw_and (pt_cmpR op_eq (pv 7) pe_str (nomark _)) (pw_and (pt_cmpR op_gt (pe_callB (call_lenK K rfl) (by rfl) T.f_len (by decide +kernel) (pa_cons (pv 4) pa_nil)) pe_int (nomark _)) (pw_and1 (pt_cmpR op_eq (pe_op op_mod (pe_callTy call_intG (by rfl) T.f_int (by decide +kernel) (pa_cons (pe_ix (ix_K K rfl) (pv 0) (pe_op (op_addK K rfl) (pv 1) pe_int) (fun _ _ => rfl)) pa_nil)) pe_int) pe_int (nomark _)))))) (pss_cons (ps_set (i := 6) sc_l_rule.nd rfl (by first | exact Or.inl rfl | exact Or.inr rfl) (pe_ix (ix_K K rfl) (pv 4) pe_int (fun _ _ => rfl))) (pss_one (ps_asg (pe_call F_l_asked (hr.mono (by decide)) rfl G_l_asked.m G_l_asked.kp b_l_asked .nil pass0 (pa_cons (pv 0) (pa_cons (pe_op (op_addK K rfl) (pv 1) pe_int) (pa_cons (pv 3) (pa_cons (pv 6) pa_nil))))) (pg_tupK (n := 2) K rfl rfl (pgs_cons (pg_name (i := 10) sc_l_rule.nd rfl (by first | exact Or.inl rfl | exact Or.inr rfl)) (pgs_cons (pg_name (i := 11) sc_l_rule.nd rfl (by first | exact Or.inl rfl | exact Or.inr rfl)) pgs_nil)))))) pss_nil) (pss_cons (ps_if (pt_cmpR op_eq (pe_op op_mod (pe_callTy call_intG (by rfl) T.f_int (by decide +kernel) (pa_cons (pe_ix (ix_K K rfl) (pv 0) (pe_op (op_addK K rfl) (pv 1) pe_int) (fun _ _ => rfl)) pa_nil)) pe_int) pe_int (nomark _)) (pss_one (ps_set (i := 8) sc_l_rule.nd rfl (by first | exact Or.inl rfl | exact Or.inr rfl) (pe_callTy (call_tupK K rfl) (by rfl) T.f_tuple (by decide +kernel) (pa_cons (pe_lc (own := [("_law_one", 12)]) rfl sc_l_rule.nd (pi_seqK K rfl (pv 3)) (blkOk_by (own := [("_law_one", 12)]) (N := ["_law_numbers_here", "_law_at", "_law_name", "_law_rights", "_law_sole", "_law_shared", "_law_right", "_law_kind", "_law_needs", "_law_lacks", "_law_wants", "_law_other", "_law_one"]) (sc := defScope s_l_rule) (by decide +kernel)) (fun _ _ _ _ _ => (pg_name (i := 12) sc_l_rule.nd rfl (by first | exact Or.inl rfl | exact Or.inr rfl))) (fun _ _ _ _ _ => (pts_one (PW.pt (pw_or (pt_cmpR (op_inK K rfl) (pv 12) (pv 8) rfl) (pw_or1 (pt_cmpR op_eq (pv 12) (pv 6) (nomark _))))))) (fun _ _ _ _ _ => (pv 12))) pa_nil)))) pss_nil) (pss_one (ps_ret (pe_tup (pa_cons (pv 7) (pa_cons (pv 2) (pa_cons (pv 8) (pa_cons (pv 10) (pa_cons (pv 11) (pa_cons (pv 6) pa_nil))))))))))))))))))), fun ds d h => ?_⟩, F.bindsN fun _ _ _ _ _ _ us hl => match us, hl with | [_, _, _, _, _], _ => rfl⟩, T.m_l_rule, F.kp⟩
  · obtain ⟨_, _, _, _, _, rfl, _⟩ := h
    rfl
  · obtain ⟨ks, a, n, rights, sole, rfl, hk, W, rfl⟩ := h
    have l6 := W.ln
    have hsh : (sharedF rights sole).length ≤ rights.length := List.length_filter_le _ _
    have hpos : 0 < (sharedF rights sole).length := List.length_pos_iff.mpr W.ne
    have hcond : ∀ {b : Bool}, decide ((0 : Int) < ((sole.map Da.str).length : Nat)) = b → decide (sole ≠ []) = b := fun h => by
      rw [← h, List.length_map]
      cases sole <;> simp
    have hlen : decide ((0 : Int) < ((sole.map Da.str).length : Nat)) = decide (sole ≠ []) := (hcond rfl).symm
    have hd0 : sole ≠ [] → atI (sole.map Da.str) 0 = some (.str (sole.headD "")) := fun h => by
      cases sole with
      | nil => exact absurd rfl h
      | cons s l => exact at0
    refine wp_seq (wp_asg (d := strsL (sharedF rights sole)) (ev_lcM .str rights (js := [6]) (it_seqL (ev_var rfl)) (by omega) (fun r => !decide (r ∈ sole)) .str (by simp) fun i o _ => tg_name ⟨et_test (ev_op (ev_var rfl) (ev_var rfl) rv_noL), fun _ => ev_var rfl⟩) ?_)
    refine wp_seq (wp_asg (d := .str (kindF ks a)) (ev_op (ev_tup (ea_cons ev_str (ea_cons ev_str (ea_cons ev_str (ea_cons ev_str (ea_cons ev_str (ea_cons ev_str (ea_cons ev_str (ea_cons ev_str ea_nil)))))))) (by simp)) (ev_mod (ev_intI (ev_num a rfl (ev_var rfl) rfl (by omega))) ev_int (by omega)) (rv_ixT (kind_at ks a))) ?_)
    refine wp_seq (wp_asg (d := .str (rightF ks a rights sole)) (ev_op (ev_var rfl) (ev_mod (ev_intI (ev_num (a + 1) rfl (ev_add (ev_var rfl) ev_int) (by omega) (by omega))) (ev_is (ev_cb (ea_cons (ev_var rfl) ea_nil) rc_lenL) (congrArg (fun n : Nat => Da.int (n : Int)) (List.length_map ..))) (by omega)) (rv_ixL (right_at ks a W))) ?_)
    have ask : ∀ (Γ : List Sl) (i j : Nat) (c : Int) (r : Str) (te : TE), Γ[0]? = some (.dat (intsL ks)) → Γ[1]? = some (.dat (.int (a : Int))) → Γ[3]? = some (.dat (strsL rights)) → Ev K te Γ (.str r) → c = (i : Int) → a + i + 1 < ks.length →
        Ev K (tCall (spP K R_asked) [] E0 (tCons (tVar 0) (tCons (tOp (rAddG K) (tVar 1) (tC (.int c))) (tCons (tVar 3) (tCons te tNil))))) Γ (.tup [strsT (needsF ks (a + i) rights r), strsT (lacksF ks (a + i) rights r)]) := fun Γ i j c r te e0 e1 e3 e4 ec hi => by
      subst ec
      exact ev_call (ea_cons (ev_var e0) (ea_cons (ev_is (ev_add (ev_var e1) ev_int) (congrArg Da.int (Int.natCast_add a i).symm)) (ea_cons (ev_var e3) (ea_cons e4 ea_nil)))) ⟨ks, a + i, rights, r, rfl, hi, by omega, rfl⟩
    refine wp_seq (wp_asgT (ask _ 2 0 _ _ _ rfl rfl rfl (ev_var rfl) rfl (by omega)) (tg_tup2 ?_))
    refine wp_seq (wp_asgT (ask _ 4 0 _ _ _ rfl rfl rfl (ev_var rfl) rfl (by omega)) (tg_tup2 ?_))
    refine wp_cast (Γ' := [.dat (intsL ks), .dat (.int (a : Int)), .dat (.str n), .dat (strsL rights), .dat (strsL sole), .dat (strsL (sharedF rights sole)), .dat (.str (rightF ks a rights sole)), .dat (.str (kindF ks a)), .dat (strsT (needsF ks (a + 2) rights (rightF ks a rights sole))), .dat (strsT (lacksF ks (a + 2) rights (rightF ks a rights sole))), .dat (strsT (needsF ks (a + 4) rights (rightF ks a rights sole))), .dat (strsT (lacksF ks (a + 4) rights (rightF ks a rights sole))), .un]) ?_ rfl
    have kEq : ∀ (Γ : List Sl) (z : Str), Γ[7]? = some (.dat (.str (kindF ks a))) → EvT K (tTest (tOp rEq (tVar 7) (tC (.str z)))) Γ (decide (kindF ks a = z)) := fun Γ z e => et_test (ev_op (ev_var e) ev_str rv_eqS)
    by_cases c1 : kindF ks a = "join"
    · refine wp_seq (wp_if (b := true) (evt_is (kEq _ _ rfl) (decide_eq_true c1)) (fun _ => ?_) fun h => by cases h)
      refine wp_ret (ev_tup (ea_cons ev_str (ea_cons (ev_var rfl) (ea_cons (ev_call (ea_cons (ev_num (a + 6) rfl (ev_add (ev_var rfl) ev_int) (by omega) hk) (ea_cons (ev_var rfl) ea_nil)) ⟨_, sharedF rights sole, .inl rfl, by omega, rfl⟩) ea_nil))) (by simp)) ?_
      unfold ruleF
      rw [if_pos c1]
      rfl
    · refine wp_seq (wp_if (b := false) (evt_is (kEq _ _ rfl) (decide_eq_false c1)) (fun h => by cases h) fun _ => wp_next ?_)
      by_cases c2 : kindF ks a = "pass" ∧ sole ≠ []
      · refine wp_seq (wp_if (b := true) (evt_is (et_and (kEq _ _ rfl) fun _ => et_test (ev_op (ev_cb (ea_cons (ev_var rfl) ea_nil) rc_lenL) ev_int (rv_B0 (g := fun i j => decide (j < i))))) (by rw [hlen, decide_eq_true c2.1, decide_eq_true c2.2]; rfl)) (fun _ => ?_) fun h => by cases h)
        refine wp_seq (wp_asgT (ask _ 2 0 _ _ _ rfl rfl rfl (ev_op (ev_var rfl) ev_int (rv_ixL (hd0 c2.2))) rfl (by omega)) (tg_tup2 ?_))
        refine wp_seq (wp_asgT (ask _ 4 0 _ _ _ rfl rfl rfl (ev_op (ev_var rfl) ev_int (rv_ixL (hd0 c2.2))) rfl (by omega)) (tg_tup2 ?_))
        refine wp_ret (ev_tup (ea_cons ev_str (ea_cons (ev_var rfl) (ea_cons (ev_var rfl) (ea_cons (ev_var rfl) (ea_cons (ev_var rfl) (ea_cons (ev_op (ev_var rfl) ev_int (rv_ixL (hd0 c2.2))) ea_nil)))))) (by simp)) ?_
        unfold ruleF
        rw [if_neg c1, if_pos c2]
        rfl
      · refine wp_seq (wp_if (b := false) (evt_is (et_and (kEq _ _ rfl) fun _ => et_test (ev_op (ev_cb (ea_cons (ev_var rfl) ea_nil) rc_lenL) ev_int (rv_B0 (g := fun i j => decide (j < i))))) (by rw [hlen, ← Bool.decide_and]; exact decide_eq_false c2)) (fun h => by cases h) fun _ => wp_next ?_)
        by_cases c3 : kindF ks a = "claim" ∨ kindF ks a = "drop" ∨ kindF ks a = "pass"
        · refine wp_seq (wp_if (b := true) (evt_is (et_or (kEq _ _ rfl) fun _ => et_or (kEq _ _ rfl) fun _ => kEq _ _ rfl) (by rw [← Bool.decide_or, ← Bool.decide_or]; exact decide_eq_true c3)) (fun _ => ?_) fun h => by cases h)
          by_cases c4 : kindF ks a = "drop" ∧ sole ≠ [] ∧ num ks (a + 6) % 4 = 0
          · refine wp_seq (wp_if (b := true) (evt_is (et_and (kEq _ _ rfl) fun _ => et_and (et_test (ev_op (ev_cb (ea_cons (ev_var rfl) ea_nil) rc_lenL) ev_int (rv_B0 (g := fun i j => decide (j < i))))) fun _ => et_test (ev_op (ev_mod (ev_intI (ev_num (a + 6) rfl (ev_add (ev_var rfl) ev_int) (by omega) hk)) ev_int (by omega)) ev_int rv_eqI)) (by rw [hlen, decide_eq_true c4.1, decide_eq_true c4.2.1, decide_eq_true c4.2.2]; rfl)) (fun _ => ?_) fun h => by cases h)
            refine wp_seq (wp_asg (ev_op (ev_var rfl) ev_int (rv_ixL (hd0 c4.2.1))) ?_)
            refine wp_asgT (ask _ 2 0 _ _ _ rfl rfl rfl (ev_var rfl) rfl (by omega)) (tg_tup2 ?_)
            have c5 : kindF ks a ≠ "claim" := by rw [c4.1]; decide
            refine wp_ret (ev_tup (ea_cons (ev_op (ev_tup (ea_cons ev_str (ea_cons ev_str ea_nil)) (by simp)) (ev_is (ev_cb (ea_cons (ev_op (ev_var rfl) ev_str rv_eqS) ea_nil) rc_intB) (d := _) (w := .int 0) (by rw [decide_eq_false c5]; rfl)) (rv_ixT at0)) (ea_cons (ev_var rfl) (ea_cons (ev_var rfl) (ea_cons (ev_var rfl) (ea_cons (ev_var rfl) ea_nil))))) (by simp)) ?_
            unfold ruleF
            rw [if_neg c1, if_neg c2, if_pos c3, if_pos c4]
            rfl
          · refine wp_seq (wp_if (b := false) (evt_is (et_and (kEq _ _ rfl) fun _ => et_and (et_test (ev_op (ev_cb (ea_cons (ev_var rfl) ea_nil) rc_lenL) ev_int (rv_B0 (g := fun i j => decide (j < i))))) fun _ => et_test (ev_op (ev_mod (ev_intI (ev_num (a + 6) rfl (ev_add (ev_var rfl) ev_int) (by omega) hk)) ev_int (by omega)) ev_int rv_eqI)) (by rw [hlen, ← Bool.decide_and, ← Bool.decide_and]; exact decide_eq_false c4)) (fun h => by cases h) fun _ => wp_next ?_)
            by_cases c5 : kindF ks a = "claim"
            · refine wp_ret (ev_tup (ea_cons (ev_op (ev_tup (ea_cons ev_str (ea_cons ev_str ea_nil)) (by simp)) (ev_is (ev_cb (ea_cons (ev_op (ev_var rfl) ev_str rv_eqS) ea_nil) rc_intB) (w := .int 1) (by rw [decide_eq_true c5]; rfl)) (rv_ixT at1)) (ea_cons (ev_var rfl) (ea_cons (ev_var rfl) (ea_cons (ev_var rfl) (ea_cons (ev_var rfl) ea_nil))))) (by simp)) ?_
              unfold ruleF
              rw [if_neg c1, if_neg c2, if_pos c3, if_neg c4, if_pos c5]
              rfl
            · refine wp_ret (ev_tup (ea_cons (ev_op (ev_tup (ea_cons ev_str (ea_cons ev_str ea_nil)) (by simp)) (ev_is (ev_cb (ea_cons (ev_op (ev_var rfl) ev_str rv_eqS) ea_nil) rc_intB) (w := .int 0) (by rw [decide_eq_false c5]; rfl)) (rv_ixT at0)) (ea_cons (ev_var rfl) (ea_cons (ev_var rfl) (ea_cons (ev_var rfl) (ea_cons (ev_var rfl) ea_nil))))) (by simp)) ?_
              unfold ruleF
              rw [if_neg c1, if_neg c2, if_pos c3, if_neg c4, if_neg c5]
              rfl
        · refine wp_seq (wp_if (b := false) (evt_is (et_or (kEq _ _ rfl) fun _ => et_or (kEq _ _ rfl) fun _ => kEq _ _ rfl) (by rw [← Bool.decide_or, ← Bool.decide_or]; exact decide_eq_false c3)) (fun h => by cases h) fun _ => wp_next ?_)
          obtain ⟨r, hr⟩ : ∃ r, (if kindF ks a = "take" ∧ sole ≠ [] ∧ num ks (a + 6) % 4 = 1 then sole.headD "" else rightF ks a rights sole) = r := ⟨_, rfl⟩
          refine wp_mid (fun Γ' => ∃ b, Γ' = [.dat (intsL ks), .dat (.int (a : Int)), .dat (.str n), .dat (strsL rights), .dat (strsL sole), .dat (strsL (sharedF rights sole)), .dat (.str r), .dat (.str (kindF ks a)), .dat (strsT (needsF ks (a + 2) rights (rightF ks a rights sole))), b, .dat (strsT (needsF ks (a + 4) rights r)), .dat (strsT (lacksF ks (a + 4) rights r)), .un]) ?_ fun Γ' hΓ => ?_
          · by_cases c4 : kindF ks a = "take" ∧ sole ≠ [] ∧ num ks (a + 6) % 4 = 1
            · rw [if_pos c4] at hr
              refine wp_if (b := true) (evt_is (et_and (kEq _ _ rfl) fun _ => et_and (et_test (ev_op (ev_cb (ea_cons (ev_var rfl) ea_nil) rc_lenL) ev_int (rv_B0 (g := fun i j => decide (j < i))))) fun _ => et_test (ev_op (ev_mod (ev_intI (ev_num (a + 6) rfl (ev_add (ev_var rfl) ev_int) (by omega) hk)) ev_int (by omega)) ev_int rv_eqI)) (by rw [hlen, decide_eq_true c4.1, decide_eq_true c4.2.1, decide_eq_true c4.2.2]; rfl)) (fun _ => ?_) fun h => by cases h
              refine wp_seq (wp_asg (d := .str r) (ev_op (ev_var rfl) ev_int (rv_ixL (hr ▸ hd0 c4.2.1))) ?_)
              exact wp_asgT (ask _ 4 0 _ _ _ rfl rfl rfl (ev_var rfl) rfl (by omega)) (tg_tup2 ⟨_, rfl⟩)
            · rw [if_neg c4] at hr
              subst hr
              exact wp_if (b := false) (evt_is (et_and (kEq _ _ rfl) fun _ => et_and (et_test (ev_op (ev_cb (ea_cons (ev_var rfl) ea_nil) rc_lenL) ev_int (rv_B0 (g := fun i j => decide (j < i))))) fun _ => et_test (ev_op (ev_mod (ev_intI (ev_num (a + 6) rfl (ev_add (ev_var rfl) ev_int) (by omega) hk)) ev_int (by omega)) ev_int rv_eqI)) (by rw [hlen, ← Bool.decide_and, ← Bool.decide_and]; exact decide_eq_false c4)) (fun h => by cases h) fun _ => wp_next ⟨_, rfl⟩
          · obtain ⟨b, rfl⟩ := hΓ
            have fin : ruleF ks a n rights sole = .duo (kindF ks a) n (if num ks (a + 6) % 3 = 0 then withF rights (needsF ks (a + 2) rights (rightF ks a rights sole)) r else needsF ks (a + 2) rights (rightF ks a rights sole)) (needsF ks (a + 4) rights r) (lacksF ks (a + 4) rights r) r := by
              unfold ruleF
              rw [if_neg c1, if_neg c2, if_neg c3, hr]
            rw [fin]
            by_cases c6 : num ks (a + 6) % 3 = 0
            · rw [if_pos c6]
              refine wp_seq (wp_if (b := true) (evt_is (et_test (ev_op (ev_mod (ev_intI (ev_num (a + 6) rfl (ev_add (ev_var rfl) ev_int) (by omega) hk)) ev_int (by omega)) ev_int rv_eqI)) (decide_eq_true c6)) (fun _ => ?_) fun h => by cases h)
              refine wp_asg (d := strsT (withF rights (needsF ks (a + 2) rights (rightF ks a rights sole)) r)) (ev_cb (ea_cons (ev_lcM .str rights (js := [12]) (it_seqL (ev_var rfl)) (by omega) (fun o => decide (o ∈ needsF ks (a + 2) rights (rightF ks a rights sole)) || decide (o = r)) .str (by simp) fun i o _ => tg_name ⟨et_or (et_test (ev_op (ev_var rfl) (ev_var rfl) rv_isT)) fun _ => et_test (ev_op (ev_var rfl) (ev_var rfl) rv_eqS), fun _ => ev_var rfl⟩) ea_nil) rc_tupL) ?_
              exact wp_ret (ev_tup (ea_cons (ev_var rfl) (ea_cons (ev_var rfl) (ea_cons (ev_var rfl) (ea_cons (ev_var rfl) (ea_cons (ev_var rfl) (ea_cons (ev_var rfl) ea_nil)))))) (by simp)) rfl
            · rw [if_neg c6]
              refine wp_seq (wp_if (b := false) (evt_is (et_test (ev_op (ev_mod (ev_intI (ev_num (a + 6) rfl (ev_add (ev_var rfl) ev_int) (by omega) hk)) ev_int (by omega)) ev_int rv_eqI)) (decide_eq_false c6)) (fun h => by cases h) fun _ => wp_next ?_)
              exact wp_ret (ev_tup (ea_cons (ev_var rfl) (ea_cons (ev_var rfl) (ea_cons (ev_var rfl) (ea_cons (ev_var rfl) (ea_cons (ev_var rfl) (ea_cons (ev_var rfl) ea_nil)))))) (by simp)) rfl
end
end WM

/-! ## L3 -/
set_option maxHeartbeats 4000000
namespace WM
open PySem PySem.Spec PyProof.Rows L2
abbrev partsD (p : Parts) : Da := .lst [strsL p.rights, strsL p.sole, .lst (p.founders.map fD), .lst (p.rules.map Rl.da)]
structure PartsOk (p : Parts) : Prop where
  so : SoleOk p.rights p.sole
  r1 : 1 ≤ p.rights.length
  rN : ∀ r ∈ p.rights, IsName r
  f3 : p.founders.length ≤ 3
  fn : (p.founders.map (·.1)).Nodup
  fN : ∀ f ∈ p.founders, IsName f.1
  fo : ∀ f ∈ p.founders, Ord p.rights f.2
  fs : ∀ r ∈ p.sole, (p.founders.filter fun f => decide (r ∈ f.2)).length ≤ 1
  u6 : p.rules.length ≤ 6
  un : (p.rules.map Rl.name).Nodup
  uw : ∀ u ∈ p.rules, WfR p.rights p.sole u
theorem shared_ne {rights sole : SL} (nd : rights.Nodup) (h2 : 2 ≤ rights.length) (hs : sole = [] ∨ ∃ s, sole = [s] ∧ s ∈ rights) : sharedF rights sole ≠ [] := by
  intro h
  have all : ∀ r ∈ rights, r ∈ sole := fun r hr => by
    by_cases c : r ∈ sole
    · exact c
    · have : r ∈ sharedF rights sole := List.mem_filter.mpr ⟨hr, by simpa using c⟩
      rw [h] at this
      cases this
  match rights, h2, nd, all with
  | a :: b :: l, _, nd, all =>
    rcases hs with rfl | ⟨s, rfl, _⟩
    · exact absurd (all a (List.mem_cons_self ..)) (by simp)
    · have ha := List.mem_singleton.mp (all a (List.mem_cons_self ..))
      have hb := List.mem_singleton.mp (all b (List.mem_cons_of_mem _ (List.mem_cons_self ..)))
      have := (List.pairwise_cons.mp nd).1 b (List.mem_cons_self ..)
      exact this (ha.trans hb.symm)
theorem filter_one {α : Type} (f : α → Bool) : ∀ (l : List α), (∀ (i j : Nat) (a b : α), l[i]? = some a → l[j]? = some b → f a = true → f b = true → i = j) → (l.filter f).length ≤ 1
  | [], _ => Nat.zero_le _
  | a :: l, h => by
    have ih := filter_one f l fun i j x y hi hj hx hy => by
      have := h (i + 1) (j + 1) x y hi hj hx hy
      omega
    rw [List.filter_cons]
    by_cases c : f a = true
    · rw [if_pos c]
      have e : l.filter f = [] := by
        refine List.filter_eq_nil_iff.mpr fun b hb hf => ?_
        obtain ⟨j, hj, ej⟩ := List.mem_iff_getElem.mp hb
        have := h 0 (j + 1) a b rfl (by rw [List.getElem?_cons_succ, List.getElem?_eq_getElem hj, ej]) c hf
        omega
      rw [e]
      exact Nat.le_refl _
    · rw [if_neg c]
      exact ih
theorem nodup_of {ns : SL} (nd : ns.Nodup) {l : SL} (h : ∀ (j : Nat) x, l[j]? = some x → ns[j]? = some x) : l.Nodup := by
  refine List.pairwise_iff_getElem.mpr fun i j hi hj hij e => ?_
  have h1 := h i _ (List.getElem?_eq_getElem hi)
  have h2 := h j _ (List.getElem?_eq_getElem hj)
  obtain ⟨a1, b1⟩ := List.getElem?_eq_some_iff.mp h1
  obtain ⟨a2, b2⟩ := List.getElem?_eq_some_iff.mp h2
  exact List.pairwise_iff_getElem.mp nd i j a1 a2 hij (b1.trans (e.trans b2.symm))
theorem snoc_at {α : Type} {l : List α} {a x : α} {j : Nat} (h : (l ++ [a])[j]? = some x) : (j < l.length ∧ l[j]? = some x) ∨ (j = l.length ∧ x = a) := by
  by_cases c : j < l.length
  · rw [List.getElem?_append_left c] at h
    exact .inl ⟨c, h⟩
  · have e : j = l.length := by
      have := (List.getElem?_eq_some_iff.mp h).1
      rw [List.length_append] at this
      simp at this
      omega
    subst e
    rw [List.getElem?_append_right (Nat.le_refl _), Nat.sub_self] at h
    exact .inr ⟨rfl, (Option.some.inj h).symm⟩
section
variable {P : Program} {w : World} {K : PySem.W.Frag} {mg : Str → Option Value} {base : Heap} {Γ : List Sl} {ta tb : TE}
def A_parts : List Da → Prop := fun ds => ∃ ks : List Int, ds = [intsL ks, .int 0] ∧ ks.length = 160
def R_parts : List Da → Da → Prop := fun _ d => ∃ p : Parts, d = partsD p ∧ PartsOk p
theorem ok_parts (T : Txt w K mg) (G_l_names : Cal P w K mg base "_law_names" (He.ga K "_law_names") 1 ["_law_number", "_law_many_here"] (spX K A_names R_names))
    (G_l_some : Cal P w K mg base "_law_some" (He.ga K "_law_some") 1 ["_law_number", "_law_rights"] (spP K R_lsome))
    (G_l_rule : Cal P w K mg base "_law_rule" (He.ga K "_law_rule") 3 ["_law_numbers_here", "_law_at", "_law_name", "_law_rights", "_law_sole"] (spP K R_lrule)) :
    Cal P w K mg base "_law_parts" (He.ga K "_law_parts") 4 ["_law_numbers_here", "_law_at"] (spX K A_parts R_parts) := by
  obtain ⟨fd, F⟩ := T.d_l_parts
  obtain ⟨fd1, F_l_names, b_l_names⟩ := G_l_names.ex
  obtain ⟨fd2, F_l_some, b_l_some⟩ := G_l_some.ex
  obtain ⟨fd3, F_l_rule, b_l_rule⟩ := G_l_rule.ex
  refine ⟨⟨fd, fn_x F sc_l_parts (fun ds h => ?_) fun cdv A outer s H E hr => ⟨_, (pss_cons (ps_set (i := 2) sc_l_parts.nd rfl (by first | exact Or.inl rfl | exact Or.inr rfl) (pe_call F_l_names (hr.mono (by decide)) rfl G_l_names.m G_l_names.kp b_l_names .nil pass0 (pa_cons (pe_ix (ix_K K rfl) (pv 0) (pv 1) (fun _ _ => rfl)) (pa_cons (pe_op (op_addK K rfl) pe_int (pe_op op_mod (pe_callTy call_intG (by rfl) T.f_int (by decide +kernel) (pa_cons (pe_ix (ix_K K rfl) (pv 0) (pe_op (op_addK K rfl) (pv 1) pe_int) (fun _ _ => rfl)) pa_nil)) pe_int)) pa_nil)))) (pss_cons (ps_set (i := 3) sc_l_parts.nd rfl (by first | exact Or.inl rfl | exact Or.inr rfl) (pe_lst pa_nil)) (pss_cons (ps_if (pt_cmpR op_eq (pe_op op_mod (pe_callTy call_intG (by rfl) T.f_int (by decide +kernel) (pa_cons (pe_ix (ix_K K rfl) (pv 0) (pe_op (op_addK K rfl) (pv 1) pe_int) (fun _ _ => rfl)) pa_nil)) pe_int) pe_int (nomark _)) (pss_one (ps_set (i := 3) sc_l_parts.nd rfl (by first | exact Or.inl rfl | exact Or.inr rfl) (pe_lst (pa_cons (pe_ix (ix_K K rfl) (pv 2) (pe_op op_mod (pe_callTy call_intG (by rfl) T.f_int (by decide +kernel) (pa_cons (pe_op op_fdiv (pe_ix (ix_K K rfl) (pv 0) (pe_op (op_addK K rfl) (pv 1) pe_int) (fun _ _ => rfl)) pe_int) pa_nil)) (pe_callB (call_lenK K rfl) (by rfl) T.f_len (by decide +kernel) (pa_cons (pv 2) pa_nil))) (fun _ _ => rfl)) pa_nil)))) pss_nil) (pss_cons (ps_setLc (i := 4) (own := [("_law_right", 5)]) rfl sc_l_parts.nd rfl rfl (sw_true rfl rfl rfl (by decide +kernel)) (pi_seqK K rfl (pv 2)) (blkOk_by (own := [("_law_right", 5)]) (N := ["_law_numbers_here", "_law_at", "_law_rights", "_law_sole", "_law_shared", "_law_right", "_law_people", "_law_founders", "_law_k", "_law_held", "_law_names_here", "_law_rules"]) (sc := defScope s_l_parts) (by decide +kernel)) (fun _ _ _ _ _ => (pg_name (i := 5) sc_l_parts.nd rfl (by first | exact Or.inl rfl | exact Or.inr rfl))) (fun _ _ _ _ _ => (pts_one (pt_cmpR (op_niK K rfl) (pv 5) (pv 3) rfl))) (fun _ _ _ _ _ => (pv 5))) (pss_cons (ps_set (i := 6) sc_l_parts.nd rfl (by first | exact Or.inl rfl | exact Or.inr rfl) (pe_call F_l_names (hr.mono (by decide)) rfl G_l_names.m G_l_names.kp b_l_names .nil pass0 (pa_cons (pe_ix (ix_K K rfl) (pv 0) (pe_op (op_addK K rfl) (pv 1) pe_int) (fun _ _ => rfl)) (pa_cons pe_int pa_nil)))) (pss_cons (ps_set (i := 7) sc_l_parts.nd rfl (by first | exact Or.inl rfl | exact Or.inr rfl) (pe_lst pa_nil)) (pss_cons (ps_for PassesOwn.never rfl (pi_range1 rfl T.f_range (pa_cons (pe_op op_mod (pe_callTy call_intG (by rfl) T.f_int (by decide +kernel) (pa_cons (pe_ix (ix_K K rfl) (pv 0) (pe_op (op_addK K rfl) (pv 1) pe_int) (fun _ _ => rfl)) pa_nil)) pe_int) pa_nil)) (pg_name (i := 8) sc_l_parts.nd rfl (by first | exact Or.inl rfl | exact Or.inr rfl)) (pss_cons (ps_set (i := 9) sc_l_parts.nd rfl (by first | exact Or.inl rfl | exact Or.inr rfl) (pe_call F_l_some (hr.mono (by decide)) rfl G_l_some.m G_l_some.kp b_l_some .nil pass0 (pa_cons (pe_ix (ix_K K rfl) (pv 0) (pe_op (op_addK K rfl) (pe_op (op_addK K rfl) (pv 1) pe_int) (pv 8)) (fun _ _ => rfl)) (pa_cons (pv 4) pa_nil)))) (pss_cons (ps_if (pt_cmpR op_eq (pv 8) (pe_op op_mod (pe_callTy call_intG (by rfl) T.f_int (by decide +kernel) (pa_cons (pe_op op_fdiv (pe_ix (ix_K K rfl) (pv 0) (pe_op (op_addK K rfl) (pv 1) pe_int) (fun _ _ => rfl)) pe_int) pa_nil)) pe_int) (nomark _)) (pss_one (ps_set (i := 9) sc_l_parts.nd rfl (by first | exact Or.inl rfl | exact Or.inr rfl) (pe_callTy (call_tupK K rfl) (by rfl) T.f_tuple (by decide +kernel) (pa_cons (pe_lc (own := [("_law_right", 5)]) rfl sc_l_parts.nd (pi_seqK K rfl (pv 2)) (blkOk_by (own := [("_law_right", 5)]) (N := ["_law_numbers_here", "_law_at", "_law_rights", "_law_sole", "_law_shared", "_law_right", "_law_people", "_law_founders", "_law_k", "_law_held", "_law_names_here", "_law_rules"]) (sc := defScope s_l_parts) (by decide +kernel)) (fun _ _ _ _ _ => (pg_name (i := 5) sc_l_parts.nd rfl (by first | exact Or.inl rfl | exact Or.inr rfl))) (fun _ _ _ _ _ => (pts_one (PW.pt (pw_or (pt_cmpR (op_inK K rfl) (pv 5) (pv 9) rfl) (pw_or1 (pt_cmpR (op_inK K rfl) (pv 5) (pv 3) rfl)))))) (fun _ _ _ _ _ => (pv 5))) pa_nil)))) pss_nil) (pss_one (ps_expr (pe_bm PySem.F.plainAttrs_list PySem.F.slot_list_append PySem.F.type_list_append mt_append (pv 7) (pa_cons (pe_tup (pa_cons (pe_ix (ix_K K rfl) (pv 6) (pv 8) (fun _ _ => rfl)) (pa_cons (pv 9) pa_nil))) pa_nil))))))) (pss_cons (ps_set (i := 10) sc_l_parts.nd rfl (by first | exact Or.inl rfl | exact Or.inr rfl) (pe_call F_l_names (hr.mono (by decide)) rfl G_l_names.m G_l_names.kp b_l_names .nil pass0 (pa_cons (pe_ix (ix_K K rfl) (pv 0) (pe_op (op_addK K rfl) (pv 1) pe_int) (fun _ _ => rfl)) (pa_cons pe_int pa_nil)))) (pss_cons (ps_set (i := 11) sc_l_parts.nd rfl (by first | exact Or.inl rfl | exact Or.inr rfl) (pe_lst pa_nil)) (pss_cons (ps_for PassesOwn.never rfl (pi_range1 rfl T.f_range (pa_cons (pe_op (op_addK K rfl) pe_int (pe_op op_mod (pe_callTy call_intG (by rfl) T.f_int (by decide +kernel) (pa_cons (pe_ix (ix_K K rfl) (pv 0) (pe_op (op_addK K rfl) (pv 1) pe_int) (fun _ _ => rfl)) pa_nil)) pe_int)) pa_nil)) (pg_name (i := 8) sc_l_parts.nd rfl (by first | exact Or.inl rfl | exact Or.inr rfl)) (pss_one (ps_expr (pe_bm PySem.F.plainAttrs_list PySem.F.slot_list_append PySem.F.type_list_append mt_append (pv 11) (pa_cons (pe_call F_l_rule (hr.mono (by decide)) rfl G_l_rule.m G_l_rule.kp b_l_rule .nil pass0 (pa_cons (pv 0) (pa_cons (pe_op (op_addK K rfl) (pe_op (op_addK K rfl) (pv 1) pe_int) (pe_op op_mul pe_int (pv 8))) (pa_cons (pe_ix (ix_K K rfl) (pv 10) (pv 8) (fun _ _ => rfl)) (pa_cons (pv 2) (pa_cons (pv 3) pa_nil)))))) pa_nil))))) (pss_one (ps_ret (pe_lst (pa_cons (pv 2) (pa_cons (pv 3) (pa_cons (pv 7) (pa_cons (pv 11) pa_nil))))))))))))))))), fun ds h => ?_⟩, F.bindsN fun _ _ _ _ _ _ us hl => match us, hl with | [_, _], _ => rfl⟩, T.m_l_parts, F.kp⟩
  · obtain ⟨_, rfl, _⟩ := h
    rfl
  · obtain ⟨ks, rfl, hk⟩ := h
    have m1 : 0 ≤ num ks 1 % 3 ∧ num ks 1 % 3 < 3 := ⟨Int.emod_nonneg _ (by omega), Int.emod_lt_of_pos _ (by omega)⟩
    refine wp_seq (wp_asgX (evx_call (ea_cons (ev_num 0 rfl (ev_var rfl) rfl (by omega)) (ea_cons (ev_add ev_int (ev_mod (ev_intI (ev_num 1 rfl (ev_add (ev_var rfl) ev_int) (by omega) (by omega))) ev_int (by omega))) ea_nil)) ⟨_, _, rfl, by omega, by omega⟩) fun d hd => ?_)
    obtain ⟨rights, rfl, rlen, rnd, rN⟩ := hd _ _ rfl
    have r2 : 2 ≤ rights.length := by omega
    have r4 : rights.length ≤ 4 := by omega
    refine wp_seq (wp_asg (ev_lst ea_nil (by simp)) ?_)
    refine wp_mid (fun Γ' => ∃ sole : SL, (sole = [] ∨ ∃ s, sole = [s] ∧ s ∈ rights) ∧ Γ' = [.dat (intsL ks), .dat (.int 0), .dat (strsL rights), .dat (strsL sole), .un, .un, .un, .un, .un, .un, .un, .un]) (wp_if (et_test (ev_op (ev_mod (ev_intI (ev_num 2 rfl (ev_add (ev_var rfl) ev_int) (by omega) (by omega))) ev_int (by omega)) ev_int rv_eqI)) (fun _ => ?_) fun _ => wp_next ⟨[], .inl rfl, rfl⟩) fun Γ' hΓ => ?_
    · have b0 := Int.emod_nonneg (num ks 2 / 2) (show ((rights.length : Nat) : Int) ≠ 0 by omega)
      have b1 := Int.emod_lt_of_pos (num ks 2 / 2) (show (0 : Int) < ((rights.length : Nat) : Int) by omega)
      refine wp_asg (ev_lst (ea_cons (ev_op (ev_var rfl) (ev_mod (ev_intI (ev_div (ev_num 2 rfl (ev_add (ev_var rfl) ev_int) (by omega) (by omega)) ev_int (by omega))) (ev_is (ev_cb (ea_cons (ev_var rfl) ea_nil) rc_lenL) (congrArg (fun n : Nat => Da.int (n : Int)) (List.length_map ..))) (by omega)) (rv_ixL (at_strs b0 b1))) ea_nil) (by simp)) ⟨[rights.getD (num ks 2 / 2 % ((rights.length : Nat) : Int)).toNat ""], .inr ⟨_, rfl, ?_⟩, rfl⟩
      have h2 : (num ks 2 / 2 % ((rights.length : Nat) : Int)).toNat < rights.length := by omega
      rw [List.getD_eq_getElem?_getD, List.getElem?_eq_getElem h2]
      exact List.getElem_mem h2
    obtain ⟨sole, hsole, rfl⟩ := hΓ
    have S : SoleOk rights sole := ⟨hsole, shared_ne rnd r2 hsole, rnd, by omega⟩
    have hsh : (sharedF rights sole).length ≤ rights.length := List.length_filter_le _ _
    refine wp_seq (wp_asg (d := strsL (sharedF rights sole)) (ev_lcM .str rights (js := [5]) (it_seqL (ev_var rfl)) (by omega) (fun r => !decide (r ∈ sole)) .str (by simp) fun i o _ => tg_name ⟨et_test (ev_op (ev_var rfl) (ev_var rfl) rv_noL), fun _ => ev_var rfl⟩) ?_)
    refine wp_seq (wp_asgX (evx_call (ea_cons (ev_num 3 rfl (ev_add (ev_var rfl) ev_int) (by omega) (by omega)) (ea_cons ev_int ea_nil)) ⟨_, _, rfl, by omega, by omega⟩) fun d hd => ?_)
    obtain ⟨people, rfl, plen, pnd, pN⟩ := hd _ _ rfl
    have plen : people.length = 3 := plen
    refine wp_seq (wp_asgO (eo_lst ea_nil (by simp)) ?_)
    have m4 : 0 ≤ num ks 4 % 4 ∧ num ks 4 % 4 < 4 := ⟨Int.emod_nonneg _ (by omega), Int.emod_lt_of_pos _ (by omega)⟩
    refine wp_mid (fun Γ' => ∃ (fo : List (Str × SL)) (a b : Sl), (fo.length ≤ 3 ∧ ∀ (j : Nat) f, fo[j]? = some f → people[j]? = some f.1 ∧ Ord rights f.2 ∧ ∀ r ∈ sole, r ∈ f.2 → (j : Int) = num ks 4 / 4 % 3) ∧ Γ' = [.dat (intsL ks), .dat (.int 0), .dat (strsL rights), .dat (strsL sole), .dat (strsL (sharedF rights sole)), .un, .dat (strsL people), .own (fo.map fD), a, b, .un, .un])
      (wp_for (js := [8]) (it_range (ea_cons (ev_mod (ev_intI (ev_num 4 rfl (ev_add (ev_var rfl) ev_int) (by omega) (by omega))) ev_int (by omega)) ea_nil) (by omega) m4.1)
      (fun i Γ' => ∃ (fo : List (Str × SL)) (a b : Sl), (fo.length = i ∧ ∀ (j : Nat) f, fo[j]? = some f → people[j]? = some f.1 ∧ Ord rights f.2 ∧ ∀ r ∈ sole, r ∈ f.2 → (j : Int) = num ks 4 / 4 % 3) ∧ Γ' = [.dat (intsL ks), .dat (.int 0), .dat (strsL rights), .dat (strsL sole), .dat (strsL (sharedF rights sole)), .un, .dat (strsL people), .own (fo.map fD), a, b, .un, .un])
      ⟨[], _, _, ⟨rfl, fun j f h => by simp at h⟩, rfl⟩ (fun i y Γ hy hΓ => ?_) fun Γ hΓ => ?_) fun Γ' hΓ => ?_
    · obtain ⟨fo, a, b, ⟨hl, hf⟩, rfl⟩ := hΓ
      obtain ⟨rfl, hi⟩ := take_range hy
      have hi3 : i < 3 := by omega
      refine tg_name (wp_seq (wp_asg (d := strsT (someF (num ks (5 + i)) (sharedF rights sole))) (ev_call (ea_cons (ev_num (5 + i) rfl (ev_add (ev_add (ev_var rfl) ev_int) (ev_var rfl)) (by omega) (by omega)) (ea_cons (ev_var rfl) ea_nil)) ⟨_, sharedF rights sole, .inl rfl, by omega, rfl⟩) ?_))
      have s1 : (someF (num ks (5 + i)) (sharedF rights sole)).Sublist rights := (someF_sub _ _).trans (filter_sub _)
      have s2 : ∀ r ∈ sole, r ∉ someF (num ks (5 + i)) (sharedF rights sole) := fun r hr hm => by
        have := (List.mem_filter.mp ((someF_sub _ _).subset hm)).2
        simp at this
        exact this hr
      have hsl := s1.length_le
      refine wp_mid (fun Γ' => ∃ held : SL, (Ord rights held ∧ ∀ r ∈ sole, r ∈ held → (i : Int) = num ks 4 / 4 % 3) ∧ Γ' = [.dat (intsL ks), .dat (.int 0), .dat (strsL rights), .dat (strsL sole), .dat (strsL (sharedF rights sole)), .un, .dat (strsL people), .own (fo.map fD), .dat (.int (i : Int)), .dat (strsT held), .un, .un])
        (wp_if (et_test (ev_op (ev_var rfl) (ev_mod (ev_intI (ev_div (ev_num 4 rfl (ev_add (ev_var rfl) ev_int) (by omega) (by omega)) ev_int (by omega))) ev_int (by omega)) rv_eqI)) (fun hb => ?_) fun _ => wp_next ⟨_, ⟨ord_sub rnd s1, fun r h1 h2 => absurd h2 (s2 r h1)⟩, rfl⟩) fun Γ' hΓ => ?_
      · refine wp_asg (d := strsT (rights.filter fun r => decide (r ∈ someF (num ks (5 + i)) (sharedF rights sole)) || decide (r ∈ sole))) (ev_cb (ea_cons (ev_lcM .str rights (js := [5]) (it_seqL (ev_var rfl)) (by omega) (fun r => decide (r ∈ someF (num ks (5 + i)) (sharedF rights sole)) || decide (r ∈ sole)) .str (by simp) fun j o _ => tg_name ⟨et_or (et_test (ev_op (ev_var rfl) (ev_var rfl) rv_isT)) fun _ => et_test (ev_op (ev_var rfl) (ev_var rfl) rv_isL), fun _ => ev_var rfl⟩) ea_nil) rc_tupL) ⟨_, ⟨ord_sub rnd (filter_sub _), fun _ _ _ => of_decide_eq_true hb⟩, rfl⟩
      · obtain ⟨held, hheld, rfl⟩ := hΓ
        have hp : people[i]? = some people[i] := List.getElem?_eq_getElem (by omega)
        refine wp_app rfl (ev_tup (ea_cons (ev_op (ev_var rfl) (ev_var rfl) (rv_ixL (d := .str people[i]) (atI_nat (by rw [List.getElem?_map, hp]; rfl)))) (ea_cons (ev_var rfl) ea_nil)) (by simp)) (by rw [List.length_map]; omega) ⟨fo ++ [(people[i], held)], _, _, ⟨by rw [List.length_append, hl]; rfl, fun j f hj => ?_⟩, by rw [List.map_append]; rfl⟩
        rcases snoc_at hj with ⟨_, h⟩ | ⟨rfl, rfl⟩
        · exact hf j f h
        · rw [hl]; exact ⟨hp, hheld⟩
    · obtain ⟨fo, a, b, ⟨hl, hf⟩, rfl⟩ := hΓ
      rw [range_len] at hl
      exact ⟨fo, a, b, ⟨by omega, hf⟩, rfl⟩
    obtain ⟨fo, a, b, ⟨hl, hf⟩, rfl⟩ := hΓ
    refine wp_seq (wp_asgX (evx_call (ea_cons (ev_num 8 rfl (ev_add (ev_var rfl) ev_int) (by omega) (by omega)) (ea_cons ev_int ea_nil)) ⟨_, _, rfl, by omega, by omega⟩) fun d hd => ?_)
    obtain ⟨names, rfl, nlen, nnd, nN⟩ := hd _ _ rfl
    have nlen : names.length = 6 := nlen
    refine wp_seq (wp_asgO (eo_lst ea_nil (by simp)) ?_)
    have m9 : 0 ≤ num ks 9 % 6 ∧ num ks 9 % 6 < 6 := ⟨Int.emod_nonneg _ (by omega), Int.emod_lt_of_pos _ (by omega)⟩
    refine wp_seq (wp_for (js := [8]) (it_range (ea_cons (ev_add ev_int (ev_mod (ev_intI (ev_num 9 rfl (ev_add (ev_var rfl) ev_int) (by omega) (by omega))) ev_int (by omega))) ea_nil) (by omega) (by omega))
      (fun i Γ' => ∃ (us : List Rl) (a : Sl), (us.length = i ∧ ∀ (j : Nat) u, us[j]? = some u → names[j]? = some u.name ∧ WfR rights sole u) ∧ Γ' = [.dat (intsL ks), .dat (.int 0), .dat (strsL rights), .dat (strsL sole), .dat (strsL (sharedF rights sole)), .un, .dat (strsL people), .own (fo.map fD), a, b, .dat (strsL names), .own (us.map Rl.da)])
      ⟨[], _, ⟨rfl, fun j f h => by simp at h⟩, rfl⟩ (fun i y Γ hy hΓ => ?_) fun Γ hΓ => ?_)
    · obtain ⟨us, a, ⟨ul, hu⟩, rfl⟩ := hΓ
      obtain ⟨rfl, hi⟩ := take_range hy
      have hi6 : i < 6 := by omega
      have hp : names[i]? = some names[i] := List.getElem?_eq_getElem (by omega)
      refine tg_name (wp_app rfl (ev_call (ea_cons (ev_var rfl) (ea_cons (ev_is (ev_add (ev_add (ev_var rfl) ev_int) (ev_mulL ev_int (ev_var rfl) (by omega))) (show _ = Da.int ((10 + 8 * i : Nat) : Int) from congrArg Da.int (by omega))) (ea_cons (ev_op (ev_var rfl) (ev_var rfl) (rv_ixL (d := .str names[i]) (atI_nat (by rw [List.getElem?_map, hp]; rfl)))) (ea_cons (ev_var rfl) (ea_cons (ev_var rfl) ea_nil))))) ⟨ks, 10 + 8 * i, names[i], rights, sole, rfl, by omega, S, rfl⟩) (by rw [List.length_map]; omega)
        ⟨us ++ [ruleF ks (10 + 8 * i) names[i] rights sole], _, ⟨by rw [List.length_append, ul]; rfl, fun j u hj => ?_⟩, by rw [List.map_append]; rfl⟩)
      rcases snoc_at hj with ⟨_, h⟩ | ⟨rfl, rfl⟩
      · exact hu j u h
      · rw [ul, rule_name]
        exact ⟨hp, rule_wf S (nN _ (List.mem_of_getElem? hp))⟩
    · obtain ⟨us, a, ⟨ul, hu⟩, rfl⟩ := hΓ
      rw [range_len] at ul
      refine wp_frz (wp_ret (ev_lst (ea_cons (ev_var rfl) (ea_cons (ev_var rfl) (ea_cons (ev_var rfl) (ea_cons (ev_var rfl) ea_nil)))) (by simp)) ⟨⟨rights, sole, fo, us⟩, rfl, ⟨S, by show 1 ≤ rights.length; omega, rN, hl, ?_, fun f hf2 => ?_, fun f hf2 => ?_, fun r hr => ?_, by show us.length ≤ 6; omega, ?_, fun u hu2 => ?_⟩⟩)
      · refine nodup_of pnd fun j x hx => ?_
        rw [List.getElem?_map] at hx
        cases e : fo[j]? with
        | none => rw [e] at hx; cases hx
        | some f =>
          rw [e] at hx
          rw [← Option.some.inj hx]
          exact (hf j f e).1
      · obtain ⟨j, hj, ej⟩ := List.mem_iff_getElem.mp hf2
        exact pN _ (List.mem_of_getElem? (hf j f (by rw [List.getElem?_eq_getElem hj, ej])).1)
      · obtain ⟨j, hj, ej⟩ := List.mem_iff_getElem.mp hf2
        exact (hf j f (by rw [List.getElem?_eq_getElem hj, ej])).2.1
      · refine filter_one _ _ fun i j a b hi hj ha hb => ?_
        have h1 := (hf i a hi).2.2 r hr (of_decide_eq_true ha)
        have h2 := (hf j b hj).2.2 r hr (of_decide_eq_true hb)
        omega
      · refine nodup_of nnd fun j x hx => ?_
        have hx2 : (us.map Rl.name)[j]? = some x := hx
        rw [List.getElem?_map] at hx2
        cases e : us[j]? with
        | none => rw [e] at hx2; cases hx2
        | some f =>
          rw [e] at hx2
          rw [← Option.some.inj hx2]
          exact (hu j f e).1
      · obtain ⟨j, hj, ej⟩ := List.mem_iff_getElem.mp hu2
        exact (hu j u (by rw [List.getElem?_eq_getElem hj, ej])).2
end
end WM

/-! ## L4 -/
set_option maxHeartbeats 4000000
namespace WM
open PySem PySem.Spec PyProof.Rows L2
abbrev peD (v : Str × SL) : Da := .lst [.str v.1, strsT v.2]
abbrev pplD (q : Ppl) : Da := .lst (q.map peD)
def lessF (held : SL) (r : Str) : SL := held.filter fun o => !decide (o = r)
def allowS (k : Str) (a b : SL) (r : Str) (h : SL) : Bool := fitsF h a b && (if k = "claim" then !decide (r ∈ h) else decide (r ∈ h))
def allowD (k : Str) (a b c : SL) (r : Str) (h o : SL) : Bool := fitsF h a [] && (fitsF o b c && (if k = "give" then !decide (r ∈ o) else if k = "take" then decide (r ∈ o) else decide (r ∈ h)))
section
variable {P : Program} {w : World} {K : PySem.W.Frag} {mg : Str → Option Value} {base : Heap} {Γ : List Sl} {ta tb : TE}
/-! with, less, fits -/
def R_lwith : List Da → Da → Prop := fun ds d => ∃ (rights held : SL) (r : Str), ds = [strsL rights, strsT held, .str r] ∧ rights.length ≤ 1000 ∧ d = strsT (withF rights held r)
theorem ok_lwith (T : Txt w K mg) : Cal P w K mg base "_law_with" (He.ga K "_law_with") 1 ["_law_rights", "_law_held", "_law_right"] (spP K R_lwith) := by
  obtain ⟨fd, F⟩ := T.d_l_with
  refine ⟨⟨fd, fn_pure F sc_l_with (fun ds d h => ?_) fun cdv A outer s H E hr => ⟨_, (pss_one (ps_ret (pe_callTy (call_tupK K rfl) (by rfl) T.f_tuple (by decide +kernel) (pa_cons (pe_lc (own := [("_law_one", 3)]) rfl sc_l_with.nd (pi_seqK K rfl (pv 0)) (blkOk_by (own := [("_law_one", 3)]) (N := ["_law_rights", "_law_held", "_law_right", "_law_one"]) (sc := defScope s_l_with) (by decide +kernel)) (fun _ _ _ _ _ => (pg_name (i := 3) sc_l_with.nd rfl (by first | exact Or.inl rfl | exact Or.inr rfl))) (fun _ _ _ _ _ => (pts_one (PW.pt (pw_or (pt_cmpR (op_inK K rfl) (pv 3) (pv 1) rfl) (pw_or1 (pt_cmpR op_eq (pv 3) (pv 2) (nomark _))))))) (fun _ _ _ _ _ => (pv 3))) pa_nil)))), fun ds d h => ?_⟩, F.bindsN fun _ _ _ _ _ _ us hl => match us, hl with | [_, _, _], _ => rfl⟩, T.m_l_with, F.kp⟩
  · obtain ⟨_, _, _, rfl, _⟩ := h
    rfl
  · obtain ⟨rights, held, r, rfl, hl, rfl⟩ := h
    exact wp_ret (ev_cb (ea_cons (ev_lcM .str rights (js := [3]) (it_seqL (ev_var rfl)) (by omega) (fun o => decide (o ∈ held) || decide (o = r)) .str (by simp) fun j o _ => tg_name ⟨et_or (et_test (ev_op (ev_var rfl) (ev_var rfl) rv_isT)) fun _ => et_test (ev_op (ev_var rfl) (ev_var rfl) rv_eqS), fun _ => ev_var rfl⟩) ea_nil) rc_tupL) rfl
def R_lless : List Da → Da → Prop := fun ds d => ∃ (held : SL) (r : Str), ds = [strsT held, .str r] ∧ held.length ≤ 1000 ∧ d = strsT (lessF held r)
theorem ok_lless (T : Txt w K mg) : Cal P w K mg base "_law_less" (He.ga K "_law_less") 1 ["_law_held", "_law_right"] (spP K R_lless) := by
  obtain ⟨fd, F⟩ := T.d_l_less
  refine ⟨⟨fd, fn_pure F sc_l_less (fun ds d h => ?_) fun cdv A outer s H E hr => ⟨_, (pss_one (ps_ret (pe_callTy (call_tupK K rfl) (by rfl) T.f_tuple (by decide +kernel) (pa_cons (pe_lc (own := [("_law_one", 2)]) rfl sc_l_less.nd (pi_seqK K rfl (pv 0)) (blkOk_by (own := [("_law_one", 2)]) (N := ["_law_held", "_law_right", "_law_one"]) (sc := defScope s_l_less) (by decide +kernel)) (fun _ _ _ _ _ => (pg_name (i := 2) sc_l_less.nd rfl (by first | exact Or.inl rfl | exact Or.inr rfl))) (fun _ _ _ _ _ => (pts_one (pt_cmpR op_ne (pv 2) (pv 1) (nomark _)))) (fun _ _ _ _ _ => (pv 2))) pa_nil)))), fun ds d h => ?_⟩, F.bindsN fun _ _ _ _ _ _ us hl => match us, hl with | [_, _], _ => rfl⟩, T.m_l_less, F.kp⟩
  · obtain ⟨_, _, rfl, _⟩ := h
    rfl
  · obtain ⟨held, r, rfl, hl, rfl⟩ := h
    exact wp_ret (ev_cb (ea_cons (ev_lcM .str held (js := [2]) (it_seqT (ev_var rfl)) (by omega) (fun o => !decide (o = r)) .str (by simp) fun j o _ => tg_name ⟨et_test (ev_op (ev_var rfl) (ev_var rfl) rv_neS), fun _ => ev_var rfl⟩) ea_nil) rc_tupL) rfl
theorem ok_lfits (T : Txt w K mg) : Cal P w K mg base "_law_fits" (He.ga K "_law_fits") 1 ["_law_held", "_law_holds", "_law_lacks"] (spP K R_fits) := by
  obtain ⟨fd, F⟩ := T.d_l_fits
  refine ⟨⟨fd, fn_pure F sc_l_fits (fun ds d h => ?_) fun cdv A outer s H E hr => ⟨_, (pss_one (ps_ret (pe_and (pe_callB (cr_allK K rfl rfl) (by rfl) T.f_all (by decide +kernel) (pa_cons (pe_lc (own := [("_law_right", 3)]) rfl sc_l_fits.nd (pi_seqK K rfl (pv 1)) (blkOk_by (own := [("_law_right", 3)]) (N := ["_law_held", "_law_holds", "_law_lacks", "_law_right"]) (sc := defScope s_l_fits) (by decide +kernel)) (fun _ _ _ _ _ => (pg_name (i := 3) sc_l_fits.nd rfl (by first | exact Or.inl rfl | exact Or.inr rfl))) (fun _ _ _ _ _ => pts_nil) (fun _ _ _ _ _ => (pe_cmpR (op_inK K rfl) (pv 3) (pv 0) rfl))) pa_nil)) (pe_one (pe_not (pe_callB (cr_anyK K rfl rfl) (by rfl) T.f_any (by decide +kernel) (pa_cons (pe_lc (own := [("_law_right", 3)]) rfl sc_l_fits.nd (pi_seqK K rfl (pv 2)) (blkOk_by (own := [("_law_right", 3)]) (N := ["_law_held", "_law_holds", "_law_lacks", "_law_right"]) (sc := defScope s_l_fits) (by decide +kernel)) (fun _ _ _ _ _ => (pg_name (i := 3) sc_l_fits.nd rfl (by first | exact Or.inl rfl | exact Or.inr rfl))) (fun _ _ _ _ _ => pts_nil) (fun _ _ _ _ _ => (pe_cmpR (op_inK K rfl) (pv 3) (pv 0) rfl))) pa_nil))))))), fun ds d h => ?_⟩, F.bindsN fun _ _ _ _ _ _ us hl => match us, hl with | [_, _, _], _ => rfl⟩, T.m_l_fits, F.kp⟩
  · obtain ⟨_, _, _, rfl, _⟩ := h
    rfl
  · obtain ⟨held, needs, lacks, rfl, h1, h2, rfl⟩ := h
    refine wp_ret (ev_and (ev_cb (ea_cons (ev_lcA .str needs (it_seqT (ev_var rfl)) (by omega) (fun r => .bl (decide (r ∈ held))) (by simp) fun i r _ => ev_op (ev_var rfl) (ev_var rfl) rv_isT) ea_nil) rc_allM)
      fun _ => ev_not (ev_cb (ea_cons (ev_lcA .str lacks (it_seqT (ev_var rfl)) (by omega) (fun r => .bl (decide (r ∈ held))) (by simp) fun i r _ => ev_op (ev_var rfl) (ev_var rfl) rv_isT) ea_nil) rc_anyM)) rfl
/-! allows -/
def R_lallows : List Da → Da → Prop := fun ds d => (∃ (k n : Str) (a b : SL) (r : Str) (h : SL) (x : Da), ds = [(Rl.solo k n a b r).da, strsT h, x] ∧ (k = "claim" ∨ k = "drop") ∧ a.length ≤ 1000 ∧ b.length ≤ 1000 ∧ d = .bl (allowS k a b r h)) ∨
  ∃ (k n : Str) (a b c : SL) (r : Str) (h o : SL), ds = [(Rl.duo k n a b c r).da, strsT h, strsT o] ∧ (k = "give" ∨ k = "take" ∨ k = "pass") ∧ a.length ≤ 1000 ∧ b.length ≤ 1000 ∧ c.length ≤ 1000 ∧ d = .bl (allowD k a b c r h o)
theorem ok_lallows (T : Txt w K mg) (G_l_fits : Cal P w K mg base "_law_fits" (He.ga K "_law_fits") 1 ["_law_held", "_law_holds", "_law_lacks"] (spP K R_fits)) :
    Cal P w K mg base "_law_allows" (He.ga K "_law_allows") 2 ["_law_rule_here", "_law_actor", "_law_target"] (spP K R_lallows) := by
  obtain ⟨fd, F⟩ := T.d_l_allows
  obtain ⟨fd1, F_l_fits, b_l_fits⟩ := G_l_fits.ex
  refine ⟨⟨fd, fn_pure F sc_l_allows (fun ds d h => ?_) fun cdv A outer s H E hr => ⟨_, (pss_cons (ps_if (pt_cmpR op_eq (pe_ix (ix_K K rfl) (pv 0) pe_int (fun _ _ => rfl)) pe_str (nomark _)) (pss_one (ps_ret (pe_and (pe_call F_l_fits (hr.mono (by decide)) rfl G_l_fits.m G_l_fits.kp b_l_fits .nil pass0 (pa_cons (pv 1) (pa_cons (pe_ix (ix_K K rfl) (pv 0) pe_int (fun _ _ => rfl)) (pa_cons (pe_ix (ix_K K rfl) (pv 0) pe_int (fun _ _ => rfl)) pa_nil)))) (pe_one (pe_cmpR (op_niK K rfl) (pe_ix (ix_K K rfl) (pv 0) pe_int (fun _ _ => rfl)) (pv 1) rfl))))) pss_nil) (pss_cons (ps_if (pt_cmpR op_eq (pe_ix (ix_K K rfl) (pv 0) pe_int (fun _ _ => rfl)) pe_str (nomark _)) (pss_one (ps_ret (pe_and (pe_call F_l_fits (hr.mono (by decide)) rfl G_l_fits.m G_l_fits.kp b_l_fits .nil pass0 (pa_cons (pv 1) (pa_cons (pe_ix (ix_K K rfl) (pv 0) pe_int (fun _ _ => rfl)) (pa_cons (pe_ix (ix_K K rfl) (pv 0) pe_int (fun _ _ => rfl)) pa_nil)))) (pe_one (pe_cmpR (op_inK K rfl) (pe_ix (ix_K K rfl) (pv 0) pe_int (fun _ _ => rfl)) (pv 1) rfl))))) pss_nil) (pss_cons (ps_if (PW.pt (pw_or (pt_not (pt_val (pe_call F_l_fits (hr.mono (by decide)) rfl G_l_fits.m G_l_fits.kp b_l_fits .nil pass0 (pa_cons (pv 1) (pa_cons (pe_ix (ix_K K rfl) (pv 0) pe_int (fun _ _ => rfl)) (pa_cons (pe_tup pa_nil) pa_nil)))))) (pw_or1 (pt_not (pt_val (pe_call F_l_fits (hr.mono (by decide)) rfl G_l_fits.m G_l_fits.kp b_l_fits .nil pass0 (pa_cons (pv 2) (pa_cons (pe_ix (ix_K K rfl) (pv 0) pe_int (fun _ _ => rfl)) (pa_cons (pe_ix (ix_K K rfl) (pv 0) pe_int (fun _ _ => rfl)) pa_nil))))))))) (pss_one (ps_ret pe_bl)) pss_nil) (pss_cons (ps_if (pt_cmpR op_eq (pe_ix (ix_K K rfl) (pv 0) pe_int (fun _ _ => rfl)) pe_str (nomark _)) (pss_one (ps_ret (pe_cmpR (op_niK K rfl) (pe_ix (ix_K K rfl) (pv 0) pe_int (fun _ _ => rfl)) (pv 2) rfl))) pss_nil) (pss_cons (ps_if (pt_cmpR op_eq (pe_ix (ix_K K rfl) (pv 0) pe_int (fun _ _ => rfl)) pe_str (nomark _)) (pss_one (ps_ret (pe_cmpR (op_inK K rfl) (pe_ix (ix_K K rfl) (pv 0) pe_int (fun _ _ => rfl)) (pv 2) rfl))) pss_nil) (pss_one (ps_ret (pe_cmpR (op_inK K rfl) (pe_ix (ix_K K rfl) (pv 0) pe_int (fun _ _ => rfl)) (pv 1) rfl)))))))), fun ds d h => ?_⟩, F.bindsN fun _ _ _ _ _ _ us hl => match us, hl with | [_, _, _], _ => rfl⟩, T.m_l_allows, F.kp⟩
  · rcases h with ⟨_, _, _, _, _, _, _, rfl, _⟩ | ⟨_, _, _, _, _, _, _, _, rfl, _⟩ <;> rfl
  · rcases h with ⟨k, n, a, b, r, h, x, rfl, hk, la, lb, rfl⟩ | ⟨k, n, a, b, c, r, h, o, rfl, hk, la, lb, lc', rfl⟩
    · rcases hk with rfl | rfl
      · refine wp_seq (wp_if (b := true) (evt_is (et_test (ev_op (ev_op (ev_var rfl) ev_int (rv_ixT at0)) ev_str rv_eqS)) (by decide)) (fun _ => ?_) fun h => by cases h)
        exact wp_ret (ev_and (ev_call (ea_cons (ev_var rfl) (ea_cons (ev_op (ev_var rfl) ev_int (rv_ixT at2)) (ea_cons (ev_op (ev_var rfl) ev_int (rv_ixT at3)) ea_nil))) ⟨h, a, b, rfl, la, lb, rfl⟩) fun _ => ev_op (ev_op (ev_var rfl) ev_int (rv_ixT at4)) (ev_var rfl) rv_noT) rfl
      · refine wp_seq (wp_if (b := false) (evt_is (et_test (ev_op (ev_op (ev_var rfl) ev_int (rv_ixT at0)) ev_str rv_eqS)) (by decide)) (fun h => by cases h) fun _ => wp_next ?_)
        refine wp_seq (wp_if (b := true) (evt_is (et_test (ev_op (ev_op (ev_var rfl) ev_int (rv_ixT at0)) ev_str rv_eqS)) (by decide)) (fun _ => ?_) fun h => by cases h)
        exact wp_ret (ev_and (ev_call (ea_cons (ev_var rfl) (ea_cons (ev_op (ev_var rfl) ev_int (rv_ixT at2)) (ea_cons (ev_op (ev_var rfl) ev_int (rv_ixT at3)) ea_nil))) ⟨h, a, b, rfl, la, lb, rfl⟩) fun _ => ev_op (ev_op (ev_var rfl) ev_int (rv_ixT at4)) (ev_var rfl) rv_isT) rfl
    · have h1 : k ≠ "claim" := by rcases hk with rfl | rfl | rfl <;> decide
      have h2 : k ≠ "drop" := by rcases hk with rfl | rfl | rfl <;> decide
      refine wp_seq (wp_if (b := false) (evt_is (et_test (ev_op (ev_op (ev_var rfl) ev_int (rv_ixT at0)) ev_str rv_eqS)) (decide_eq_false h1)) (fun h => by cases h) fun _ => wp_next ?_)
      refine wp_seq (wp_if (b := false) (evt_is (et_test (ev_op (ev_op (ev_var rfl) ev_int (rv_ixT at0)) ev_str rv_eqS)) (decide_eq_false h2)) (fun h => by cases h) fun _ => wp_next ?_)
      refine wp_seq (wp_if (et_or (et_not (et_B (ev_call (ea_cons (ev_var rfl) (ea_cons (ev_op (ev_var rfl) ev_int (rv_ixT at2)) (ea_cons (ev_tup ea_nil (by simp)) ea_nil))) ⟨h, a, [], rfl, la, by simp, rfl⟩)))
        fun _ => et_not (et_B (ev_call (ea_cons (ev_var rfl) (ea_cons (ev_op (ev_var rfl) ev_int (rv_ixT at3)) (ea_cons (ev_op (ev_var rfl) ev_int (rv_ixT at4)) ea_nil))) ⟨o, b, c, rfl, lb, lc', rfl⟩))) (fun hb => ?_) fun hb => wp_next ?_)
      · refine wp_ret ev_bl ?_
        unfold allowD
        rw [Bool.or_eq_true] at hb
        rcases hb with hb | hb
        · have : fitsF h a [] = false := by simpa using hb
          rw [this]; rfl
        · have : fitsF o b c = false := by simpa using hb
          rw [this]; simp
      · rw [Bool.or_eq_false_iff] at hb
        have e1 : fitsF h a [] = true := by simpa using hb.1
        have e2 : fitsF o b c = true := by simpa using hb.2
        unfold allowD
        rw [e1, e2]
        rcases hk with rfl | rfl | rfl
        · refine wp_seq (wp_if (b := true) (evt_is (et_test (ev_op (ev_op (ev_var rfl) ev_int (rv_ixT at0)) ev_str rv_eqS)) (by decide)) (fun _ => ?_) fun h => by cases h)
          exact wp_ret (ev_op (ev_op (ev_var rfl) ev_int (rv_ixT at5)) (ev_var rfl) rv_noT) rfl
        · refine wp_seq (wp_if (b := false) (evt_is (et_test (ev_op (ev_op (ev_var rfl) ev_int (rv_ixT at0)) ev_str rv_eqS)) (by decide)) (fun h => by cases h) fun _ => wp_next ?_)
          refine wp_seq (wp_if (b := true) (evt_is (et_test (ev_op (ev_op (ev_var rfl) ev_int (rv_ixT at0)) ev_str rv_eqS)) (by decide)) (fun _ => ?_) fun h => by cases h)
          exact wp_ret (ev_op (ev_op (ev_var rfl) ev_int (rv_ixT at5)) (ev_var rfl) rv_isT) rfl
        · refine wp_seq (wp_if (b := false) (evt_is (et_test (ev_op (ev_op (ev_var rfl) ev_int (rv_ixT at0)) ev_str rv_eqS)) (by decide)) (fun h => by cases h) fun _ => wp_next ?_)
          refine wp_seq (wp_if (b := false) (evt_is (et_test (ev_op (ev_op (ev_var rfl) ev_int (rv_ixT at0)) ev_str rv_eqS)) (by decide)) (fun h => by cases h) fun _ => wp_next ?_)
          exact wp_ret (ev_op (ev_op (ev_var rfl) ev_int (rv_ixT at5)) (ev_var rfl) rv_isT) rfl
/-! changed -/
def chS1 (rights : SL) (k : Str) (r : Str) (h : SL) : SL := if k = "claim" then withF rights h r else lessF h r
def chA (k r : Str) (h : SL) : SL := if k = "pass" then lessF h r else h
def chT (rights : SL) (k r : Str) (o : SL) : SL := if k = "take" then lessF o r else withF rights o r
def R_lchanged : List Da → Da → Prop := fun ds d => (∃ (rights : SL) (k n : Str) (a b : SL) (r : Str) (h : SL) (x : Da), ds = [strsL rights, (Rl.solo k n a b r).da, strsT h, x] ∧ (k = "claim" ∨ k = "drop") ∧ rights.length ≤ 1000 ∧ h.length ≤ 1000 ∧ d = .tup [strsT (chS1 rights k r h), .non]) ∨
  ∃ (rights : SL) (k n : Str) (a b c : SL) (r : Str) (h o : SL), ds = [strsL rights, (Rl.duo k n a b c r).da, strsT h, strsT o] ∧ (k = "give" ∨ k = "take" ∨ k = "pass") ∧ rights.length ≤ 1000 ∧ h.length ≤ 1000 ∧ o.length ≤ 1000 ∧ d = .tup [strsT (chA k r h), strsT (chT rights k r o)]
theorem ok_lchanged (T : Txt w K mg) (G_l_with : Cal P w K mg base "_law_with" (He.ga K "_law_with") 1 ["_law_rights", "_law_held", "_law_right"] (spP K R_lwith))
    (G_l_less : Cal P w K mg base "_law_less" (He.ga K "_law_less") 1 ["_law_held", "_law_right"] (spP K R_lless)) :
    Cal P w K mg base "_law_changed" (He.ga K "_law_changed") 2 ["_law_rights", "_law_rule_here", "_law_actor", "_law_target"] (spP K R_lchanged) := by
  obtain ⟨fd, F⟩ := T.d_l_changed
  obtain ⟨fd1, F_l_with, b_l_with⟩ := G_l_with.ex
  obtain ⟨fd2, F_l_less, b_l_less⟩ := G_l_less.ex
  refine ⟨⟨fd, fn_pure F sc_l_changed (fun ds d h => ?_) fun cdv A outer s H E hr => ⟨_, (pss_cons (ps_if (pt_cmpR op_eq (pe_ix (ix_K K rfl) (pv 1) pe_int (fun _ _ => rfl)) pe_str (nomark _)) (pss_one (ps_ret (pe_tup (pa_cons (pe_call F_l_with (hr.mono (by decide)) rfl G_l_with.m G_l_with.kp b_l_with .nil pass0 (pa_cons (pv 0) (pa_cons (pv 2) (pa_cons (pe_ix (ix_K K rfl) (pv 1) pe_int (fun _ _ => rfl)) pa_nil)))) (pa_cons pe_non pa_nil))))) pss_nil) (pss_cons (ps_if (pt_cmpR op_eq (pe_ix (ix_K K rfl) (pv 1) pe_int (fun _ _ => rfl)) pe_str (nomark _)) (pss_one (ps_ret (pe_tup (pa_cons (pe_call F_l_less (hr.mono (by decide)) rfl G_l_less.m G_l_less.kp b_l_less .nil pass0 (pa_cons (pv 2) (pa_cons (pe_ix (ix_K K rfl) (pv 1) pe_int (fun _ _ => rfl)) pa_nil))) (pa_cons pe_non pa_nil))))) pss_nil) (pss_cons (ps_if (pt_cmpR op_eq (pe_ix (ix_K K rfl) (pv 1) pe_int (fun _ _ => rfl)) pe_str (nomark _)) (pss_one (ps_ret (pe_tup (pa_cons (pv 2) (pa_cons (pe_call F_l_with (hr.mono (by decide)) rfl G_l_with.m G_l_with.kp b_l_with .nil pass0 (pa_cons (pv 0) (pa_cons (pv 3) (pa_cons (pe_ix (ix_K K rfl) (pv 1) pe_int (fun _ _ => rfl)) pa_nil)))) pa_nil))))) pss_nil) (pss_cons (ps_if (pt_cmpR op_eq (pe_ix (ix_K K rfl) (pv 1) pe_int (fun _ _ => rfl)) pe_str (nomark _)) (pss_one (ps_ret (pe_tup (pa_cons (pv 2) (pa_cons (pe_call F_l_less (hr.mono (by decide)) rfl G_l_less.m G_l_less.kp b_l_less .nil pass0 (pa_cons (pv 3) (pa_cons (pe_ix (ix_K K rfl) (pv 1) pe_int (fun _ _ => rfl)) pa_nil))) pa_nil))))) pss_nil) (pss_one (ps_ret (pe_tup (pa_cons (pe_call F_l_less (hr.mono (by decide)) rfl G_l_less.m G_l_less.kp b_l_less .nil pass0 (pa_cons (pv 2) (pa_cons (pe_ix (ix_K K rfl) (pv 1) pe_int (fun _ _ => rfl)) pa_nil))) (pa_cons (pe_call F_l_with (hr.mono (by decide)) rfl G_l_with.m G_l_with.kp b_l_with .nil pass0 (pa_cons (pv 0) (pa_cons (pv 3) (pa_cons (pe_ix (ix_K K rfl) (pv 1) pe_int (fun _ _ => rfl)) pa_nil)))) pa_nil))))))))), fun ds d h => ?_⟩, F.bindsN fun _ _ _ _ _ _ us hl => match us, hl with | [_, _, _, _], _ => rfl⟩, T.m_l_changed, F.kp⟩
  · rcases h with ⟨_, _, _, _, _, _, _, _, rfl, _⟩ | ⟨_, _, _, _, _, _, _, _, _, rfl, _⟩ <;> rfl
  · rcases h with ⟨rights, k, n, a, b, r, h, x, rfl, hk, lr, lh, rfl⟩ | ⟨rights, k, n, a, b, c, r, h, o, rfl, hk, lr, lh, lo, rfl⟩
    · rcases hk with rfl | rfl
      · refine wp_seq (wp_if (b := true) (evt_is (et_test (ev_op (ev_op (ev_var rfl) ev_int (rv_ixT at0)) ev_str rv_eqS)) (by decide)) (fun _ => ?_) fun h => by cases h)
        exact wp_ret (ev_tup (ea_cons (ev_call (ea_cons (ev_var rfl) (ea_cons (ev_var rfl) (ea_cons (ev_op (ev_var rfl) ev_int (rv_ixT at4)) ea_nil))) ⟨rights, h, r, rfl, lr, rfl⟩) (ea_cons ev_non ea_nil)) (by simp)) rfl
      · refine wp_seq (wp_if (b := false) (evt_is (et_test (ev_op (ev_op (ev_var rfl) ev_int (rv_ixT at0)) ev_str rv_eqS)) (by decide)) (fun h => by cases h) fun _ => wp_next ?_)
        refine wp_seq (wp_if (b := true) (evt_is (et_test (ev_op (ev_op (ev_var rfl) ev_int (rv_ixT at0)) ev_str rv_eqS)) (by decide)) (fun _ => ?_) fun h => by cases h)
        exact wp_ret (ev_tup (ea_cons (ev_call (ea_cons (ev_var rfl) (ea_cons (ev_op (ev_var rfl) ev_int (rv_ixT at4)) ea_nil)) ⟨h, r, rfl, lh, rfl⟩) (ea_cons ev_non ea_nil)) (by simp)) rfl
    · have h1 : k ≠ "claim" := by rcases hk with rfl | rfl | rfl <;> decide
      have h2 : k ≠ "drop" := by rcases hk with rfl | rfl | rfl <;> decide
      refine wp_seq (wp_if (b := false) (evt_is (et_test (ev_op (ev_op (ev_var rfl) ev_int (rv_ixT at0)) ev_str rv_eqS)) (decide_eq_false h1)) (fun h => by cases h) fun _ => wp_next ?_)
      refine wp_seq (wp_if (b := false) (evt_is (et_test (ev_op (ev_op (ev_var rfl) ev_int (rv_ixT at0)) ev_str rv_eqS)) (decide_eq_false h2)) (fun h => by cases h) fun _ => wp_next ?_)
      rcases hk with rfl | rfl | rfl
      · refine wp_seq (wp_if (b := true) (evt_is (et_test (ev_op (ev_op (ev_var rfl) ev_int (rv_ixT at0)) ev_str rv_eqS)) (by decide)) (fun _ => ?_) fun h => by cases h)
        exact wp_ret (ev_tup (ea_cons (ev_var rfl) (ea_cons (ev_call (ea_cons (ev_var rfl) (ea_cons (ev_var rfl) (ea_cons (ev_op (ev_var rfl) ev_int (rv_ixT at5)) ea_nil))) ⟨rights, o, r, rfl, lr, rfl⟩) ea_nil)) (by simp)) rfl
      · refine wp_seq (wp_if (b := false) (evt_is (et_test (ev_op (ev_op (ev_var rfl) ev_int (rv_ixT at0)) ev_str rv_eqS)) (by decide)) (fun h => by cases h) fun _ => wp_next ?_)
        refine wp_seq (wp_if (b := true) (evt_is (et_test (ev_op (ev_op (ev_var rfl) ev_int (rv_ixT at0)) ev_str rv_eqS)) (by decide)) (fun _ => ?_) fun h => by cases h)
        exact wp_ret (ev_tup (ea_cons (ev_var rfl) (ea_cons (ev_call (ea_cons (ev_var rfl) (ea_cons (ev_op (ev_var rfl) ev_int (rv_ixT at5)) ea_nil)) ⟨o, r, rfl, lo, rfl⟩) ea_nil)) (by simp)) rfl
      · refine wp_seq (wp_if (b := false) (evt_is (et_test (ev_op (ev_op (ev_var rfl) ev_int (rv_ixT at0)) ev_str rv_eqS)) (by decide)) (fun h => by cases h) fun _ => wp_next ?_)
        refine wp_seq (wp_if (b := false) (evt_is (et_test (ev_op (ev_op (ev_var rfl) ev_int (rv_ixT at0)) ev_str rv_eqS)) (by decide)) (fun h => by cases h) fun _ => wp_next ?_)
        exact wp_ret (ev_tup (ea_cons (ev_call (ea_cons (ev_var rfl) (ea_cons (ev_op (ev_var rfl) ev_int (rv_ixT at5)) ea_nil)) ⟨h, r, rfl, lh, rfl⟩) (ea_cons (ev_call (ea_cons (ev_var rfl) (ea_cons (ev_var rfl) (ea_cons (ev_op (ev_var rfl) ev_int (rv_ixT at5)) ea_nil))) ⟨rights, o, r, rfl, lr, rfl⟩) ea_nil)) (by simp)) rfl
/-! founded -/
theorem lookup_rel {env : PySem.Env} : ∀ {names : List (Str × NameKind)} {x : Str} {k : NameKind}, names.lookup x = some k → (k = .cell ∨ k = .free) →
    (names.map fun (n, k) => if (k == NameKind.free && env.scope.kind == .function && env.kindOf n == some .cell) then (n, NameKind.cell) else (n, k)).lookup x = some .cell ∨
    (names.map fun (n, k) => if (k == NameKind.free && env.scope.kind == .function && env.kindOf n == some .cell) then (n, NameKind.cell) else (n, k)).lookup x = some .free
  | [], _, _, h, _ => by cases h
  | (n, m) :: r, x, k, h, hk => by
    rw [List.map_cons]
    show List.lookup x ((if (m == NameKind.free && env.scope.kind == .function && env.kindOf n == some .cell) = true then (n, NameKind.cell) else (n, m)) :: _) = _ ∨ List.lookup x ((if (m == NameKind.free && env.scope.kind == .function && env.kindOf n == some .cell) = true then (n, NameKind.cell) else (n, m)) :: _) = _
    rw [List.lookup_cons] at h
    by_cases c : (m == NameKind.free && env.scope.kind == .function && env.kindOf n == some .cell) = true
    · rw [if_pos c, List.lookup_cons]
      cases e : x == n with
      | true => exact .inl rfl
      | false =>
        rw [e] at h
        exact lookup_rel h hk
    · rw [if_neg c, List.lookup_cons]
      cases e : x == n with
      | true =>
        rw [e] at h
        cases h
        rcases hk with rfl | rfl
        · exact .inl rfl
        · exact .inr rfl
      | false =>
        rw [e] at h
        exact lookup_rel h hk
theorem blkOk_rel {N : List Str} {sc scope : Scope} {own : List (Str × Nat)} {env : PySem.Env} (h : BlkOk N sc scope own) : BlkOk N (relabel sc env) scope own where
  kind := h.kind
  uniq := h.uniq
  ix := h.ix
  free := fun y hy e => by
    rcases h.free y hy e with k | k
    · exact lookup_rel k (.inl rfl)
    · exact lookup_rel k (.inr rfl)
  own := h.own
def R_lfounded : List Da → Da → Prop := fun ds d => ∃ p : Parts, ds = [partsD p] ∧ PartsOk p ∧ d = pplD p.founders
theorem ok_lfounded (T : Txt w K mg) : Cal P w K mg base "_law_founded" (He.ga K "_law_founded") 1 ["_law_charter"] (spP K R_lfounded) := by
  obtain ⟨fd, F⟩ := T.d_l_founded
  refine ⟨⟨fd, fn_pure F sc_l_founded (fun ds d h => ?_) fun cdv A outer s H E hr => ⟨_, (pss_one (ps_ret (pe_lc (own := [("_law_founder", 2)]) rfl sc_l_founded.nd (pi_seqK K rfl (pe_ix (ix_K K rfl) (pv 0) pe_int (fun _ _ => rfl))) (blkOk_by (own := [("_law_founder", 2)]) (N := ["_law_charter", "_law_right", "_law_founder"]) (sc := defScope s_l_founded) (by decide +kernel)) (fun _ _ _ _ _ => (pg_name (i := 2) sc_l_founded.nd rfl (by first | exact Or.inl rfl | exact Or.inr rfl))) (fun _ _ _ _ _ => pts_nil) (fun _ _ _ _ _ => (pe_lst (pa_cons (pe_ix (ix_K K rfl) (pv 2) pe_int (fun _ _ => rfl)) (pa_cons (pe_callTy (call_tupK K rfl) (by rfl) T.f_tuple (by decide +kernel) (pa_cons (pe_lc (own := [("_law_right", 1)]) rfl sc_l_founded.nd (pi_seqK K rfl (pe_ix (ix_K K rfl) (pv 0) pe_int (fun _ _ => rfl))) (blkOk_rel (blkOk_by (own := [("_law_right", 1)]) (N := ["_law_charter", "_law_right", "_law_founder"]) (by decide +kernel))) (fun _ _ _ _ _ => (pg_name (i := 1) sc_l_founded.nd rfl (by first | exact Or.inl rfl | exact Or.inr rfl))) (fun _ _ _ _ _ => (pts_one (pt_cmpR (op_inK K rfl) (pv 1) (pe_ix (ix_K K rfl) (pv 2) pe_int (fun _ _ => rfl)) rfl))) (fun _ _ _ _ _ => (pv 1))) pa_nil)) pa_nil))))))), fun ds d h => ?_⟩, F.bindsN fun _ _ _ _ _ _ us hl => match us, hl with | [_], _ => rfl⟩, T.m_l_founded, F.kp⟩
  · obtain ⟨_, rfl, _⟩ := h
    rfl
  · obtain ⟨p, rfl, W, rfl⟩ := h
    have l6 := W.so.ln
    have f3 := W.f3
    refine wp_ret (ev_lcA fD p.founders (it_seqL (ev_op (ev_var rfl) ev_int (rv_ixL at2))) (by omega) peD (by simp) fun i f hf => ?_) rfl
    have ho := W.fo f (List.mem_of_getElem? hf)
    refine ev_lst (ea_cons (ev_op (ev_var rfl) ev_int (rv_ixT at0)) (ea_cons (ev_is (ev_cb (ea_cons (ev_lcM .str p.rights (js := [1]) (it_seqL (ev_op (ev_var rfl) ev_int (rv_ixL at0))) (by omega) (fun r => decide (r ∈ f.2)) .str (by simp) fun j o _ => tg_name ⟨et_test (ev_op (ev_var rfl) (ev_op (ev_var rfl) ev_int (rv_ixT at1)) rv_isT), fun _ => ev_var rfl⟩) ea_nil) rc_tupL) (by rw [ho.1])) ea_nil)) (by simp)
/-! fresh -/
def freshF (ns : SL) : Nat → Str → Str
  | 0, s => s
  | n + 1, s => freshF ns n (if s ∈ ns then s ++ (Str.ofString "q") else s)
theorem fresh_len (ns : SL) : ∀ (n : Nat) (s : Str), (freshF ns n s).length ≤ s.length + n
  | 0, _ => Nat.le_refl _
  | n + 1, s => by
    have h1 : (Str.ofString "q").length = 1 := by decide +kernel
    have h2 : (s ++ (Str.ofString "q")).length = s.length + 1 := by rw [← tl_len, tl_app, List.length_append, tl_len, tl_len, h1]
    show (freshF ns n (if s ∈ ns then s ++ (Str.ofString "q") else s)).length ≤ _
    by_cases c : s ∈ ns
    · rw [if_pos c]
      have := fresh_len ns n (s ++ (Str.ofString "q"))
      omega
    · rw [if_neg c]
      have := fresh_len ns n s
      omega
theorem fresh_step (ns : SL) : ∀ (n : Nat) (s : Str), freshF ns (n + 1) s = if freshF ns n s ∈ ns then freshF ns n s ++ (Str.ofString "q") else freshF ns n s
  | 0, s => rfl
  | n + 1, s => fresh_step ns n (if s ∈ ns then s ++ (Str.ofString "q") else s)
def R_lfresh : List Da → Da → Prop := fun ds d => ∃ (ns : SL) (s : Str), ds = [strsL ns, .str s] ∧ s.length ≤ 1000 ∧ d = .str (freshF ns 9 s)
theorem ok_lfresh (T : Txt w K mg) : Cal P w K mg base "_law_fresh" (He.ga K "_law_fresh") 1 ["_law_names_here", "_law_start"] (spP K R_lfresh) := by
  obtain ⟨fd, F⟩ := T.d_l_fresh
  refine ⟨⟨fd, fn_pure F sc_l_fresh (fun ds d h => ?_) fun cdv A outer s H E hr => ⟨_, (pss_cons (ps_set (i := 2) sc_l_fresh.nd rfl (by first | exact Or.inl rfl | exact Or.inr rfl) (pv 1)) (pss_cons (ps_for PassesOwn.never rfl (pi_range1 rfl T.f_range (pa_cons pe_int pa_nil)) (pg_name (i := 3) sc_l_fresh.nd rfl (by first | exact Or.inl rfl | exact Or.inr rfl)) (pss_one (ps_if (pt_cmpR (op_inK K rfl) (pv 2) (pv 0) rfl) (pss_one (ps_set (i := 2) sc_l_fresh.nd rfl (by first | exact Or.inl rfl | exact Or.inr rfl) (pe_op (op_addK K rfl) (pv 2) pe_str))) pss_nil))) (pss_one (ps_ret (pv 2))))), fun ds d h => ?_⟩, F.bindsN fun _ _ _ _ _ _ us hl => match us, hl with | [_, _], _ => rfl⟩, T.m_l_fresh, F.kp⟩
  · obtain ⟨_, _, rfl, _⟩ := h
    rfl
  · obtain ⟨ns, s, rfl, hs, rfl⟩ := h
    refine wp_seq (wp_asg (ev_var rfl) ?_)
    refine wp_seq (wp_for (js := [3]) (it_range (n := 9) (ea_cons ev_int ea_nil) (by omega) (by omega)) (fun i Γ => ∃ a, Γ = [.dat (strsL ns), .dat (.str s), .dat (.str (freshF ns i s)), a]) ⟨_, rfl⟩ (fun i y Γ hy hΓ => ?_) fun Γ hΓ => ?_)
    · obtain ⟨a, rfl⟩ := hΓ
      obtain ⟨rfl, hi⟩ := take_range hy
      have hi9 : i < 9 := hi
      have hl := fresh_len ns i s
      have h1 : (Str.ofString "q").length = 1 := by decide +kernel
      refine tg_name (wp_if (et_test (ev_op (ev_var rfl) (ev_var rfl) rv_isL)) (fun hb => ?_) fun hb => wp_next ⟨.dat (.int (i : Int)), ?_⟩)
      · refine wp_asg (ev_op (ev_var rfl) ev_str (rv_addS (by omega))) ⟨.dat (.int (i : Int)), ?_⟩
        rw [fresh_step, if_pos (of_decide_eq_true hb)]
        rfl
      · rw [fresh_step, if_neg (of_decide_eq_false hb)]
        rfl
    · obtain ⟨a, rfl⟩ := hΓ
      exact wp_ret (ev_var rfl) rfl
/-! trusted -/
theorem map_inj' {α β : Type} {f : α → β} (hf : ∀ x y, f x = f y → x = y) : ∀ {l l' : List α}, l.map f = l'.map f → l = l'
  | [], [], _ => rfl
  | [], _ :: _, h => by cases h
  | _ :: _, [], h => by cases h
  | a :: l, b :: l', h => by
    rw [List.map_cons, List.map_cons] at h
    injection h with h1 h2
    rw [hf _ _ h1, map_inj' hf h2]
theorem str_inj (x y : Str) (h : Da.str x = Da.str y) : x = y := by injection h
theorem strsT_inj {a b : SL} (h : strsT a = strsT b) : a = b := by
  injection h with h
  exact map_inj' str_inj h
theorem strsL_inj {a b : SL} (h : strsL a = strsL b) : a = b := by
  injection h with h
  exact map_inj' str_inj h
theorem fD_inj (a b : Str × SL) (h : fD a = fD b) : a = b := by
  obtain ⟨x, l⟩ := a
  obtain ⟨y, m⟩ := b
  injection h with h
  injection h with h1 h2
  injection h2 with h2 _
  have e1 : x = y := str_inj _ _ h1
  have e2 : l = m := strsT_inj h2
  rw [e1, e2]
theorem da_inj (a b : Rl) (h : a.da = b.da) : a = b := by
  cases a <;> cases b <;> injection h with h <;> injection h with h1 h <;> injection h with h2 h <;> injection h with h3 h
  · rw [str_inj _ _ h2, strsT_inj h3]
  · cases h
  · cases h
  · cases h
  · injection h with h4 h
    injection h with h5 h
    rw [str_inj _ _ h1, str_inj _ _ h2, strsT_inj h3, strsT_inj h4, str_inj _ _ h5]
  · injection h with h4 h
    injection h with h5 h
    cases h
  · cases h
  · injection h with h4 h
    injection h with h5 h
    cases h
  · injection h with h4 h
    injection h with h5 h
    injection h with h6 h
    rw [str_inj _ _ h1, str_inj _ _ h2, strsT_inj h3, strsT_inj h4, strsT_inj h5, str_inj _ _ h6]
theorem parts_inj {p q : Parts} (h : partsD p = partsD q) : p = q := by
  obtain ⟨r1, s1, f1, u1⟩ := p
  obtain ⟨r2, s2, f2, u2⟩ := q
  injection h with h
  injection h with h1 h
  injection h with h2 h
  injection h with h3 h
  injection h with h4 h
  injection h3 with h3
  injection h4 with h4
  have e1 : r1 = r2 := strsL_inj h1
  have e2 : s1 = s2 := strsL_inj h2
  have e3 : f1 = f2 := map_inj' fD_inj h3
  have e4 : u1 = u2 := map_inj' da_inj h4
  subst e1 e2 e3 e4
  rfl
def A_ltrusted : List Da → Prop := fun ds => ∃ (p : Parts) (v : Int), ds = [partsD p, .int v] ∧ p.founders.length ≤ 3
def R_ltrusted : List Da → Da → Prop := fun ds d => ∀ (p : Parts) (v : Int), ds = [partsD p, .int v] → ∃ tr : SL, d = strsL tr ∧ (∀ t ∈ tr, t ∈ p.founders.map (·.1)) ∧ tr.length ≤ 3
theorem ok_ltrusted (T : Txt w K mg) : Cal P w K mg base "_law_trusted" (He.ga K "_law_trusted") 1 ["_law_parts_here", "_law_number"] (spX K A_ltrusted R_ltrusted) := by
  obtain ⟨fd, F⟩ := T.d_l_trusted
  refine ⟨⟨fd, fn_x F sc_l_trusted (fun ds h => ?_) fun cdv A outer s H E hr => ⟨_, (pss_cons (ps_set (i := 2) sc_l_trusted.nd rfl (by first | exact Or.inl rfl | exact Or.inr rfl) (pe_lst pa_nil)) (pss_cons (ps_set (i := 3) sc_l_trusted.nd rfl (by first | exact Or.inl rfl | exact Or.inr rfl) (pv 1)) (pss_cons (ps_for PassesOwn.never rfl (pi_seqK K rfl (pe_ix (ix_K K rfl) (pv 0) pe_int (fun _ _ => rfl))) (pg_name (i := 4) sc_l_trusted.nd rfl (by first | exact Or.inl rfl | exact Or.inr rfl)) (pss_cons (ps_if (pt_cmpR op_eq (pe_op op_mod (pe_callTy call_intG (by rfl) T.f_int (by decide +kernel) (pa_cons (pv 3) pa_nil)) pe_int) pe_int (nomark _)) (pss_one (ps_expr (pe_bm PySem.F.plainAttrs_list PySem.F.slot_list_append PySem.F.type_list_append mt_append (pv 2) (pa_cons (pe_ix (ix_K K rfl) (pv 4) pe_int (fun _ _ => rfl)) pa_nil)))) pss_nil) (pss_one (ps_set (i := 3) sc_l_trusted.nd rfl (by first | exact Or.inl rfl | exact Or.inr rfl) (pe_op op_fdiv (pv 3) pe_int))))) (pss_one (ps_ret (pv 2)))))), fun ds h => ?_⟩, F.bindsN fun _ _ _ _ _ _ us hl => match us, hl with | [_, _], _ => rfl⟩, T.m_l_trusted, F.kp⟩
  · obtain ⟨_, _, rfl, _⟩ := h
    rfl
  · obtain ⟨p, v, rfl, f3⟩ := h
    refine wp_seq (wp_asgO (eo_lst ea_nil (by simp)) ?_)
    refine wp_seq (wp_asg (ev_var rfl) ?_)
    refine wp_seq (wp_for (js := [4]) (xs := p.founders.map fD) (it_seqL (ev_op (ev_var rfl) ev_int (rv_ixL at2))) (fun i Γ => ∃ (tr : SL) (m : Int) (a : Sl), Γ = [.dat (partsD p), .dat (.int v), .own (tr.map .str), .dat (.int m), a] ∧ tr.length ≤ i ∧ ∀ t ∈ tr, t ∈ p.founders.map (·.1)) ⟨[], v, _, rfl, Nat.le_refl _, fun _ h => by cases h⟩ (fun i y Γ hy hΓ => ?_) fun Γ hΓ => ?_)
    · obtain ⟨tr, m, a, rfl, hl, ht⟩ := hΓ
      obtain ⟨f, hf, rfl⟩ := take_map hy
      have hi : i < p.founders.length := (List.getElem?_eq_some_iff.mp hf).1
      refine tg_name (wp_mid (fun Γ' => ∃ (tr : SL) (m : Int) (a : Sl), Γ' = [.dat (partsD p), .dat (.int v), .own (tr.map .str), .dat (.int m), a] ∧ tr.length ≤ i + 1 ∧ ∀ t ∈ tr, t ∈ p.founders.map (·.1)) (wp_if (et_test (ev_op (ev_mod (ev_intI (ev_var rfl)) ev_int (by omega)) ev_int rv_eqI)) (fun _ => ?_) fun _ => wp_next ⟨tr, m, _, rfl, by omega, ht⟩) fun Γ' hΓ => ?_)
      · refine wp_app rfl (ev_op (ev_var rfl) ev_int (rv_ixT at0)) (by rw [List.length_map]; omega) ⟨tr ++ [f.1], m, _, by rw [List.map_append]; rfl, by rw [List.length_append]; simp; omega, fun t h => ?_⟩
        rcases List.mem_append.mp h with h | h
        · exact ht t h
        · rw [List.mem_singleton.mp h]
          exact List.mem_map_of_mem (List.mem_of_getElem? hf)
      · obtain ⟨tr, m, a, rfl, hl, ht⟩ := hΓ
        exact wp_asg (ev_div (ev_var rfl) ev_int (by omega)) ⟨tr, _, _, rfl, hl, ht⟩
    · obtain ⟨tr, m, a, rfl, hl, ht⟩ := hΓ
      rw [List.length_map] at hl
      refine wp_frz (wp_ret (ev_var rfl) fun p' v' e => ?_)
      injection e with e _
      have := parts_inj e
      subst this
      exact ⟨tr, rfl, ht, by omega⟩
end
end WM

/-! ## L5 -/
set_option maxHeartbeats 4000000
namespace WM
open PySem PySem.Spec PyProof.Rows L2
theorem idx_of {x : Str} {h : SL} : ∀ {q : Ppl}, q.lookup x = some h → ∃ i, q[i]? = some (x, h) ∧ ∀ (m : Nat) v, m < i → q[m]? = some v → v.1 ≠ x
  | [], e => by cases e
  | (y, l) :: q, e => by
    rw [List.lookup_cons] at e
    by_cases c : x = y
    · subst c
      rw [beq_self_eq_true] at e
      cases e
      exact ⟨0, rfl, fun m v h => by omega⟩
    · rw [beq_eq_false_iff_ne.mpr c] at e
      obtain ⟨i, h1, h2⟩ := idx_of (q := q) e
      refine ⟨i + 1, h1, fun m v hm hv => ?_⟩
      cases m with
      | zero =>
        rw [← Option.some.inj hv]
        exact fun e => c e.symm
      | succ m => exact h2 m v (by omega) hv
theorem names_ne {q : Ppl} (nd : (q.map (·.1)).Nodup) {i j : Nat} {a b : Str × SL} (hi : q[i]? = some a) (hj : q[j]? = some b) (hij : i ≠ j) : a.1 ≠ b.1 := fun e => by
  obtain ⟨i1, i2⟩ := List.getElem?_eq_some_iff.mp hi
  obtain ⟨j1, j2⟩ := List.getElem?_eq_some_iff.mp hj
  rcases Nat.lt_or_ge i j with h | h
  · have := List.pairwise_iff_getElem.mp nd i j (by rw [List.length_map]; exact i1) (by rw [List.length_map]; exact j1) h
    rw [List.getElem_map, List.getElem_map, i2, j2] at this
    exact this e
  · have := List.pairwise_iff_getElem.mp nd j i (by rw [List.length_map]; exact j1) (by rw [List.length_map]; exact i1) (by omega)
    rw [List.getElem_map, List.getElem_map, i2, j2] at this
    exact this e.symm
theorem setP_at {q : Ppl} (nd : (q.map (·.1)).Nodup) {i : Nat} {x : Str} {h l : SL} (hi : q[i]? = some (x, h)) : setP q x l = q.set i (x, l) := by
  have ha : (q.any fun v => decide (v.1 = x)) = true := List.any_eq_true.mpr ⟨(x, h), List.mem_of_getElem? hi, decide_eq_true rfl⟩
  unfold setP
  rw [if_pos ha]
  refine List.ext_getElem? fun j => ?_
  rw [List.getElem?_map]
  by_cases c : i = j
  · subst c
    rw [hi, List.getElem?_set_self (List.getElem?_eq_some_iff.mp hi).1]
    show some (if x = x then (x, l) else (x, h)) = _
    rw [if_pos rfl]
  · rw [List.getElem?_set_ne c]
    cases e : q[j]? with
    | none => rfl
    | some v =>
      have := names_ne nd hi e c
      show some (if v.1 = x then (v.1, l) else v) = _
      rw [if_neg (fun e2 => this e2.symm)]
theorem setP_new {q : Ppl} {x : Str} {l : SL} (h : q.lookup x = none) : setP q x l = q ++ [(x, l)] := by
  unfold setP
  rw [any_lookup, h]
  rfl
theorem setP_same {q : Ppl} (nd : (q.map (·.1)).Nodup) {x : Str} {h : SL} (e : q.lookup x = some h) : setP q x h = q := by
  obtain ⟨i, hi, _⟩ := idx_of e
  rw [setP_at nd hi]
  refine List.ext_getElem? fun j => ?_
  by_cases c : i = j
  · subst c; rw [List.getElem?_set_self (List.getElem?_eq_some_iff.mp hi).1, hi]
  · rw [List.getElem?_set_ne c]
theorem set_names {q : Ppl} {i : Nat} {x : Str} {h l : SL} (hi : q[i]? = some (x, h)) : (q.set i (x, l)).map (·.1) = q.map (·.1) := by
  refine List.ext_getElem? fun j => ?_
  rw [List.getElem?_map, List.getElem?_map]
  by_cases c : i = j
  · subst c; rw [List.getElem?_set_self (List.getElem?_eq_some_iff.mp hi).1, hi]; rfl
  · rw [List.getElem?_set_ne c]
theorem mem_names {q : Ppl} {x : Str} : (x ∈ q.map (·.1)) ↔ (q.lookup x).isSome = true := by
  rw [← any_lookup, List.any_eq_true]
  constructor
  · intro h
    obtain ⟨v, hv, e⟩ := List.mem_map.mp h
    exact ⟨v, hv, decide_eq_true e⟩
  · rintro ⟨v, hv, e⟩
    exact List.mem_map.mpr ⟨v, hv, of_decide_eq_true e⟩
theorem with_put (rights h : SL) (r : Str) : withF rights h r = rights.filter fun z => decide (z ∈ h ++ [r]) := by
  unfold withF
  refine List.filter_congr fun z _ => ?_
  rw [← Bool.decide_or]
  exact decide_eq_decide.mpr (by simp)
theorem doU_solo {rights : SL} {q : Ppl} {a : Act} {k n : Str} {x y : SL} {r : Str} {h : SL} (e : q.lookup a.actor = some h) : doU rights q a (.solo k n x y r) = setP q a.actor (chS1 rights k r h) := by
  have g : getP q a.actor = h := by unfold getP; rw [e]; rfl
  unfold doU chS1
  show (if k = "claim" then putR rights q a.actor r else cutR q a.actor r) = _
  by_cases c : k = "claim"
  · rw [if_pos c, if_pos c, with_put]
    unfold putR
    rw [g]
  · rw [if_neg c, if_neg c]
    unfold cutR lessF
    rw [g]
theorem doU_duo {rights : SL} {q : Ppl} (nd : (q.map (·.1)).Nodup) {a : Act} {k n : Str} {x y z : SL} {r t : Str} {h o : SL} (hk : k = "give" ∨ k = "take" ∨ k = "pass") (e0 : a.tgt = some t) (e : q.lookup a.actor = some h) (e2 : q.lookup t = some o) (ne : t ≠ a.actor) :
    doU rights q a (.duo k n x y z r) = setP (setP q a.actor (chA k r h)) t (chT rights k r o) := by
  have g : getP q a.actor = h := by unfold getP; rw [e]; rfl
  have g2 : getP q t = o := by unfold getP; rw [e2]; rfl
  show (if k = "take" then cutR q (a.tgt.getD "") r else if k = "pass" then putR rights (cutR q a.actor r) (a.tgt.getD "") r else putR rights q (a.tgt.getD "") r) = _
  rw [e0]
  show (if k = "take" then cutR q t r else if k = "pass" then putR rights (cutR q a.actor r) t r else putR rights q t r) = _
  unfold chA chT
  rcases hk with rfl | rfl | rfl
  · rw [if_neg (by decide), if_neg (by decide), if_neg (by decide), if_neg (by decide), setP_same nd e, with_put]
    unfold putR
    rw [g2]
  · rw [if_pos rfl, if_neg (by decide), if_pos rfl, setP_same nd e]
    unfold cutR lessF
    rw [g2]
  · rw [if_neg (by decide), if_pos rfl, if_pos rfl, if_neg (by decide), with_put]
    have g3 : getP (cutR q a.actor r) t = o := by
      unfold getP cutR
      rw [setP_lookup, if_neg ne, e2]; rfl
    unfold putR
    rw [g3]
    unfold cutR lessF
    rw [g]
structure QOk (p : Parts) (q : Ppl) : Prop where
  nd : (q.map (·.1)).Nodup
  ok : PplOk p q
theorem find_head {α : Type} {f : α → Bool} {l : List α} {u : α} (h : l.find? f = some u) : ∃ r, l.filter f = u :: r := by
  cases e : l.filter f with
  | nil =>
    have := List.mem_filter.mpr ⟨List.mem_of_find?_eq_some h, List.find?_some h⟩
    rw [e] at this
    cases this
  | cons x r =>
    have h2 : (l.filter f).head? = l.find? f := List.head?_filter ..
    rw [h, e] at h2
    rw [← Option.some.inj h2]
    exact ⟨r, rfl⟩
def metL : List Dem → Ppl → Bool
  | [], _ => true
  | d :: ds, q => (List.range q.length).any fun k => (match q[k]? with
    | some v => whoF d.who v.1 && fitsF v.2 d.has d.no
    | none => false) && metL ds (q.take k ++ q.drop (k + 1))
def metStep (d : Dem) (ds : List Dem) (q : Ppl) (k : Nat) : Bool := (match q[k]? with
    | some v => whoF d.who v.1 && fitsF v.2 d.has d.no
    | none => false) && metL ds (q.take k ++ q.drop (k + 1))
theorem metL_cons (d : Dem) (ds : List Dem) (q : Ppl) : metL (d :: ds) q = (List.range q.length).any (metStep d ds q) := rfl
section
variable {P : Program} {w : World} {K : PySem.W.Frag} {mg : Str → Option Value} {base : Heap} {Γ : List Sl} {ta tb : TE}
def R_lacted : List Da → Da → Prop := fun ds d => ∃ (p : Parts) (tr : SL) (q : Ppl) (a : Act), ds = [partsD p, pplD q, a.da] ∧ PartsOk p ∧ QOk p q ∧ Can p tr q a ∧ d = pplD (doP p q a)
theorem ev_idx {q : Ppl} {x : Str} {h : SL} {i j : Nat} {te : TE} (hj : Γ[j]? = some (.dat (strsL (q.map (·.1))))) (e : Ev K te Γ (.str x)) (hi : q[i]? = some (x, h)) (hn : ∀ (m : Nat) v, m < i → q[m]? = some v → v.1 ≠ x) :
    Ev K (tBM K "list" (rIndex K) (tVar j) (tCons te tNil)) Γ (.int (i : Nat)) := by
  refine ev_index (ev_var hj) (ea_cons e ea_nil) rfl (strs_flat _) (j := i) (z := .str x) (by rw [List.getElem?_map, List.getElem?_map, hi]; rfl) ?_ fun m z' hm hz => ?_
  · show eqV (.str x) (.str x) = true
    exact decide_eq_true rfl
  · rw [List.getElem?_map, List.getElem?_map] at hz
    cases e2 : q[m]? with
    | none => rw [e2] at hz; cases hz
    | some v =>
      rw [e2] at hz
      rw [← Option.some.inj hz]
      show eqV (.str v.1) (.str x) = false
      have := hn m v hm e2
      have h1 : decide (v.1 = x) = false := decide_eq_false this
      exact h1
theorem ok_lacted (T : Txt w K mg) (G_l_allows : Cal P w K mg base "_law_allows" (He.ga K "_law_allows") 2 ["_law_rule_here", "_law_actor", "_law_target"] (spP K R_lallows))
    (G_l_changed : Cal P w K mg base "_law_changed" (He.ga K "_law_changed") 2 ["_law_rights", "_law_rule_here", "_law_actor", "_law_target"] (spP K R_lchanged)) :
    Cal P w K mg base "_law_acted" (He.ga K "_law_acted") 3 ["_law_charter", "_law_people", "_law_action"] (spP K R_lacted) := by
  obtain ⟨fd, F⟩ := T.d_l_acted
  obtain ⟨fd1, F_l_allows, b_l_allows⟩ := G_l_allows.ex
  obtain ⟨fd2, F_l_changed, b_l_changed⟩ := G_l_changed.ex
  refine ⟨⟨fd, fn_pure F sc_l_acted (fun ds d h => ?_) fun cdv A outer s H E hr => ⟨_, (pss_cons (ps_setLc (i := 3) (own := [("_law_rule_here", 4)]) rfl sc_l_acted.nd rfl rfl (sw_true rfl rfl rfl (by decide +kernel)) (pi_seqK K rfl (pe_ix (ix_K K rfl) (pv 0) pe_int (fun _ _ => rfl))) (blkOk_by (own := [("_law_rule_here", 4)]) (N := ["_law_charter", "_law_people", "_law_action", "_law_rules", "_law_rule_here", "_law_names_here", "_law_person", "_law_right", "_law_actor", "_law_after", "_law_target", "_law_first", "_law_second"]) (sc := defScope s_l_acted) (by decide +kernel)) (fun _ _ _ _ _ => (pg_name (i := 4) sc_l_acted.nd rfl (by first | exact Or.inl rfl | exact Or.inr rfl))) (fun _ _ _ _ _ => (pts_one (pt_cmpR op_eq (pe_ix (ix_K K rfl) (pv 4) pe_int (fun _ _ => rfl)) (pe_ix (ix_K K rfl) (pv 2) pe_int (fun _ _ => rfl)) (nomark _)))) (fun _ _ _ _ _ => (pv 4))) (pss_cons (ps_setLc (i := 5) (own := [("_law_person", 6)]) rfl sc_l_acted.nd rfl rfl (sw_true rfl rfl rfl (by decide +kernel)) (pi_seqK K rfl (pv 1)) (blkOk_by (own := [("_law_person", 6)]) (N := ["_law_charter", "_law_people", "_law_action", "_law_rules", "_law_rule_here", "_law_names_here", "_law_person", "_law_right", "_law_actor", "_law_after", "_law_target", "_law_first", "_law_second"]) (sc := defScope s_l_acted) (by decide +kernel)) (fun _ _ _ _ _ => (pg_name (i := 6) sc_l_acted.nd rfl (by first | exact Or.inl rfl | exact Or.inr rfl))) (fun _ _ _ _ _ => pts_nil) (fun _ _ _ _ _ => (pe_ix (ix_K K rfl) (pv 6) pe_int (fun _ _ => rfl)))) (pss_cons (ps_if (pt_cmpR op_eq (pe_callB (call_lenK K rfl) (by rfl) T.f_len (by decide +kernel) (pa_cons (pv 3) pa_nil)) pe_int (nomark _)) (pss_one (ps_ret pe_non)) pss_nil) (pss_cons (ps_set (i := 4) sc_l_acted.nd rfl (by first | exact Or.inl rfl | exact Or.inr rfl) (pe_ix (ix_K K rfl) (pv 3) pe_int (fun _ _ => rfl))) (pss_cons (ps_if (pt_cmpR op_eq (pe_ix (ix_K K rfl) (pv 4) pe_int (fun _ _ => rfl)) pe_str (nomark _)) (pss_cons (ps_if (PW.pt (pw_or (pt_cmpR (op_inK K rfl) (pe_ix (ix_K K rfl) (pv 2) pe_int (fun _ _ => rfl)) (pv 5) rfl) (pw_or1 (pt_cmpR op_notN1 (pe_ix (ix_K K rfl) (pv 2) pe_int (fun _ _ => rfl)) pe_non (nomark _))))) (pss_one (ps_ret pe_non)) pss_nil) (pss_one (ps_ret (pe_op (op_addK K rfl) (pv 1) (pe_lst (pa_cons (pe_lst (pa_cons (pe_ix (ix_K K rfl) (pv 2) pe_int (fun _ _ => rfl)) (pa_cons (pe_callTy (call_tupK K rfl) (by rfl) T.f_tuple (by decide +kernel) (pa_cons (pe_lc (own := [("_law_right", 7)]) rfl sc_l_acted.nd (pi_seqK K rfl (pe_ix (ix_K K rfl) (pv 0) pe_int (fun _ _ => rfl))) (blkOk_by (own := [("_law_right", 7)]) (N := ["_law_charter", "_law_people", "_law_action", "_law_rules", "_law_rule_here", "_law_names_here", "_law_person", "_law_right", "_law_actor", "_law_after", "_law_target", "_law_first", "_law_second"]) (sc := defScope s_l_acted) (by decide +kernel)) (fun _ _ _ _ _ => (pg_name (i := 7) sc_l_acted.nd rfl (by first | exact Or.inl rfl | exact Or.inr rfl))) (fun _ _ _ _ _ => (pts_one (pt_cmpR (op_inK K rfl) (pv 7) (pe_ix (ix_K K rfl) (pv 4) pe_int (fun _ _ => rfl)) rfl))) (fun _ _ _ _ _ => (pv 7))) pa_nil)) pa_nil))) pa_nil)))))) pss_nil) (pss_cons (ps_if (PW.pt (pw_or (pt_cmpR (op_niK K rfl) (pe_ix (ix_K K rfl) (pv 2) pe_int (fun _ _ => rfl)) (pv 5) rfl) (pw_or1 (pt_cmpR op_ne (pe_cmpR op_isN1 (pe_ix (ix_K K rfl) (pv 2) pe_int (fun _ _ => rfl)) pe_non (nomark _)) (pe_cmpR (op_inK K rfl) (pe_ix (ix_K K rfl) (pv 4) pe_int (fun _ _ => rfl)) (pe_lst (pa_cons pe_str (pa_cons pe_str pa_nil))) rfl) (nomark _))))) (pss_one (ps_ret pe_non)) pss_nil) (pss_cons (ps_set (i := 8) sc_l_acted.nd rfl (by first | exact Or.inl rfl | exact Or.inr rfl) (pe_bm PySem.F.plainAttrs_list PySem.F.slot_list_index PySem.F.type_list_index (mt_indexK K rfl) (pv 5) (pa_cons (pe_ix (ix_K K rfl) (pv 2) pe_int (fun _ _ => rfl)) pa_nil))) (pss_cons (ps_setLc (i := 9) (own := [("_law_person", 6)]) rfl sc_l_acted.nd rfl rfl (sw_true rfl rfl rfl (by decide +kernel)) (pi_seqK K rfl (pv 1)) (blkOk_by (own := [("_law_person", 6)]) (N := ["_law_charter", "_law_people", "_law_action", "_law_rules", "_law_rule_here", "_law_names_here", "_law_person", "_law_right", "_law_actor", "_law_after", "_law_target", "_law_first", "_law_second"]) (sc := defScope s_l_acted) (by decide +kernel)) (fun _ _ _ _ _ => (pg_name (i := 6) sc_l_acted.nd rfl (by first | exact Or.inl rfl | exact Or.inr rfl))) (fun _ _ _ _ _ => pts_nil) (fun _ _ _ _ _ => (pe_callTy (call_lstK K rfl) (by rfl) T.f_list (by decide +kernel) (pa_cons (pv 6) pa_nil)))) (pss_cons (ps_if (pt_cmpR op_isN1 (pe_ix (ix_K K rfl) (pv 2) pe_int (fun _ _ => rfl)) pe_non (nomark _)) (pss_cons (ps_if (pt_not (pt_val (pe_call F_l_allows (hr.mono (by decide)) rfl G_l_allows.m G_l_allows.kp b_l_allows .nil pass0 (pa_cons (pv 4) (pa_cons (pe_ix (ix_K K rfl) (pe_ix (ix_K K rfl) (pv 1) (pv 8) (fun _ _ => rfl)) pe_int (fun _ _ => rfl)) (pa_cons pe_non pa_nil)))))) (pss_one (ps_ret pe_non)) pss_nil) (pss_cons (ps_asg (pe_lst (pa_cons (pe_ix (ix_K K rfl) (pv 2) pe_int (fun _ _ => rfl)) (pa_cons (pe_ix (ix_K K rfl) (pe_call F_l_changed (hr.mono (by decide)) rfl G_l_changed.m G_l_changed.kp b_l_changed .nil pass0 (pa_cons (pe_ix (ix_K K rfl) (pv 0) pe_int (fun _ _ => rfl)) (pa_cons (pv 4) (pa_cons (pe_ix (ix_K K rfl) (pe_ix (ix_K K rfl) (pv 1) (pv 8) (fun _ _ => rfl)) pe_int (fun _ _ => rfl)) (pa_cons pe_non pa_nil))))) pe_int (fun _ _ => rfl)) pa_nil))) (pg_sub (pv 9) (pv 8) set_list)) (pss_one (ps_ret (pv 9))))) pss_nil) (pss_cons (ps_if (PW.pt (pw_or (pt_cmpR (op_niK K rfl) (pe_ix (ix_K K rfl) (pv 2) pe_int (fun _ _ => rfl)) (pv 5) rfl) (pw_or1 (pt_cmpR op_eq (pe_ix (ix_K K rfl) (pv 2) pe_int (fun _ _ => rfl)) (pe_ix (ix_K K rfl) (pv 2) pe_int (fun _ _ => rfl)) (nomark _))))) (pss_one (ps_ret pe_non)) pss_nil) (pss_cons (ps_set (i := 10) sc_l_acted.nd rfl (by first | exact Or.inl rfl | exact Or.inr rfl) (pe_bm PySem.F.plainAttrs_list PySem.F.slot_list_index PySem.F.type_list_index (mt_indexK K rfl) (pv 5) (pa_cons (pe_ix (ix_K K rfl) (pv 2) pe_int (fun _ _ => rfl)) pa_nil))) (pss_cons (ps_if (pt_not (pt_val (pe_call F_l_allows (hr.mono (by decide)) rfl G_l_allows.m G_l_allows.kp b_l_allows .nil pass0 (pa_cons (pv 4) (pa_cons (pe_ix (ix_K K rfl) (pe_ix (ix_K K rfl) (pv 1) (pv 8) (fun _ _ => rfl)) pe_int (fun _ _ => rfl)) (pa_cons (pe_ix (ix_K K rfl) (pe_ix (ix_K K rfl) (pv 1) (pv 10) (fun _ _ => rfl)) pe_int (fun _ _ => rfl)) pa_nil)))))) (pss_one (ps_ret pe_non)) pss_nil) (pss_cons (ps_asg (pe_call F_l_changed (hr.mono (by decide)) rfl G_l_changed.m G_l_changed.kp b_l_changed .nil pass0 (pa_cons (pe_ix (ix_K K rfl) (pv 0) pe_int (fun _ _ => rfl)) (pa_cons (pv 4) (pa_cons (pe_ix (ix_K K rfl) (pe_ix (ix_K K rfl) (pv 1) (pv 8) (fun _ _ => rfl)) pe_int (fun _ _ => rfl)) (pa_cons (pe_ix (ix_K K rfl) (pe_ix (ix_K K rfl) (pv 1) (pv 10) (fun _ _ => rfl)) pe_int (fun _ _ => rfl)) pa_nil))))) (pg_tupK (n := 2) K rfl rfl (pgs_cons (pg_name (i := 11) sc_l_acted.nd rfl (by first | exact Or.inl rfl | exact Or.inr rfl)) (pgs_cons (pg_name (i := 12) sc_l_acted.nd rfl (by first | exact Or.inl rfl | exact Or.inr rfl)) pgs_nil)))) (pss_cons (ps_asg (pe_lst (pa_cons (pe_ix (ix_K K rfl) (pv 2) pe_int (fun _ _ => rfl)) (pa_cons (pv 11) pa_nil))) (pg_sub (pv 9) (pv 8) set_list)) (pss_cons (ps_asg (pe_lst (pa_cons (pe_ix (ix_K K rfl) (pv 2) pe_int (fun _ _ => rfl)) (pa_cons (pv 12) pa_nil))) (pg_sub (pv 9) (pv 10) set_list)) (pss_one (ps_ret (pv 9)))))))))))))))))), fun ds d h => ?_⟩, F.bindsN fun _ _ _ _ _ _ us hl => match us, hl with | [_, _, _], _ => rfl⟩, T.m_l_acted, F.kp⟩
  · obtain ⟨_, _, _, _, rfl, _⟩ := h
    rfl
  · obtain ⟨p, tr, q, a, rfl, W, Q, ⟨u, hu, hc⟩, rfl⟩ := h
    have hd : doP p q a = doU p.rights q a u := by unfold doP; rw [hu]
    rw [hd]
    obtain ⟨nm, ac, tg⟩ := a
    obtain ⟨rest, hrest⟩ := find_head hu
    have hum := List.mem_of_find?_eq_some hu
    have u6 := W.u6
    have qn := Q.ok.n
    have l6 := W.so.ln
    have wf := W.uw u hum
    refine wp_seq (wp_asg (d := .lst ((u :: rest).map Rl.da)) (ev_is (ev_lcM Rl.da p.rules (js := [4]) (it_seqL (ev_op (ev_var rfl) ev_int (rv_ixL at3))) (by omega) (fun v => decide (v.name = nm)) Rl.da (by simp) fun i v _ => tg_name ⟨et_test (ev_op (rl_name rfl) (ev_op (ev_var rfl) ev_int (rv_ixT at0)) rv_eqS), fun _ => ev_var rfl⟩) (congrArg (fun l : List Rl => Da.lst (l.map Rl.da)) hrest)) ?_)
    refine wp_seq (wp_asg (d := strsL (q.map (·.1))) (ev_is (ev_lcA peD q (it_seqL (ev_var rfl)) (by omega) (fun v => .str v.1) (by simp) fun i v _ => ev_op (ev_var rfl) ev_int (rv_ixL at0)) (congrArg Da.lst (by rw [List.map_map]; rfl))) ?_)
    refine wp_seq (wp_if (b := false) (evt_is (et_test (ev_op (ev_cb (ea_cons (ev_var rfl) ea_nil) rc_lenL) ev_int rv_eqI)) (decide_eq_false (by simp; omega))) (fun h => by cases h) fun _ => wp_next ?_)
    refine wp_seq (wp_asg (d := u.da) (ev_op (ev_var rfl) ev_int (rv_ixL at0)) ?_)
    refine wp_cast (Γ' := [.dat (partsD p), .dat (pplD q), .dat (Act.da ⟨nm, ac, tg⟩), .dat (.lst ((u :: rest).map Rl.da)), .dat u.da, .dat (strsL (q.map (·.1))), .un, .un, .un, .un, .un, .un, .un]) ?_ rfl
    have a1 : ∀ Γ : List Sl, Γ[2]? = some (.dat (Act.da ⟨nm, ac, tg⟩)) → Ev K (tOp (rIx K) (tVar 2) (tC (.int 1))) Γ (.str ac) := fun Γ e => ev_op (ev_var e) ev_int (rv_ixT at1)
    have a2 : ∀ Γ : List Sl, Γ[2]? = some (.dat (Act.da ⟨nm, ac, tg⟩)) → Ev K (tOp (rIx K) (tVar 2) (tC (.int 2))) Γ (optD tg) := fun Γ e => ev_op (ev_var e) ev_int (rv_ixT at2)
    cases wf with
    | join hn ho hap =>
      rename_i n rs
      obtain ⟨h0, h1, h2⟩ := hc
      have h0' : tg = none := h0
      subst h0'
      have hnot : ac ∉ q.map (·.1) := fun hm => by
        have := mem_names.mp hm
        have h2' : q.lookup ac = none := h2
        rw [h2'] at this
        cases this
      refine wp_seq (wp_if (b := true) (evt_is (et_test (ev_op (rl_kind rfl) ev_str rv_eqS)) (decide_eq_true rfl)) (fun _ => ?_) fun h => by cases h)
      refine wp_seq (wp_if (b := false) (evt_is (et_or (et_test (ev_op (a1 _ rfl) (ev_var rfl) rv_isL)) fun _ => et_test (ev_op (a2 _ rfl) ev_non rv_notN)) (by rw [decide_eq_false hnot]; rfl)) (fun h => by cases h) fun _ => wp_next ?_)
      refine wp_ret (ev_is (ev_op (ev_var rfl) (ev_lst (ea_cons (ev_lst (ea_cons (a1 _ rfl) (ea_cons (ev_cb (ea_cons (ev_lcM .str p.rights (js := [7]) (it_seqL (ev_op (ev_var rfl) ev_int (rv_ixL at0))) (by omega) (fun r => decide (r ∈ rs)) .str (by simp) fun j o _ => tg_name ⟨et_test (ev_op (ev_var rfl) (ev_op (ev_var rfl) ev_int (rv_ixT at2)) rv_isT), fun _ => ev_var rfl⟩) ea_nil) rc_tupL) ea_nil)) (by simp)) ea_nil) (by simp)) (rv_addL (by simp; omega))) ?_) rfl
      show Da.lst (q.map peD ++ [.lst [.str ac, strsT (p.rights.filter fun r => decide (r ∈ rs))]]) = pplD (setP q ac rs)
      rw [ho.1, setP_new h2]
      show _ = Da.lst ((q ++ [(ac, rs)]).map peD)
      rw [List.map_append]
      rfl
    | solo hk hn ha hb hr1 hra hrb hap hcl =>
      rename_i k n x y r
      obtain ⟨h0, h, h1, h2, h3, h4⟩ := hc
      have h0' : tg = none := h0
      subst h0'
      have h1' : q.lookup ac = some h := h1
      obtain ⟨i, hi, hin⟩ := idx_of h1'
      have hil := (List.getElem?_eq_some_iff.mp hi).1
      have hmem : ac ∈ q.map (·.1) := mem_names.mpr (by rw [h1']; rfl)
      have hlen := Q.ok.len _ (lookup_mem h1')
      have hj : k ≠ "join" := by rcases hk with rfl | rfl <;> decide
      have hcd : k ∈ (["claim", "drop"] : SL) := by rcases hk with rfl | rfl <;> decide
      have lx := ord_len ha
      have ly := ord_len hb
      have hall : allowS k x y r h = true := by
        unfold allowS
        rw [h3]
        rcases hk with rfl | rfl
        · rw [if_pos rfl, h4]; decide
        · rw [if_neg (by decide), h4]; decide
      refine wp_seq (wp_if (b := false) (evt_is (et_test (ev_op (rl_kind rfl) ev_str rv_eqS)) (decide_eq_false hj)) (fun h => by cases h) fun _ => wp_next ?_)
      refine wp_seq (wp_if (b := false) (evt_is (et_or (et_test (ev_op (a1 _ rfl) (ev_var rfl) rv_noL)) fun _ => et_test (ev_op (ev_op (a2 _ rfl) ev_non rv_isN) (ev_op (ev_op (ev_var rfl) ev_int (rv_ixT at0)) (ev_lst (ea_cons ev_str (ea_cons ev_str ea_nil)) (by simp)) (rv_isL (ss := ["claim", "drop"]))) rv_neB)) (by rw [decide_eq_true hmem, decide_eq_true hcd]; rfl)) (fun h => by cases h) fun _ => wp_next ?_)
      refine wp_seq (wp_asg (ev_idx rfl (a1 _ rfl) hi hin) ?_)
      refine wp_seq (wp_asgO (l := q.map peD) (evo_is (eo_lcM peD q (js := [6]) (it_seqL (ev_var rfl)) (by omega) (fun _ => true) peD (by simp) fun m v _ => tg_name ⟨et_yes, fun _ => (eo_lstL (ea_cons (ev_var rfl) ea_nil)).ev⟩) (congrArg (List.map peD) (List.filter_eq_self.mpr fun _ _ => rfl))) ?_)
      refine wp_seq (wp_if (b := true) (evt_is (et_test (ev_op (a2 _ rfl) ev_non rv_isN)) rfl) (fun _ => ?_) fun h => by cases h)
      have pe1 : ∀ Γ : List Sl, Γ[1]? = some (.dat (pplD q)) → Γ[8]? = some (.dat (.int (i : Nat))) → Ev K (tOp (rIx K) (tOp (rIx K) (tVar 1) (tVar 8)) (tC (.int 1))) Γ (strsT h) := fun Γ e1 e8 => ev_op (ev_op (ev_var e1) (ev_var e8) (rv_ixL (atI_nat (v := peD (ac, h)) (by rw [List.getElem?_map, hi]; rfl)))) ev_int (rv_ixL at1)
      refine wp_seq (wp_if (b := false) (evt_is (et_not (et_B (ev_call (ea_cons (ev_var rfl) (ea_cons (pe1 _ rfl rfl) (ea_cons ev_non ea_nil))) (.inl ⟨k, n, x, y, r, h, .non, rfl, hk, by omega, by omega, rfl⟩)))) (by rw [hall]; rfl)) (fun h => by cases h) fun _ => wp_next ?_)
      refine wp_seq (wp_setO (j := i) rfl (ev_lst (ea_cons (a1 _ rfl) (ea_cons (ev_op (ev_call (ea_cons (ev_op (ev_var rfl) ev_int (rv_ixL at0)) (ea_cons (ev_var rfl) (ea_cons (pe1 _ rfl rfl) (ea_cons ev_non ea_nil)))) (.inl ⟨p.rights, k, n, x, y, r, h, .non, rfl, hk, by omega, hlen, rfl⟩)) ev_int (rv_ixT at0)) ea_nil)) (by simp)) (ev_var rfl) (by rw [List.length_map]; exact hil) ?_)
      refine wp_frz (wp_ret (ev_var rfl) ?_)
      show Da.lst ((q.map peD).set i (peD (ac, chS1 p.rights k r h))) = pplD (doU p.rights q ⟨nm, ac, none⟩ (.solo k n x y r))
      rw [doU_solo (a := ⟨nm, ac, none⟩) h1', setP_at Q.nd hi, ← List.map_set]
    | duo hk hn ha hb hc' hr1 hrb hrc hap hgv hps =>
      rename_i k n x y z r
      obtain ⟨t, h, o, h0, h1, h2, h3, h4, h5, h6, h7, h8⟩ := hc
      have h0' : tg = some t := h0
      subst h0'
      have h1' : q.lookup ac = some h := h1
      have h3' : t ≠ ac := h3
      obtain ⟨i, hi, hin⟩ := idx_of h1'
      obtain ⟨j, hj', hjn⟩ := idx_of h2
      have hil := (List.getElem?_eq_some_iff.mp hi).1
      have hjl := (List.getElem?_eq_some_iff.mp hj').1
      have hmem : ac ∈ q.map (·.1) := mem_names.mpr (by rw [h1']; rfl)
      have hmem2 : t ∈ q.map (·.1) := mem_names.mpr (by rw [h2]; rfl)
      have hlen := Q.ok.len _ (lookup_mem h1')
      have hlen2 := Q.ok.len _ (lookup_mem h2)
      have hj : k ≠ "join" := by rcases hk with rfl | rfl | rfl <;> decide
      have hcd : k ∉ (["claim", "drop"] : SL) := by rcases hk with rfl | rfl | rfl <;> decide
      have lx := ord_len ha
      have ly := ord_len hb
      have lz := ord_len hc'
      have hall : allowD k x y z r h o = true := by
        unfold allowD
        rw [h5, h6]
        rcases hk with rfl | rfl | rfl
        · rw [if_pos rfl, h8]; decide
        · rw [if_neg (by decide), if_pos rfl, h8]; decide
        · rw [if_neg (by decide), if_neg (by decide), decide_eq_true (h7 rfl)]; rfl
      refine wp_seq (wp_if (b := false) (evt_is (et_test (ev_op (rl_kind rfl) ev_str rv_eqS)) (decide_eq_false hj)) (fun h => by cases h) fun _ => wp_next ?_)
      refine wp_seq (wp_if (b := false) (evt_is (et_or (et_test (ev_op (a1 _ rfl) (ev_var rfl) rv_noL)) fun _ => et_test (ev_op (ev_op (a2 _ rfl) ev_non rv_isN) (ev_op (ev_op (ev_var rfl) ev_int (rv_ixT at0)) (ev_lst (ea_cons ev_str (ea_cons ev_str ea_nil)) (by simp)) (rv_isL (ss := ["claim", "drop"]))) rv_neB)) (by rw [decide_eq_true hmem, decide_eq_false hcd]; rfl)) (fun h => by cases h) fun _ => wp_next ?_)
      refine wp_seq (wp_asg (ev_idx rfl (a1 _ rfl) hi hin) ?_)
      refine wp_seq (wp_asgO (l := q.map peD) (evo_is (eo_lcM peD q (js := [6]) (it_seqL (ev_var rfl)) (by omega) (fun _ => true) peD (by simp) fun m v _ => tg_name ⟨et_yes, fun _ => (eo_lstL (ea_cons (ev_var rfl) ea_nil)).ev⟩) (congrArg (List.map peD) (List.filter_eq_self.mpr fun _ _ => rfl))) ?_)
      refine wp_seq (wp_if (b := false) (evt_is (et_test (ev_op (a2 _ rfl) ev_non rv_isN)) rfl) (fun h => by cases h) fun _ => wp_next ?_)
      refine wp_seq (wp_if (b := false) (evt_is (et_or (et_test (ev_op (a2 _ rfl) (ev_var rfl) rv_noL)) fun _ => et_test (ev_op (a2 _ rfl) (a1 _ rfl) rv_eqS)) (by rw [decide_eq_true hmem2, decide_eq_false h3']; rfl)) (fun h => by cases h) fun _ => wp_next ?_)
      refine wp_seq (wp_asg (ev_idx rfl (a2 _ rfl) hj' hjn) ?_)
      refine wp_cast (Γ' := [.dat (partsD p), .dat (pplD q), .dat (Act.da ⟨nm, ac, some t⟩), .dat (.lst ((Rl.duo k n x y z r :: rest).map Rl.da)), .dat (Rl.duo k n x y z r).da, .dat (strsL (q.map (·.1))), .un, .un, .dat (.int (i : Nat)), .own (q.map peD), .dat (.int (j : Nat)), .un, .un]) ?_ rfl
      have pe1 : ∀ Γ : List Sl, Γ[1]? = some (.dat (pplD q)) → Γ[8]? = some (.dat (.int (i : Nat))) → Ev K (tOp (rIx K) (tOp (rIx K) (tVar 1) (tVar 8)) (tC (.int 1))) Γ (strsT h) := fun Γ e1 e8 => ev_op (ev_op (ev_var e1) (ev_var e8) (rv_ixL (atI_nat (v := peD (ac, h)) (by rw [List.getElem?_map, hi]; rfl)))) ev_int (rv_ixL at1)
      have pe2 : ∀ Γ : List Sl, Γ[1]? = some (.dat (pplD q)) → Γ[10]? = some (.dat (.int (j : Nat))) → Ev K (tOp (rIx K) (tOp (rIx K) (tVar 1) (tVar 10)) (tC (.int 1))) Γ (strsT o) := fun Γ e1 e8 => ev_op (ev_op (ev_var e1) (ev_var e8) (rv_ixL (atI_nat (v := peD (t, o)) (by rw [List.getElem?_map, hj']; rfl)))) ev_int (rv_ixL at1)
      refine wp_seq (wp_if (b := false) (evt_is (et_not (et_B (ev_call (ea_cons (ev_var rfl) (ea_cons (pe1 _ rfl rfl) (ea_cons (pe2 _ rfl rfl) ea_nil))) (.inr ⟨k, n, x, y, z, r, h, o, rfl, hk, by omega, by omega, by omega, rfl⟩)))) (by rw [hall]; rfl)) (fun h => by cases h) fun _ => wp_next ?_)
      refine wp_seq (wp_asgT (ev_call (ea_cons (ev_op (ev_var rfl) ev_int (rv_ixL at0)) (ea_cons (ev_var rfl) (ea_cons (pe1 _ rfl rfl) (ea_cons (pe2 _ rfl rfl) ea_nil)))) (.inr ⟨p.rights, k, n, x, y, z, r, h, o, rfl, hk, by omega, hlen, hlen2, rfl⟩)) (tg_tup2 ?_))
      refine wp_seq (wp_setO (j := i) rfl (ev_lst (ea_cons (a1 _ rfl) (ea_cons (ev_var rfl) ea_nil)) (by simp)) (ev_var rfl) (by rw [List.length_map]; exact hil) ?_)
      refine wp_seq (wp_setO (j := j) rfl (ev_lst (ea_cons (a2 _ rfl) (ea_cons (ev_var rfl) ea_nil)) (by simp)) (ev_var rfl) (by rw [List.length_set, List.length_map]; exact hjl) ?_)
      refine wp_frz (wp_ret (ev_var rfl) ?_)
      show Da.lst (((q.map peD).set i (peD (ac, chA k r h))).set j (peD (t, chT p.rights k r o))) = pplD (doU p.rights q ⟨nm, ac, some t⟩ (.duo k n x y z r))
      have ij : i ≠ j := fun e => by
        subst e
        rw [hi] at hj'
        injection hj' with e2
        injection e2 with e3
        exact h3' e3.symm
      rw [doU_duo Q.nd (a := ⟨nm, ac, some t⟩) hk rfl h1' h2 h3', setP_at Q.nd hi, setP_at (i := j) (h := o) (by rw [set_names hi]; exact Q.nd) (by rw [List.getElem?_set_ne ij]; exact hj'), ← List.map_set, ← List.map_set]
/-! meets -/
def R_lmeets (m : Nat) : List Da → Da → Prop := fun ds d => ∃ (q : Ppl) (g : List Dem), ds = [pplD q, .lst (g.map Dem.da)] ∧ g.length ≤ m ∧ q.length ≤ 1000 ∧ (∀ z ∈ g, z.has.length ≤ 1000 ∧ z.no.length ≤ 1000) ∧ d = .bl (metL g q)
theorem cut_from {α : Type} (l : List α) (i : Nat) (h : i + 1 ≤ l.length) : cutG l (some ((i : Int) + 1)) none = l.drop (i + 1) := by
  unfold cutG
  rw [show ((i : Int) + 1) = ((i + 1 : Nat) : Int) from rfl, HT.sIx_none, HT.sIx_nat, Nat.min_eq_left h]
  exact List.take_of_length_le (by rw [List.length_drop]; exact Nat.le_refl _)
theorem ok_lmeets_step (T : Txt w K mg) (sp : Sp) (k m : Nat) (hk1 : 1 ≤ k) (G_l_fits : Cal P w K mg base "_law_fits" (He.ga K "_law_fits") 1 ["_law_held", "_law_holds", "_law_lacks"] (spP K R_fits))
    (G_l_meets : Cal P w K mg base "_law_meets" (He.ga K "_law_meets") k ["_law_people", "_law_demands"] sp) (hs : m = 0 ∨ ∃ m', m = m' + 1 ∧ sp = spP K (R_lmeets m')) :
    Cal P w K mg base "_law_meets" (He.ga K "_law_meets") (k + 1) ["_law_people", "_law_demands"] (spP K (R_lmeets m)) := by
  obtain ⟨fd, F⟩ := T.d_l_meets
  obtain ⟨fd1, F_l_meets, b_l_meets⟩ := G_l_meets.ex
  obtain ⟨fd2, F_l_fits, b_l_fits⟩ := G_l_fits.ex
  refine ⟨⟨fd, fn_pure F sc_l_meets (fun ds d h => ?_) fun cdv A outer s H E hr => ⟨_, (pss_cons (ps_if (pt_cmpR op_eq (pe_callB (call_lenK K rfl) (by rfl) T.f_len (by decide +kernel) (pa_cons (pv 1) pa_nil)) pe_int (nomark _)) (pss_one (ps_ret pe_bl)) pss_nil) (pss_cons (ps_asg (pe_ix (ix_K K rfl) (pv 1) pe_int (fun _ _ => rfl)) (pg_tupK (n := 3) K rfl rfl (pgs_cons (pg_name (i := 2) sc_l_meets.nd rfl (by first | exact Or.inl rfl | exact Or.inr rfl)) (pgs_cons (pg_name (i := 3) sc_l_meets.nd rfl (by first | exact Or.inl rfl | exact Or.inr rfl)) (pgs_cons (pg_name (i := 4) sc_l_meets.nd rfl (by first | exact Or.inl rfl | exact Or.inr rfl)) pgs_nil))))) (pss_cons (ps_for PassesOwn.never rfl (pi_range1 rfl T.f_range (pa_cons (pe_callB (call_lenK K rfl) (by rfl) T.f_len (by decide +kernel) (pa_cons (pv 0) pa_nil)) pa_nil)) (pg_name (i := 5) sc_l_meets.nd rfl (by first | exact Or.inl rfl | exact Or.inr rfl)) (pss_one (ps_if (PW.pt (pw_and (PW.pt (pw_or (pt_cmpR op_isN1 (pv 2) pe_non (nomark _)) (pw_or1 (pt_cmpR op_eq (pe_ix (ix_K K rfl) (pe_ix (ix_K K rfl) (pv 0) (pv 5) (fun _ _ => rfl)) pe_int (fun _ _ => rfl)) (pv 2) (nomark _))))) (pw_and1 (pt_val (pe_call F_l_fits (hr.mono hk1) rfl G_l_fits.m G_l_fits.kp b_l_fits .nil pass0 (pa_cons (pe_ix (ix_K K rfl) (pe_ix (ix_K K rfl) (pv 0) (pv 5) (fun _ _ => rfl)) pe_int (fun _ _ => rfl)) (pa_cons (pv 3) (pa_cons (pv 4) pa_nil)))))))) (pss_one (ps_if (pt_val (pe_call F_l_meets (hr.mono (Nat.le_refl _)) rfl G_l_meets.m G_l_meets.kp b_l_meets .nil pass0 (pa_cons (pe_op (op_addK K rfl) (pe_slice (sl_K K rfl) (pv 0) po_none (po_some (pv 5))) (pe_slice (sl_K K rfl) (pv 0) (po_some (pe_op (op_addK K rfl) (pv 5) pe_int)) po_none)) (pa_cons (pe_slice (sl_K K rfl) (pv 1) (po_some pe_int) po_none) pa_nil)))) (pss_one (ps_ret pe_bl)) pss_nil)) pss_nil))) (pss_one (ps_ret pe_bl))))), fun ds d h => ?_⟩, F.bindsN fun _ _ _ _ _ _ us hl => match us, hl with | [_, _], _ => rfl⟩, T.m_l_meets, F.kp⟩
  · obtain ⟨_, _, rfl, _⟩ := h
    rfl
  · obtain ⟨q, g, rfl, hm, hq, hg, rfl⟩ := h
    cases g with
    | nil => exact wp_seq (wp_if (b := true) (evt_is (et_test (ev_op (ev_cb (ea_cons (ev_var rfl) ea_nil) rc_lenL) ev_int rv_eqI)) rfl) (fun _ => wp_ret ev_bl rfl) fun h => by cases h)
    | cons z g =>
      rcases hs with rfl | ⟨m', rfl, rfl⟩
      · simp at hm
      · obtain ⟨hz1, hz2⟩ := hg z (List.mem_cons_self ..)
        refine wp_seq (wp_if (b := false) (evt_is (et_test (ev_op (ev_cb (ea_cons (ev_var rfl) ea_nil) rc_lenL) ev_int rv_eqI)) (decide_eq_false (by simp; omega))) (fun h => by cases h) fun _ => wp_next ?_)
        refine wp_seq (wp_asgT (ev_op (ev_var rfl) ev_int (rv_ixL at0)) (tg_tup3 ?_))
        have fk : ∀ (i : Nat) (v : Str × SL), q[i]? = some v → metStep z g q i = ((whoF z.who v.1 && fitsF v.2 z.has z.no) && metL g (q.take i ++ q.drop (i + 1))) := fun i v hv => by
          unfold metStep
          rw [hv]
        refine wp_seq (wp_for (js := [5]) (it_range (n := ((q.length : Nat) : Int)) (ea_cons (ev_is (ev_cb (ea_cons (ev_var rfl) ea_nil) rc_lenL) (congrArg (fun n : Nat => Da.int (n : Int)) (List.length_map ..))) ea_nil) (by omega) (by omega))
          (fun i Γ => (∀ j, j < i → metStep z g q j = false) ∧ ∃ a, Γ = [.dat (pplD q), .dat (.lst ((z :: g).map Dem.da)), .dat (optD z.who), .dat (strsT z.has), .dat (strsT z.no), a]) ⟨fun _ h => by omega, _, rfl⟩ (fun i y Γ hy hΓ => ?_) fun Γ hΓ => ?_)
        · obtain ⟨hn, a, rfl⟩ := hΓ
          obtain ⟨rfl, hi⟩ := take_range hy
          have hi' : i < q.length := by simpa using hi
          obtain ⟨v, hv⟩ : ∃ v, q[i]? = some v := ⟨_, List.getElem?_eq_getElem hi'⟩
          have pe : ∀ Γ : List Sl, Γ[0]? = some (.dat (pplD q)) → Γ[5]? = some (.dat (.int (i : Int))) → Ev K (tOp (rIx K) (tVar 0) (tVar 5)) Γ (peD v) := fun Γ e1 e5 => ev_op (ev_var e1) (ev_var e5) (rv_ixL (atI_nat (by rw [List.getElem?_map, hv]; rfl)))
          refine tg_name (wp_if (b := whoF z.who v.1 && fitsF v.2 z.has z.no) (et_and (b := fitsF v.2 z.has z.no) ?_ fun _ => et_B (ev_call (ea_cons (ev_op (pe _ rfl rfl) ev_int (rv_ixL at1)) (ea_cons (ev_var rfl) (ea_cons (ev_var rfl) ea_nil))) ⟨v.2, z.has, z.no, rfl, hz1, hz2, rfl⟩)) (fun hb => ?_) fun hb => wp_next ⟨fun j hj => ?_, .dat (.int (i : Int)), rfl⟩)
          · obtain ⟨who, has, no⟩ := z
            cases who with
            | none => exact evt_is (et_or (b := true) (et_test (ev_op (ev_var rfl) ev_non rv_isN)) fun h => by cases h) rfl
            | some s =>
              refine evt_is (et_or (et_test (ev_op (ev_var rfl) ev_non rv_isN)) fun _ => et_test (ev_op (ev_op (pe _ rfl rfl) ev_int (rv_ixL at0)) (ev_var rfl) rv_eqS)) ?_
              show (false || decide (v.1 = s)) = decide (s = v.1)
              rw [Bool.false_or]
              exact decide_eq_decide.mpr eq_comm
          · refine wp_if (et_B (ev_call (ea_cons (ev_is (ev_op (ev_is (ev_slL (ev_var rfl) ep_none (ep_some (ev_var rfl))) (congrArg Da.lst (cut_take _ i (by rw [List.length_map]; omega)))) (ev_is (ev_slL (ev_var rfl) (ep_some (ev_add (ev_var rfl) ev_int)) ep_none) (congrArg Da.lst (cut_from _ i (by rw [List.length_map]; omega)))) (rv_addL (by simp only [List.length_take, List.length_drop, List.length_map]; omega))) (show _ = pplD (q.take i ++ q.drop (i + 1)) from congrArg Da.lst (by rw [List.map_append, List.map_take, List.map_drop]))) (ea_cons (ev_is (ev_slL (ev_var rfl) (ep_some ev_int) ep_none) (congrArg Da.lst (cut_tail _ _))) ea_nil)) ⟨q.take i ++ q.drop (i + 1), g, rfl, by simp at hm; omega, by rw [List.length_append, List.length_take, List.length_drop]; omega, fun z' hz' => hg z' (List.mem_cons_of_mem _ hz'), rfl⟩)) (fun hb2 => ?_) fun hb2 => wp_next ⟨fun j hj => ?_, .dat (.int (i : Int)), rfl⟩
            · refine wp_ret ev_bl ?_
              have : metL (z :: g) q = true := (metL_cons z g q).trans (List.any_eq_true.mpr ⟨i, List.mem_range.mpr hi', by rw [fk i v hv, hb, hb2]; rfl⟩)
              rw [this]
            · by_cases c : j < i
              · exact hn j c
              · have e : j = i := by omega
                subst e
                rw [fk j v hv, hb2, Bool.and_false]
          · by_cases c : j < i
            · exact hn j c
            · have e : j = i := by omega
              subst e
              rw [fk j v hv, hb, Bool.false_and]
        · obtain ⟨hn, a, rfl⟩ := hΓ
          refine wp_ret ev_bl ?_
          have : metL (z :: g) q = false := (metL_cons z g q).trans (List.any_eq_false.mpr fun k hk => by
            have h1 := hn k (by rw [range_len]; simpa using hk)
            rw [h1]; simp)
          rw [this]
theorem ok_lmeets0 (T : Txt w K mg) : Cal P w K mg base "_law_meets" (He.ga K "_law_meets") 1 ["_law_people", "_law_demands"] (fun _ _ _ _ => False) := by
  obtain ⟨fd, F⟩ := T.d_l_meets
  exact ⟨⟨fd, F.ok sc_l_meets (fun _ _ _ _ h => h.elim) fun _ _ _ _ _ _ _ _ _ h => h.elim, F.bindsN fun _ _ _ _ _ _ us hl => match us, hl with | [_, _], _ => rfl⟩, T.m_l_meets, F.kp⟩
theorem ok_lmeets (T : Txt w K mg) (G_l_fits : Cal P w K mg base "_law_fits" (He.ga K "_law_fits") 1 ["_law_held", "_law_holds", "_law_lacks"] (spP K R_fits)) : Cal P w K mg base "_law_meets" (He.ga K "_law_meets") 5 ["_law_people", "_law_demands"] (spP K (R_lmeets 3)) :=
  ok_lmeets_step T _ 4 3 (by omega) G_l_fits (ok_lmeets_step T _ 3 2 (by omega) G_l_fits (ok_lmeets_step T _ 2 1 (by omega) G_l_fits (ok_lmeets_step T _ 1 0 (by omega) G_l_fits (ok_lmeets0 T) (.inl rfl)) (.inr ⟨0, rfl, rfl⟩)) (.inr ⟨1, rfl, rfl⟩)) (.inr ⟨2, rfl, rfl⟩)
end
end WM

/-! ## M1 -/
set_option maxHeartbeats 4000000
/-! Runs: what stays true of the people. -/
namespace WM
open PySem L2
def SoleInv (p : Parts) (q : Ppl) : Prop := ∀ r ∈ p.sole, ∀ x y h o, q.lookup x = some h → q.lookup y = some o → r ∈ h → r ∈ o → x = y
structure Inv (p : Parts) (q : Ppl) : Prop where
  Q : QOk p q
  S : SoleInv p q
  n6 : q.length ≤ 6
theorem mem_setP {q : Ppl} {x : Str} {l : SL} {v : Str × SL} (h : v ∈ setP q x l) : v = (x, l) ∨ v ∈ q := by
  unfold setP at h
  split at h
  · obtain ⟨u, hu, e⟩ := List.mem_map.mp h
    by_cases c : u.1 = x
    · rw [if_pos c] at e
      rw [← e, c]; exact .inl rfl
    · rw [if_neg c] at e
      rw [← e]; exact .inr hu
  · rcases List.mem_append.mp h with h | h
    · exact .inr h
    · exact .inl (List.mem_singleton.mp h)
theorem setP_names {q : Ppl} {x : Str} {l h : SL} (e : q.lookup x = some h) : (setP q x l).map (·.1) = q.map (·.1) := by
  unfold setP
  rw [any_lookup, e, if_pos (by rfl), List.map_map]
  refine List.map_congr_left fun v _ => ?_
  show (if v.1 = x then (v.1, l) else v).1 = v.1
  by_cases c : v.1 = x
  · rw [if_pos c]
  · rw [if_neg c]
theorem setP_length {q : Ppl} {x : Str} {l h : SL} (e : q.lookup x = some h) : (setP q x l).length = q.length := by
  have := congrArg List.length (setP_names (l := l) e)
  simpa using this
theorem qok_set {p : Parts} {q : Ppl} (Q : QOk p q) {x : Str} {l h : SL} (e : q.lookup x = some h) (hs : ∀ z ∈ l, z ∈ p.rights) (hl : l.length ≤ 1000) : QOk p (setP q x l) := by
  refine ⟨by rw [setP_names e]; exact Q.nd, ⟨fun v hv => ?_, fun v hv => ?_, by rw [setP_length e]; exact Q.ok.n⟩⟩
  · rcases mem_setP hv with rfl | h
    · exact hs
    · exact Q.ok.sub v h
  · rcases mem_setP hv with rfl | h
    · exact hl
    · exact Q.ok.len v h
theorem sole_set {p : Parts} {q : Ppl} (S : SoleInv p q) {x : Str} {l h : SL} (e : q.lookup x = some h) (hl : ∀ r ∈ p.sole, r ∈ l → r ∈ h) : SoleInv p (setP q x l) := by
  intro r hr a b ha ob e1 e2 h1 h2
  rw [setP_lookup] at e1 e2
  have f : ∀ (y : Str) (m : SL), (if y = x then some l else q.lookup y) = some m → r ∈ m → ∃ m', q.lookup y = some m' ∧ r ∈ m' := fun y m e1 h1 => by
    by_cases c : y = x
    · rw [if_pos c] at e1
      rw [← Option.some.inj e1] at h1
      exact ⟨h, c ▸ e, hl r hr h1⟩
    · rw [if_neg c] at e1
      exact ⟨m, e1, h1⟩
  obtain ⟨m1, g1, k1⟩ := f a ha e1 h1
  obtain ⟨m2, g2, k2⟩ := f b ob e2 h2
  exact S r hr a b m1 m2 g1 g2 k1 k2
theorem less_mem {h : SL} {r z : Str} : z ∈ lessF h r ↔ z ∈ h ∧ z ≠ r := by
  unfold lessF
  rw [List.mem_filter]
  simp
theorem with_mem {rights h : SL} {r z : Str} : z ∈ withF rights h r ↔ z ∈ rights ∧ (z ∈ h ∨ z = r) := by
  unfold withF
  rw [List.mem_filter]
  simp
theorem less_len (h : SL) (r : Str) : (lessF h r).length ≤ h.length := List.length_filter_le _ _
theorem with_len (rights h : SL) (r : Str) : (withF rights h r).length ≤ rights.length := List.length_filter_le _ _
theorem inv_do {p : Parts} (W : PartsOk p) {tr : SL} {q : Ppl} {a : Act} (I : Inv p q) (hc : Can p tr q a) (hj : ∀ u n rs, p.rules.find? (fun v => decide (v.name = a.name)) = some u → u = .join n rs → q.length ≤ 5) : Inv p (doP p q a) := by
  obtain ⟨u, hu, hcu⟩ := hc
  have hum := List.mem_of_find?_eq_some hu
  have hd : doP p q a = doU p.rights q a u := by unfold doP; rw [hu]
  rw [hd]
  have l6 := W.so.ln
  have wf := W.uw u hum
  have Q := I.Q
  cases wf with
  | join hn ho hap =>
    rename_i n rs
    obtain ⟨h0, h1, h2⟩ := hcu
    have h5 := hj _ n rs hu rfl
    have hrs := ord_len ho
    show Inv p (setP q a.actor rs)
    rw [setP_new h2]
    have hnot : a.actor ∉ q.map (·.1) := fun hm => by
      have := mem_names.mp hm
      rw [h2] at this
      cases this
    refine ⟨⟨?_, ⟨fun v hv => ?_, fun v hv => ?_, by rw [List.length_append]; simp; omega⟩⟩, ?_, by rw [List.length_append]; simp; omega⟩
    · rw [List.map_append]
      refine List.nodup_append.mpr ⟨Q.nd, by simp, fun x hx y hy e => ?_⟩
      have : y = a.actor := by simpa using hy
      rw [e, this] at hx
      exact hnot hx
    · rcases List.mem_append.mp hv with h | h
      · exact Q.ok.sub v h
      · rw [List.mem_singleton.mp h]; exact ho.2.2
    · rcases List.mem_append.mp hv with h | h
      · exact Q.ok.len v h
      · rw [List.mem_singleton.mp h]; show rs.length ≤ 1000; omega
    · intro r hr x y h o e1 e2 k1 k2
      rw [lookup_append] at e1 e2
      have f : ∀ (y : Str) (m : SL), (q.lookup y).or (if y = a.actor then some rs else none) = some m → r ∈ m → q.lookup y = some m := fun y m e1 h1 => by
        cases e : q.lookup y with
        | some m' => rw [e] at e1; exact e1
        | none =>
          rw [e] at e1
          by_cases c : y = a.actor
          · have e1' : (if y = a.actor then some rs else none) = some m := e1
            rw [if_pos c] at e1'
            rw [← Option.some.inj e1'] at h1
            exact absurd hr (hap r h1)
          · have e1' : (if y = a.actor then some rs else none) = some m := e1
            rw [if_neg c] at e1'
            cases e1'
      exact I.S r hr x y h o (f x h e1 k1) (f y o e2 k2) k1 k2
  | solo hk hn ha hb hr1 hra hrb hap hcl =>
    rename_i k n x y r
    obtain ⟨h0, h, h1, h2, h3, h4⟩ := hcu
    have hmem := lookup_mem h1
    have hsub := Q.ok.sub _ hmem
    have hlen : h.length ≤ 1000 := Q.ok.len _ hmem
    rw [doU_solo h1]
    refine ⟨qok_set Q h1 (fun z hz => ?_) ?_, sole_set I.S h1 fun z hz hm => ?_, by rw [setP_length h1]; exact I.n6⟩
    · unfold chS1 at hz
      split at hz
      · exact (with_mem.mp hz).1
      · exact hsub z (less_mem.mp hz).1
    · unfold chS1
      split
      · have := with_len p.rights h r; omega
      · have := less_len h r; omega
    · unfold chS1 at hm
      split at hm
      · rename_i c
        rcases (with_mem.mp hm).2 with h | e
        · exact h
        · rw [e] at hz; exact absurd hz (hcl c)
      · exact (less_mem.mp hm).1
  | duo hk hn ha hb hc' hr1 hrb hrc hap hgv hps =>
    rename_i k n x y z r
    obtain ⟨t, h, o, h0, h1, h2, h3, h4, h5, h6, h7, h8⟩ := hcu
    have hsub := Q.ok.sub _ (lookup_mem h1)
    have hlen : h.length ≤ 1000 := Q.ok.len _ (lookup_mem h1)
    have hsubo := Q.ok.sub _ (lookup_mem h2)
    have hleno : o.length ≤ 1000 := Q.ok.len _ (lookup_mem h2)
    rw [doU_duo Q.nd hk h0 h1 h2 h3]
    have hA : ∀ z ∈ chA k r h, z ∈ h := fun z hz => by
      unfold chA at hz
      split at hz
      · exact (less_mem.mp hz).1
      · exact hz
    have lA : (chA k r h).length ≤ 1000 := by
      unfold chA
      split
      · have := less_len h r; omega
      · exact hlen
    have Q1 := qok_set (l := chA k r h) Q h1 (fun z hz => hsub z (hA z hz)) lA
    have S1 := sole_set (l := chA k r h) I.S h1 fun z _ hm => hA z hm
    have e2 : (setP q a.actor (chA k r h)).lookup t = some o := by rw [setP_lookup, if_neg h3]; exact h2
    have lT : (chT p.rights k r o).length ≤ 1000 := by
      unfold chT
      split
      · have := less_len o r; omega
      · have := with_len p.rights o r; omega
    have sT : ∀ z ∈ chT p.rights k r o, z ∈ p.rights := fun z hz => by
      unfold chT at hz
      split at hz
      · exact hsubo z (less_mem.mp hz).1
      · exact (with_mem.mp hz).1
    refine ⟨qok_set Q1 e2 sT lT, ?_, by rw [setP_length e2, setP_length h1]; exact I.n6⟩
    by_cases c : k = "pass"
    · subst c
      obtain ⟨p1, p2⟩ := hps rfl
      have hrh := h7 rfl
      intro s hs a' b' ha' ob e1 e3 m1 m2
      rw [setP_lookup] at e1 e3
      by_cases cs : s = r
      · subst cs
        have none : ∀ (y : Str) (m : SL), (if y = t then some (chT p.rights "pass" s o) else (setP q a.actor (chA "pass" s h)).lookup y) = some m → s ∈ m → y = t := fun y m e1 m1 => by
          by_cases c : y = t
          · exact c
          · rw [if_neg c, setP_lookup] at e1
            by_cases c2 : y = a.actor
            · rw [if_pos c2] at e1
              rw [← Option.some.inj e1] at m1
              exact absurd rfl (less_mem.mp m1).2
            · rw [if_neg c2] at e1
              exact absurd (I.S s hs y a.actor m h e1 h1 m1 hrh) c2
        exact (none _ _ e1 m1).trans (none _ _ e3 m2).symm
      · have f : ∀ (y : Str) (m : SL), (if y = t then some (chT p.rights "pass" r o) else (setP q a.actor (chA "pass" r h)).lookup y) = some m → s ∈ m → ∃ m', (setP q a.actor (chA "pass" r h)).lookup y = some m' ∧ s ∈ m' := fun y m e1 m1 => by
          by_cases c : y = t
          · rw [if_pos c] at e1
            rw [← Option.some.inj e1] at m1
            refine ⟨o, by rw [c]; exact e2, ?_⟩
            have m1' : s ∈ withF p.rights o r := m1
            rcases (with_mem.mp m1').2 with h | h
            · exact h
            · exact absurd h cs
          · rw [if_neg c] at e1
            exact ⟨m, e1, m1⟩
        obtain ⟨x1, g1, k1⟩ := f _ _ e1 m1
        obtain ⟨x2, g2, k2⟩ := f _ _ e3 m2
        exact S1 s hs _ _ x1 x2 g1 g2 k1 k2
    · refine sole_set S1 e2 fun s hs hm => ?_
      unfold chT at hm
      split at hm
      · exact (less_mem.mp hm).1
      · rename_i ct
        rcases (with_mem.mp hm).2 with h | e
        · exact h
        · have kg : k = "give" := by rcases hk with h | h | h <;> first | exact h | exact absurd h ct | exact absurd h c
          rw [e] at hs
          exact absurd hs (hgv kg)
/-- joined people's names begin with an n -/
def ActN (p : Parts) (a : Act) : Prop := ∀ n rs, p.rules.find? (fun v => decide (v.name = a.name)) = some (.join n rs) → (tl a.actor)[0]? = some 110
def RunN (p : Parts) (tr : SL) : Ppl → List Act → Prop
  | q, [] => Inv p q
  | q, a :: as => Can p tr q a ∧ ActN p a ∧ Inv p q ∧ RunN p tr (doP p q a) as
def endP (p : Parts) : Ppl → List Act → Ppl
  | q, [] => q
  | q, a :: as => endP p (doP p q a) as
theorem end_snoc (p : Parts) (a : Act) : ∀ (as : List Act) (q : Ppl), endP p q (as ++ [a]) = doP p (endP p q as) a
  | [], _ => rfl
  | b :: as, q => end_snoc p a as (doP p q b)
theorem run_end (p : Parts) (tr : SL) : ∀ (as : List Act) (q : Ppl), RunN p tr q as → Inv p (endP p q as)
  | [], _, h => h
  | b :: as, q, h => run_end p tr as _ h.2.2.2
theorem run_snoc (p : Parts) (tr : SL) (a : Act) : ∀ (as : List Act) (q : Ppl), RunN p tr q as → Can p tr (endP p q as) a → ActN p a → Inv p (doP p (endP p q as) a) → RunN p tr q (as ++ [a])
  | [], q, h, hc, hn, hi => ⟨hc, hn, h, hi⟩
  | b :: as, q, h, hc, hn, hi => ⟨h.1, h.2.1, h.2.2.1, run_snoc p tr a as _ h.2.2.2 hc hn hi⟩
theorem lookup_of {q : Ppl} (nd : (q.map (·.1)).Nodup) {v : Str × SL} (h : v ∈ q) : q.lookup v.1 = some v.2 := by
  induction q with
  | nil => cases h
  | cons u q ih =>
    obtain ⟨y, l⟩ := u
    rw [List.map_cons] at nd
    obtain ⟨n1, n2⟩ := List.pairwise_cons.mp nd
    rw [List.lookup_cons]
    rcases List.mem_cons.mp h with rfl | h
    · rw [beq_self_eq_true]
    · have : v.1 ≠ y := fun e => n1 v.1 (List.mem_map_of_mem h) e.symm
      rw [beq_eq_false_iff_ne.mpr this]
      exact ih n2 h
theorem find_name {us : List Rl} (nd : (us.map Rl.name).Nodup) {u : Rl} (h : u ∈ us) : us.find? (fun v => decide (v.name = u.name)) = some u := by
  induction us with
  | nil => cases h
  | cons v us ih =>
    rw [List.map_cons] at nd
    obtain ⟨n1, n2⟩ := List.pairwise_cons.mp nd
    rw [List.find?_cons]
    rcases List.mem_cons.mp h with rfl | h
    · rw [decide_eq_true rfl]
    · have : v.name ≠ u.name := fun e => n1 u.name (List.mem_map_of_mem h) e
      rw [decide_eq_false this]
      exact ih n2 h
theorem one_mem {α : Type} {a b : α} : ∀ {l : List α}, l.length ≤ 1 → a ∈ l → b ∈ l → a = b
  | [], _, h, _ => by cases h
  | [x], _, h1, h2 => (List.mem_singleton.mp h1).trans (List.mem_singleton.mp h2).symm
  | _ :: _ :: _, h, _, _ => by simp at h
/-- the founders of parts -/
theorem inv_start {p : Parts} (W : PartsOk p) : Inv p p.founders := by
  have l6 := W.so.ln
  have f3 := W.f3
  refine ⟨⟨W.fn, ⟨fun v hv => (W.fo v hv).2.2, fun v hv => ?_, by omega⟩⟩, ?_, by omega⟩
  · have := ord_len (W.fo v hv)
    omega
  · intro r hr x y h o e1 e2 k1 k2
    have f1 : (x, h) ∈ p.founders.filter fun f => decide (r ∈ f.2) := List.mem_filter.mpr ⟨lookup_mem e1, decide_eq_true k1⟩
    have f2 : (y, o) ∈ p.founders.filter fun f => decide (r ∈ f.2) := List.mem_filter.mpr ⟨lookup_mem e2, decide_eq_true k2⟩
    have hl := W.fs r hr
    exact congrArg Prod.fst (one_mem hl f1 f2)
end WM

/-! ## M2 -/
set_option maxHeartbeats 4000000
/-! New names. -/
namespace WM
open PySem L2
abbrev qS : Str := Str.ofString "q"
theorem q_tl : tl qS = [113] := by decide +kernel
def addQ : Str → Nat → Str
  | s, 0 => s
  | s, j + 1 => addQ (s ++ qS) j
theorem addQ_tl : ∀ (j : Nat) (s : Str), tl (addQ s j) = tl s ++ List.replicate j 113
  | 0, s => by simp [addQ]
  | j + 1, s => by
    show tl (addQ (s ++ qS) j) = _
    rw [addQ_tl j, tl_app, q_tl, List.append_assoc]
    rfl
theorem fresh_cases (ns : SL) : ∀ (n : Nat) (s : Str), (∃ j, j ≤ n ∧ freshF ns n s = addQ s j) ∧ (freshF ns n s ∉ ns ∨ ∀ j, j ≤ n → addQ s j ∈ ns)
  | 0, s => by
    refine ⟨⟨0, Nat.le_refl _, rfl⟩, ?_⟩
    by_cases c : s ∈ ns
    · exact .inr fun j hj => by
        have : j = 0 := by omega
        subst this; exact c
    · exact .inl c
  | n + 1, s => by
    show (∃ j, j ≤ n + 1 ∧ freshF ns n (if s ∈ ns then s ++ qS else s) = addQ s j) ∧ (freshF ns n (if s ∈ ns then s ++ qS else s) ∉ ns ∨ _)
    by_cases c : s ∈ ns
    · rw [if_pos c]
      obtain ⟨⟨j, hj, e⟩, h⟩ := fresh_cases ns n (s ++ qS)
      refine ⟨⟨j + 1, by omega, e⟩, ?_⟩
      rcases h with h | h
      · exact .inl h
      · refine .inr fun j hj => ?_
        cases j with
        | zero => exact c
        | succ j => exact h j (by omega)
    · rw [if_neg c]
      obtain ⟨⟨j, hj, e⟩, h⟩ := fresh_cases ns n s
      refine ⟨⟨j, by omega, e⟩, ?_⟩
      rcases h with h | h
      · exact .inl h
      · exact absurd (h 0 (Nat.zero_le _)) c
theorem pigeon : ∀ {l m : SL}, l.Nodup → (∀ x ∈ l, x ∈ m) → l.length ≤ m.length
  | [], _, _, _ => Nat.zero_le _
  | a :: l, m, nd, h => by
    obtain ⟨n1, n2⟩ := List.pairwise_cons.mp nd
    have ha := h a (List.mem_cons_self ..)
    have := pigeon (m := m.erase a) n2 fun x hx => (List.mem_erase_of_ne (fun e => n1 x hx e.symm)).mpr (h x (List.mem_cons_of_mem _ hx))
    rw [List.length_erase_of_mem ha] at this
    have : 0 < m.length := List.length_pos_of_mem ha
    rw [List.length_cons]
    omega
theorem fresh_out {ns : SL} {s : Str} {c : Nat} (hc : (tl s)[0]? = some c) (hl : (ns.filter fun x => decide ((tl x)[0]? = some c)).length < 10) : freshF ns 9 s ∉ ns := by
  rcases (fresh_cases ns 9 s).2 with h | h
  · exact h
  · exfalso
    have p := pigeon (l := (List.range 10).map (addQ s)) (m := ns.filter fun x => decide ((tl x)[0]? = some c)) ?_ ?_
    · rw [List.length_map, List.length_range] at p
      omega
    · refine List.pairwise_iff_getElem.mpr fun i j hi hj hij e => ?_
      rw [List.getElem_map, List.getElem_map, List.getElem_range, List.getElem_range] at e
      have := congrArg (fun x => (tl x).length) e
      simp [addQ_tl] at this
      omega
    · intro x hx
      obtain ⟨j, hj, rfl⟩ := List.mem_map.mp hx
      have hj2 := List.mem_range.mp hj
      refine List.mem_filter.mpr ⟨h j (by omega), decide_eq_true ?_⟩
      rw [addQ_tl]
      cases e : tl s with
      | nil => rw [e] at hc; cases hc
      | cons a l => rw [e] at hc; exact hc
structure Seed (s : Str) (c : Nat) : Prop where
  hd : (tl s)[0]? = some c
  nd : c ∉ tl digits
  len : s.length ≤ 3
  all : ∀ x ∈ tl s, x ∈ tl nameChars
theorem fresh_name {s : Str} {c : Nat} (W : Seed s c) (ns : SL) : IsName (freshF ns 9 s) ∧ (tl (freshF ns 9 s))[0]? = some c := by
  obtain ⟨j, hj, e⟩ := (fresh_cases ns 9 s).1
  rw [e]
  have hl : (addQ s j).length = s.length + j := by
    rw [← tl_len, addQ_tl, List.length_append, List.length_replicate, tl_len]
  have h0 : 1 ≤ s.length := by
    rw [← tl_len]
    exact (List.getElem?_eq_some_iff.mp W.hd).1
  have h3 := W.len
  have hh : (tl (addQ s j))[0]? = some c := by
    rw [addQ_tl, List.getElem?_append_left (by rw [tl_len]; omega)]
    exact W.hd
  refine ⟨⟨by omega, by omega, fun x hx => ?_, fun x hx => ?_⟩, hh⟩
  · have : some x = some c := hx.symm.trans hh
    rw [Option.some.inj this]
    exact W.nd
  · have hx2 : x ∈ tl (addQ s j) := hx
    rw [addQ_tl] at hx2
    rcases List.mem_append.mp hx2 with h | h
    · exact W.all x h
    · rw [(List.mem_replicate.mp h).2]
      decide +kernel
abbrev nK (k : Nat) : Str := Str.ofString "n" ++ Str.ofString (toString (k : Int))
theorem nK_facts : ∀ k : Nat, k < 13 → (tl (nK k))[0]? = some 110 ∧ (nK k).length ≤ 3 ∧ (tl (nK k)).all (fun x => decide (x ∈ tl nameChars)) = true := by decide +kernel
theorem nK_seed {k : Nat} (h : k < 13) : Seed (nK k) 110 := by
  obtain ⟨h1, h2, h3⟩ := nK_facts k h
  exact ⟨h1, by decide +kernel, h2, fun x hx => of_decide_eq_true (List.all_eq_true.mp h3 x hx)⟩
theorem m0_seed : Seed (Str.ofString "m0") 109 := ⟨by decide +kernel, by decide +kernel, by decide +kernel, fun x hx => of_decide_eq_true (List.all_eq_true.mp (show (tl (Str.ofString "m0")).all (fun x => decide (x ∈ tl nameChars)) = true by decide +kernel) x hx)⟩
theorem m1_seed : Seed (Str.ofString "m1") 109 := ⟨by decide +kernel, by decide +kernel, by decide +kernel, fun x hx => of_decide_eq_true (List.all_eq_true.mp (show (tl (Str.ofString "m1")).all (fun x => decide (x ∈ tl nameChars)) = true by decide +kernel) x hx)⟩
theorem filter_few {ns : SL} {f : Str → Bool} {n : Nat} (h : ns.length ≤ n) : (ns.filter f).length ≤ n := Nat.le_trans (List.length_filter_le _ _) h
end WM

/-! ## L6 -/
set_option maxHeartbeats 4000000
namespace WM
open PySem PySem.Spec PyProof.Rows L2
/-- what a choice is: a join by the new name, or what can be done -/
def ChoiceOk (p : Parts) (tr : SL) (q : Ppl) (f : Str) (a : Act) : Prop := ∃ u ∈ p.rules, p.rules.find? (fun v => decide (v.name = a.name)) = some u ∧ ((∃ n rs, u = .join n rs ∧ a = ⟨n, f, none⟩) ∨ (CanU tr q a u ∧ ∀ n rs, u ≠ .join n rs))
theorem peD_inj (a b : Str × SL) (h : peD a = peD b) : a = b := by
  obtain ⟨x, l⟩ := a
  obtain ⟨y, m⟩ := b
  injection h with h
  injection h with h1 h2
  injection h2 with h2 _
  have e1 : x = y := str_inj _ _ h1
  have e2 : l = m := strsT_inj h2
  rw [e1, e2]
theorem pplD_inj {q q' : Ppl} (h : pplD q = pplD q') : q = q' := by
  injection h with h
  exact map_inj' peD_inj h
theorem acts_inj {a b : Act} (h : a.da = b.da) : a = b := by
  obtain ⟨n, ac, t⟩ := a
  obtain ⟨n', ac', t'⟩ := b
  injection h with h
  injection h with h1 h
  injection h with h2 h
  injection h with h3 _
  have e1 : n = n' := str_inj _ _ h1
  have e2 : ac = ac' := str_inj _ _ h2
  have e3 : t = t' := by
    have h3' : optD t = optD t' := h3
    cases t <;> cases t' <;> first | rfl | (cases h3' <;> rfl)
  rw [e1, e2, e3]
section
variable {P : Program} {w : World} {K : PySem.W.Frag} {mg : Str → Option Value} {base : Heap} {Γ : List Sl} {ta tb : TE}
def A_lchoices : List Da → Prop := fun ds => ∃ (p : Parts) (q : Ppl) (tr : SL) (f : Str), ds = [partsD p, pplD q, strsL tr, .str f] ∧ PartsOk p ∧ Inv p q
def R_lchoices : List Da → Da → Prop := fun ds d => ∀ (p : Parts) (q : Ppl) (tr : SL) (f : Str), ds = [partsD p, pplD q, strsL tr, .str f] → ∃ acts : List Act, d = .lst (acts.map Act.da) ∧ acts.length ≤ 1000 ∧ ∀ a ∈ acts, ChoiceOk p tr q f a
theorem solo_ok {p : Parts} (W : PartsOk p) {tr : SL} {q : Ppl} (I : Inv p q) {f k n r : Str} {x y : SL} {v : Str × SL} (hu : Rl.solo k n x y r ∈ p.rules) (hk : k = "claim" ∨ k = "drop") (hv : v ∈ q) (ht : v.1 ∉ tr) (ha : allowS k x y r v.2 = true) : ChoiceOk p tr q f ⟨n, v.1, none⟩ := by
  refine ⟨_, hu, find_name W.un hu, .inr ⟨⟨rfl, v.2, lookup_of I.Q.nd hv, ht, ?_, ?_⟩, fun _ _ h => by cases h⟩⟩
  · unfold allowS at ha
    rw [Bool.and_eq_true] at ha
    exact ha.1
  · unfold allowS at ha
    rw [Bool.and_eq_true] at ha
    have h2 := ha.2
    rcases hk with rfl | rfl
    · rw [if_pos rfl] at h2
      have : decide (r ∈ v.2) = false := by simpa using h2
      rw [this]; rfl
    · rw [if_neg (by decide)] at h2
      rw [h2]; rfl
theorem duo_ok {p : Parts} (W : PartsOk p) {tr : SL} {q : Ppl} (I : Inv p q) {f k n r : Str} {x y z : SL} {v o : Str × SL} (hu : Rl.duo k n x y z r ∈ p.rules) (hk : k = "give" ∨ k = "take" ∨ k = "pass") (hv : v ∈ q) (ho : o ∈ q) (hne : o.1 ≠ v.1) (ht : v.1 ∉ tr) (ha : allowD k x y z r v.2 o.2 = true) : ChoiceOk p tr q f ⟨n, v.1, some o.1⟩ := by
  unfold allowD at ha
  rw [Bool.and_eq_true, Bool.and_eq_true] at ha
  obtain ⟨h1, h2, h3⟩ := ha
  have ev := lookup_of I.Q.nd hv
  have eo := lookup_of I.Q.nd ho
  refine ⟨_, hu, find_name W.un hu, .inr ⟨⟨o.1, v.2, o.2, rfl, ev, eo, hne, ht, h1, h2, fun e => ?_, ?_⟩, fun _ _ h => by cases h⟩⟩
  · subst e
    rw [if_neg (by decide), if_neg (by decide)] at h3
    exact of_decide_eq_true h3
  · rcases hk with rfl | rfl | rfl
    · rw [if_pos rfl] at h3
      have : decide (r ∈ o.2) = false := by simpa using h3
      rw [this]; rfl
    · rw [if_neg (by decide), if_pos rfl] at h3
      rw [h3]; rfl
    · rw [if_neg (by decide), if_neg (by decide)] at h3
      have hr := of_decide_eq_true h3
      have wf := W.uw _ hu
      cases wf with
      | duo _ _ _ _ _ _ _ _ _ _ hps =>
        have hs := (hps rfl).1
        have : r ∉ o.2 := fun h => hne (I.S r hs o.1 v.1 _ _ eo ev h hr)
        rw [decide_eq_false this]; rfl
theorem ok_lchoices (T : Txt w K mg) (G_l_allows : Cal P w K mg base "_law_allows" (He.ga K "_law_allows") 2 ["_law_rule_here", "_law_actor", "_law_target"] (spP K R_lallows)) :
    Cal P w K mg base "_law_choices" (He.ga K "_law_choices") 3 ["_law_parts_here", "_law_people", "_law_trusted_here", "_law_fresh_here"] (spX K A_lchoices R_lchoices) := by
  obtain ⟨fd, F⟩ := T.d_l_choices
  obtain ⟨fd1, F_l_allows, b_l_allows⟩ := G_l_allows.ex
  refine ⟨⟨fd, fn_x F sc_l_choices (fun ds h => ?_) fun cdv A outer s H E hr => ⟨_, (pss_cons (ps_set (i := 4) sc_l_choices.nd rfl (by first | exact Or.inl rfl | exact Or.inr rfl) (pe_lst pa_nil)) (pss_cons (ps_for PassesOwn.never rfl (pi_seqK K rfl (pe_ix (ix_K K rfl) (pv 0) pe_int (fun _ _ => rfl))) (pg_name (i := 5) sc_l_choices.nd rfl (by first | exact Or.inl rfl | exact Or.inr rfl)) (pss_cons (ps_if (pt_cmpR op_eq (pe_ix (ix_K K rfl) (pv 5) pe_int (fun _ _ => rfl)) pe_str (nomark _)) (pss_one (ps_expr (pe_bm PySem.F.plainAttrs_list PySem.F.slot_list_append PySem.F.type_list_append mt_append (pv 4) (pa_cons (pe_tup (pa_cons (pe_ix (ix_K K rfl) (pv 5) pe_int (fun _ _ => rfl)) (pa_cons (pv 3) (pa_cons pe_non pa_nil)))) pa_nil)))) pss_nil) (pss_one (ps_for PassesOwn.never rfl (pi_seqK K rfl (pv 1)) (pg_name (i := 6) sc_l_choices.nd rfl (by first | exact Or.inl rfl | exact Or.inr rfl)) (pss_one (ps_if (PW.pt (pw_and (pt_cmpR op_ne (pe_ix (ix_K K rfl) (pv 5) pe_int (fun _ _ => rfl)) pe_str (nomark _)) (pw_and1 (pt_cmpR (op_niK K rfl) (pe_ix (ix_K K rfl) (pv 6) pe_int (fun _ _ => rfl)) (pv 2) rfl)))) (pss_cons (ps_if (PW.pt (pw_and (pt_cmpR (op_inK K rfl) (pe_ix (ix_K K rfl) (pv 5) pe_int (fun _ _ => rfl)) (pe_lst (pa_cons pe_str (pa_cons pe_str pa_nil))) rfl) (pw_and1 (pt_val (pe_call F_l_allows (hr.mono (by decide)) rfl G_l_allows.m G_l_allows.kp b_l_allows .nil pass0 (pa_cons (pv 5) (pa_cons (pe_ix (ix_K K rfl) (pv 6) pe_int (fun _ _ => rfl)) (pa_cons pe_non pa_nil)))))))) (pss_one (ps_expr (pe_bm PySem.F.plainAttrs_list PySem.F.slot_list_append PySem.F.type_list_append mt_append (pv 4) (pa_cons (pe_tup (pa_cons (pe_ix (ix_K K rfl) (pv 5) pe_int (fun _ _ => rfl)) (pa_cons (pe_ix (ix_K K rfl) (pv 6) pe_int (fun _ _ => rfl)) (pa_cons pe_non pa_nil)))) pa_nil)))) pss_nil) (pss_one (ps_if (pt_cmpR (op_niK K rfl) (pe_ix (ix_K K rfl) (pv 5) pe_int (fun _ _ => rfl)) (pe_lst (pa_cons pe_str (pa_cons pe_str pa_nil))) rfl) (pss_one (ps_for PassesOwn.never rfl (pi_seqK K rfl (pv 1)) (pg_name (i := 7) sc_l_choices.nd rfl (by first | exact Or.inl rfl | exact Or.inr rfl)) (pss_one (ps_if (PW.pt (pw_and (pt_cmpR op_ne (pe_ix (ix_K K rfl) (pv 7) pe_int (fun _ _ => rfl)) (pe_ix (ix_K K rfl) (pv 6) pe_int (fun _ _ => rfl)) (nomark _)) (pw_and1 (pt_val (pe_call F_l_allows (hr.mono (by decide)) rfl G_l_allows.m G_l_allows.kp b_l_allows .nil pass0 (pa_cons (pv 5) (pa_cons (pe_ix (ix_K K rfl) (pv 6) pe_int (fun _ _ => rfl)) (pa_cons (pe_ix (ix_K K rfl) (pv 7) pe_int (fun _ _ => rfl)) pa_nil)))))))) (pss_one (ps_expr (pe_bm PySem.F.plainAttrs_list PySem.F.slot_list_append PySem.F.type_list_append mt_append (pv 4) (pa_cons (pe_tup (pa_cons (pe_ix (ix_K K rfl) (pv 5) pe_int (fun _ _ => rfl)) (pa_cons (pe_ix (ix_K K rfl) (pv 6) pe_int (fun _ _ => rfl)) (pa_cons (pe_ix (ix_K K rfl) (pv 7) pe_int (fun _ _ => rfl)) pa_nil)))) pa_nil)))) pss_nil)))) pss_nil))) pss_nil)))))) (pss_one (ps_ret (pv 4))))), fun ds h => ?_⟩, F.bindsN fun _ _ _ _ _ _ us hl => match us, hl with | [_, _, _, _], _ => rfl⟩, T.m_l_choices, F.kp⟩
  · obtain ⟨_, _, _, _, rfl, _⟩ := h
    rfl
  · obtain ⟨p, q, tr, f, rfl, W, I⟩ := h
    have u6 := W.u6
    have n6 := I.n6
    have l6 := W.so.ln
    refine wp_seq (wp_asgO (eo_lst ea_nil (by simp)) ?_)
    refine wp_seq (wp_for (js := [5]) (xs := p.rules.map Rl.da) (it_seqL (ev_op (ev_var rfl) ev_int (rv_ixL at3))) (fun i Γ => ∃ (acts : List Act) (a b c : Sl), Γ = [.dat (partsD p), .dat (pplD q), .dat (strsL tr), .dat (.str f), .own (acts.map Act.da), a, b, c] ∧ acts.length ≤ i * 50 ∧ ∀ a ∈ acts, ChoiceOk p tr q f a) ⟨[], _, _, _, rfl, Nat.zero_le _, fun _ h => by cases h⟩ (fun i y Γ hy hΓ => ?_) fun Γ hΓ => ?_)
    · obtain ⟨acts, a, b, c, rfl, hl, hall⟩ := hΓ
      obtain ⟨u, hu, rfl⟩ := take_map hy
      have hum := List.mem_of_getElem? hu
      have hi : i < p.rules.length := (List.getElem?_eq_some_iff.mp hu).1
      have hi50 : i * 50 ≤ 6 * 50 := Nat.mul_le_mul_right _ (by omega)
      have wf := W.uw u hum
      refine tg_name ?_
      cases wf with
      | join hn ho hap =>
        rename_i n rs
        refine wp_seq (wp_if (b := true) (evt_is (et_test (ev_op (rl_kind rfl) ev_str rv_eqS)) (decide_eq_true rfl)) (fun _ => ?_) fun h => by cases h)
        refine wp_app rfl (ev_tup (ea_cons (rl_name rfl) (ea_cons (ev_var rfl) (ea_cons ev_non ea_nil))) (by simp)) (by rw [List.length_map]; omega) ?_
        refine wp_cast (Γ' := [.dat (partsD p), .dat (pplD q), .dat (strsL tr), .dat (.str f), .own ((acts ++ [(⟨n, f, none⟩ : Act)]).map Act.da), .dat (Rl.join n rs).da, b, c]) ?_ (by rw [List.map_append]; rfl)
        refine wp_for (js := [6]) (xs := q.map peD) (it_seqL (ev_var rfl)) (fun _ Γ => ∃ b, Γ = [.dat (partsD p), .dat (pplD q), .dat (strsL tr), .dat (.str f), .own ((acts ++ [(⟨n, f, none⟩ : Act)]).map Act.da), .dat (Rl.join n rs).da, b, c]) ⟨_, rfl⟩ (fun j y Γ hy hΓ => ?_) fun Γ hΓ => ?_
        · obtain ⟨b', rfl⟩ := hΓ
          obtain ⟨v, hv, rfl⟩ := take_map hy
          exact tg_name (wp_if (b := false) (evt_is (et_and (b := true) (et_test (ev_op (rl_kind rfl) ev_str rv_neS)) fun h => by cases h) rfl) (fun h => by cases h) fun _ => wp_next ⟨_, rfl⟩)
        · obtain ⟨b', rfl⟩ := hΓ
          refine ⟨acts ++ [⟨n, f, none⟩], _, _, _, rfl, by rw [List.length_append]; simp; omega, fun x hx => ?_⟩
          rcases List.mem_append.mp hx with h | h
          · exact hall x h
          · rw [List.mem_singleton.mp h]
            exact ⟨_, hum, find_name W.un hum, .inl ⟨n, rs, rfl, rfl⟩⟩
      | solo hk hn ha hb hr1 hra hrb hap hcl =>
        rename_i k n x y r
        have hj : k ≠ "join" := by rcases hk with rfl | rfl <;> decide
        have hcd : k ∈ (["claim", "drop"] : SL) := by rcases hk with rfl | rfl <;> decide
        have lx := ord_len ha
        have ly := ord_len hb
        refine wp_seq (wp_if (b := false) (evt_is (et_test (ev_op (rl_kind rfl) ev_str rv_eqS)) (decide_eq_false hj)) (fun h => by cases h) fun _ => wp_next ?_)
        refine wp_for (js := [6]) (xs := q.map peD) (it_seqL (ev_var rfl)) (fun j Γ => ∃ (a2 : List Act) (b : Sl), Γ = [.dat (partsD p), .dat (pplD q), .dat (strsL tr), .dat (.str f), .own (a2.map Act.da), .dat (Rl.solo k n x y r).da, b, c] ∧ a2.length ≤ acts.length + j ∧ ∀ a ∈ a2, ChoiceOk p tr q f a) ⟨acts, _, rfl, Nat.le_refl _, hall⟩ (fun j z Γ hy hΓ => ?_) fun Γ hΓ => ?_
        · obtain ⟨a2, b', rfl, hl2, hall2⟩ := hΓ
          obtain ⟨v, hv, rfl⟩ := take_map hy
          have hvm := List.mem_of_getElem? hv
          have hjl : j < q.length := (List.getElem?_eq_some_iff.mp hv).1
          refine tg_name (wp_if (et_and (et_test (ev_op (rl_kind rfl) ev_str rv_neS)) fun _ => et_test (ev_op (ev_op (ev_var rfl) ev_int (rv_ixL at0)) (ev_var rfl) rv_noL)) (fun hb => ?_) fun _ => wp_next ⟨a2, _, rfl, by omega, hall2⟩)
          rw [Bool.and_eq_true] at hb
          have ht : v.1 ∉ tr := by simpa using hb.2
          refine wp_mid (fun Γ' => ∃ a2 : List Act, Γ' = [.dat (partsD p), .dat (pplD q), .dat (strsL tr), .dat (.str f), .own (a2.map Act.da), .dat (Rl.solo k n x y r).da, .dat (peD v), c] ∧ a2.length ≤ acts.length + (j + 1) ∧ ∀ a ∈ a2, ChoiceOk p tr q f a)
            (wp_if (et_and (et_test (ev_op (rl_kind rfl) (ev_lst (ea_cons ev_str (ea_cons ev_str ea_nil)) (by simp)) (rv_isL (ss := ["claim", "drop"])))) fun _ => et_B (ev_call (ea_cons (ev_var rfl) (ea_cons (ev_op (ev_var rfl) ev_int (rv_ixL at1)) (ea_cons ev_non ea_nil))) (.inl ⟨k, n, x, y, r, v.2, .non, rfl, hk, by omega, by omega, rfl⟩))) (fun hb2 => ?_) fun _ => wp_next ⟨a2, rfl, by omega, hall2⟩) fun Γ' hΓ => ?_
          · rw [Bool.and_eq_true] at hb2
            refine wp_app rfl (ev_tup (ea_cons (rl_name rfl) (ea_cons (ev_op (ev_var rfl) ev_int (rv_ixL at0)) (ea_cons ev_non ea_nil))) (by simp)) (by rw [List.length_map]; omega) ⟨a2 ++ [⟨n, v.1, none⟩], by rw [List.map_append]; rfl, by rw [List.length_append]; simp; omega, fun a h => ?_⟩
            rcases List.mem_append.mp h with h | h
            · exact hall2 a h
            · rw [List.mem_singleton.mp h]
              exact solo_ok W I hum hk hvm ht hb2.2
          · obtain ⟨a3, rfl, hl3, hall3⟩ := hΓ
            exact wp_if (b := false) (evt_is (et_test (ev_op (rl_kind rfl) (ev_lst (ea_cons ev_str (ea_cons ev_str ea_nil)) (by simp)) (rv_noL (ss := ["claim", "drop"])))) (by rw [decide_eq_true (show (Rl.solo k n x y r).kind ∈ (["claim", "drop"] : SL) from hcd)]; rfl)) (fun h => by cases h) fun _ => wp_next ⟨a3, _, rfl, hl3, hall3⟩
        · obtain ⟨a2, b', rfl, hl2, hall2⟩ := hΓ
          rw [List.length_map] at hl2
          exact ⟨a2, _, _, _, rfl, by rw [Nat.succ_mul]; omega, hall2⟩
      | duo hk hn ha hb hc' hr1 hrb hrc hap hgv hps =>
        rename_i k n x y z r
        have hj : k ≠ "join" := by rcases hk with rfl | rfl | rfl <;> decide
        have hcd : k ∉ (["claim", "drop"] : SL) := by rcases hk with rfl | rfl | rfl <;> decide
        have lx := ord_len ha
        have ly := ord_len hb
        have lz := ord_len hc'
        refine wp_seq (wp_if (b := false) (evt_is (et_test (ev_op (rl_kind rfl) ev_str rv_eqS)) (decide_eq_false hj)) (fun h => by cases h) fun _ => wp_next ?_)
        refine wp_for (js := [6]) (xs := q.map peD) (it_seqL (ev_var rfl)) (fun j Γ => ∃ (a2 : List Act) (b c : Sl), Γ = [.dat (partsD p), .dat (pplD q), .dat (strsL tr), .dat (.str f), .own (a2.map Act.da), .dat (Rl.duo k n x y z r).da, b, c] ∧ a2.length ≤ acts.length + j * 7 ∧ ∀ a ∈ a2, ChoiceOk p tr q f a) ⟨acts, _, _, rfl, by omega, hall⟩ (fun j z' Γ hy hΓ => ?_) fun Γ hΓ => ?_
        · obtain ⟨a2, b', c', rfl, hl2, hall2⟩ := hΓ
          obtain ⟨v, hv, rfl⟩ := take_map hy
          have hvm := List.mem_of_getElem? hv
          have hjl : j < q.length := (List.getElem?_eq_some_iff.mp hv).1
          have hj7 : j * 7 ≤ 6 * 7 := Nat.mul_le_mul_right _ (by omega)
          refine tg_name (wp_if (et_and (et_test (ev_op (rl_kind rfl) ev_str rv_neS)) fun _ => et_test (ev_op (ev_op (ev_var rfl) ev_int (rv_ixL at0)) (ev_var rfl) rv_noL)) (fun hb => ?_) fun _ => wp_next ⟨a2, _, _, rfl, by rw [Nat.succ_mul]; omega, hall2⟩)
          rw [Bool.and_eq_true] at hb
          have ht : v.1 ∉ tr := by simpa using hb.2
          refine wp_seq (wp_if (b := false) (evt_is (et_and (a := false) (b := true) (evt_is (et_test (ev_op (rl_kind rfl) (ev_lst (ea_cons ev_str (ea_cons ev_str ea_nil)) (by simp)) (rv_isL (ss := ["claim", "drop"])))) (decide_eq_false hcd)) fun h => by cases h) rfl) (fun h => by cases h) fun _ => wp_next ?_)
          refine wp_if (b := true) (evt_is (et_test (ev_op (rl_kind rfl) (ev_lst (ea_cons ev_str (ea_cons ev_str ea_nil)) (by simp)) (rv_noL (ss := ["claim", "drop"])))) (by rw [decide_eq_false (show (Rl.duo k n x y z r).kind ∉ (["claim", "drop"] : SL) from hcd)]; rfl)) (fun _ => ?_) fun h => by cases h
          refine wp_for (js := [7]) (xs := q.map peD) (it_seqL (ev_var rfl)) (fun m Γ => ∃ (a3 : List Act) (c : Sl), Γ = [.dat (partsD p), .dat (pplD q), .dat (strsL tr), .dat (.str f), .own (a3.map Act.da), .dat (Rl.duo k n x y z r).da, .dat (peD v), c] ∧ a3.length ≤ a2.length + m ∧ ∀ a ∈ a3, ChoiceOk p tr q f a) ⟨a2, _, rfl, Nat.le_refl _, hall2⟩ (fun m z' Γ hy hΓ => ?_) fun Γ hΓ => ?_
          · obtain ⟨a3, c3, rfl, hl3, hall3⟩ := hΓ
            obtain ⟨o, ho, rfl⟩ := take_map hy
            have hom := List.mem_of_getElem? ho
            have hml : m < q.length := (List.getElem?_eq_some_iff.mp ho).1
            refine tg_name (wp_if (et_and (et_test (ev_op (ev_op (ev_var rfl) ev_int (rv_ixL at0)) (ev_op (ev_var rfl) ev_int (rv_ixL at0)) rv_neS)) fun _ => et_B (ev_call (ea_cons (ev_var rfl) (ea_cons (ev_op (ev_var rfl) ev_int (rv_ixL at1)) (ea_cons (ev_op (ev_var rfl) ev_int (rv_ixL at1)) ea_nil))) (.inr ⟨k, n, x, y, z, r, v.2, o.2, rfl, hk, by omega, by omega, by omega, rfl⟩))) (fun hb2 => ?_) fun _ => wp_next ⟨a3, _, rfl, by omega, hall3⟩)
            rw [Bool.and_eq_true] at hb2
            have hne : o.1 ≠ v.1 := by simpa using hb2.1
            refine wp_app rfl (ev_tup (ea_cons (rl_name rfl) (ea_cons (ev_op (ev_var rfl) ev_int (rv_ixL at0)) (ea_cons (ev_op (ev_var rfl) ev_int (rv_ixL at0)) ea_nil))) (by simp)) (by rw [List.length_map]; omega) ⟨a3 ++ [⟨n, v.1, some o.1⟩], _, by rw [List.map_append]; rfl, by rw [List.length_append]; simp; omega, fun a h => ?_⟩
            rcases List.mem_append.mp h with h | h
            · exact hall3 a h
            · rw [List.mem_singleton.mp h]
              exact duo_ok W I hum hk hvm hom hne ht hb2.2
          · obtain ⟨a3, c3, rfl, hl3, hall3⟩ := hΓ
            rw [List.length_map] at hl3
            exact ⟨a3, _, _, rfl, by rw [Nat.succ_mul]; omega, hall3⟩
        · obtain ⟨a2, b', c', rfl, hl2, hall2⟩ := hΓ
          rw [List.length_map] at hl2
          have : q.length * 7 ≤ 6 * 7 := Nat.mul_le_mul_right _ n6
          exact ⟨a2, _, _, _, rfl, by rw [Nat.succ_mul]; omega, hall2⟩
    · obtain ⟨acts, a, b, c, rfl, hl, hall⟩ := hΓ
      rw [List.length_map] at hl
      have : p.rules.length * 50 ≤ 6 * 50 := Nat.mul_le_mul_right _ u6
      refine wp_frz (wp_ret (ev_var rfl) fun p' q' tr' f' e => ?_)
      injection e with e1 e
      injection e with e2 e
      injection e with e3 e
      injection e with e4 _
      have := parts_inj e1
      have := pplD_inj e2
      have := strsL_inj e3
      have := str_inj _ _ e4
      subst_vars
      exact ⟨acts, rfl, by omega, hall⟩
end
end WM

/-! ## L7 -/
set_option maxHeartbeats 4000000
namespace WM
open PySem PySem.Spec PyProof.Rows L2
structure GoodA (p : Parts) (tr : SL) (q : Ppl) (a : Act) : Prop where
  can : Can p tr q a
  nm : ActN p a
  l5 : ∀ u n rs, p.rules.find? (fun v => decide (v.name = a.name)) = some u → u = .join n rs → q.length ≤ 5
theorem choice_good {p : Parts} {tr : SL} {q : Ppl} {f : Str} {a : Act} (h : ChoiceOk p tr q f a) (hf : IsName f) (h0 : (tl f)[0]? = some 110) (c : (q.length ≤ 5 ∧ f ∉ q.map (·.1)) ∨ a.actor ≠ f) : GoodA p tr q a := by
  obtain ⟨u, hu, hfind, h⟩ := h
  rcases h with ⟨n, rs, rfl, rfl⟩ | ⟨hc, hn⟩
  · rcases c with ⟨l5, hout⟩ | c
    · have hl : q.lookup f = none := by
        cases e : q.lookup f with
        | none => rfl
        | some l => exact absurd (mem_names.mpr (by rw [e]; rfl)) hout
      exact ⟨⟨_, hfind, rfl, hf, hl⟩, fun _ _ _ => h0, fun _ _ _ _ _ => l5⟩
    · exact absurd rfl c
  · refine ⟨⟨u, hfind, hc⟩, fun n rs e => ?_, fun v n rs e1 e2 => ?_⟩
    · rw [hfind] at e
      exact absurd (Option.some.inj e) (hn n rs)
    · rw [hfind] at e1
      rw [← Option.some.inj e1] at e2
      exact absurd e2 (hn n rs)
section
variable {P : Program} {w : World} {K : PySem.W.Frag} {mg : Str → Option Value} {base : Heap} {Γ : List Sl} {ta tb : TE}
def A_ldrawn : List Da → Prop := fun ds => ∃ (p : Parts) (tr : SL) (ks : List Int) (m : Int), ds = [partsD p, strsL tr, intsL ks, .int 72, .int m] ∧ PartsOk p ∧ ks.length = 160 ∧ 0 ≤ m ∧ m ≤ 12
def R_ldrawn : List Da → Da → Prop := fun ds d => ∀ (p : Parts) (tr : SL) (x y : Da) (m : Int), ds = [partsD p, strsL tr, x, y, .int m] → ∃ acts : List Act, d = .tup [.lst (acts.map Act.da), pplD (endP p p.founders acts)] ∧ RunN p tr p.founders acts ∧ acts.length ≤ 12
theorem ok_ldrawn (T : Txt w K mg) (G_l_founded : Cal P w K mg base "_law_founded" (He.ga K "_law_founded") 1 ["_law_charter"] (spP K R_lfounded))
    (G_l_fresh : Cal P w K mg base "_law_fresh" (He.ga K "_law_fresh") 1 ["_law_names_here", "_law_start"] (spP K R_lfresh))
    (G_l_choices : Cal P w K mg base "_law_choices" (He.ga K "_law_choices") 3 ["_law_parts_here", "_law_people", "_law_trusted_here", "_law_fresh_here"] (spX K A_lchoices R_lchoices))
    (G_l_acted : Cal P w K mg base "_law_acted" (He.ga K "_law_acted") 3 ["_law_charter", "_law_people", "_law_action"] (spP K R_lacted)) :
    Cal P w K mg base "_law_drawn" (He.ga K "_law_drawn") 4 ["_law_parts_here", "_law_trusted_here", "_law_numbers_here", "_law_at", "_law_many_here"] (spX K A_ldrawn R_ldrawn) := by
  obtain ⟨fd, F⟩ := T.d_l_drawn
  obtain ⟨fd1, F_l_founded, b_l_founded⟩ := G_l_founded.ex
  obtain ⟨fd2, F_l_fresh, b_l_fresh⟩ := G_l_fresh.ex
  obtain ⟨fd3, F_l_choices, b_l_choices⟩ := G_l_choices.ex
  obtain ⟨fd4, F_l_acted, b_l_acted⟩ := G_l_acted.ex
  refine ⟨⟨fd, fn_x F sc_l_drawn (fun ds h => ?_) fun cdv A outer s H E hr => ⟨_, (pss_cons (ps_set (i := 5) sc_l_drawn.nd rfl (by first | exact Or.inl rfl | exact Or.inr rfl) (pe_call F_l_founded (hr.mono (by decide)) rfl G_l_founded.m G_l_founded.kp b_l_founded .nil pass0 (pa_cons (pv 0) pa_nil))) (pss_cons (ps_set (i := 6) sc_l_drawn.nd rfl (by first | exact Or.inl rfl | exact Or.inr rfl) (pe_lst pa_nil)) (pss_cons (ps_for PassesOwn.never rfl (pi_range1 rfl T.f_range (pa_cons (pv 4) pa_nil)) (pg_name (i := 7) sc_l_drawn.nd rfl (by first | exact Or.inl rfl | exact Or.inr rfl)) (pss_cons (ps_set (i := 8) sc_l_drawn.nd rfl (by first | exact Or.inl rfl | exact Or.inr rfl) (pe_call F_l_fresh (hr.mono (by decide)) rfl G_l_fresh.m G_l_fresh.kp b_l_fresh .nil pass0 (pa_cons (pe_lc (own := [("_law_one", 9)]) rfl sc_l_drawn.nd (pi_seqK K rfl (pv 5)) (blkOk_by (own := [("_law_one", 9)]) (N := ["_law_parts_here", "_law_trusted_here", "_law_numbers_here", "_law_at", "_law_many_here", "_law_people", "_law_actions", "_law_k", "_law_fresh_here", "_law_one", "_law_choices_here", "_law_action"]) (sc := defScope s_l_drawn) (by decide +kernel)) (fun _ _ _ _ _ => (pg_name (i := 9) sc_l_drawn.nd rfl (by first | exact Or.inl rfl | exact Or.inr rfl))) (fun _ _ _ _ _ => pts_nil) (fun _ _ _ _ _ => (pe_ix (ix_K K rfl) (pv 9) pe_int (fun _ _ => rfl)))) (pa_cons (pe_op (op_addK K rfl) pe_str (pe_callTy call_strG (by rfl) T.f_str (by decide +kernel) (pa_cons (pv 7) pa_nil))) pa_nil)))) (pss_cons (ps_set (i := 10) sc_l_drawn.nd rfl (by first | exact Or.inl rfl | exact Or.inr rfl) (pe_call F_l_choices (hr.mono (by decide)) rfl G_l_choices.m G_l_choices.kp b_l_choices .nil pass0 (pa_cons (pv 0) (pa_cons (pv 5) (pa_cons (pv 1) (pa_cons (pv 8) pa_nil)))))) (pss_cons (ps_if (pt_cmpR op_gt (pe_callB (call_lenK K rfl) (by rfl) T.f_len (by decide +kernel) (pa_cons (pv 5) pa_nil)) pe_int (nomark _)) (pss_one (ps_setLc (i := 10) (own := [("_law_action", 11)]) rfl sc_l_drawn.nd rfl rfl (sw_true rfl rfl rfl (by decide +kernel)) (pi_seqK K rfl (pv 10)) (blkOk_by (own := [("_law_action", 11)]) (N := ["_law_parts_here", "_law_trusted_here", "_law_numbers_here", "_law_at", "_law_many_here", "_law_people", "_law_actions", "_law_k", "_law_fresh_here", "_law_one", "_law_choices_here", "_law_action"]) (sc := defScope s_l_drawn) (by decide +kernel)) (fun _ _ _ _ _ => (pg_name (i := 11) sc_l_drawn.nd rfl (by first | exact Or.inl rfl | exact Or.inr rfl))) (fun _ _ _ _ _ => (pts_one (pt_cmpR op_ne (pe_ix (ix_K K rfl) (pv 11) pe_int (fun _ _ => rfl)) (pv 8) (nomark _)))) (fun _ _ _ _ _ => (pv 11)))) pss_nil) (pss_one (ps_if (pt_cmpR op_gt (pe_callB (call_lenK K rfl) (by rfl) T.f_len (by decide +kernel) (pa_cons (pv 10) pa_nil)) pe_int (nomark _)) (pss_cons (ps_set (i := 11) sc_l_drawn.nd rfl (by first | exact Or.inl rfl | exact Or.inr rfl) (pe_ix (ix_K K rfl) (pv 10) (pe_op op_mod (pe_callTy call_intG (by rfl) T.f_int (by decide +kernel) (pa_cons (pe_ix (ix_K K rfl) (pv 2) (pe_op (op_addK K rfl) (pv 3) (pv 7)) (fun _ _ => rfl)) pa_nil)) (pe_callB (call_lenK K rfl) (by rfl) T.f_len (by decide +kernel) (pa_cons (pv 10) pa_nil))) (fun _ _ => rfl))) (pss_cons (ps_expr (pe_bm PySem.F.plainAttrs_list PySem.F.slot_list_append PySem.F.type_list_append mt_append (pv 6) (pa_cons (pv 11) pa_nil))) (pss_one (ps_set (i := 5) sc_l_drawn.nd rfl (by first | exact Or.inl rfl | exact Or.inr rfl) (pe_call F_l_acted (hr.mono (by decide)) rfl G_l_acted.m G_l_acted.kp b_l_acted .nil pass0 (pa_cons (pv 0) (pa_cons (pv 5) (pa_cons (pv 11) pa_nil)))))))) pss_nil)))))) (pss_one (ps_ret (pe_tup (pa_cons (pv 6) (pa_cons (pv 5) pa_nil)))))))), fun ds h => ?_⟩, F.bindsN fun _ _ _ _ _ _ us hl => match us, hl with | [_, _, _, _, _], _ => rfl⟩, T.m_l_drawn, F.kp⟩
  · obtain ⟨_, _, _, _, rfl, _⟩ := h
    rfl
  · obtain ⟨p, tr, ks, m, rfl, W, hk, m0, m12⟩ := h
    refine wp_seq (wp_asg (d := pplD p.founders) (ev_call (ea_cons (ev_var rfl) ea_nil) ⟨p, rfl, W, rfl⟩) ?_)
    refine wp_seq (wp_asgO (eo_lst ea_nil (by simp)) ?_)
    refine wp_seq (wp_for (js := [7]) (it_range (ea_cons (ev_var rfl) ea_nil) (by omega) m0) (fun i Γ => ∃ (acts : List Act) (a b c e : Sl), Γ = [.dat (partsD p), .dat (strsL tr), .dat (intsL ks), .dat (.int 72), .dat (.int m), .dat (pplD (endP p p.founders acts)), .own (acts.map Act.da), a, b, .un, c, e] ∧ RunN p tr p.founders acts ∧ acts.length ≤ i)
      ⟨[], _, _, _, _, rfl, inv_start W, Nat.le_refl _⟩ (fun i y Γ hy hΓ => ?_) fun Γ hΓ => ?_)
    · obtain ⟨acts, a, b, c, e, rfl, hrun, hal⟩ := hΓ
      obtain ⟨rfl, hi⟩ := take_range hy
      have hi12 : i < 12 := by omega
      have I := run_end p tr acts _ hrun
      obtain ⟨q, hq⟩ : ∃ q, endP p p.founders acts = q := ⟨_, rfl⟩
      rw [hq] at I
      rw [hq]
      have n6 := I.n6
      have hs := nK_seed (k := i) (by omega)
      have hlog : ((i : Int).natAbs).log2 < 1920 := by
        have := Nat.log2_le_self i
        show i.log2 < 1920
        omega
      have hnl : (Str.ofString "n").length + (Str.ofString (toString (i : Int))).length ≤ 100000 := by
        have h1 := hs.len
        have h2 : (nK i).length = (Str.ofString "n").length + (Str.ofString (toString (i : Int))).length := by
          rw [← tl_len, tl_app, List.length_append, tl_len, tl_len]
        omega
      obtain ⟨f, hfd⟩ : ∃ f, freshF (q.map (·.1)) 9 (nK i) = f := ⟨_, rfl⟩
      have hfN := fresh_name hs (q.map (·.1))
      rw [hfd] at hfN
      refine tg_name (wp_seq (wp_asg (d := .str f) (ev_is (ev_call (ea_cons (ev_is (ev_lcA peD q (it_seqL (ev_var rfl)) (by omega) (fun v => .str v.1) (by simp) fun j v _ => ev_op (ev_var rfl) ev_int (rv_ixL at0)) (congrArg Da.lst (show _ = (q.map (·.1)).map Da.str by rw [List.map_map]; rfl))) (ea_cons (ev_op ev_str (ev_cb (ea_cons (ev_var rfl) ea_nil) (rc_str hlog)) (rv_addS hnl)) ea_nil)) ⟨q.map (·.1), nK i, rfl, by have := hs.len; omega, rfl⟩) (by rw [hfd])) ?_))
      refine wp_seq (wp_asgX (evx_call (ea_cons (ev_var rfl) (ea_cons (ev_var rfl) (ea_cons (ev_var rfl) (ea_cons (ev_var rfl) ea_nil)))) ⟨p, q, tr, f, rfl, W, I⟩) fun d hd => ?_)
      obtain ⟨cs, rfl, hcl, hcs⟩ := hd _ _ _ _ rfl
      refine wp_mid (fun Γ' => ∃ (cs : List Act) (x : Sl), Γ' = [.dat (partsD p), .dat (strsL tr), .dat (intsL ks), .dat (.int 72), .dat (.int m), .dat (pplD q), .own (acts.map Act.da), .dat (.int (i : Int)), .dat (.str f), .un, .dat (.lst (cs.map Act.da)), x] ∧ cs.length ≤ 1000 ∧ ∀ a ∈ cs, GoodA p tr q a)
        (wp_if (et_test (ev_op (ev_cb (ea_cons (ev_var rfl) ea_nil) rc_lenL) ev_int (rv_B0 (g := fun i j => decide (j < i))))) (fun hb => ?_) fun hb => wp_next ⟨cs, _, rfl, hcl, fun a ha => choice_good (hcs a ha) hfN.1 hfN.2 (.inl ?_)⟩) fun Γ' hΓ => ?_
      · have hfl := List.length_filter_le (fun a : Act => !decide (a.actor = f)) cs
        refine wp_asg (d := .lst ((cs.filter fun a => !decide (a.actor = f)).map Act.da)) (ev_lcM Act.da cs (js := [11]) (it_seqL (ev_var rfl)) (by omega) (fun a => !decide (a.actor = f)) Act.da (by simp) fun j v _ => tg_name ⟨et_test (ev_op (ev_op (ev_var rfl) ev_int (rv_ixT at1)) (ev_var rfl) rv_neS), fun _ => ev_var rfl⟩) ⟨_, _, rfl, by omega, fun a ha => ?_⟩
        obtain ⟨h1, h2⟩ := List.mem_filter.mp ha
        exact choice_good (hcs a h1) hfN.1 hfN.2 (.inr (by simpa using h2))
      · have h5 : q.length ≤ 5 := by
          have := of_decide_eq_false hb
          rw [List.length_map] at this
          omega
        refine ⟨h5, ?_⟩
        rw [← hfd]
        refine fresh_out hs.hd ?_
        have := filter_few (ns := q.map (·.1)) (f := fun x => decide ((tl x)[0]? = some 110)) (n := 5) (by rw [List.length_map]; exact h5)
        omega
      · obtain ⟨cs, x, rfl, hcl, hgood⟩ := hΓ
        refine wp_if (et_test (ev_op (ev_cb (ea_cons (ev_var rfl) ea_nil) rc_lenL) ev_int (rv_B0 (g := fun i j => decide (j < i))))) (fun hb => ?_) fun hb => wp_next ⟨acts, _, _, _, _, by rw [hq], hrun, by omega⟩
        have hpos : 0 < cs.length := by
          have := of_decide_eq_true hb
          rw [List.length_map] at this
          omega
        have b0 := Int.emod_nonneg (num ks (72 + i)) (show ((cs.length : Nat) : Int) ≠ 0 by omega)
        have b1 := Int.emod_lt_of_pos (num ks (72 + i)) (show (0 : Int) < ((cs.length : Nat) : Int) by omega)
        obtain ⟨j, hj, hjl⟩ : ∃ j : Nat, num ks (72 + i) % ((cs.length : Nat) : Int) = (j : Int) ∧ j < cs.length := ⟨(num ks (72 + i) % ((cs.length : Nat) : Int)).toNat, by omega, by omega⟩
        have hcj : cs[j]? = some cs[j] := List.getElem?_eq_getElem hjl
        have G := hgood _ (List.getElem_mem hjl)
        generalize cs[j] = act at hcj G
        refine wp_seq (wp_asg (d := act.da) (ev_op (ev_var rfl) (ev_is (ev_mod (ev_intI (ev_num (72 + i) rfl (ev_add (ev_var rfl) (ev_var rfl)) (by omega) (by omega))) (ev_is (ev_cb (ea_cons (ev_var rfl) ea_nil) rc_lenL) (congrArg (fun n : Nat => Da.int (n : Int)) (List.length_map ..))) (by omega)) (congrArg Da.int hj)) (rv_ixL (atI_nat (by rw [List.getElem?_map, hcj]; rfl)))) ?_)
        refine wp_seq (wp_app rfl (ev_var rfl) (by rw [List.length_map]; omega) ?_)
        have hend : endP p p.founders (acts ++ [act]) = doP p q act := by rw [end_snoc, hq]
        refine wp_asg (d := pplD (doP p q act)) (ev_call (ea_cons (ev_var rfl) (ea_cons (ev_var rfl) (ea_cons (ev_var rfl) ea_nil))) ⟨p, tr, q, act, rfl, W, I.Q, G.can, rfl⟩) ⟨acts ++ [act], _, _, _, _, by rw [hend, List.map_append]; rfl, ?_, by rw [List.length_append]; simp; omega⟩
        refine run_snoc p tr act acts _ hrun (by rw [hq]; exact G.can) G.nm ?_
        rw [hq]
        exact inv_do W I G.can G.l5
    · obtain ⟨acts, a, b, c, e, rfl, hrun, hal⟩ := hΓ
      rw [range_len] at hal
      refine wp_frz (wp_ret (ev_tup (ea_cons (ev_var rfl) (ea_cons (ev_var rfl) ea_nil)) (by simp)) fun p' tr' x y m' em => ?_)
      injection em with e1 em
      injection em with e2 em
      have h1 := parts_inj e1
      have h2 := strsL_inj e2
      subst h1 h2
      exact ⟨acts, rfl, hrun, by omega⟩
end
end WM

/-! ## L8 -/
set_option maxHeartbeats 4000000
namespace WM
open PySem PySem.Spec PyProof.Rows L2
structure GInv (p : Parts) (g : List Dem) : Prop where
  fo : ∀ d ∈ g, ∀ n, d.who = some n → n ∈ p.founders.map (·.1)
  rt : ∀ d ∈ g, ∀ r ∈ d.has ++ d.no, r ∈ p.rights
  nd : ∀ d ∈ g, (d.has ++ d.no).Nodup
  ln : ∀ d ∈ g, (d.has ++ d.no).length ≤ 1000
  nm : (g.filterMap Dem.who).Nodup
theorem ginv_nil (p : Parts) : GInv p [] := ⟨fun _ h => (by cases h), fun _ h => (by cases h), fun _ h => (by cases h), fun _ h => (by cases h), List.Pairwise.nil⟩
theorem ginv_snoc {p : Parts} {g : List Dem} {d : Dem} (G : GInv p g) (h1 : ∀ n, d.who = some n → n ∈ p.founders.map (·.1)) (h2 : ∀ r ∈ d.has ++ d.no, r ∈ p.rights) (h3 : (d.has ++ d.no).Nodup) (h4 : (d.has ++ d.no).length ≤ 1000) (h5 : ∀ n, d.who = some n → some n ∉ g.map Dem.who) : GInv p (g ++ [d]) := by
  have f : ∀ {Q : Dem → Prop}, (∀ x ∈ g, Q x) → Q d → ∀ x ∈ g ++ [d], Q x := fun a b x hx => by
    rcases List.mem_append.mp hx with h | h
    · exact a x h
    · rw [List.mem_singleton.mp h]; exact b
  refine ⟨f (Q := fun d => ∀ n, d.who = some n → n ∈ p.founders.map (·.1)) G.fo h1, f (Q := fun d => ∀ r ∈ d.has ++ d.no, r ∈ p.rights) G.rt h2, f (Q := fun d => (d.has ++ d.no).Nodup) G.nd h3, f (Q := fun d => (d.has ++ d.no).length ≤ 1000) G.ln h4, ?_⟩
  rw [List.filterMap_append]
  cases e : d.who with
  | none =>
    have : [d].filterMap Dem.who = [] := by simp [e]
    rw [this, List.append_nil]
    exact G.nm
  | some n =>
    have : [d].filterMap Dem.who = [n] := by simp [e]
    rw [this]
    refine List.nodup_append.mpr ⟨G.nm, by simp, fun x hx y hy e2 => ?_⟩
    have hy2 : y = n := by simpa using hy
    obtain ⟨z, hz, hzx⟩ := List.mem_filterMap.mp hx
    refine h5 n e (List.mem_map.mpr ⟨z, hz, ?_⟩)
    rw [hzx, e2, hy2]
theorem ginv_take {p : Parts} {g : List Dem} (G : GInv p g) (n : Nat) : GInv p (g.take n) :=
  ⟨fun d h => G.fo d (List.mem_of_mem_take h), fun d h => G.rt d (List.mem_of_mem_take h), fun d h => G.nd d (List.mem_of_mem_take h), fun d h => G.ln d (List.mem_of_mem_take h), List.Pairwise.sublist (List.Sublist.filterMap _ (List.take_sublist n g)) G.nm⟩
theorem inD_opt (o : Option Str) (os : List (Option Str)) : inD (optD o) (os.map optD) = decide (o ∈ os) := by
  unfold inD
  rw [List.map_map]
  unfold inV
  rw [List.any_map]
  have e : ∀ y : Option Str, eqV (scV (optD y)) (scV (optD o)) = decide (y = o) := fun y => by
    cases y with
    | none => cases o with
      | none => rfl
      | some b => rfl
    | some a => cases o with
      | none => rfl
      | some b =>
        show (a == b) = _
        by_cases c : a = b
        · subst c; simp
        · simp [c]
  show (os.any fun y => eqV (scV (optD y)) (scV (optD o))) = _
  induction os with
  | nil => rfl
  | cons y ys ih =>
    rw [List.any_cons, ih, e]
    by_cases c : y = o
    · subst c; simp
    · have c2 : o ≠ y := fun h => c h.symm
      simp [c, c2]
theorem opts_flat (os : List (Option Str)) : (os.map optD).all flatD = true := by
  rw [List.all_map]
  exact List.all_eq_true.mpr fun o _ => opt_flat o
theorem dem_nd {rights : SL} (nd : rights.Nodup) (a b : Int) : (∀ r ∈ someF a rights ++ someF b (rights.filter fun r => !decide (r ∈ someF a rights)), r ∈ rights) ∧ (someF a rights ++ someF b (rights.filter fun r => !decide (r ∈ someF a rights))).Nodup ∧ (someF a rights ++ someF b (rights.filter fun r => !decide (r ∈ someF a rights))).length ≤ 2 * rights.length := by
  have s1 := someF_sub a rights
  have s2 := someF_sub b (rights.filter fun r => !decide (r ∈ someF a rights))
  have s3 := s2.trans (filter_sub _)
  refine ⟨fun r hr => ?_, List.nodup_append.mpr ⟨List.Pairwise.sublist s1 nd, List.Pairwise.sublist s3 nd, fun x hx y hy e => ?_⟩, ?_⟩
  · rcases List.mem_append.mp hr with h | h
    · exact s1.subset h
    · exact s3.subset h
  · have := (List.mem_filter.mp (s2.subset hy)).2
    rw [e] at hx
    simp at this
    exact this hx
  · rw [List.length_append]
    have := s1.length_le
    have := s3.length_le
    omega
/-! the larger parts -/
def newP (p : Parts) : Str := freshF (p.founders.map (·.1) ++ (List.range 13).map nK) 9 (Str.ofString "m0")
def newR (p : Parts) : Str := freshF (p.rules.map Rl.name) 9 (Str.ofString "m1")
def largerF (ks : List Int) (p : Parts) : Parts :=
  ⟨p.rights, p.sole, if num ks 100 % 2 = 1 then (p.founders ++ [(newP p, someF (num ks 90) (sharedF p.rights p.sole))]).reverse else p.founders ++ [(newP p, someF (num ks 90) (sharedF p.rights p.sole))],
   if num ks 99 % 2 = 1 then (p.rules ++ [ruleF ks 91 (newR p) p.rights p.sole]).reverse else p.rules ++ [ruleF ks 91 (newR p) p.rights p.sole]⟩
section
variable {P : Program} {w : World} {K : PySem.W.Frag} {mg : Str → Option Value} {base : Heap} {Γ : List Sl} {ta tb : TE}
def A_lgoal : List Da → Prop := fun ds => ∃ (ks : List Int) (a : Nat) (p : Parts), ds = [intsL ks, .int (a : Int), partsD p] ∧ a + 4 < ks.length ∧ PartsOk p
def R_lgoal : List Da → List Da → Prop := fun ds l => ∀ (x y : Da) (p : Parts), ds = [x, y, partsD p] → ∃ g : List Dem, l = g.map Dem.da ∧ GInv p g ∧ 1 ≤ g.length ∧ g.length ≤ 2
theorem ok_lgoal (T : Txt w K mg) (G_l_some : Cal P w K mg base "_law_some" (He.ga K "_law_some") 1 ["_law_number", "_law_rights"] (spP K R_lsome)) :
    Cal P w K mg base "_law_goal" (He.ga K "_law_goal") 2 ["_law_numbers_here", "_law_at", "_law_parts_here"] (spXO K A_lgoal R_lgoal) := by
  obtain ⟨fd, F⟩ := T.d_l_goal
  obtain ⟨fd1, F_l_some, b_l_some⟩ := G_l_some.ex
  refine ⟨⟨fd, fn_xo F sc_l_goal (fun ds h => ?_) fun cdv A outer s H E hr => ⟨_, (pss_cons (ps_set (i := 3) sc_l_goal.nd rfl (by first | exact Or.inl rfl | exact Or.inr rfl) (pe_lst pa_nil)) (pss_cons (ps_set (i := 4) sc_l_goal.nd rfl (by first | exact Or.inl rfl | exact Or.inr rfl) (pe_lst pa_nil)) (pss_cons (ps_for PassesOwn.never rfl (pi_range1 rfl T.f_range (pa_cons (pe_op (op_addK K rfl) pe_int (pe_op op_fdiv (pe_op op_mod (pe_callTy call_intG (by rfl) T.f_int (by decide +kernel) (pa_cons (pe_ix (ix_K K rfl) (pv 0) (pv 1) (fun _ _ => rfl)) pa_nil)) pe_int) pe_int)) pa_nil)) (pg_name (i := 5) sc_l_goal.nd rfl (by first | exact Or.inl rfl | exact Or.inr rfl)) (pss_cons (ps_set (i := 6) sc_l_goal.nd rfl (by first | exact Or.inl rfl | exact Or.inr rfl) (pe_call F_l_some (hr.mono (by decide)) rfl G_l_some.m G_l_some.kp b_l_some .nil pass0 (pa_cons (pe_op op_fdiv (pe_ix (ix_K K rfl) (pv 0) (pe_op (op_addK K rfl) (pe_op (op_addK K rfl) (pv 1) pe_int) (pe_op op_mul pe_int (pv 5))) (fun _ _ => rfl)) pe_int) (pa_cons (pe_ix (ix_K K rfl) (pv 2) pe_int (fun _ _ => rfl)) pa_nil)))) (pss_cons (ps_set (i := 7) sc_l_goal.nd rfl (by first | exact Or.inl rfl | exact Or.inr rfl) (pe_call F_l_some (hr.mono (by decide)) rfl G_l_some.m G_l_some.kp b_l_some .nil pass0 (pa_cons (pe_op op_fdiv (pe_ix (ix_K K rfl) (pv 0) (pe_op (op_addK K rfl) (pe_op (op_addK K rfl) (pv 1) pe_int) (pe_op op_mul pe_int (pv 5))) (fun _ _ => rfl)) pe_int) (pa_cons (pe_lc (own := [("_law_right", 8)]) rfl sc_l_goal.nd (pi_seqK K rfl (pe_ix (ix_K K rfl) (pv 2) pe_int (fun _ _ => rfl))) (blkOk_by (own := [("_law_right", 8)]) (N := ["_law_numbers_here", "_law_at", "_law_parts_here", "_law_goal_here", "_law_named", "_law_k", "_law_holds", "_law_lacks", "_law_right", "_law_person"]) (sc := defScope s_l_goal) (by decide +kernel)) (fun _ _ _ _ _ => (pg_name (i := 8) sc_l_goal.nd rfl (by first | exact Or.inl rfl | exact Or.inr rfl))) (fun _ _ _ _ _ => (pts_one (pt_cmpR (op_niK K rfl) (pv 8) (pv 6) rfl))) (fun _ _ _ _ _ => (pv 8))) pa_nil)))) (pss_cons (ps_set (i := 9) sc_l_goal.nd rfl (by first | exact Or.inl rfl | exact Or.inr rfl) pe_non) (pss_cons (ps_if (PW.pt (pw_and (pt_cmpR op_gt (pe_callB (call_lenK K rfl) (by rfl) T.f_len (by decide +kernel) (pa_cons (pe_ix (ix_K K rfl) (pv 2) pe_int (fun _ _ => rfl)) pa_nil)) pe_int (nomark _)) (pw_and1 (pt_cmpR op_eq (pe_op op_mod (pe_callTy call_intG (by rfl) T.f_int (by decide +kernel) (pa_cons (pe_ix (ix_K K rfl) (pv 0) (pe_op (op_addK K rfl) (pe_op (op_addK K rfl) (pv 1) pe_int) (pe_op op_mul pe_int (pv 5))) (fun _ _ => rfl)) pa_nil)) pe_int) pe_int (nomark _))))) (pss_one (ps_set (i := 9) sc_l_goal.nd rfl (by first | exact Or.inl rfl | exact Or.inr rfl) (pe_ix (ix_K K rfl) (pe_ix (ix_K K rfl) (pe_ix (ix_K K rfl) (pv 2) pe_int (fun _ _ => rfl)) (pe_op op_mod (pe_callTy call_intG (by rfl) T.f_int (by decide +kernel) (pa_cons (pe_ix (ix_K K rfl) (pv 0) (pe_op (op_addK K rfl) (pe_op (op_addK K rfl) (pv 1) pe_int) (pe_op op_mul pe_int (pv 5))) (fun _ _ => rfl)) pa_nil)) (pe_callB (call_lenK K rfl) (by rfl) T.f_len (by decide +kernel) (pa_cons (pe_ix (ix_K K rfl) (pv 2) pe_int (fun _ _ => rfl)) pa_nil))) (fun _ _ => rfl)) pe_int (fun _ _ => rfl)))) pss_nil) (pss_cons (ps_if (pt_cmpR (op_inK K rfl) (pv 9) (pv 4) rfl) (pss_one (ps_set (i := 9) sc_l_goal.nd rfl (by first | exact Or.inl rfl | exact Or.inr rfl) pe_non)) pss_nil) (pss_cons (ps_expr (pe_bm PySem.F.plainAttrs_list PySem.F.slot_list_append PySem.F.type_list_append mt_append (pv 4) (pa_cons (pv 9) pa_nil))) (pss_one (ps_expr (pe_bm PySem.F.plainAttrs_list PySem.F.slot_list_append PySem.F.type_list_append mt_append (pv 3) (pa_cons (pe_tup (pa_cons (pv 9) (pa_cons (pv 6) (pa_cons (pv 7) pa_nil)))) pa_nil))))))))))) (pss_one (ps_ret (pv 3)))))), fun ds h => ?_⟩, F.bindsN fun _ _ _ _ _ _ us hl => match us, hl with | [_, _, _], _ => rfl⟩, T.m_l_goal, F.kp⟩
  · obtain ⟨_, _, _, rfl, _⟩ := h
    rfl
  · obtain ⟨ks, a, p, rfl, hk, W⟩ := h
    have l6 := W.so.ln
    refine wp_seq (wp_asgO (eo_lst ea_nil (by simp)) ?_)
    refine wp_seq (wp_asgO (eo_lst ea_nil (by simp)) ?_)
    have m4 : 0 ≤ num ks a % 4 / 3 ∧ num ks a % 4 / 3 < 2 := by omega
    refine wp_seq (wp_for (js := [5]) (it_range (ea_cons (ev_add ev_int (ev_div (ev_mod (ev_intI (ev_num a rfl (ev_var rfl) rfl (by omega))) ev_int (by omega)) ev_int (by omega))) ea_nil) (by omega) (by omega))
      (fun i Γ => ∃ (g : List Dem) (b c d e : Sl), Γ = [.dat (intsL ks), .dat (.int (a : Int)), .dat (partsD p), .own (g.map Dem.da), .own ((g.map Dem.who).map optD), b, c, d, .un, e] ∧ GInv p g ∧ g.length = i) ⟨[], _, _, _, _, rfl, ginv_nil p, rfl⟩ (fun i y Γ hy hΓ => ?_) fun Γ hΓ => ?_)
    · obtain ⟨g, b, c, d, e, rfl, G, hl⟩ := hΓ
      obtain ⟨rfl, hi⟩ := take_range hy
      have hi2 : i < 2 := by omega
      have i1 : (a : Int) + 1 + 2 * (i : Int) = ((a + 1 + 2 * i : Nat) : Int) := by omega
      have i2 : (a : Int) + 2 + 2 * (i : Int) = ((a + 2 + 2 * i : Nat) : Int) := by omega
      have rts : ∀ Γ : List Sl, Γ[2]? = some (.dat (partsD p)) → Ev K (tOp (rIx K) (tVar 2) (tC (.int 0))) Γ (strsL p.rights) := fun Γ e => ev_op (ev_var e) ev_int (rv_ixL at0)
      have fos : ∀ Γ : List Sl, Γ[2]? = some (.dat (partsD p)) → Ev K (tOp (rIx K) (tVar 2) (tC (.int 2))) Γ (.lst (p.founders.map fD)) := fun Γ e => ev_op (ev_var e) ev_int (rv_ixL at2)
      obtain ⟨has, hhas⟩ : ∃ has, someF (num ks (a + 1 + 2 * i) / 3) p.rights = has := ⟨_, rfl⟩
      obtain ⟨no, hno⟩ : ∃ no, someF (num ks (a + 2 + 2 * i) / 7) (p.rights.filter fun r => !decide (r ∈ has)) = no := ⟨_, rfl⟩
      have DN := dem_nd W.so.nd (num ks (a + 1 + 2 * i) / 3) (num ks (a + 2 + 2 * i) / 7)
      rw [hhas, hno] at DN
      obtain ⟨d1, d2, d3⟩ := DN
      have hfl := List.length_filter_le (fun r => !decide (r ∈ has)) p.rights
      refine tg_name (wp_seq (wp_asg (d := strsT has) (ev_is (ev_call (ea_cons (ev_div (ev_num (a + 1 + 2 * i) rfl (ev_add (ev_add (ev_var rfl) ev_int) (ev_mulL ev_int (ev_var rfl) (by omega))) i1 (by omega)) ev_int (by omega)) (ea_cons (rts _ rfl) ea_nil)) ⟨_, p.rights, .inl rfl, by omega, rfl⟩) (by rw [hhas])) ?_))
      refine wp_seq (wp_asg (d := strsT no) (ev_is (ev_call (ea_cons (ev_div (ev_num (a + 2 + 2 * i) rfl (ev_add (ev_add (ev_var rfl) ev_int) (ev_mulL ev_int (ev_var rfl) (by omega))) i2 (by omega)) ev_int (by omega)) (ea_cons (ev_lcM .str p.rights (js := [8]) (it_seqL (rts _ rfl)) (by omega) (fun r => !decide (r ∈ has)) .str (by simp) fun j o _ => tg_name ⟨et_test (ev_op (ev_var rfl) (ev_var rfl) rv_noT), fun _ => ev_var rfl⟩) ea_nil)) ⟨_, p.rights.filter fun r => !decide (r ∈ has), .inl rfl, by omega, rfl⟩) (by rw [hno])) ?_)
      refine wp_seq (wp_asg (d := optD none) ev_non ?_)
      refine wp_mid (fun Γ' => ∃ who : Option Str, (∀ n, who = some n → n ∈ p.founders.map (·.1)) ∧ Γ' = [.dat (intsL ks), .dat (.int (a : Int)), .dat (partsD p), .own (g.map Dem.da), .own ((g.map Dem.who).map optD), .dat (.int (i : Int)), .dat (strsT has), .dat (strsT no), .un, .dat (optD who)])
        (wp_if (et_and (et_test (ev_op (ev_is (ev_cb (ea_cons (fos _ rfl) ea_nil) rc_lenL) (congrArg (fun n : Nat => Da.int (n : Int)) (List.length_map ..))) ev_int (rv_B0 (g := fun i j => decide (j < i))))) fun _ => et_test (ev_op (ev_mod (ev_intI (ev_num (a + 1 + 2 * i) rfl (ev_add (ev_add (ev_var rfl) ev_int) (ev_mulL ev_int (ev_var rfl) (by omega))) i1 (by omega))) ev_int (by omega)) ev_int rv_eqI)) (fun hb => ?_) fun _ => wp_next ⟨none, fun _ h => (by cases h), rfl⟩) fun Γ' hΓ => ?_
      · rw [Bool.and_eq_true] at hb
        have hpos := of_decide_eq_true hb.1
        have b0 := Int.emod_nonneg (num ks (a + 2 + 2 * i)) (show ((p.founders.length : Nat) : Int) ≠ 0 by omega)
        have b1 := Int.emod_lt_of_pos (num ks (a + 2 + 2 * i)) (show (0 : Int) < ((p.founders.length : Nat) : Int) by omega)
        obtain ⟨j, hj, hjl⟩ : ∃ j : Nat, num ks (a + 2 + 2 * i) % ((p.founders.length : Nat) : Int) = (j : Int) ∧ j < p.founders.length := ⟨(num ks (a + 2 + 2 * i) % ((p.founders.length : Nat) : Int)).toNat, by omega, by omega⟩
        have hcj : p.founders[j]? = some p.founders[j] := List.getElem?_eq_getElem hjl
        refine wp_asg (d := .str (p.founders[j]).1) (ev_op (ev_op (fos _ rfl) (ev_is (ev_mod (ev_intI (ev_num (a + 2 + 2 * i) rfl (ev_add (ev_add (ev_var rfl) ev_int) (ev_mulL ev_int (ev_var rfl) (by omega))) i2 (by omega))) (ev_is (ev_cb (ea_cons (fos _ rfl) ea_nil) rc_lenL) (congrArg (fun n : Nat => Da.int (n : Int)) (List.length_map ..))) (by omega)) (congrArg Da.int hj)) (rv_ixL (atI_nat (v := fD p.founders[j]) (by rw [List.getElem?_map, hcj]; rfl)))) ev_int (rv_ixT at0)) ⟨some (p.founders[j]).1, fun n h => ?_, rfl⟩
        rw [← Option.some.inj h]
        exact List.mem_map_of_mem (List.getElem_mem hjl)
      · obtain ⟨who, hwho, rfl⟩ := hΓ
        refine wp_mid (fun Γ' => ∃ who : Option Str, (∀ n, who = some n → n ∈ p.founders.map (·.1)) ∧ (∀ n, who = some n → some n ∉ g.map Dem.who) ∧ Γ' = [.dat (intsL ks), .dat (.int (a : Int)), .dat (partsD p), .own (g.map Dem.da), .own ((g.map Dem.who).map optD), .dat (.int (i : Int)), .dat (strsT has), .dat (strsT no), .un, .dat (optD who)])
          (wp_if (evt_frz (et_test (ev_op (ev_var rfl) (ev_var rfl) (rv_inL (opt_flat who) (opts_flat _))))) (fun _ => wp_asg ev_non ⟨none, fun _ h => (by cases h), fun _ h => (by cases h), rfl⟩) fun hb => wp_next ⟨who, hwho, fun n h => ?_, rfl⟩) fun Γ' hΓ => ?_
        · rw [inD_opt] at hb
          rw [← h]
          exact of_decide_eq_false hb
        · obtain ⟨who, h1, h2, rfl⟩ := hΓ
          refine wp_seq (wp_app rfl (ev_var rfl) (by rw [List.length_map, List.length_map]; omega) ?_)
          exact wp_app rfl (ev_tup (ea_cons (ev_var rfl) (ea_cons (ev_var rfl) (ea_cons (ev_var rfl) ea_nil))) (by simp)) (by rw [List.length_map]; omega) ⟨g ++ [⟨who, has, no⟩], _, _, _, _, by rw [List.map_append, List.map_append, List.map_append]; rfl, ginv_snoc G h1 d1 d2 (by show (has ++ no).length ≤ 1000; omega) h2, by rw [List.length_append, hl]; rfl⟩
    · obtain ⟨g, b, c, d, e, rfl, G, hl⟩ := hΓ
      rw [range_len] at hl
      refine wp_retO rfl fun x y p' em => ?_
      injection em with _ em
      injection em with _ em
      injection em with e3 _
      have := parts_inj e3
      subst this
      exact ⟨g, rfl, G, by omega, by omega⟩
def A_lmany : List Da → Prop := fun ds => ∃ (p : Parts) (ks : List Int) (a : Nat), ds = [partsD p, intsL ks, .int (a : Int)] ∧ a + 12 < ks.length ∧ PartsOk p
def R_lmany : List Da → Da → Prop := fun ds d => ∀ (p : Parts) (x y : Da), ds = [partsD p, x, y] → ∃ g : List Dem, d = .lst (g.map Dem.da) ∧ GInv p g ∧ 1 ≤ g.length ∧ g.length ≤ 3
theorem ok_lmany (T : Txt w K mg) (G_l_goal : Cal P w K mg base "_law_goal" (He.ga K "_law_goal") 2 ["_law_numbers_here", "_law_at", "_law_parts_here"] (spXO K A_lgoal R_lgoal)) :
    Cal P w K mg base "_law_many" (He.ga K "_law_many") 3 ["_law_parts_here", "_law_numbers_here", "_law_at"] (spX K A_lmany R_lmany) := by
  obtain ⟨fd, F⟩ := T.d_l_many
  obtain ⟨fd1, F_l_goal, b_l_goal⟩ := G_l_goal.ex
  refine ⟨⟨fd, fn_x F sc_l_many (fun ds h => ?_) fun cdv A outer s H E hr => ⟨_, (pss_cons (ps_set (i := 3) sc_l_many.nd rfl (by first | exact Or.inl rfl | exact Or.inr rfl) (pe_call F_l_goal (hr.mono (by decide)) rfl G_l_goal.m G_l_goal.kp b_l_goal .nil pass0 (pa_cons (pv 1) (pa_cons (pv 2) (pa_cons (pv 0) pa_nil))))) (pss_cons (ps_for PassesOwn.never rfl (pi_seqK K rfl (pe_call F_l_goal (hr.mono (by decide)) rfl G_l_goal.m G_l_goal.kp b_l_goal .nil pass0 (pa_cons (pv 1) (pa_cons (pe_op (op_addK K rfl) (pv 2) pe_int) (pa_cons (pv 0) pa_nil))))) (pg_name (i := 4) sc_l_many.nd rfl (by first | exact Or.inl rfl | exact Or.inr rfl)) (pss_one (ps_if (PW.pt (pw_or (pt_cmpR op_isN1 (pe_ix (ix_K K rfl) (pv 4) pe_int (fun _ _ => rfl)) pe_non (nomark _)) (pw_or1 (pt_cmpR (op_niK K rfl) (pe_ix (ix_K K rfl) (pv 4) pe_int (fun _ _ => rfl)) (pe_lc (own := [("_law_other", 5)]) rfl sc_l_many.nd (pi_seqK K rfl (pv 3)) (blkOk_by (own := [("_law_other", 5)]) (N := ["_law_parts_here", "_law_numbers_here", "_law_at", "_law_goal_here", "_law_demand", "_law_other"]) (sc := defScope s_l_many) (by decide +kernel)) (fun _ _ _ _ _ => (pg_name (i := 5) sc_l_many.nd rfl (by first | exact Or.inl rfl | exact Or.inr rfl))) (fun _ _ _ _ _ => pts_nil) (fun _ _ _ _ _ => (pe_ix (ix_K K rfl) (pv 5) pe_int (fun _ _ => rfl)))) rfl)))) (pss_one (ps_expr (pe_bm PySem.F.plainAttrs_list PySem.F.slot_list_append PySem.F.type_list_append mt_append (pv 3) (pa_cons (pv 4) pa_nil)))) pss_nil))) (pss_one (ps_ret (pe_slice (sl_K K rfl) (pv 3) po_none (po_some (pe_op (op_addK K rfl) pe_int (pe_op op_mod (pe_callTy call_intG (by rfl) T.f_int (by decide +kernel) (pa_cons (pe_ix (ix_K K rfl) (pv 1) (pe_op (op_addK K rfl) (pv 2) pe_int) (fun _ _ => rfl)) pa_nil)) pe_int)))))))), fun ds h => ?_⟩, F.bindsN fun _ _ _ _ _ _ us hl => match us, hl with | [_, _, _], _ => rfl⟩, T.m_l_many, F.kp⟩
  · obtain ⟨_, _, _, rfl, _⟩ := h
    rfl
  · obtain ⟨p, ks, a, rfl, hk, W⟩ := h
    refine wp_seq (wp_asgXO (evxo_call (ea_cons (ev_var rfl) (ea_cons (ev_var rfl) (ea_cons (ev_var rfl) ea_nil))) ⟨ks, a, p, rfl, by omega, W⟩) fun l hl => ?_)
    obtain ⟨g0, rfl, G0, g01, g02⟩ := hl _ _ _ rfl
    refine wp_seq (wp_forX (js := [4]) (itx_seq (EvXO.ev (evxo_call (ea_cons (ev_var rfl) (ea_cons (ev_is (ev_add (ev_var rfl) ev_int) (show _ = Da.int ((a + 8 : Nat) : Int) from congrArg Da.int (by omega))) (ea_cons (ev_var rfl) ea_nil))) ⟨ks, a + 8, p, rfl, by omega, W⟩)))
      (fun xs i Γ => ∃ (g : List Dem) (b : Sl), Γ = [.dat (partsD p), .dat (intsL ks), .dat (.int (a : Int)), .own (g.map Dem.da), b, .un] ∧ GInv p g ∧ 1 ≤ g.length ∧ g.length ≤ 2 + i) (fun xs _ => ⟨g0, _, rfl, G0, g01, by omega⟩) (fun xs i x Γ' hP hx hΓ => ?_) fun xs Γ' hP hΓ => ?_)
    · obtain ⟨g, b, rfl, G, h1, h2⟩ := hΓ
      obtain ⟨g2, rfl, G2, _, g22⟩ := hP _ _ _ rfl
      obtain ⟨z, hz, rfl⟩ := take_map hx
      have hzm := List.mem_of_getElem? hz
      have hi : i < g2.length := (List.getElem?_eq_some_iff.mp hz).1
      refine tg_name (wp_if (evt_frz (et_or (et_test (ev_op (ev_op (ev_var rfl) ev_int (rv_ixT at0)) ev_non rv_isN)) fun _ => et_test (ev_op (ev_op (ev_var rfl) ev_int (rv_ixT at0)) (ev_is (ev_lcA Dem.da g (it_seqL (ev_var rfl)) (by omega) (fun y => optD y.who) (by simp) fun j o _ => ev_op (ev_var rfl) ev_int (rv_ixT at0)) (show _ = Da.lst ((g.map Dem.who).map optD) by rw [List.map_map]; rfl)) (rv_niL (opt_flat _) (opts_flat _))))) (fun hb => ?_) fun _ => wp_next ⟨g, _, rfl, G, h1, by omega⟩)
      refine wp_app rfl (ev_var rfl) (by rw [List.length_map]; omega) ⟨g ++ [z], _, by rw [List.map_append]; rfl, ginv_snoc G (G2.fo z hzm) (G2.rt z hzm) (G2.nd z hzm) (G2.ln z hzm) (fun n hn => ?_), by rw [List.length_append]; omega, by rw [List.length_append]; simp; omega⟩
      rw [hn] at hb
      rw [Bool.or_eq_true] at hb
      rcases hb with hb | hb
      · cases hb
      · rw [inD_opt] at hb
        simpa using hb
    · obtain ⟨g, b, rfl, G, h1, h2⟩ := hΓ
      obtain ⟨g2, rfl, G2, _, g22⟩ := hP _ _ _ rfl
      rw [List.length_map] at h2
      have m3 : 0 ≤ num ks (a + 7) % 3 ∧ num ks (a + 7) % 3 < 3 := ⟨Int.emod_nonneg _ (by omega), Int.emod_lt_of_pos _ (by omega)⟩
      obtain ⟨k, hkk, hk1, hk3⟩ : ∃ k : Nat, 1 + num ks (a + 7) % 3 = (k : Int) ∧ 1 ≤ k ∧ k ≤ 3 := ⟨(1 + num ks (a + 7) % 3).toNat, by omega, by omega, by omega⟩
      refine wp_frz (wp_ret (ev_slL (ev_var rfl) ep_none (ep_some (ev_is (ev_add ev_int (ev_mod (ev_intI (ev_num (a + 7) rfl (ev_add (ev_var rfl) ev_int) (by omega) (by omega))) ev_int (by omega))) (congrArg Da.int hkk)))) fun p' x y em => ?_)
      injection em with e1 _
      have := parts_inj e1
      subst this
      refine ⟨g.take k, ?_, ginv_take G k, by rw [List.length_take]; omega, by rw [List.length_take]; omega⟩
      have : cutG (g.map Dem.da) none (some (k : Int)) = (g.map Dem.da).take k := by
        unfold cutG
        rw [HT.sIx_none, HT.sIx_nat, List.drop_zero, Nat.sub_zero]
        by_cases c : k ≤ (g.map Dem.da).length
        · rw [Nat.min_eq_left c]
        · rw [Nat.min_eq_right (by omega), List.take_of_length_le (Nat.le_refl _), List.take_of_length_le (by omega)]
      rw [this, ← List.map_take]
/-! larger -/
def R_llarger : List Da → Da → Prop := fun ds d => ∃ (p : Parts) (ks : List Int), ds = [partsD p, intsL ks, .int 90] ∧ ks.length = 160 ∧ PartsOk p ∧ d = partsD (largerF ks p)
theorem m0_len : (Str.ofString "m0").length = 2 := by decide +kernel
theorem m1_len : (Str.ofString "m1").length = 2 := by decide +kernel
theorem ok_llarger (T : Txt w K mg) (G_l_fresh : Cal P w K mg base "_law_fresh" (He.ga K "_law_fresh") 1 ["_law_names_here", "_law_start"] (spP K R_lfresh))
    (G_l_some : Cal P w K mg base "_law_some" (He.ga K "_law_some") 1 ["_law_number", "_law_rights"] (spP K R_lsome))
    (G_l_rule : Cal P w K mg base "_law_rule" (He.ga K "_law_rule") 3 ["_law_numbers_here", "_law_at", "_law_name", "_law_rights", "_law_sole"] (spP K R_lrule)) :
    Cal P w K mg base "_law_larger" (He.ga K "_law_larger") 4 ["_law_parts_here", "_law_numbers_here", "_law_at"] (spP K R_llarger) := by
  obtain ⟨fd, F⟩ := T.d_l_larger
  obtain ⟨fd1, F_l_fresh, b_l_fresh⟩ := G_l_fresh.ex
  obtain ⟨fd2, F_l_some, b_l_some⟩ := G_l_some.ex
  obtain ⟨fd3, F_l_rule, b_l_rule⟩ := G_l_rule.ex
  refine ⟨⟨fd, fn_pure F sc_l_larger (fun ds d h => ?_) fun cdv A outer s H E hr => ⟨_, (pss_cons (ps_setLc (i := 3) (own := [("_law_right", 4)]) rfl sc_l_larger.nd rfl rfl (sw_true rfl rfl rfl (by decide +kernel)) (pi_seqK K rfl (pe_ix (ix_K K rfl) (pv 0) pe_int (fun _ _ => rfl))) (blkOk_by (own := [("_law_right", 4)]) (N := ["_law_parts_here", "_law_numbers_here", "_law_at", "_law_shared", "_law_right", "_law_names_here", "_law_founder", "_law_k", "_law_founders", "_law_name", "_law_rule_here", "_law_rules"]) (sc := defScope s_l_larger) (by decide +kernel)) (fun _ _ _ _ _ => (pg_name (i := 4) sc_l_larger.nd rfl (by first | exact Or.inl rfl | exact Or.inr rfl))) (fun _ _ _ _ _ => (pts_one (pt_cmpR (op_niK K rfl) (pv 4) (pe_ix (ix_K K rfl) (pv 0) pe_int (fun _ _ => rfl)) rfl))) (fun _ _ _ _ _ => (pv 4))) (pss_cons (ps_set (i := 5) sc_l_larger.nd rfl (by first | exact Or.inl rfl | exact Or.inr rfl) (pe_op (op_addK K rfl) (pe_lc (own := [("_law_founder", 6)]) rfl sc_l_larger.nd (pi_seqK K rfl (pe_ix (ix_K K rfl) (pv 0) pe_int (fun _ _ => rfl))) (blkOk_by (own := [("_law_founder", 6)]) (N := ["_law_parts_here", "_law_numbers_here", "_law_at", "_law_shared", "_law_right", "_law_names_here", "_law_founder", "_law_k", "_law_founders", "_law_name", "_law_rule_here", "_law_rules"]) (sc := defScope s_l_larger) (by decide +kernel)) (fun _ _ _ _ _ => (pg_name (i := 6) sc_l_larger.nd rfl (by first | exact Or.inl rfl | exact Or.inr rfl))) (fun _ _ _ _ _ => pts_nil) (fun _ _ _ _ _ => (pe_ix (ix_K K rfl) (pv 6) pe_int (fun _ _ => rfl)))) (pe_lc (own := [("_law_k", 7)]) rfl sc_l_larger.nd (pi_range1 rfl T.f_range (pa_cons pe_int pa_nil)) (blkOk_by (own := [("_law_k", 7)]) (N := ["_law_parts_here", "_law_numbers_here", "_law_at", "_law_shared", "_law_right", "_law_names_here", "_law_founder", "_law_k", "_law_founders", "_law_name", "_law_rule_here", "_law_rules"]) (sc := defScope s_l_larger) (by decide +kernel)) (fun _ _ _ _ _ => (pg_name (i := 7) sc_l_larger.nd rfl (by first | exact Or.inl rfl | exact Or.inr rfl))) (fun _ _ _ _ _ => pts_nil) (fun _ _ _ _ _ => (pe_op (op_addK K rfl) pe_str (pe_callTy call_strG (by rfl) T.f_str (by decide +kernel) (pa_cons (pv 7) pa_nil))))))) (pss_cons (ps_set (i := 8) sc_l_larger.nd rfl (by first | exact Or.inl rfl | exact Or.inr rfl) (pe_op (op_addK K rfl) (pe_ix (ix_K K rfl) (pv 0) pe_int (fun _ _ => rfl)) (pe_lst (pa_cons (pe_tup (pa_cons (pe_call F_l_fresh (hr.mono (by decide)) rfl G_l_fresh.m G_l_fresh.kp b_l_fresh .nil pass0 (pa_cons (pv 5) (pa_cons pe_str pa_nil))) (pa_cons (pe_call F_l_some (hr.mono (by decide)) rfl G_l_some.m G_l_some.kp b_l_some .nil pass0 (pa_cons (pe_ix (ix_K K rfl) (pv 1) (pv 2) (fun _ _ => rfl)) (pa_cons (pv 3) pa_nil))) pa_nil))) pa_nil)))) (pss_cons (ps_set (i := 9) sc_l_larger.nd rfl (by first | exact Or.inl rfl | exact Or.inr rfl) (pe_call F_l_fresh (hr.mono (by decide)) rfl G_l_fresh.m G_l_fresh.kp b_l_fresh .nil pass0 (pa_cons (pe_lc (own := [("_law_rule_here", 10)]) rfl sc_l_larger.nd (pi_seqK K rfl (pe_ix (ix_K K rfl) (pv 0) pe_int (fun _ _ => rfl))) (blkOk_by (own := [("_law_rule_here", 10)]) (N := ["_law_parts_here", "_law_numbers_here", "_law_at", "_law_shared", "_law_right", "_law_names_here", "_law_founder", "_law_k", "_law_founders", "_law_name", "_law_rule_here", "_law_rules"]) (sc := defScope s_l_larger) (by decide +kernel)) (fun _ _ _ _ _ => (pg_name (i := 10) sc_l_larger.nd rfl (by first | exact Or.inl rfl | exact Or.inr rfl))) (fun _ _ _ _ _ => pts_nil) (fun _ _ _ _ _ => (pe_ix (ix_K K rfl) (pv 10) pe_int (fun _ _ => rfl)))) (pa_cons pe_str pa_nil)))) (pss_cons (ps_set (i := 11) sc_l_larger.nd rfl (by first | exact Or.inl rfl | exact Or.inr rfl) (pe_op (op_addK K rfl) (pe_ix (ix_K K rfl) (pv 0) pe_int (fun _ _ => rfl)) (pe_lst (pa_cons (pe_call F_l_rule (hr.mono (by decide)) rfl G_l_rule.m G_l_rule.kp b_l_rule .nil pass0 (pa_cons (pv 1) (pa_cons (pe_op (op_addK K rfl) (pv 2) pe_int) (pa_cons (pv 9) (pa_cons (pe_ix (ix_K K rfl) (pv 0) pe_int (fun _ _ => rfl)) (pa_cons (pe_ix (ix_K K rfl) (pv 0) pe_int (fun _ _ => rfl)) pa_nil)))))) pa_nil)))) (pss_cons (ps_if (pt_cmpR op_eq (pe_op op_mod (pe_callTy call_intG (by rfl) T.f_int (by decide +kernel) (pa_cons (pe_ix (ix_K K rfl) (pv 1) (pe_op (op_addK K rfl) (pv 2) pe_int) (fun _ _ => rfl)) pa_nil)) pe_int) pe_int (nomark _)) (pss_one (ps_set (i := 11) sc_l_larger.nd rfl (by first | exact Or.inl rfl | exact Or.inr rfl) (pe_revK K rfl (pv 11)))) pss_nil) (pss_cons (ps_if (pt_cmpR op_eq (pe_op op_mod (pe_callTy call_intG (by rfl) T.f_int (by decide +kernel) (pa_cons (pe_ix (ix_K K rfl) (pv 1) (pe_op (op_addK K rfl) (pv 2) pe_int) (fun _ _ => rfl)) pa_nil)) pe_int) pe_int (nomark _)) (pss_one (ps_set (i := 8) sc_l_larger.nd rfl (by first | exact Or.inl rfl | exact Or.inr rfl) (pe_revK K rfl (pv 8)))) pss_nil) (pss_one (ps_ret (pe_lst (pa_cons (pe_ix (ix_K K rfl) (pv 0) pe_int (fun _ _ => rfl)) (pa_cons (pe_ix (ix_K K rfl) (pv 0) pe_int (fun _ _ => rfl)) (pa_cons (pv 8) (pa_cons (pv 11) pa_nil)))))))))))))), fun ds d h => ?_⟩, F.bindsN fun _ _ _ _ _ _ us hl => match us, hl with | [_, _, _], _ => rfl⟩, T.m_l_larger, F.kp⟩
  · obtain ⟨_, _, rfl, _⟩ := h
    rfl
  · obtain ⟨p, ks, rfl, hk, W, rfl⟩ := h
    have l6 := W.so.ln
    have u6 := W.u6
    have f3 := W.f3
    have hsh : (sharedF p.rights p.sole).length ≤ p.rights.length := List.length_filter_le _ _
    have p0 : ∀ Γ : List Sl, Γ[0]? = some (.dat (partsD p)) → Ev K (tOp (rIx K) (tVar 0) (tC (.int 0))) Γ (strsL p.rights) := fun Γ e => ev_op (ev_var e) ev_int (rv_ixL at0)
    have p1 : ∀ Γ : List Sl, Γ[0]? = some (.dat (partsD p)) → Ev K (tOp (rIx K) (tVar 0) (tC (.int 1))) Γ (strsL p.sole) := fun Γ e => ev_op (ev_var e) ev_int (rv_ixL at1)
    have p2 : ∀ Γ : List Sl, Γ[0]? = some (.dat (partsD p)) → Ev K (tOp (rIx K) (tVar 0) (tC (.int 2))) Γ (.lst (p.founders.map fD)) := fun Γ e => ev_op (ev_var e) ev_int (rv_ixL at2)
    have p3 : ∀ Γ : List Sl, Γ[0]? = some (.dat (partsD p)) → Ev K (tOp (rIx K) (tVar 0) (tC (.int 3))) Γ (.lst (p.rules.map Rl.da)) := fun Γ e => ev_op (ev_var e) ev_int (rv_ixL at3)
    refine wp_seq (wp_asg (d := strsL (sharedF p.rights p.sole)) (ev_lcM .str p.rights (js := [4]) (it_seqL (p0 _ rfl)) (by omega) (fun r => !decide (r ∈ p.sole)) .str (by simp) fun i o _ => tg_name ⟨et_test (ev_op (ev_var rfl) (p1 _ rfl) rv_noL), fun _ => ev_var rfl⟩) ?_)
    refine wp_seq (wp_asg (d := strsL (p.founders.map (·.1) ++ (List.range 13).map nK)) (ev_is (ev_op (ev_lcA fD p.founders (it_seqL (p2 _ rfl)) (by omega) (fun f => .str f.1) (by simp) fun i f _ => ev_op (ev_var rfl) ev_int (rv_ixT at0)) (ev_lcA (fun (k : Nat) => Da.int (k : Int)) (List.range 13) (it_range (n := 13) (ea_cons ev_int ea_nil) (by omega) (by omega)) (by rw [List.length_range]; omega) (fun k => .str (nK k)) (by simp) fun i k hk2 => ?_) (rv_addL ?_)) ?_) ?_)
    · have hk13 : k < 13 := by
        obtain ⟨h1, h2⟩ := List.getElem?_eq_some_iff.mp hk2
        rw [List.getElem_range] at h2
        rw [List.length_range] at h1
        omega
      have hs := nK_seed hk13
      have hlog : ((k : Int).natAbs).log2 < 1920 := by
        have := Nat.log2_le_self k
        show k.log2 < 1920
        omega
      have h1 := hs.len
      have h2 : (nK k).length = (Str.ofString "n").length + (Str.ofString (toString (k : Int))).length := by
        rw [← tl_len, tl_app, List.length_append, tl_len, tl_len]
      exact ev_op ev_str (ev_cb (ea_cons (ev_var rfl) ea_nil) (rc_str hlog)) (rv_addS (by omega))
    · rw [List.length_map, List.length_map, List.length_range]; omega
    · refine congrArg Da.lst ?_
      rw [List.map_append, List.map_map, List.map_map]
      rfl
    refine wp_seq (wp_asg (d := .lst ((p.founders ++ [(newP p, someF (num ks 90) (sharedF p.rights p.sole))]).map fD)) (ev_is (ev_op (p2 _ rfl) (ev_lst (ea_cons (ev_tup (ea_cons (ev_call (ea_cons (ev_var rfl) (ea_cons ev_str ea_nil)) ⟨p.founders.map (·.1) ++ (List.range 13).map nK, Str.ofString "m0", rfl, by rw [m0_len]; omega, rfl⟩) (ea_cons (ev_call (ea_cons (ev_num 90 rfl (ev_var rfl) rfl (by omega)) (ea_cons (ev_var rfl) ea_nil)) ⟨_, sharedF p.rights p.sole, .inl rfl, by omega, rfl⟩) ea_nil)) (by simp)) ea_nil) (by simp)) (rv_addL (by simp; omega))) (congrArg Da.lst (by rw [List.map_append]; rfl))) ?_)
    refine wp_seq (wp_asg (d := .str (newR p)) (ev_call (ea_cons (ev_is (ev_lcA Rl.da p.rules (it_seqL (p3 _ rfl)) (by omega) (fun u => .str u.name) (by simp) fun i u _ => rl_name rfl) (congrArg Da.lst (show _ = (p.rules.map Rl.name).map Da.str by rw [List.map_map]; rfl))) (ea_cons ev_str ea_nil)) ⟨p.rules.map Rl.name, Str.ofString "m1", rfl, by rw [m1_len]; omega, rfl⟩) ?_)
    refine wp_seq (wp_asg (d := .lst ((p.rules ++ [ruleF ks 91 (newR p) p.rights p.sole]).map Rl.da)) (ev_is (ev_op (p3 _ rfl) (ev_lst (ea_cons (ev_call (ea_cons (ev_var rfl) (ea_cons (ev_add (ev_var rfl) ev_int) (ea_cons (ev_var rfl) (ea_cons (p0 _ rfl) (ea_cons (p1 _ rfl) ea_nil))))) ⟨ks, 91, newR p, p.rights, p.sole, rfl, by omega, W.so, rfl⟩) ea_nil) (by simp)) (rv_addL (by simp; omega))) (congrArg Da.lst (by rw [List.map_append]; rfl))) ?_)
    have LF : largerF ks p = ⟨p.rights, p.sole, if num ks 100 % 2 = 1 then (p.founders ++ [(newP p, someF (num ks 90) (sharedF p.rights p.sole))]).reverse else p.founders ++ [(newP p, someF (num ks 90) (sharedF p.rights p.sole))],
      if num ks 99 % 2 = 1 then (p.rules ++ [ruleF ks 91 (newR p) p.rights p.sole]).reverse else p.rules ++ [ruleF ks 91 (newR p) p.rights p.sole]⟩ := rfl
    rw [LF]
    generalize (p.founders ++ [(newP p, someF (num ks 90) (sharedF p.rights p.sole))]) = fo
    generalize (p.rules ++ [ruleF ks 91 (newR p) p.rights p.sole]) = us
    refine wp_mid (fun Γ' => Γ' = [.dat (partsD p), .dat (intsL ks), .dat (.int 90), .dat (strsL (sharedF p.rights p.sole)), .un, .dat (strsL (p.founders.map (·.1) ++ (List.range 13).map nK)), .un, .un, .dat (.lst (fo.map fD)), .dat (.str (newR p)), .un, .dat (.lst ((if num ks 99 % 2 = 1 then us.reverse else us).map Rl.da))]) (wp_if (et_test (ev_op (ev_mod (ev_intI (ev_num 99 rfl (ev_add (ev_var rfl) ev_int) (by omega) (by omega))) ev_int (by omega)) ev_int rv_eqI)) (fun hb => ?_) fun hb => wp_next ?_) fun Γ' hΓ => ?_
    · rw [if_pos (of_decide_eq_true hb)]
      exact wp_asg (ev_is (ev_revL (ev_var rfl)) (congrArg Da.lst (List.map_reverse ..).symm)) rfl
    · rw [if_neg (of_decide_eq_false hb)]
      rfl
    · subst hΓ
      generalize (if num ks 99 % 2 = 1 then us.reverse else us) = us2
      refine wp_mid (fun Γ' => Γ' = [.dat (partsD p), .dat (intsL ks), .dat (.int 90), .dat (strsL (sharedF p.rights p.sole)), .un, .dat (strsL (p.founders.map (·.1) ++ (List.range 13).map nK)), .un, .un, .dat (.lst ((if num ks 100 % 2 = 1 then fo.reverse else fo).map fD)), .dat (.str (newR p)), .un, .dat (.lst (us2.map Rl.da))]) (wp_if (et_test (ev_op (ev_mod (ev_intI (ev_num 100 rfl (ev_add (ev_var rfl) ev_int) (by omega) (by omega))) ev_int (by omega)) ev_int rv_eqI)) (fun hb => ?_) fun hb => wp_next ?_) fun Γ' hΓ => ?_
      · rw [if_pos (of_decide_eq_true hb)]
        exact wp_asg (ev_is (ev_revL (ev_var rfl)) (congrArg Da.lst (List.map_reverse ..).symm)) rfl
      · rw [if_neg (of_decide_eq_false hb)]
      · subst hΓ
        exact wp_ret (ev_lst (ea_cons (p0 _ rfl) (ea_cons (p1 _ rfl) (ea_cons (ev_var rfl) (ea_cons (ev_var rfl) ea_nil)))) (by simp)) rfl
/-! made -/
def R_lmade (K : PySem.W.Frag) : List Da → Da → Prop := fun ds d => ∃ p : Parts, ds = [partsD p] ∧ Wf p ∧ d = .ins (CC K) (chF p)
theorem ok_lmade (T : Txt w K mg) (G_Charter_init : CalI P w K mg base (CC K) (aM K "Charter" "__init__") 4 ["self", "rights", "sole", "founders", "rules"] 1 ["rights", "sole", "founders", "rules"] (spI K (CC K) R_Cinit)) :
    Cal P w K mg base "_law_made" (He.ga K "_law_made") 6 ["_law_parts_here"] (spP K (R_lmade K)) := by
  obtain ⟨fd, F⟩ := T.d_l_made
  obtain ⟨fd1, F_Charter_init, kb_Charter⟩ := G_Charter_init.ex
  refine ⟨⟨fd, fn_pure F sc_l_made (fun ds d h => ?_) fun cdv A outer s H E hr => ⟨_, (pss_cons (ps_setLc (i := 1) (own := [("_law_rule_here", 2)]) rfl sc_l_made.nd rfl rfl (sw_true rfl rfl rfl (by decide +kernel)) (pi_seqK K rfl (pe_ix (ix_K K rfl) (pv 0) pe_int (fun _ _ => rfl))) (blkOk_by (own := [("_law_rule_here", 2)]) (N := ["_law_parts_here", "_law_rules", "_law_rule_here"]) (sc := defScope s_l_made) (by decide +kernel)) (fun _ _ _ _ _ => (pg_name (i := 2) sc_l_made.nd rfl (by first | exact Or.inl rfl | exact Or.inr rfl))) (fun _ _ _ _ _ => pts_nil) (fun _ _ _ _ _ => (pe_callTy (call_tupK K rfl) (by rfl) T.f_tuple (by decide +kernel) (pa_cons (pv 2) pa_nil)))) (pss_one (ps_ret (pe_makeK0 T.mk_Charter F_Charter_init (hr.mono (by decide)) rfl T.m_Charter kb_Charter pass0 (pk_cons (pe_callTy (call_lstK K rfl) (by rfl) T.f_list (by decide +kernel) (pa_cons (pe_ix (ix_K K rfl) (pv 0) pe_int (fun _ _ => rfl)) pa_nil)) (pk_cons (pe_callTy (call_lstK K rfl) (by rfl) T.f_list (by decide +kernel) (pa_cons (pe_ix (ix_K K rfl) (pv 0) pe_int (fun _ _ => rfl)) pa_nil)) (pk_cons (pe_callTy (call_lstK K rfl) (by rfl) T.f_list (by decide +kernel) (pa_cons (pe_ix (ix_K K rfl) (pv 0) pe_int (fun _ _ => rfl)) pa_nil)) (pk_cons (pv 1) pk_nil)))))))), fun ds d h => ?_⟩, F.bindsN fun _ _ _ _ _ _ us hl => match us, hl with | [_], _ => rfl⟩, T.m_l_made, F.kp⟩
  · obtain ⟨_, rfl, _⟩ := h
    rfl
  · obtain ⟨p, rfl, W, rfl⟩ := h
    have u12 := W.u12
    refine wp_seq (wp_asg (d := .lst (p.rules.map Rl.da)) (ev_lcA Rl.da p.rules (it_seqL (ev_op (ev_var rfl) ev_int (rv_ixL at3))) (by omega) Rl.da (by simp) fun i u _ => by cases u <;> exact ev_cb (ea_cons (ev_var rfl) ea_nil) rc_tupT) ?_)
    exact wp_ret (EvI.ev (C := CC K) (fs := chF p) (ei_make ea_nil (ea_cons (eo_lstL (ea_cons (ev_op (ev_var rfl) ev_int (rv_ixL at0)) ea_nil)).ev (ea_cons (eo_lstL (ea_cons (ev_op (ev_var rfl) ev_int (rv_ixL at1)) ea_nil)).ev (ea_cons (eo_lstL (ea_cons (ev_op (ev_var rfl) ev_int (rv_ixL at2)) ea_nil)).ev (ea_cons (ev_var rfl) ea_nil)))) rfl rfl ⟨p, rfl, W, rfl⟩)) rfl
end
end WM

/-! ## M3 -/
set_option maxHeartbeats 4000000
/-! The larger organisation. -/
namespace WM
open PySem L2
theorem nodup_app {l : SL} {x : Str} (h : l.Nodup) (hx : x ∉ l) : (l ++ [x]).Nodup := List.nodup_append.mpr ⟨h, by simp, fun a ha b hb e => by
  have : b = x := by simpa using hb
  rw [e, this] at ha
  exact hx ha⟩
theorem nodup_rev {l : SL} (h : l.Nodup) : l.reverse.Nodup := List.pairwise_reverse.mpr (List.Pairwise.imp (fun h => Ne.symm h) h)
theorem newP_facts (p : Parts) (h3 : p.founders.length ≤ 3) : IsName (newP p) ∧ (tl (newP p))[0]? = some 109 ∧ newP p ∉ p.founders.map (·.1) := by
  have h := fresh_name m0_seed (p.founders.map (·.1) ++ (List.range 13).map nK)
  refine ⟨h.1, h.2, fun hm => ?_⟩
  have hout := fresh_out (ns := p.founders.map (·.1) ++ (List.range 13).map nK) m0_seed.hd ?_
  · exact hout (List.mem_append.mpr (.inl hm))
  · rw [List.filter_append, List.length_append]
    have h1 : ((p.founders.map (·.1)).filter fun x => decide ((tl x)[0]? = some 109)).length ≤ 3 := filter_few (by rw [List.length_map]; exact h3)
    have h2 : ((List.range 13).map nK).filter (fun x => decide ((tl x)[0]? = some 109)) = [] := List.filter_eq_nil_iff.mpr fun x hx => by
      obtain ⟨k, hk, rfl⟩ := List.mem_map.mp hx
      have := (nK_seed (List.mem_range.mp hk)).hd
      rw [this]
      decide
    rw [h2]
    simp only [List.length_nil]
    omega
theorem newR_facts (p : Parts) (h6 : p.rules.length ≤ 6) : IsName (newR p) ∧ newR p ∉ p.rules.map Rl.name := by
  have h := fresh_name m1_seed (p.rules.map Rl.name)
  refine ⟨h.1, fresh_out m1_seed.hd ?_⟩
  have : ((p.rules.map Rl.name).filter fun x => decide ((tl x)[0]? = some 109)).length ≤ 6 := filter_few (by rw [List.length_map]; exact h6)
  omega
/-- the larger founders, as they come -/
structure FoOk (p : Parts) (fo : Ppl) : Prop where
  mem : ∀ f, f ∈ fo ↔ f ∈ p.founders ∨ f = (newP p, (fo.lookup (newP p)).getD [])
  nd : (fo.map (·.1)).Nodup
theorem larger_fo (ks : List Int) (p : Parts) : ∃ nh : SL, nh.Sublist (sharedF p.rights p.sole) ∧ ((largerF ks p).founders = p.founders ++ [(newP p, nh)] ∨ (largerF ks p).founders = (p.founders ++ [(newP p, nh)]).reverse) := by
  refine ⟨someF (num ks 90) (sharedF p.rights p.sole), someF_sub _ _, ?_⟩
  unfold largerF
  by_cases c : num ks 100 % 2 = 1
  · rw [if_pos c]; exact .inr rfl
  · rw [if_neg c]; exact .inl rfl
theorem larger_us (ks : List Int) (p : Parts) : (largerF ks p).rules = p.rules ++ [ruleF ks 91 (newR p) p.rights p.sole] ∨ (largerF ks p).rules = (p.rules ++ [ruleF ks 91 (newR p) p.rights p.sole]).reverse := by
  unfold largerF
  by_cases c : num ks 99 % 2 = 1
  · rw [if_pos c]; exact .inr rfl
  · rw [if_neg c]; exact .inl rfl
theorem larger_wf {ks : List Int} {p : Parts} (W : PartsOk p) : Wf (largerF ks p) := by
  obtain ⟨nh, hs, hfo⟩ := larger_fo ks p
  obtain ⟨n1, n2, n3⟩ := newP_facts p W.f3
  obtain ⟨m1, m2⟩ := newR_facts p W.u6
  have hu := larger_us ks p
  have l6 := W.so.ln
  have f3 := W.f3
  have u6 := W.u6
  have ho : Ord p.rights nh := ord_sub W.so.nd (hs.trans (filter_sub _))
  have hsole : ∀ r ∈ p.sole, r ∉ nh := fun r hr hm => by
    have := (List.mem_filter.mp (hs.subset hm)).2
    simp at this
    exact this hr
  have e1 : (largerF ks p).rights = p.rights := rfl
  have e2 : (largerF ks p).sole = p.sole := rfl
  have memF : ∀ f, f ∈ (largerF ks p).founders → f ∈ p.founders ∨ f = (newP p, nh) := fun f hf => by
    rcases hfo with h | h
    · rw [h] at hf; simpa using hf
    · rw [h, List.mem_reverse] at hf; simpa using hf
  have memU : ∀ u, u ∈ (largerF ks p).rules → u ∈ p.rules ∨ u = ruleF ks 91 (newR p) p.rights p.sole := fun u hu2 => by
    rcases hu with h | h
    · rw [h] at hu2; simpa using hu2
    · rw [h, List.mem_reverse] at hu2; simpa using hu2
  refine ⟨W.r1, W.so.ln, W.so.nd, W.rN, ?_, ?_, ?_, fun f hf => ?_, fun f hf => ?_, fun r hr => ?_, ?_, ?_, fun u hu2 => ?_⟩
  · rcases W.so.one with h | ⟨s, h, hs2⟩
    · rw [e1, e2, h]
      exact ⟨by simp, by simp, fun _ h => by cases h⟩
    · rw [e1, e2, h]
      exact ord_sub W.so.nd (List.singleton_sublist.mpr hs2)
  · rcases hfo with h | h <;> rw [h] <;> simp <;> omega
  · rcases hfo with h | h
    · rw [h, List.map_append]; exact nodup_app W.fn n3
    · rw [h, List.map_reverse, List.map_append]
      exact nodup_rev (nodup_app W.fn n3)
  · rcases memF f hf with h | rfl
    · exact W.fN f h
    · exact n1
  · rcases memF f hf with h | rfl
    · exact W.fo f h
    · exact ho
  · have hb := W.fs r hr
    have hn : decide (r ∈ nh) = false := decide_eq_false (hsole r hr)
    have e : ((p.founders ++ [(newP p, nh)]).filter fun f => decide (r ∈ f.2)) = p.founders.filter fun f => decide (r ∈ f.2) := by
      rw [List.filter_append]
      simp [hn]
    rcases hfo with h | h
    · rw [h, e]; exact hb
    · rw [h, List.filter_reverse, List.length_reverse, e]; exact hb
  · rcases hu with h | h <;> rw [h] <;> simp <;> omega
  · have hm : (ruleF ks 91 (newR p) p.rights p.sole).name ∉ p.rules.map Rl.name := by rw [rule_name]; exact m2
    rcases hu with h | h
    · rw [h, List.map_append]; exact nodup_app W.un hm
    · rw [h, List.map_reverse, List.map_append]
      exact nodup_rev (nodup_app W.un hm)
  · rcases memU u hu2 with h | rfl
    · exact W.uw u h
    · exact rule_wf W.so m1
theorem larger_mem {ks : List Int} {p : Parts} {f : Str × SL} (h : f ∈ p.founders) : f ∈ (largerF ks p).founders := by
  obtain ⟨nh, _, hfo⟩ := larger_fo ks p
  rcases hfo with e | e
  · rw [e]; exact List.mem_append.mpr (.inl h)
  · rw [e, List.mem_reverse]; exact List.mem_append.mpr (.inl h)
theorem larger_rule {ks : List Int} {p : Parts} {u : Rl} (h : u ∈ p.rules) : u ∈ (largerF ks p).rules := by
  rcases larger_us ks p with e | e
  · rw [e]; exact List.mem_append.mpr (.inl h)
  · rw [e, List.mem_reverse]; exact List.mem_append.mpr (.inl h)
theorem find_some {α : Type} {f : α → Bool} {l : List α} {a : α} (h : a ∈ l) (hf : f a = true) : ∃ u, l.find? f = some u := by
  cases e : l.find? f with
  | some u => exact ⟨u, rfl⟩
  | none =>
    have := List.find?_eq_none.mp e a h
    exact absurd hf this
theorem found_by {ks : List Int} {p : Parts} {n : Str} (h : n ∈ p.founders.map (·.1)) : ∃ u, (largerF ks p).founders.find? (fun v => decide (v.1 = n)) = some u := by
  obtain ⟨f, hf, e⟩ := List.mem_map.mp h
  exact find_some (larger_mem hf) (decide_eq_true e)
theorem goal_ok {ks : List Int} {p : Parts} {g : List Dem} (G : GInv p g) (h1 : 1 ≤ g.length) (h3 : g.length ≤ 3) : GoalOk (largerF ks p) g :=
  ⟨h1, h3, fun d hd n hn => found_by (G.fo d hd n hn), G.rt, G.nd, G.ln, G.nm⟩
/-! the two side by side -/
structure Sim (p : Parts) (ks : List Int) (q Q : Ppl) : Prop where
  hd : ∀ x h, q.lookup x = some h → Q.lookup x = some h
  out : ∀ x, Q.lookup x ≠ none → q.lookup x ≠ none ∨ x = newP p
  ok : PplOk (largerF ks p) Q
  n : Q.length ≤ q.length + 1
theorem sim_start {ks : List Int} {p : Parts} (W : PartsOk p) : Sim p ks p.founders (largerF ks p).founders := by
  obtain ⟨nh, hs, hfo⟩ := larger_fo ks p
  have WL := larger_wf (ks := ks) W
  have l6 := W.so.ln
  have f3 := W.f3
  have len : ∀ f ∈ (largerF ks p).founders, f.2.length ≤ 1000 := fun f hf => by
    have := ord_len (WL.fo f hf)
    have e : (largerF ks p).rights = p.rights := rfl
    rw [e] at this
    omega
  refine ⟨fun x h e => ?_, fun x hx => ?_, ⟨fun v hv => (WL.fo v hv).2.2, len, ?_⟩, ?_⟩
  · exact lookup_of WL.fn (larger_mem (lookup_mem e))
  · cases e : (largerF ks p).founders.lookup x with
    | none => exact absurd e hx
    | some l =>
      have hm := lookup_mem e
      have : (x, l) ∈ p.founders ∨ (x, l) = (newP p, nh) := by
        rcases hfo with h | h
        · rw [h] at hm; simpa using hm
        · rw [h, List.mem_reverse] at hm; simpa using hm
      rcases this with h | h
      · left
        rw [lookup_of W.fn h]
        exact fun z => by cases z
      · right
        exact congrArg Prod.fst h
  · rcases hfo with h | h <;> rw [h] <;> simp <;> omega
  · rcases hfo with h | h <;> rw [h] <;> simp
theorem sim_step {ks : List Int} {p : Parts} (W : PartsOk p) {tr : SL} {q Q : Ppl} {a : Act} (hc : Can p tr q a) (hn : ActN p a) (I : Inv p q) (I' : Inv p (doP p q a)) (S : Sim p ks q Q) : Can (largerF ks p) tr Q a ∧ Sim p ks (doP p q a) (doP (largerF ks p) Q a) := by
  obtain ⟨u, hu, hcu⟩ := hc
  have hum := List.mem_of_find?_eq_some hu
  have hun : u.name = a.name := by simpa using List.find?_some hu
  have WL := larger_wf (ks := ks) W
  have hL : (largerF ks p).rules.find? (fun v => decide (v.name = a.name)) = some u := by
    rw [← hun]
    exact find_name WL.un (larger_rule hum)
  have d1 : doP p q a = doU p.rights q a u := by unfold doP; rw [hu]
  have d2 : doP (largerF ks p) Q a = doU p.rights Q a u := by unfold doP; rw [hL]; rfl
  have n6 := I.n6
  have Sn := S.n
  have lr := W.so.ln
  -- what a change of one person does
  have one : ∀ {q Q : Ppl} (x : Str) (l : SL), (∀ x h, q.lookup x = some h → Q.lookup x = some h) → (∀ x, Q.lookup x ≠ none → q.lookup x ≠ none ∨ x = newP p) →
      (∀ y h, (setP q x l).lookup y = some h → (setP Q x l).lookup y = some h) ∧ ∀ y, (setP Q x l).lookup y ≠ none → (setP q x l).lookup y ≠ none ∨ y = newP p := fun {q Q} x l h1 h2 => by
    refine ⟨fun y h e => ?_, fun y e => ?_⟩
    · rw [setP_lookup] at e ⊢
      by_cases c : y = x
      · rw [if_pos c] at e ⊢; exact e
      · rw [if_neg c] at e ⊢; exact h1 y h e
    · rw [setP_lookup] at e ⊢
      by_cases c : y = x
      · rw [if_pos c]; exact .inl (fun z => by cases z)
      · rw [if_neg c] at e ⊢; exact h2 y e
  have okS : ∀ {Q : Ppl} (x : Str) (l : SL), PplOk (largerF ks p) Q → (∀ z ∈ l, z ∈ p.rights) → l.length ≤ 1000 → Q.length ≤ 100 → PplOk (largerF ks p) (setP Q x l) := fun {Q} x l ok h1 h2 h3 => by
    refine ⟨fun v hv => ?_, fun v hv => ?_, ?_⟩
    · rcases mem_setP hv with rfl | h
      · exact h1
      · exact ok.sub v h
    · rcases mem_setP hv with rfl | h
      · exact h2
      · exact ok.len v h
    · have := setP_len Q x l
      omega
  rw [d1, d2]
  rw [d1] at I'
  cases u with
  | join n rs =>
    obtain ⟨h0, h1, h2⟩ := hcu
    have hQ : Q.lookup a.actor = none := by
      cases e : Q.lookup a.actor with
      | none => rfl
      | some l =>
        rcases S.out a.actor (by rw [e]; exact fun z => by cases z) with h | h
        · exact absurd h2 h
        · have g1 := hn n rs hu
          have g2 := (newP_facts p W.f3).2.1
          rw [h, g2] at g1
          cases g1
    have wf := W.uw _ hum
    cases wf with
    | join _ ho _ =>
      have hrs := ord_len ho
      obtain ⟨o1, o2⟩ := one a.actor rs S.hd S.out
      refine ⟨⟨_, hL, h0, h1, hQ⟩, o1, o2, okS a.actor rs S.ok ho.2.2 (by omega) (by omega), ?_⟩
      show (setP Q a.actor rs).length ≤ (setP q a.actor rs).length + 1
      rw [setP_new hQ, setP_new h2, List.length_append, List.length_append]
      simp
      omega
  | solo k n x y r =>
    obtain ⟨h0, h, h1, h2, h3, h4⟩ := hcu
    have hQ := S.hd _ _ h1
    rw [doU_solo h1] at I' ⊢
    rw [doU_solo hQ]
    obtain ⟨o1, o2⟩ := one a.actor (chS1 p.rights k r h) S.hd S.out
    have hm : (a.actor, chS1 p.rights k r h) ∈ setP q a.actor (chS1 p.rights k r h) := lookup_mem (by rw [setP_lookup, if_pos rfl])
    exact ⟨⟨_, hL, h0, h, hQ, h2, h3, h4⟩, o1, o2, okS _ _ S.ok (I'.Q.ok.sub _ hm) (I'.Q.ok.len _ hm) (by omega), by rw [setP_length hQ, setP_length h1]; exact Sn⟩
  | duo k n x y z r =>
    obtain ⟨t, h, o, h0, h1, h2, h3, h4, h5, h6, h7, h8⟩ := hcu
    have hQ := S.hd _ _ h1
    have hQ2 := S.hd _ _ h2
    have wf := W.uw _ hum
    have hk : k = "give" ∨ k = "take" ∨ k = "pass" := by cases wf with | duo hk _ _ _ _ _ _ _ _ _ _ => exact hk
    have ndQ : True := trivial
    rw [doU_duo I.Q.nd hk h0 h1 h2 h3] at I' ⊢
    have e2 : (setP q a.actor (chA k r h)).lookup t = some o := by rw [setP_lookup, if_neg h3]; exact h2
    have e3 : (setP Q a.actor (chA k r h)).lookup t = some o := by rw [setP_lookup, if_neg h3]; exact hQ2
    have dL : ∀ y w, (doU p.rights Q a (.duo k n x y z r)).lookup w = (setP (setP Q a.actor (chA k r h)) t (chT p.rights k r o)).lookup w ∧ (doU p.rights Q a (.duo k n x y z r)).length = Q.length ∧ ∀ v ∈ doU p.rights Q a (.duo k n x y z r), v ∈ setP (setP Q a.actor (chA k r h)) t (chT p.rights k r o) ∨ v ∈ Q := fun y w => by
      have g : getP Q a.actor = h := by unfold getP; rw [hQ]; rfl
      have g2 : getP Q t = o := by unfold getP; rw [hQ2]; rfl
      have ee : doU p.rights Q a (.duo k n x y z r) = (if k = "take" then cutR Q (a.tgt.getD "") r else if k = "pass" then putR p.rights (cutR Q a.actor r) (a.tgt.getD "") r else putR p.rights Q (a.tgt.getD "") r) := rfl
      rw [ee, h0]
      show (if k = "take" then cutR Q t r else if k = "pass" then putR p.rights (cutR Q a.actor r) t r else putR p.rights Q t r).lookup w = _ ∧ (if k = "take" then cutR Q t r else if k = "pass" then putR p.rights (cutR Q a.actor r) t r else putR p.rights Q t r).length = _ ∧ ∀ v ∈ (if k = "take" then cutR Q t r else if k = "pass" then putR p.rights (cutR Q a.actor r) t r else putR p.rights Q t r), _
      unfold chA chT
      rcases hk with rfl | rfl | rfl
      · rw [if_neg (by decide), if_neg (by decide), if_neg (by decide), if_neg (by decide), with_put]
        unfold putR
        rw [g2]
        refine ⟨?_, setP_length hQ2, fun v hv => ?_⟩
        · rw [setP_lookup, setP_lookup, setP_lookup]
          by_cases c : w = t
          · rw [if_pos c, if_pos c]
          · rw [if_neg c, if_neg c]
            by_cases c2 : w = a.actor
            · rw [if_pos c2, c2]; exact hQ
            · rw [if_neg c2]
        · rcases mem_setP hv with rfl | h
          · exact .inl (lookup_mem (by rw [setP_lookup, if_pos rfl]))
          · exact .inr h
      · rw [if_pos rfl, if_neg (by decide), if_pos rfl]
        unfold cutR lessF
        rw [g2]
        refine ⟨?_, setP_length hQ2, fun v hv => ?_⟩
        · rw [setP_lookup, setP_lookup, setP_lookup]
          by_cases c : w = t
          · rw [if_pos c, if_pos c]
          · rw [if_neg c, if_neg c]
            by_cases c2 : w = a.actor
            · rw [if_pos c2, c2]; exact hQ
            · rw [if_neg c2]
        · rcases mem_setP hv with rfl | h
          · exact .inl (lookup_mem (by rw [setP_lookup, if_pos rfl]))
          · exact .inr h
      · rw [if_neg (by decide), if_pos rfl, if_pos rfl, if_neg (by decide), with_put]
        have g3 : getP (cutR Q a.actor r) t = o := by
          unfold getP cutR
          rw [setP_lookup, if_neg h3, hQ2]; rfl
        unfold putR
        rw [g3]
        unfold cutR lessF
        rw [g]
        have e4 : (setP Q a.actor (h.filter fun o => !decide (o = r))).lookup t = some o := by rw [setP_lookup, if_neg h3]; exact hQ2
        exact ⟨rfl, by rw [setP_length e4, setP_length hQ], fun v hv => .inl hv⟩
    obtain ⟨o1, o2⟩ := one a.actor (chA k r h) S.hd S.out
    obtain ⟨o3, o4⟩ := one t (chT p.rights k r o) o1 o2
    have hm : (t, chT p.rights k r o) ∈ setP (setP q a.actor (chA k r h)) t (chT p.rights k r o) := lookup_mem (by rw [setP_lookup, if_pos rfl])
    have hm2 : (a.actor, chA k r h) ∈ setP (setP q a.actor (chA k r h)) t (chT p.rights k r o) := lookup_mem (by rw [setP_lookup, if_neg (Ne.symm h3), setP_lookup, if_pos rfl])
    have ok1 := okS a.actor (chA k r h) S.ok (I'.Q.ok.sub _ hm2) (I'.Q.ok.len _ hm2) (by omega)
    have ok2 := okS t (chT p.rights k r o) ok1 (I'.Q.ok.sub _ hm) (I'.Q.ok.len _ hm) (by rw [setP_length hQ]; omega)
    refine ⟨⟨_, hL, t, h, o, h0, hQ, hQ2, h3, h4, h5, h6, h7, h8⟩, fun w h' e => ?_, fun w e => ?_, ⟨fun v hv => ?_, fun v hv => ?_, ?_⟩, ?_⟩
    · rw [(dL y w).1]; exact o3 w h' e
    · rw [(dL y w).1] at e; exact o4 w e
    · rcases (dL y v.1).2.2 v hv with h | h
      · exact ok2.sub v h
      · exact S.ok.sub v h
    · rcases (dL y v.1).2.2 v hv with h | h
      · exact ok2.len v h
      · exact S.ok.len v h
    · rw [(dL y t).2.1]; exact S.ok.n
    · rw [(dL y t).2.1, setP_length e2, setP_length h1]; exact Sn
theorem run_inv {p : Parts} {tr : SL} {q : Ppl} {as : List Act} (h : RunN p tr q as) : Inv p q := by
  cases as with
  | nil => exact h
  | cons a as => exact h.2.2.1
theorem sim_run {ks : List Int} {p : Parts} (W : PartsOk p) {tr : SL} : ∀ (as : List Act) (q Q : Ppl) (n0 : Int), RunN p tr q as → Sim p ks q Q → Run (largerF ks p) tr Q as ∧ ∀ k, k ≤ as.length → ∃ Qk n, (moms (largerF ks p) n0 Q as)[k]? = some (n, Qk) ∧ Sim p ks (endP p q (as.take k)) Qk ∧ Inv p (endP p q (as.take k))
  | [], q, Q, n0, h, S => ⟨trivial, fun k hk => by
      have : k = 0 := by simpa using hk
      subst this
      exact ⟨Q, n0, rfl, S, h⟩⟩
  | a :: as, q, Q, n0, h, S => by
    obtain ⟨hc, hn, I, hr⟩ := h
    obtain ⟨c1, S1⟩ := sim_step W hc hn I (run_inv hr) S
    obtain ⟨r1, r2⟩ := sim_run W as _ _ (n0 + 1) hr S1
    refine ⟨⟨c1, S.ok, r1⟩, fun k hk => ?_⟩
    cases k with
    | zero => exact ⟨Q, n0, rfl, S, I⟩
    | succ k => exact r2 k (by simpa using hk)
theorem run_can {p : Parts} {tr : SL} : ∀ {as : List Act} {q : Ppl} {k : Nat} {a : Act}, RunN p tr q as → as[k]? = some a → Can p tr (endP p q (as.take k)) a ∧ endP p q (as.take (k + 1)) = doP p (endP p q (as.take k)) a
  | [], _, _, _, _, e => by simp at e
  | b :: as, q, 0, a, h, e => by
    have : b = a := Option.some.inj e
    subst this
    exact ⟨h.1, by simp [endP]⟩
  | b :: as, q, k + 1, a, h, e => run_can (as := as) (k := k) h.2.2.2 (by simpa using e)
/-! goals -/
theorem met_choose {Q : Ppl} : ∀ (g : List Dem) (q : Ppl) (ch : SL), (∀ v ∈ q, v ∈ Q ∧ v.1 ∉ ch) → (q.map (·.1)).Nodup → metL g q = true → choose (g.map (standsFor Q)) ch = true
  | [], _, _, _, _, _ => rfl
  | d :: ds, q, ch, h, nd, hm => by
    rw [metL_cons] at hm
    obtain ⟨k, hk, hs⟩ := List.any_eq_true.mp hm
    have hkl := List.mem_range.mp hk
    unfold metStep at hs
    rw [List.getElem?_eq_getElem hkl] at hs
    have hs2 : (whoF d.who (q[k]).1 && fitsF (q[k]).2 d.has d.no) = true ∧ metL ds (q.take k ++ q.drop (k + 1)) = true := by
      rw [Bool.and_eq_true] at hs
      exact hs
    obtain ⟨hv, hc⟩ := h q[k] (List.getElem_mem hkl)
    show ((standsFor Q d).any fun n => !decide (n ∈ ch) && choose (ds.map (standsFor Q)) (ch ++ [n])) = true
    refine List.any_eq_true.mpr ⟨(q[k]).1, List.mem_map.mpr ⟨q[k], List.mem_filter.mpr ⟨hv, hs2.1⟩, rfl⟩, ?_⟩
    rw [decide_eq_false hc]
    have sub : ∀ v ∈ q.take k ++ q.drop (k + 1), v ∈ q ∧ v.1 ≠ (q[k]).1 := fun v hv => by
      rcases List.mem_append.mp hv with h | h
      · obtain ⟨j, hj, ej⟩ := List.mem_iff_getElem.mp h
        rw [List.length_take] at hj
        rw [List.getElem_take] at ej
        refine ⟨ej ▸ List.getElem_mem _, ?_⟩
        exact names_ne nd (i := j) (j := k) (by rw [List.getElem?_eq_getElem (by omega), ej]) (List.getElem?_eq_getElem hkl) (by omega)
      · obtain ⟨j, hj, ej⟩ := List.mem_iff_getElem.mp h
        rw [List.length_drop] at hj
        rw [List.getElem_drop] at ej
        refine ⟨ej ▸ List.getElem_mem _, ?_⟩
        exact names_ne nd (i := k + 1 + j) (j := k) (by rw [List.getElem?_eq_getElem (by omega), ej]) (List.getElem?_eq_getElem hkl) (by omega)
    have := met_choose ds (q.take k ++ q.drop (k + 1)) (ch ++ [(q[k]).1]) (fun v hv => by
      obtain ⟨h1, h2⟩ := sub v hv
      obtain ⟨h3, h4⟩ := h v h1
      refine ⟨h3, fun hm => ?_⟩
      rcases List.mem_append.mp hm with h | h
      · exact h4 h
      · exact h2 (List.mem_singleton.mp h)) (by
      have e : (q.take k ++ q.drop (k + 1)).Sublist q := by
        have : q.take k ++ q.drop (k + 1) = q.eraseIdx k := (List.eraseIdx_eq_take_drop_succ ..).symm
        rw [this]
        exact List.eraseIdx_sublist ..
      exact List.Pairwise.sublist (e.map _) nd) hs2.2
    rw [this]
    rfl
theorem met_larger {ks : List Int} {p : Parts} {q Q : Ppl} {g : List Dem} (I : Inv p q) (S : Sim p ks q Q) (h : metL g q = true) : meetsB g Q = true :=
  met_choose g q [] (fun v hv => ⟨lookup_mem (S.hd _ _ (lookup_of I.Q.nd hv)), fun h => by cases h⟩) I.Q.nd h
end WM

/-! ## L9 -/
set_option maxHeartbeats 4000000
namespace WM
open PySem PySem.Spec PyProof.Rows L2
theorem name_str {x : Str} (h : IsName x) : PyData.strOk x = true := by
  have e : (tl nameChars).all (fun c => decide (c < 0x110000)) = true := by decide +kernel
  unfold PyData.strOk
  rw [← Array.all_toList]
  exact List.all_eq_true.mpr fun c hc => List.all_eq_true.mp e c (h.all c hc)
section
variable {P : Program} {w : World} {K : PySem.W.Frag} {mg : Str → Option Value} {base : Heap} {Γ : List Sl} {ta tb : TE}
theorem dp_strs {H : Hp} : ∀ l : SL, DpAll K H (l.map V.str) (l.map PyData.str)
  | [] => .nil
  | a :: l => .cons (.str a) (dp_strs l)
theorem strs_shaped {l : SL} (h : ∀ x ∈ l, IsName x) : SeqAt.shaped (.tuple (l.map PyData.str)) = true := by
  have c : PyData.canLayAll0 (l.map PyData.str) = true := by
    induction l with
    | nil => rfl
    | cons a l ih =>
      show (PyData.canLay0 (.str a) && PyData.canLayAll0 (l.map PyData.str)) = true
      rw [ih fun x hx => h x (List.mem_cons_of_mem _ hx), Bool.and_true]
      exact name_str (h a (List.mem_cons_self ..))
  have d : PyData.depthAll (l.map PyData.str) = 0 := by
    clear h c
    induction l with
    | nil => rfl
    | cons a l ih =>
      show max 0 (PyData.depthAll (l.map PyData.str)) = 0
      rw [ih]; rfl
  unfold SeqAt.shaped
  have c2 : PyData.canLay0 (.tuple (l.map PyData.str)) = true := c
  have d2 : PyData.depth (.tuple (l.map PyData.str)) = PyData.depthAll (l.map PyData.str) + 1 := rfl
  rw [c2, d2, d]
  decide
theorem rv_neTS {l : SL} (h : ∀ x ∈ l, IsName x) : RV K (rNeD K) (strsT l) (strsT l) (.bl false) := rv_fin fun B H v u e hv hu Q q => by
  obtain ⟨a, vs, rfl, ha, ra⟩ := hv.tup_inv
  obtain ⟨b, us, rfl, hb, rb⟩ := hu.tup_inv
  have e1 : vs = l.map V.str := str_map ra
  have e2 : us = l.map V.str := str_map rb
  subst e1 e2
  have sh := strs_shaped h
  have e3 : PyData.eqv (.tuple (l.map PyData.str)) (.tuple (l.map PyData.str)) = true := SeqAt.eqv_refl _ (Bool.and_eq_true_iff.mp sh).1
  refine ⟨.tuple (l.map PyData.str), .tuple (l.map PyData.str), .tup (st_of (e _ _ ha)) (dp_strs l), .tup (st_of (e _ _ hb)) (dp_strs l), sh, sh, ?_⟩
  rw [e3]
  exact q _ (.bl false)
/-! told -/
def R_ltold (K : PySem.W.Frag) : List Da → Da → Prop := fun ds d => ∃ (pt : Parts) (tr : SL) (acts : List Act), ds = [.ins (CC K) (chF pt), .lst (acts.map Act.da), strsL tr] ∧ Wf pt ∧ FoundBy pt tr ∧ Run pt tr pt.founders acts ∧ acts.length ≤ 100 ∧ d = hiD K pt tr acts (moms pt 0 pt.founders acts)
theorem ok_ltold (T : Txt w K mg) (G_History_init : CalI P w K mg base (HC K) (aM K "History" "__init__") 6 ["self", "charter", "actions", "trusted"] 3 ["trusted"] (spI K (HC K) (R_Hinit K))) :
    Cal P w K mg base "_law_told" (He.ga K "_law_told") 8 ["_law_charter", "_law_actions", "_law_trusted_here"] (spP K (R_ltold K)) := by
  obtain ⟨fd, F⟩ := T.d_l_told
  obtain ⟨fd1, F_History_init, kb_History⟩ := G_History_init.ex
  have term : ∀ (cdv : Value) (A : Around) (outer : List PySem.Env) (s : Shared) (H : Hp) (E : XK), Room 7 (A.deeper (envOfC "_law_told" (defScope s_l_told) s.heap.objs.size (He.ga K "_law_told") cdv)) →
      PSs (cxOf CX0 P w K mg base ["_law_charter", "_law_actions", "_law_trusted_here"] "_law_told" (defScope s_l_told) (He.ga K "_law_told") cdv A outer s H E).nox (defBody s_l_told) (tRet (tMakeK (He.ga K "History") 2 1 (spI K (HC K) (R_Hinit K)) (fun vs zs => vs ++ zs) E0 (tCons (tVar 0) (tCons (tVar 1) tNil)) (tCons (tVar 2) tNil))) := by
    intro cdv A outer s H E hr
    refine pss_one (ps_try_only (tb := fun _ => tRet (tMakeK (He.ga K "History") 2 1 (spI K (HC K) (R_Hinit K)) (fun vs zs => vs ++ zs) E0 (tCons (tVar 0) (tCons (tVar 1) tNil)) (tCons (tVar 2) tNil)))
      (ts := fun _ _ _ => tRet (tC .non)) (Wout := fun _ _ _ _ => False) rfl rfl ⟨rfl, by decide, Or.inl T.m_InvalidAction⟩ LamX.takes0 (fun W pn xe _ _ => ?_) (fun a oe cls d pn _ _ => ?_))
    · show PSs ((cxOf CX0 P w K mg base ["_law_charter", "_law_actions", "_law_trusted_here"] "_law_told" (defScope s_l_told) (He.ga K "_law_told") cdv A outer s H E).nox.tr pn xe) _ (tRet (tMakeK (He.ga K "History") 2 1 (spI K (HC K) (R_Hinit K)) (fun vs zs => vs ++ zs) E0 (tCons (tVar 0) (tCons (tVar 1) tNil)) (tCons (tVar 2) tNil)))
      exact pss_one (ps_ret (pe_makeK (n := 2) (ks := ["trusted"]) (gV := fun vs zs => vs ++ zs) T.mk_History F_History_init (hr.mono (by decide)) rfl T.m_History kb_History pass0 (pa_cons (pv 0) (pa_cons (pv 1) pa_nil)) (pk_cons (pv 2) pk_nil)))
    · exact pss_one (ps_ret pe_non)
  refine ⟨⟨fd, fn_pure F sc_l_told (fun ds d h => ?_) fun cdv A outer s H E hr => ⟨_, term cdv A outer s H E hr, fun ds d h => ?_⟩, F.bindsN fun _ _ _ _ _ _ us hl => match us, hl with | [_, _, _], _ => rfl⟩, T.m_l_told, F.kp⟩
  · obtain ⟨_, _, _, rfl, _⟩ := h
    rfl
  · obtain ⟨pt, tr, acts, rfl, W, hf, hrun, hl, rfl⟩ := h
    exact wp_ret (EvI.ev (C := HC K) (fs := hiF K pt tr acts (moms pt 0 pt.founders acts)) (ei_make (ea_cons (ev_var rfl) (ea_cons (ev_var rfl) ea_nil)) (ea_cons (ev_var rfl) ea_nil) rfl rfl ⟨pt, tr, acts, rfl, W, hf, hrun, hl, rfl⟩)) rfl
/-! law -/
theorem find_at {α : Type} {f : α → Bool} : ∀ {l : List α} {k : Nat} {a : α}, l[k]? = some a → f a = true → ∃ j, j ≤ k ∧ l.findIdx? f = some j
  | [], _, _, h, _ => by simp at h
  | x :: l, 0, a, h, hf => by
    have : x = a := Option.some.inj h
    subst this
    exact ⟨0, Nat.le_refl _, by rw [List.findIdx?_cons, hf]; rfl⟩
  | x :: l, k + 1, a, h, hf => by
    rw [List.findIdx?_cons]
    cases c : f x with
    | true => exact ⟨0, Nat.zero_le _, rfl⟩
    | false =>
      obtain ⟨j, hj, e⟩ := find_at (l := l) (k := k) (by simpa using h) hf
      exact ⟨j + 1, by omega, by rw [e]; rfl⟩
def R_law : List Da → Da → Prop := fun ds d => ∃ ns : List Int, ds = [.scr ns] ∧ ns.length ≤ 63 ∧ d = .bl true
theorem ok_law (T : Txt w K mg) {fd : FuncData} (F : FunD K "law" "law" (defArgs s_law) (defBody s_law) (defScope s_law) [] [] (He.ga K "law") fd)
    (G_l_numbers : Cal P w K mg base "_law_numbers" (He.ga K "_law_numbers") 2 ["_law_script", "_law_many_here"] (spX K A_numbers R_numbers))
    (G_l_parts : Cal P w K mg base "_law_parts" (He.ga K "_law_parts") 4 ["_law_numbers_here", "_law_at"] (spX K A_parts R_parts))
    (G_l_trusted : Cal P w K mg base "_law_trusted" (He.ga K "_law_trusted") 1 ["_law_parts_here", "_law_number"] (spX K A_ltrusted R_ltrusted))
    (G_l_drawn : Cal P w K mg base "_law_drawn" (He.ga K "_law_drawn") 4 ["_law_parts_here", "_law_trusted_here", "_law_numbers_here", "_law_at", "_law_many_here"] (spX K A_ldrawn R_ldrawn))
    (G_l_larger : Cal P w K mg base "_law_larger" (He.ga K "_law_larger") 4 ["_law_parts_here", "_law_numbers_here", "_law_at"] (spP K R_llarger))
    (G_l_made : Cal P w K mg base "_law_made" (He.ga K "_law_made") 6 ["_law_parts_here"] (spP K (R_lmade K)))
    (G_l_told : Cal P w K mg base "_law_told" (He.ga K "_law_told") 8 ["_law_charter", "_law_actions", "_law_trusted_here"] (spP K (R_ltold K)))
    (G_l_many : Cal P w K mg base "_law_many" (He.ga K "_law_many") 3 ["_law_parts_here", "_law_numbers_here", "_law_at"] (spX K A_lmany R_lmany))
    (G_l_founded : Cal P w K mg base "_law_founded" (He.ga K "_law_founded") 1 ["_law_charter"] (spP K R_lfounded))
    (G_l_meets : Cal P w K mg base "_law_meets" (He.ga K "_law_meets") 5 ["_law_people", "_law_demands"] (spP K (R_lmeets 3)))
    (G_l_acted : Cal P w K mg base "_law_acted" (He.ga K "_law_acted") 3 ["_law_charter", "_law_people", "_law_action"] (spP K R_lacted))
    (G_History_at : CalM P w K mg base (HC K) "at" (aM K "History" "at") 6 ["self", "moment"] (spP K (R_at K)))
    (G_History_first_moment : CalM P w K mg base (HC K) "first_moment" (aM K "History" "first_moment") 7 ["self", "goal"] (spP K (R_first K)))
    (G_Organisation_holds : CalM P w K mg base (OC K) "holds" (aM K "Organisation" "holds") 1 ["self", "person"] (spP K (R_holds K)))
    (G_Organisation_meets : CalM P w K mg base (OC K) "meets" (aM K "Organisation" "meets") 6 ["self", "goal"] (spP K (R_meets K))) :
    FnOk P w K mg base CX0 9 (He.ga K "law") fd ["_law_script"] (spP K R_law) := by
  obtain ⟨fd1, F_l_numbers, b_l_numbers⟩ := G_l_numbers.ex
  obtain ⟨fd2, F_l_parts, b_l_parts⟩ := G_l_parts.ex
  obtain ⟨fd3, F_l_trusted, b_l_trusted⟩ := G_l_trusted.ex
  obtain ⟨fd4, F_l_drawn, b_l_drawn⟩ := G_l_drawn.ex
  obtain ⟨fd5, F_l_larger, b_l_larger⟩ := G_l_larger.ex
  obtain ⟨fd6, F_l_made, b_l_made⟩ := G_l_made.ex
  obtain ⟨fd7, F_l_told, b_l_told⟩ := G_l_told.ex
  obtain ⟨fd8, F_l_many, b_l_many⟩ := G_l_many.ex
  obtain ⟨fd9, F_l_founded, b_l_founded⟩ := G_l_founded.ex
  obtain ⟨fd10, F_l_meets, b_l_meets⟩ := G_l_meets.ex
  obtain ⟨fd11, F_l_acted, b_l_acted⟩ := G_l_acted.ex
  obtain ⟨fd12, F_History_at, b_History_at⟩ := G_History_at.ex
  obtain ⟨fd13, F_History_first_moment, b_History_first_moment⟩ := G_History_first_moment.ex
  obtain ⟨fd14, F_Organisation_holds, b_Organisation_holds⟩ := G_Organisation_holds.ex
  obtain ⟨fd15, F_Organisation_meets, b_Organisation_meets⟩ := G_Organisation_meets.ex
  refine fn_pure F sc_law (fun ds d h => ?_) fun cdv A outer s H E hr => ⟨_, (pss_cons (ps_set (i := 1) sc_law.nd rfl (by first | exact Or.inl rfl | exact Or.inr rfl) (pe_call F_l_numbers (hr.mono (by decide)) rfl G_l_numbers.m G_l_numbers.kp b_l_numbers .nil pass0 (pa_cons (pv 0) (pa_cons pe_int pa_nil)))) (pss_cons (ps_set (i := 2) sc_law.nd rfl (by first | exact Or.inl rfl | exact Or.inr rfl) (pe_call F_l_parts (hr.mono (by decide)) rfl G_l_parts.m G_l_parts.kp b_l_parts .nil pass0 (pa_cons (pv 1) (pa_cons pe_int pa_nil)))) (pss_cons (ps_set (i := 3) sc_law.nd rfl (by first | exact Or.inl rfl | exact Or.inr rfl) (pe_call F_l_trusted (hr.mono (by decide)) rfl G_l_trusted.m G_l_trusted.kp b_l_trusted .nil pass0 (pa_cons (pv 2) (pa_cons (pe_ix (ix_K K rfl) (pv 1) pe_int (fun _ _ => rfl)) pa_nil)))) (pss_cons (ps_asg (pe_call F_l_drawn (hr.mono (by decide)) rfl G_l_drawn.m G_l_drawn.kp b_l_drawn .nil pass0 (pa_cons (pv 2) (pa_cons (pv 3) (pa_cons (pv 1) (pa_cons pe_int (pa_cons (pe_op op_mod (pe_callTy call_intG (by rfl) T.f_int (by decide +kernel) (pa_cons (pe_ix (ix_K K rfl) (pv 1) pe_int (fun _ _ => rfl)) pa_nil)) pe_int) pa_nil)))))) (pg_tupK (n := 2) K rfl rfl (pgs_cons (pg_name (i := 4) sc_law.nd rfl (by first | exact Or.inl rfl | exact Or.inr rfl)) (pgs_cons (pg_name (i := 5) sc_law.nd rfl (by first | exact Or.inl rfl | exact Or.inr rfl)) pgs_nil)))) (pss_cons (ps_set (i := 6) sc_law.nd rfl (by first | exact Or.inl rfl | exact Or.inr rfl) (pe_call F_l_told (hr.mono (by decide)) rfl G_l_told.m G_l_told.kp b_l_told .nil pass0 (pa_cons (pe_call F_l_made (hr.mono (by decide)) rfl G_l_made.m G_l_made.kp b_l_made .nil pass0 (pa_cons (pe_call F_l_larger (hr.mono (by decide)) rfl G_l_larger.m G_l_larger.kp b_l_larger .nil pass0 (pa_cons (pv 2) (pa_cons (pv 1) (pa_cons pe_int pa_nil)))) pa_nil)) (pa_cons (pe_callTy (call_lstK K rfl) (by rfl) T.f_list (by decide +kernel) (pa_cons (pv 4) pa_nil)) (pa_cons (pe_callTy (call_lstK K rfl) (by rfl) T.f_list (by decide +kernel) (pa_cons (pv 3) pa_nil)) pa_nil))))) (pss_cons (ps_if (pt_cmpR op_isN1 (pv 6) pe_non (nomark _)) (pss_one (ps_ret pe_bl)) pss_nil) (pss_cons (ps_setLc (i := 7) (own := [("_law_k", 8)]) rfl sc_law.nd rfl rfl (sw_true rfl rfl rfl (by decide +kernel)) (pi_range1 rfl T.f_range (pa_cons pe_int pa_nil)) (blkOk_by (own := [("_law_k", 8)]) (N := ["_law_script", "_law_numbers_here", "_law_parts_here", "_law_trusted_here", "_law_actions", "_law_last", "_law_history", "_law_goals", "_law_k", "_law_people", "_law_organisation", "_law_one", "_law_goal_here", "_law_first"]) (sc := defScope s_law) (by decide +kernel)) (fun _ _ _ _ _ => (pg_name (i := 8) sc_law.nd rfl (by first | exact Or.inl rfl | exact Or.inr rfl))) (fun _ _ _ _ _ => pts_nil) (fun _ _ _ _ _ => (pe_call F_l_many (hr.mono (by decide)) rfl G_l_many.m G_l_many.kp b_l_many .nil pass0 (pa_cons (pv 2) (pa_cons (pv 1) (pa_cons (pe_op (op_addK K rfl) pe_int (pe_op op_mul pe_int (pv 8))) pa_nil)))))) (pss_cons (ps_set (i := 9) sc_law.nd rfl (by first | exact Or.inl rfl | exact Or.inr rfl) (pe_call F_l_founded (hr.mono (by decide)) rfl G_l_founded.m G_l_founded.kp b_l_founded .nil pass0 (pa_cons (pv 2) pa_nil))) (pss_cons (ps_for PassesOwn.never rfl (pi_range1 rfl T.f_range (pa_cons (pe_op (op_addK K rfl) (pe_callB (call_lenK K rfl) (by rfl) T.f_len (by decide +kernel) (pa_cons (pv 4) pa_nil)) pe_int) pa_nil)) (pg_name (i := 8) sc_law.nd rfl (by first | exact Or.inl rfl | exact Or.inr rfl)) (pss_cons (ps_set (i := 10) sc_law.nd rfl (by first | exact Or.inl rfl | exact Or.inr rfl) (pe_meth (pv 6) T.cl_History G_History_at.m F_History_at (hr.mono (by decide)) b_History_at .nil pass0 (pa_cons (pv 8) pa_nil))) (pss_cons (ps_for PassesOwn.never rfl (pi_seqK K rfl (pv 9)) (pg_name (i := 11) sc_law.nd rfl (by first | exact Or.inl rfl | exact Or.inr rfl)) (pss_one (ps_if (pt_cmpR (op_neK K rfl hr.units) (pe_meth (pv 10) T.cl_Organisation G_Organisation_holds.m F_Organisation_holds (hr.mono (by decide)) b_Organisation_holds .nil pass0 (pa_cons (pe_ix (ix_K K rfl) (pv 11) pe_int (fun _ _ => rfl)) pa_nil)) (pe_ix (ix_K K rfl) (pv 11) pe_int (fun _ _ => rfl)) (nomark _)) (pss_one (ps_ret pe_bl)) pss_nil))) (pss_cons (ps_for PassesOwn.never rfl (pi_seqK K rfl (pv 7)) (pg_name (i := 12) sc_law.nd rfl (by first | exact Or.inl rfl | exact Or.inr rfl)) (pss_one (ps_if (pt_val (pe_call F_l_meets (hr.mono (by decide)) rfl G_l_meets.m G_l_meets.kp b_l_meets .nil pass0 (pa_cons (pv 9) (pa_cons (pv 12) pa_nil)))) (pss_cons (ps_set (i := 13) sc_law.nd rfl (by first | exact Or.inl rfl | exact Or.inr rfl) (pe_meth (pv 6) T.cl_History G_History_first_moment.m F_History_first_moment (hr.mono (by decide)) b_History_first_moment .nil pass0 (pa_cons (pe_callTy (call_lstK K rfl) (by rfl) T.f_list (by decide +kernel) (pa_cons (pv 12) pa_nil)) pa_nil))) (pss_one (ps_if (PW.pt (pw_or (pt_not (pt_val (pe_meth (pv 10) T.cl_Organisation G_Organisation_meets.m F_Organisation_meets (hr.mono (by decide)) b_Organisation_meets .nil pass0 (pa_cons (pe_callTy (call_lstK K rfl) (by rfl) T.f_list (by decide +kernel) (pa_cons (pv 12) pa_nil)) pa_nil)))) (pw_or (pt_cmpR op_isN1 (pv 13) pe_non (nomark _)) (pw_or1 (pt_cmpR op_gt (pv 13) (pv 8) (nomark _)))))) (pss_one (ps_ret pe_bl)) pss_nil))) pss_nil))) (pss_one (ps_if (pt_cmpR op_lt (pv 8) (pe_callB (call_lenK K rfl) (by rfl) T.f_len (by decide +kernel) (pa_cons (pv 4) pa_nil)) (nomark _)) (pss_one (ps_set (i := 9) sc_law.nd rfl (by first | exact Or.inl rfl | exact Or.inr rfl) (pe_call F_l_acted (hr.mono (by decide)) rfl G_l_acted.m G_l_acted.kp b_l_acted .nil pass0 (pa_cons (pv 2) (pa_cons (pv 9) (pa_cons (pe_ix (ix_K K rfl) (pv 4) (pv 8) (fun _ _ => rfl)) pa_nil)))))) pss_nil)))))) (pss_one (ps_ret pe_bl))))))))))), fun ds d h => ?_⟩
  · obtain ⟨_, rfl, _⟩ := h
    rfl
  · obtain ⟨ns, rfl, hn, rfl⟩ := h
    refine wp_seq (wp_asgX (evx_call (ea_cons (ev_var rfl) (ea_cons ev_int ea_nil)) ⟨ns, rfl, hn⟩) fun d hd => ?_)
    obtain ⟨ks, rfl, hk⟩ := hd
    refine wp_seq (wp_asgX (evx_call (ea_cons (ev_var rfl) (ea_cons ev_int ea_nil)) ⟨ks, rfl, hk⟩) fun d hd => ?_)
    obtain ⟨p, rfl, W⟩ := hd
    refine wp_seq (wp_asgX (evx_call (ea_cons (ev_var rfl) (ea_cons (ev_num 70 rfl ev_int rfl (by omega)) ea_nil)) ⟨p, _, rfl, W.f3⟩) fun d hd => ?_)
    obtain ⟨tr, rfl, htr, htl⟩ := hd _ _ rfl
    have m13 : 0 ≤ num ks 71 % 13 ∧ num ks 71 % 13 < 13 := ⟨Int.emod_nonneg _ (by omega), Int.emod_lt_of_pos _ (by omega)⟩
    refine wp_seq (wp_asgTX (js := [4, 5]) (evx_call (ea_cons (ev_var rfl) (ea_cons (ev_var rfl) (ea_cons (ev_var rfl) (ea_cons ev_int (ea_cons (ev_mod (ev_intI (ev_num 71 rfl ev_int rfl (by omega))) ev_int (by omega)) ea_nil))))) ⟨p, tr, ks, _, rfl, W, hk, m13.1, by omega⟩) fun d hd => ?_)
    obtain ⟨acts, rfl, hrun, hal⟩ := hd _ _ _ _ _ rfl
    refine tg_tup2 ?_
    refine wp_cast (Γ' := [.dat (.scr ns), .dat (intsL ks), .dat (partsD p), .dat (strsL tr), .dat (.lst (acts.map Act.da)), .dat (pplD (endP p p.founders acts)), .un, .un, .un, .un, .un, .un, .un, .un]) ?_ rfl
    have WL := larger_wf (ks := ks) W
    have hfound : FoundBy (largerF ks p) tr := fun t ht => found_by (htr t ht)
    obtain ⟨hrunL, hsim⟩ := sim_run (ks := ks) W acts p.founders (largerF ks p).founders 0 hrun (sim_start W)
    refine wp_seq (wp_asg (d := hiD K (largerF ks p) tr acts (moms (largerF ks p) 0 (largerF ks p).founders acts)) (ev_call (ea_cons (ev_call (ea_cons (ev_call (ea_cons (ev_var rfl) (ea_cons (ev_var rfl) (ea_cons ev_int ea_nil))) ⟨p, ks, rfl, hk, W, rfl⟩) ea_nil) ⟨largerF ks p, rfl, WL, rfl⟩) (ea_cons (eo_lstL (ea_cons (ev_var rfl) ea_nil)).ev (ea_cons (eo_lstL (ea_cons (ev_var rfl) ea_nil)).ev ea_nil))) ⟨largerF ks p, tr, acts, rfl, WL, hfound, hrunL, by omega, rfl⟩) ?_)
    refine wp_seq (wp_if (b := false) (evt_is (et_test (ev_op (ev_var rfl) ev_non rv_isN)) rfl) (fun h => by cases h) fun _ => wp_next ?_)
    obtain ⟨ms, hms⟩ : ∃ ms, moms (largerF ks p) 0 (largerF ks p).founders acts = ms := ⟨_, rfl⟩
    have hml : ms.length = acts.length + 1 := by rw [← hms]; exact moms_len _ _ _ _
    rw [hms] at hsim ⊢
    have h1000 : ∀ s ∈ ms, s.2.length ≤ 1000 := fun s hs => by
      obtain ⟨i, hi, e⟩ := List.mem_iff_getElem.mp hs
      obtain ⟨Q, n, h1, h2, _⟩ := hsim i (by omega)
      rw [List.getElem?_eq_getElem hi] at h1
      rw [← e, Option.some.inj h1]
      have := h2.ok.n
      show Q.length ≤ 1000
      omega
    have fL5 := WL.f5
    have fLn := WL.fn
    have l6 : (largerF ks p).rights.length ≤ 6 := WL.r6
    refine wp_seq (wp_asgX (EvXO.ev (exo_lc (js := [8]) (it_range (n := 2) (ea_cons ev_int ea_nil) (by omega) (by omega)) (by rw [range_len]; decide) (fun _ y => ∃ g : List Dem, y = .lst (g.map Dem.da) ∧ GInv p g ∧ 1 ≤ g.length ∧ g.length ≤ 3) (by simp) fun i x hx => ?_)) fun d hd => ?_)
    · obtain ⟨rfl, hi⟩ := take_range hx
      have hi2 : i < 2 := hi
      refine tg_name ⟨et_yes, fun H0 B H σ e Q q => evx_call (ea_cons (ev_var rfl) (ea_cons (ev_var rfl) (ea_cons (ev_is (ev_add ev_int (ev_mulL ev_int (ev_var rfl) (by omega))) (show _ = Da.int ((105 + 20 * i : Nat) : Int) from congrArg Da.int (by omega))) ea_nil))) ⟨p, ks, 105 + 20 * i, rfl, by omega, W⟩ H0 B H σ e Q fun v B' H' d hd s hv => q v B' H' d ?_ s hv⟩
      obtain ⟨g, rfl, G, g1, g3⟩ := hd _ _ _ rfl
      exact ⟨g, rfl, G, g1, g3⟩
    obtain ⟨gl, rfl, hgl, hgp⟩ := hd
    rw [range_len] at hgl
    have goals : ∀ (i : Nat) y, gl[i]? = some y → ∃ g : List Dem, y = .lst (g.map Dem.da) ∧ GInv p g ∧ 1 ≤ g.length ∧ g.length ≤ 3 := fun i y hy => by
      have hi : i < gl.length := (List.getElem?_eq_some_iff.mp hy).1
      have hx : (rangeD (Int.toNat 2))[i]? = some (rangeD (Int.toNat 2))[i] := List.getElem?_eq_getElem (by rw [range_len]; omega)
      exact hgp i _ y hx hy
    refine wp_seq (wp_asg (d := pplD p.founders) (ev_call (ea_cons (ev_var rfl) ea_nil) ⟨p, rfl, W, rfl⟩) ?_)
    refine wp_seq (wp_for (js := [8]) (it_range (n := ((acts.length + 1 : Nat) : Int)) (ea_cons (ev_is (ev_add (ev_cb (ea_cons (ev_var rfl) ea_nil) rc_lenL) ev_int) (congrArg Da.int (by rw [List.length_map]; rfl))) ea_nil) (by omega) (by omega))
      (fun i Γ => ∃ a b c e f, Γ = [.dat (.scr ns), .dat (intsL ks), .dat (partsD p), .dat (strsL tr), .dat (.lst (acts.map Act.da)), .dat (pplD (endP p p.founders acts)), .dat (hiD K (largerF ks p) tr acts ms), .dat (.lst gl), a, .dat (pplD (endP p p.founders (acts.take i))), b, c, e, f]) ⟨_, _, _, _, _, rfl⟩ (fun k y Γ hy hΓ => ?_) fun Γ hΓ => ?_)
    · obtain ⟨a, b, c, e, f, rfl⟩ := hΓ
      obtain ⟨rfl, hk'⟩ := take_range hy
      have hkl : k ≤ acts.length := by omega
      obtain ⟨Q, n, hQ, S, I⟩ := hsim k hkl
      obtain ⟨q, hq⟩ : ∃ q, endP p p.founders (acts.take k) = q := ⟨_, rfl⟩
      rw [hq] at S I
      rw [hq]
      have n6 := I.n6
      have Qn := S.ok.n
      refine tg_name (wp_seq (wp_asg (d := orD K (largerF ks p) tr n Q) (ev_meth (ev_var rfl) rfl (ea_cons (ev_var rfl) ea_nil) ⟨largerF ks p, tr, acts, ms, k, (n, Q), rfl, hQ, hfound, fL5, fLn, rfl⟩) ?_))
      refine wp_seq (wp_for (js := [11]) (xs := q.map peD) (it_seqL (ev_var rfl)) (fun _ Γ => ∃ c, Γ = [.dat (.scr ns), .dat (intsL ks), .dat (partsD p), .dat (strsL tr), .dat (.lst (acts.map Act.da)), .dat (pplD (endP p p.founders acts)), .dat (hiD K (largerF ks p) tr acts ms), .dat (.lst gl), .dat (.int (k : Int)), .dat (pplD q), .dat (orD K (largerF ks p) tr n Q), c, e, f]) ⟨_, rfl⟩ (fun j y Γ hy hΓ => ?_) fun Γ hΓ => ?_)
      · obtain ⟨c, rfl⟩ := hΓ
        obtain ⟨v, hv, rfl⟩ := take_map hy
        have hvm := List.mem_of_getElem? hv
        have hl := S.hd _ _ (lookup_of I.Q.nd hvm)
        exact tg_name (wp_if (b := false) (et_test (ev_op (ev_meth (ev_var rfl) rfl (ea_cons (ev_op (ev_var rfl) ev_int (rv_ixL at0)) ea_nil) ⟨largerF ks p, tr, n, Q, v.1, v.2, rfl, hl, rfl⟩) (ev_op (ev_var rfl) ev_int (rv_ixL at1)) (rv_neTS fun x hx => W.rN x (I.Q.ok.sub v hvm x hx)))) (fun h => by cases h) fun _ => wp_next ⟨_, rfl⟩)
      · obtain ⟨c, rfl⟩ := hΓ
        refine wp_seq (wp_for (js := [12]) (xs := gl) (it_seqL (ev_var rfl)) (fun _ Γ => ∃ e f, Γ = [.dat (.scr ns), .dat (intsL ks), .dat (partsD p), .dat (strsL tr), .dat (.lst (acts.map Act.da)), .dat (pplD (endP p p.founders acts)), .dat (hiD K (largerF ks p) tr acts ms), .dat (.lst gl), .dat (.int (k : Int)), .dat (pplD q), .dat (orD K (largerF ks p) tr n Q), c, e, f]) ⟨_, _, rfl⟩ (fun j y Γ hy hΓ => ?_) fun Γ hΓ => ?_)
        · obtain ⟨e, f, rfl⟩ := hΓ
          obtain ⟨g, rfl, G, g1, g3⟩ := goals j y hy
          have GO := goal_ok (ks := ks) G g1 g3
          have gl1000 : ∀ z ∈ g, z.has.length ≤ 1000 ∧ z.no.length ≤ 1000 := fun z hz => by
            have := G.ln z hz
            rw [List.length_append] at this
            omega
          refine tg_name (wp_if (et_B (ev_call (ea_cons (ev_var rfl) (ea_cons (ev_var rfl) ea_nil)) ⟨q, g, rfl, g3, by omega, gl1000, rfl⟩)) (fun hb => ?_) fun _ => wp_next ⟨_, _, rfl⟩)
          have hmet := met_larger I S hb
          obtain ⟨j', hj', hfi⟩ := find_at (f := fun s : Int × Ppl => meetsB g s.2) hQ hmet
          refine wp_seq (wp_asg (d := .int (j' : Int)) (ev_meth (ev_var rfl) rfl (ea_cons (eo_lstL (ea_cons (ev_var rfl) ea_nil)).ev ea_nil) ⟨largerF ks p, tr, acts, ms, g, j', rfl, GO, l6, h1000, hfi, rfl⟩) ?_)
          refine wp_if (b := false) (evt_is (et_or (et_not (et_B (ev_meth (ev_var rfl) rfl (ea_cons (eo_lstL (ea_cons (ev_var rfl) ea_nil)).ev ea_nil) ⟨largerF ks p, tr, n, Q, g, rfl, l6, by omega, GO, rfl⟩))) fun _ => et_or (et_test (ev_op (ev_var rfl) ev_non rv_isN)) fun _ => et_test (ev_op (ev_var rfl) (ev_var rfl) (rv_B0 (g := fun i j => decide (j < i))))) ?_) (fun h => by cases h) fun _ => wp_next ⟨_, _, rfl⟩
          have hm2 : choose (g.map (standsFor Q)) [] = true := hmet
          rw [hm2, decide_eq_false (show ¬ ((k : Int) < (j' : Int)) by omega)]
          rfl
        · obtain ⟨e, f, rfl⟩ := hΓ
          refine wp_if (et_test (ev_op (ev_var rfl) (ev_cb (ea_cons (ev_var rfl) ea_nil) rc_lenL) (rv_B0 (g := fun i j => decide (i < j))))) (fun hb => ?_) fun hb => wp_next ?_
          · have hlt := of_decide_eq_true hb
            rw [List.length_map] at hlt
            have hka : k < acts.length := by omega
            have ha : acts[k]? = some acts[k] := List.getElem?_eq_getElem hka
            obtain ⟨hc, he⟩ := run_can hrun ha
            rw [hq] at hc he
            refine wp_asg (d := pplD (doP p q acts[k])) (ev_call (ea_cons (ev_var rfl) (ea_cons (ev_var rfl) (ea_cons (ev_op (ev_var rfl) (ev_var rfl) (rv_ixL (d := (acts[k]).da) (atI_nat (by rw [List.getElem?_map, ha]; rfl)))) ea_nil))) ⟨p, tr, q, acts[k], rfl, W, I.Q, hc, rfl⟩) ⟨_, _, _, _, _, by rw [he]; rfl⟩
          · have hge := of_decide_eq_false hb
            rw [List.length_map] at hge
            have hka : acts.length = k := by omega
            have heq : endP p p.founders (acts.take (k + 1)) = q := by
              rw [show acts.take (k + 1) = acts.take k by rw [List.take_of_length_le (by omega), List.take_of_length_le (by omega)], hq]
            exact ⟨_, _, _, _, _, by rw [heq]⟩
    · exact wp_ret ev_bl rfl
end
end WM

/-! ## Fin -/
set_option maxHeartbeats 0
namespace WM
open PySem PySem.Spec PyProof.Rows L2
theorem law_keeps {P : Program} {w : World} {K : PySem.W.Frag} {mg : Str → Option Value} {base : Heap} (T : Txt w K mg) {fd : FuncData} (F : FunD K "law" "law" (defArgs s_law) (defBody s_law) (defScope s_law) [] [] (He.ga K "law") fd) : FnOk P w K mg base CX0 9 (He.ga K "law") fd ["_law_script"] (spP K R_law) := by
  have fits := ok_fits (P := P) (base := base) T
  have isName := ok_is_name (P := P) (base := base) T
  have diff := ok_are_different (P := P) (base := base) T
  have apart := ok_are_apart (P := P) (base := base) T
  have req := ok_require (P := P) (base := base) T
  have rl := ok_right_lists (P := P) (base := base) T
  have some_ := ok_some T diff req
  have ordered := ok_ordered (P := P) (base := base) T
  have rule := ok_rule (P := P) (base := base) T
  have founder := ok_founder (P := P) (base := base) T
  have rn := ok_rule_names (P := P) (base := base) T
  have cfo := ok_cfo T isName req
  have checked := ok_checked T isName req apart rl some_
  have cinit := ok_Cinit T isName req diff some_ cfo checked
  have ctr := ok_check_trusted T founder
  have cgoal := ok_check_goal T founder ordered
  have onew := ok_Onew T ctr
  have holds := ok_holds (P := P) (base := base) T
  have may := ok_may (P := P) (base := base) T
  have alone := ok_alone T fits
  have with_ := ok_with T fits
  have can := ok_can T isName rn rule may alone with_
  have stands := ok_stands T fits
  have choose_ := ok_choose (P := P) (base := base) T
  have meets := ok_meets T cgoal choose_ stands
  have put := ok_put T ordered
  have cut := ok_cut (P := P) (base := base) T
  have do_ := ok_do T rule can put cut
  have cp := ok_cp T onew
  have hinit := ok_Hinit T onew cp do_
  have at_ := ok_at T cp
  have first := ok_first T cgoal meets
  have row := ok_row (P := P) (base := base) T
  have numbers := ok_numbers T row
  have names := ok_names (P := P) (base := base) T
  have lsome := ok_lsome (P := P) (base := base) T
  have asked := ok_asked T lsome
  have lrule := ok_lrule T lsome asked
  have parts := ok_parts T names lsome lrule
  have lwith := ok_lwith (P := P) (base := base) T
  have lless := ok_lless (P := P) (base := base) T
  have lfits := ok_lfits (P := P) (base := base) T
  have allows := ok_lallows T lfits
  have changed := ok_lchanged T lwith lless
  have founded := ok_lfounded (P := P) (base := base) T
  have fresh := ok_lfresh (P := P) (base := base) T
  have trusted := ok_ltrusted (P := P) (base := base) T
  have acted := ok_lacted T allows changed
  have lmeets := ok_lmeets T lfits
  have choices := ok_lchoices T allows
  have drawn := ok_ldrawn T founded fresh choices acted
  have goal := ok_lgoal T lsome
  have many := ok_lmany T goal
  have larger := ok_llarger T fresh lsome lrule
  have made := ok_lmade T cinit
  have told := ok_ltold T hinit
  exact ok_law T F numbers parts trusted drawn larger made told many founded lmeets acted at_ first holds meets
theorem facts {P : Program} {w : World} {K : PySem.W.Frag} {h : Heap} {mg : Str → Option Value} {f : Addr} (X : K.In h) (G : h.Ns mainGlobals mg) (hfa : mg ("law" : Str) = some (.ref f)) (c : seenW K = wantW w) :
    ∃ fd : FuncData, (∀ (s : Shared) (v : Value), BindsTo s fd ⟨[v], []⟩ [("_law_script", v)]) ∧ ∀ base : Heap, K.In base → base.Ns mainGlobals mg → FnOk P w K mg base CX0 9 f fd ["_law_script"] (spP K R_law) := by
  have T := txt_of X G c
  have e := hfa.symm.trans T.m_law
  cases e
  obtain ⟨fd, F⟩ := T.d_law
  have b := FunD.bindsA (ps := ["_law_script"]) F fun _ _ _ _ _ _ us hl => match us, hl with | [_], _ => rfl
  exact ⟨fd, fun s v => b s [v] rfl, fun base _ _ => law_keeps T F⟩
end WM

/-! ## End -/
set_option maxHeartbeats 0
open PySem PySem.W PySem.Calls PyProof.Rows
theorem PySem.Challenge.cw_whoevermay_k20_whole_larger_organisation_holds : PySem.Challenge.rw_whoevermay_k20_whole_larger_organisation.Holds := by
  w_on; o_law
  refine HandSHeadRun.head_any (r := OpenLaw.row PySem.Challenge.rw_whoevermay_k20_whole_larger_organisation) (q := view (OpenLaw.row PySem.Challenge.rw_whoevermay_k20_whole_larger_organisation).prog [54]) (H := WM.hkW) (ob := WM.obW) (M := 8000) (loose := WM.loose)
    (d := HandSHeadRun.topDef (OpenLaw.row PySem.Challenge.rw_whoevermay_k20_whole_larger_organisation).prog 54) (kwd := []) WM.obW_eq
    (by kernel_rfl) (fun s => by kernel_rfl) WM.runW (by kernel_rfl) (by kernel_rfl) (by kernel_rfl) (by rfl) (by first | assumption | decide +kernel) (by decide +kernel) ⟨rfl, rfl, rfl, rfl, rfl, by decide +kernel⟩ ?hw ?hc
  case hw => w_witness2
  case hc =>
    refine L2.walk_ofE (l := PySem.Challenge.rw_whoevermay_k20_whole_larger_organisation) (n := 63) (k := 9) (x := "_law_script") (CX := L2.CX0) rfl (by decide) (by kernel_rfl) ⟨rfl, by decide, by decide⟩ ?F (fun _ _ _ _ z => z)
    intro w mg fa h Y G hmg0
    obtain ⟨K, KX, c⟩ := Y
    have hmg : mg ("law" : PySem.Str) = some (.ref fa) := by
      have e : (HandSHeadRun.topDef (OpenLaw.row PySem.Challenge.rw_whoevermay_k20_whole_larger_organisation).prog 54).name = ("law" : PySem.Str) := by kernel_rfl
      rw [← e]
      exact hmg0
    obtain ⟨fd, hb, hF⟩ := WM.facts (P := (PySem.Challenge.rw_whoevermay_k20_whole_larger_organisation).prog) (w := w) KX G hmg c
    exact ⟨K, fd, WM.spP K WM.R_law, KX, hb, fun H a ns hl hO hS => ⟨H, [.scr ns], .bl true, WM.Ex.refl H, .cons (.scr hS) .nil, ⟨ns, rfl, hl, rfl⟩, fun v B' H' st hv => hv.bl_inv⟩, hF⟩
